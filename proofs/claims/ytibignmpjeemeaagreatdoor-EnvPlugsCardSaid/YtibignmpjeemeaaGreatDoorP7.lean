/- Contracts of this program's functions and the laws that they need. -/
import Derived.Lib.TrailingZeros
import Derived.LaidMore
import Derived.OpenShut
import Derived.Stop.Joined
import Derived.MakeChecks
import Derived.Shelf.Spec.TrailingZeros
import Derived.Test.YtibignmpjeemeaaGreatDoorP6
set_option linter.unusedVariables false
set_option linter.unusedSimpArgs false
set_option linter.unusedSectionVars false
namespace Go.Hy
theorem Hh {s : Nat} {f b : Int} (h : (Ae s f b).1 = 0) (i : Nat) : 0 ≤ f ∧ 0 ≤ b ∧ (Ae s f b).2.testBit i = ((decide (i < min f.toNat 24) && (s &&& 16777215).testBit i) || (decide (min f.toNat 24 + b.toNat ≤ i) && (s &&& 16777215).testBit (i - b.toNat))) := by
 by_cases h0 : f < 0 ∨ b < 0
 ·rw [Ae, if_pos h0] at h; cases h
 ·have hq : ∀ j, (s &&& 16777215).testBit j = true → j < 24 := fun j hj => by rw [E6, Bool.and_eq_true, decide_eq_true_eq] at hj; exact hj.1
  refine ⟨by omega, by omega, ?_⟩
  generalize hF : min f.toNat 24 = F at *
  by_cases h1 : Bg (s &&& 16777215) (2 ^ (min f.toNat 24) - 1) = 0
  ·rw [Ae, if_neg h0, if_pos h1]
   show ((s &&& 16777215) &&& (2 ^ (min f.toNat 24) - 1)).testBit i = _
   rw [hF] at h1 ⊢
   rw [Nat.testBit_and, Kl]
   have h2 : (decide (F + b.toNat ≤ i) && (s &&& 16777215).testBit (i - b.toNat)) = false := by
    cases h3 : (s &&& 16777215).testBit (i - b.toNat) with
    | false => rw [Bool.and_false]
    | true =>
     rw [Bool.and_true]
     refine decide_eq_false (fun h4 => ?_)
     have h5 : (Bg (s &&& 16777215) (2 ^ F - 1)).testBit (i - b.toNat) = true := by
      rw [Fk, Kl, h3, decide_eq_true (by have := hq _ h3; omega), decide_eq_false A4]; rfl
     rw [h1, Nat.zero_testBit] at h5
     cases h5
   rw [h2, Bool.or_false, Bool.and_comm]
  ·by_cases h2 : 24 ≤ b ∨ 16777215 < Bg (s &&& 16777215) (2 ^ (min f.toNat 24) - 1) * 2 ^ b.toNat
   ·rw [Ae, if_neg h0, if_neg h1, if_pos h2] at h; cases h
   ·rw [Ae, if_neg h0, if_neg h1, if_neg h2]
    show (((s &&& 16777215) &&& (2 ^ (min f.toNat 24) - 1)) ||| (Bg (s &&& 16777215) (2 ^ (min f.toNat 24) - 1) * 2 ^ b.toNat)).testBit i = _
    rw [hF, Nat.testBit_or, Nat.testBit_and, Kl, Nat.testBit_mul_two_pow, Fk, Kl]
    cases h3 : (s &&& 16777215).testBit (i - b.toNat) with
    | false => simp [Bool.and_comm]
    | true =>
     have h4 := hq _ h3
     rw [decide_eq_true (show i - b.toNat < 32 by omega)]
     simp only [Bool.and_true, Bool.true_and]
     rw [Bool.and_comm]
     congr 1
     by_cases h5 : F + b.toNat ≤ i
     ·rw [decide_eq_true (show b.toNat ≤ i by omega), decide_eq_false (show ¬ i - b.toNat < F by omega), decide_eq_true h5]; rfl
     ·rw [decide_eq_false h5]
      by_cases h6 : b.toNat ≤ i
      ·rw [decide_eq_true h6, decide_eq_true (show i - b.toNat < F by omega)]; rfl
      ·rw [decide_eq_false h6]; rfl
theorem Hu {c : Cl} {f b : Int} (h : (B1 c f b).1 = 0) : Ar c = true ∧ (Ae c.pos f b).1 = 0 ∧ (Ae c.neg f b).1 = 0 ∧ (B1 c f b).2 = ⟨(Ae c.pos f b).2, (Ae c.neg f b).2⟩ := by
 unfold B1 at h ⊢
 split at h
 ·cases h
 ·rename_i h1
  split at h
  ·rename_i h2; exact absurd h h2
  ·rename_i h2
   split at h
   ·rename_i h3; exact absurd h h3
   ·rename_i h3
    rw [if_neg h1, if_neg h2, if_neg h3]
    exact ⟨by simpa using h1, Decidable.not_not.mp h2, Decidable.not_not.mp h3, rfl⟩
theorem Xg {c : Cl} {f b : Int} (h : (B1 c f b).1 = 0) : Ar (B1 c f b).2 = true := by
 rw [(Hu h).2.2.2]
 have h1 := H7 c.pos f b
 have h2 := H7 c.neg f b
 unfold Ar
 rw [decide_eq_true h1, decide_eq_true h2]; rfl
theorem Hj (l : List Cl) : ((Bb l).1 = 0 ∧ l.all Ar = true ∧ (Bb l).2 = E5 l ∧ (E5 l).length ≤ 64) ∨ (Bb l).1 = 2 ∨ (Bb l).1 = 3 := by
 unfold Bb
 split
 ·exact .inr (.inl rfl)
 ·rename_i h1
  split
  ·exact .inr (.inr rfl)
  ·rename_i h2
   exact .inl ⟨rfl, by simpa using h1, rfl, by omega⟩
theorem Gx {l : List Cl} (h : (Bb l).1 = 0) : A6 (Bb l).2 = true := by
 rcases Hj l with ⟨_, h1, h2, h3⟩ | h1 | h1
 ·rw [h2]
  unfold A6
  rw [Bool.and_eq_true, Bool.and_eq_true, Bool.and_eq_true]
  refine ⟨⟨⟨List.all_eq_true.mpr fun c hc => List.all_eq_true.mp h1 c (Dy.mp hc).1, Lz.mpr (Je l)⟩, Tu.mpr fun a ha b hb => Im.mp (Dy.mp ha).2 b (Dy.mp hb).1⟩, decide_eq_true h3⟩
 ·rw [h1] at h; cases h
 ·rw [h1] at h; cases h
theorem I9 {l : List Cl} (h : (Bb l).1 = 0) {c : Cl} (hc : c ∈ (Bb l).2) : c ∈ l := by
 rcases Hj l with ⟨_, h1, h2, h3⟩ | h1 | h1
 ·rw [h2] at hc; exact (Dy.mp hc).1
 ·rw [h1] at h; cases h
 ·rw [h1] at h; cases h
theorem Fx {l : List Cl} {f b : Int} (h : (A3 l f b).1 = 0) : A6 l = true ∧ (∀ c, c ∈ l → (B1 c f b).1 = 0) ∧ A3 l f b = Bb (l.map fun c => (B1 c f b).2) := by
 unfold A3 at h ⊢
 split at h
 ·cases h
 ·rename_i h1
  split at h
  ·rename_i h2; exact absurd h h2
  ·rename_i h2
   have h3 : (Fh (fun c => B1 c f b) l).1 = 0 := Decidable.not_not.mp h2
   rw [if_neg h1, if_neg h2]
   exact ⟨by simpa using h1, Yg.mp h3, by rw [A8a h3]⟩
theorem Zn {l : List Cl} {f b : Int} (h : (A3 l f b).1 = 0) : A6 (A3 l f b).2 = true := by
 obtain ⟨_, _, h3⟩ := Fx h
 rw [h3] at h ⊢
 exact Gx h
theorem No {l g : List Cl} {f b : Int} (h : Aq b l f = .ok g) (hl : A6 l = true) : A6 g = true := by
 unfold Aq at h
 split at h
 ·injection h with h; subst h; exact hl
 ·split at h
  ·rename_i h2; injection h with h; subst h; exact Zn h2
  ·cases h
theorem R0 : A6 [] = true := by decide
theorem B1h (f b : Int) : A3 [] f b = (0, []) := by
 unfold A3
 rw [if_neg (by rw [R0]; decide)]
 have h : Fh (fun c => B1 c f b) [] = (0, []) := rfl
 rw [h, if_neg Iy]
 exact Lt.mp R0
theorem B3n (f b : Int) : Aq b [] f = .ok [] := by
 unfold Aq
 rw [B1h]
 simp
section
variable {C : Type} {A : Tr C}
end
theorem Hf (l : List Cl) (f : Int) : Aq 0 l f = .ok l := by unfold Aq; rw [if_pos (.inl rfl)]
theorem F5 {vb db : Int} {c : Int × Int} {k n : Int} {nm : ByteArray} {r : List Cl} : (As vb db).own c k n nm r = (Aq db r c.2).bind fun r' => if k = 1 ∧ c.1 ≤ n ∧ 1000000000 - vb < n then .bad 100 else .ok (.inr (Du vb c.1 k n, r')) := by
 simp only [As, Du]
 congr 1
 funext g
 by_cases h1 : k = 1 ∧ c.1 ≤ n
 ·rw [if_pos h1, if_pos h1]
  by_cases h2 : 1000000000 - vb < n
  ·rw [if_pos h2, if_pos ⟨h1.1, h1.2, h2⟩]
  ·rw [if_neg h2, if_neg (fun h => h2 h.2.2)]
 ·rw [if_neg h1, if_neg h1, if_neg (fun h => h1 ⟨h.1, h.2.1⟩)]
theorem Sj {vb db : Int} {c : Int × Int} {k n : Int} {nm : ByteArray} {r : List Cl} {p : Int × List Cl} (h : (As vb db).own c k n nm r = .ok (.inr p)) : Aq db r c.2 = .ok p.2 ∧ ¬ (k = 1 ∧ c.1 ≤ n ∧ 1000000000 - vb < n) ∧ p.1 = Du vb c.1 k n := by
 rw [F5] at h
 obtain ⟨g, hg, h⟩ := Ab.A2 h
 split at h
 ·cases h
 ·rename_i h1
  injection h with h; injection h with h; subst h
  exact ⟨hg, h1, rfl⟩
theorem Qu {vb db : Int} {c : Int × Int} {f f' : List Cl} (h : (As vb db).Al c f = .ok (some f')) : Aq db f c.2 = .ok f' := by
 obtain ⟨g, hg, h⟩ := Ab.A2 (x := Aq db f c.2) h
 injection h with h; injection h with h; subst h; exact hg
theorem Nz {vb db : Int} {c : Int × Int} {f : List Cl} : (As vb db).Al c f ≠ .ok none := fun h => by
 obtain ⟨g, hg, h⟩ := Ab.A2 (x := Aq db f c.2) h
 injection h with h; cases h
def R3 (a b c : Int × Int) : Prop := a = b ∧ b = c
theorem C6g {a c v k n : Int} (ha : 0 ≤ a) : Du c v k (Du a v k n) = Du (a + c) v k n := by
 unfold Du
 by_cases h : k = 1 ∧ v ≤ n
 ·rw [if_pos h, if_pos h, if_pos ⟨h.1, by omega⟩]; omega
 ·rw [if_neg h, if_neg h, if_neg h]
theorem Qv {v k n : Int} : Du 0 v k n = n := by unfold Du; split <;> omega
theorem Gm {vb db : Int} {c : Int × Int} {f : List Cl} : (As vb db).Al c f = (Aq db f c.2).bind fun f' => .ok (some f') := rfl
theorem D7b {a b : Int} (ha : 0 ≤ a) : B7v (A := As a 0) (B := As 0 b) (D := As a b) R3 where
 inl := fun ca cb cc k n nm r u _ _ h => absurd h My
 inr := by
  rintro ca cb cc k n nm r p ⟨rfl, rfl⟩ _ h
  obtain ⟨h1, h2, h3⟩ := Sj h
  rw [Hf] at h1
  injection h1 with h1
  rw [F5, F5, ← h1, h3]
  congr 1
  funext g
  have h4 : Du 0 ca.1 k (Du a ca.1 k n) = Du a ca.1 k n := Qv
  rw [h4, if_neg h2, if_neg]
  unfold Du
  rintro ⟨h5, h6, h7⟩
  split at h6 <;> split at h7 <;> omega
 none := fun ca cb cc f _ _ h => absurd h Nz
 some := by
  rintro ca cb cc f f' ⟨rfl, rfl⟩ _ h
  have h1 := Qu h
  rw [Hf] at h1
  injection h1 with h1
  rw [← h1]; rfl
 Jf := by
  rintro ca cb cc b' ca' hb1 hb2 ⟨rfl, rfl⟩ h
  injection h with h; subst h
  exact .inl ⟨_, _, rfl, rfl, rfl, rfl⟩
theorem D7c {a b c : Int} (ha : 0 ≤ a) (hc : 0 ≤ c) : B7v (A := As a b) (B := As c 0) (D := As (a + c) b) R3 where
 inl := fun ca cb cc k n nm r u _ _ h => absurd h My
 inr := by
  rintro ca cb cc k n nm r p ⟨rfl, rfl⟩ _ h
  obtain ⟨h1, h2, h3⟩ := Sj h
  rw [F5, F5, h1, Hf, h3]
  simp only [Ab.bind]
  have h4 : Du c ca.1 k (Du a ca.1 k n) = Du (a + c) ca.1 k n := C6g ha
  rw [h4]
  have h5 : (k = 1 ∧ ca.1 ≤ Du a ca.1 k n ∧ 1000000000 - c < Du a ca.1 k n) ↔ (k = 1 ∧ ca.1 ≤ n ∧ 1000000000 - (a + c) < n) := by
   unfold Du; split <;> omega
  by_cases h6 : k = 1 ∧ ca.1 ≤ n ∧ 1000000000 - (a + c) < n
  ·rw [if_pos h6, if_pos (h5.mpr h6)]
  ·rw [if_neg h6, if_neg (fun h => h6 (h5.mp h))]
 none := fun ca cb cc f _ _ h => absurd h Nz
 some := by
  rintro ca cb cc f f' ⟨rfl, rfl⟩ _ h
  have h1 := Qu h
  rw [Gm, Gm, h1, Hf]
 Jf := by
  rintro ca cb cc b' ca' hb1 hb2 ⟨rfl, rfl⟩ h
  injection h with h; subst h
  exact .inl ⟨_, _, rfl, rfl, rfl, rfl⟩
mutual
def E4o : T → Bool
 | .mk k n nm r ks ss => (decide (k = 1) && decide (1000000000 < n)) || C0f ks || D7e ss
def C0f : List T → Bool
 | [] => false
 | t :: ts => E4o t || C0f ts
def D7e : List Br → Bool
 | [] => false
 | .mk f ks :: bs => C0f ks || D7e bs
end
mutual
theorem Yf : ∀ {t : T} {c : Int × Int}, D5 t → (B8 (As 0 0) t c = .ok t) ∨ (B8 (As 0 0) t c = .bad 100 ∧ E4o t = true)
 | .mk k n nm r ks ss, c, h => by
  simp only [D5] at h
  obtain ⟨h1, h2, h3, h4, h5⟩ := h
  rw [Da]
  simp only [T.kind, T.n, T.name, T.r, T.kids, T.sys, E4o]
  rw [F5, Hf, Qv]
  simp only [Ab.bind]
  by_cases h6 : k = 1 ∧ c.1 ≤ n ∧ 1000000000 - 0 < n
  ·rw [if_pos h6]
   exact .inr ⟨rfl, by rw [decide_eq_true h6.1, decide_eq_true (show (1000000000 : Int) < n by omega)]; rfl⟩
  ·rw [if_neg h6]
   simp only
   rcases A2w (i := 0) (c := c) (k := k) h4 with e | ⟨e, e2⟩
   ·rw [e]
    simp only
    rcases A3a (c := c) h5 with e | ⟨e, e2⟩
    ·rw [e]; exact .inl rfl
    ·rw [e]; exact .inr ⟨rfl, by rw [e2, Bool.or_true]⟩
   ·rw [e]; exact .inr ⟨rfl, by rw [e2, Bool.or_true, Bool.true_or]⟩
theorem A2w {k : Int} : ∀ {ts : List T} {i : Nat} {c : Int × Int}, Ib ts → (Cm (As 0 0) k i ts c = .ok ts) ∨ (Cm (As 0 0) k i ts c = .bad 100 ∧ C0f ts = true)
 | [], i, c, h => .inl (Ch _ _ _)
 | t :: ts, i, c, h => by
  simp only [Ib] at h
  rw [Cr, Wo]
  simp only [Ab.bind, C0f]
  rcases Yf (c := (c.1 + (binds k i).1, c.2 + (binds k i).2)) h.1 with e | ⟨e, e2⟩
  ·rw [e]
   simp only
   rcases A2w (i := i + 1) (c := c) (k := k) h.2 with e | ⟨e, e2⟩
   ·rw [e]; exact .inl rfl
   ·rw [e]; exact .inr ⟨rfl, by rw [e2, Bool.or_true]⟩
  ·rw [e]; exact .inr ⟨rfl, by rw [e2, Bool.true_or]⟩
theorem A2t {k : Int} : ∀ {ts : List T} {c : Int × Int}, Ib ts → (C2 (As 0 0) k ts c = .ok ts) ∨ (C2 (As 0 0) k ts c = .bad 100 ∧ C0f ts = true)
 | [], c, h => .inl (D3 _ _)
 | t :: ts, c, h => by
  simp only [Ib] at h
  rw [Cq, Wo]
  simp only [Ab.bind, C0f]
  rcases Yf (c := (c.1 + 0, c.2 + more k)) h.1 with e | ⟨e, e2⟩
  ·rw [e]
   simp only
   rcases A2t (c := c) (k := k) h.2 with e | ⟨e, e2⟩
   ·rw [e]; exact .inl rfl
   ·rw [e]; exact .inr ⟨rfl, by rw [e2, Bool.or_true]⟩
  ·rw [e]; exact .inr ⟨rfl, by rw [e2, Bool.true_or]⟩
theorem A3a {k : Int} : ∀ {bs : List Br} {c : Int × Int}, Ou k bs → (C9 (As 0 0) k bs c = .ok bs) ∨ (C9 (As 0 0) k bs c = .bad 100 ∧ D7e bs = true)
 | [], c, h => .inl (C8 _ _)
 | .mk f ks :: bs, c, h => by
  simp only [Ou] at h
  obtain ⟨h1, h2, h3, h4⟩ := h
  rw [Cc, Gm]
  simp only [Br.Al, Br.kids, D7e]
  rw [Hf]
  simp only [Ab.bind]
  rcases A2t (c := c) (k := k) h3 with e | ⟨e, e2⟩
  ·rw [e]
   simp only
   rcases A3a (c := c) h4 with e | ⟨e, e2⟩
   ·rw [e]; exact .inl rfl
   ·rw [e]; exact .inr ⟨rfl, by rw [e2, Bool.or_true]⟩
  ·rw [e]; exact .inr ⟨rfl, by rw [e2, Bool.true_or]⟩
end
theorem C0s (c : Cl) (f b : Int) : (B1 c f b).1 = 0 ∨ (B1 c f b).1 = 2 ∨ (B1 c f b).1 = 10 := by
 have hm : ∀ s, (Ae s f b).1 = 0 ∨ (Ae s f b).1 = 2 ∨ (Ae s f b).1 = 10 := fun s => by
  unfold Ae
  split
  ·exact .inr (.inl rfl)
  ·split
   ·exact .inl rfl
   ·split
    ·exact .inr (.inr rfl)
    ·exact .inl rfl
 unfold B1
 split
 ·exact .inr (.inl rfl)
 ·split
  ·exact hm _
  ·split
   ·exact hm _
   ·exact .inl rfl
def I1 (r : Ab T) : Int × T := match r with
 | .ok u => (0, u)
 | .bad e => (e, t0)
theorem Z8 {l : List Cl} {f b e : Int} (h : Aq b l f = .bad e) : e ≠ 0 := by
 unfold Aq at h
 split at h
 ·cases h
 ·split at h
  ·cases h
  ·rename_i h2; injection h with h; exact h ▸ h2
mutual
theorem lift_bad_ne' {vb db : Int} : ∀ {t : T} {c : Int × Int} {e : Int}, B8 (As vb db) t c = .bad e → e ≠ 0
 | .mk k n nm r ks ss, c, e, h => by
  rw [Da] at h
  simp only [T.kind, T.n, T.name, T.r, T.kids, T.sys] at h
  rw [F5] at h
  cases h0 : Aq db r c.2 with
  | bad e' => rw [h0] at h; injection h with h; exact h ▸ Z8 h0
  | ok g =>
   rw [h0] at h
   simp only [Ab.bind] at h
   by_cases h6 : k = 1 ∧ c.1 ≤ n ∧ 1000000000 - vb < n
   ·rw [if_pos h6] at h; injection h with h; subst h; decide
   ·rw [if_neg h6] at h
    simp only at h
    cases h1 : Cm (As vb db) k 0 ks c with
    | bad e' => rw [h1] at h; injection h with h; exact h ▸ Ws h1
    | ok x =>
     rw [h1] at h
     simp only at h
     cases h2 : C9 (As vb db) k ss c with
     | bad e' => rw [h2] at h; injection h with h; exact h ▸ Wt h2
     | ok y => rw [h2] at h; cases h
theorem Ws {vb db k : Int} : ∀ {ts : List T} {i : Nat} {c : Int × Int} {e : Int}, Cm (As vb db) k i ts c = .bad e → e ≠ 0
 | [], i, c, e, h => by rw [Ch] at h; cases h
 | t :: ts, i, c, e, h => by
  rw [Cr, Wo] at h
  simp only [Ab.bind] at h
  cases h1 : B8 (As vb db) t (c.1 + (binds k i).1, c.2 + (binds k i).2) with
  | bad e' => rw [h1] at h; injection h with h; exact h ▸ lift_bad_ne' h1
  | ok x =>
   rw [h1] at h
   simp only at h
   cases h2 : Cm (As vb db) k (i + 1) ts c with
   | bad e' => rw [h2] at h; injection h with h; exact h ▸ Ws h2
   | ok y => rw [h2] at h; cases h
theorem Wr {vb db k : Int} : ∀ {ts : List T} {c : Int × Int} {e : Int}, C2 (As vb db) k ts c = .bad e → e ≠ 0
 | [], c, e, h => by rw [D3] at h; cases h
 | t :: ts, c, e, h => by
  rw [Cq, Wo] at h
  simp only [Ab.bind] at h
  cases h1 : B8 (As vb db) t (c.1 + 0, c.2 + more k) with
  | bad e' => rw [h1] at h; injection h with h; exact h ▸ lift_bad_ne' h1
  | ok x =>
   rw [h1] at h
   simp only at h
   cases h2 : C2 (As vb db) k ts c with
   | bad e' => rw [h2] at h; injection h with h; exact h ▸ Wr h2
   | ok y => rw [h2] at h; cases h
theorem Wt {vb db k : Int} : ∀ {bs : List Br} {c : Int × Int} {e : Int}, C9 (As vb db) k bs c = .bad e → e ≠ 0
 | [], c, e, h => by rw [C8] at h; cases h
 | .mk f ks :: bs, c, e, h => by
  rw [Cc, Gm] at h
  simp only [Br.Al, Br.kids] at h
  cases h0 : Aq db f c.2 with
  | bad e' => rw [h0] at h; injection h with h; exact h ▸ Z8 h0
  | ok g =>
   rw [h0] at h
   simp only [Ab.bind] at h
   cases h1 : C2 (As vb db) k ks c with
   | bad e' => rw [h1] at h; injection h with h; exact h ▸ Wr h1
   | ok x =>
    rw [h1] at h
    simp only at h
    cases h2 : C9 (As vb db) k bs c with
    | bad e' => rw [h2] at h; injection h with h; exact h ▸ Wt h2
    | ok y => rw [h2] at h; cases h
end
def C3h (v d : Int) (k n : Int) (r : List Cl) : Prop := d ≤ 24 ∧ (k = 1 → n < v) ∧ within r d = true
mutual
def Iw : T → Int → Int → Prop
 | .mk k n nm r ks ss, v, d => C3h v d k n r ∧ A2m k 0 ks v d ∧ Zw k ss v d
def A2m (k : Int) : Nat → List T → Int → Int → Prop
 | _, [], _, _ => True
 | i, t :: ts, v, d => Iw t (v + (binds k i).1) (d + (binds k i).2) ∧ A2m k (i + 1) ts v d
def A2l (k : Int) : List T → Int → Int → Prop
 | [], _, _ => True
 | t :: ts, v, d => Iw t v (d + more k) ∧ A2l k ts v d
def Zw (k : Int) : List Br → Int → Int → Prop
 | [], _, _ => True
 | .mk f ks :: bs, v, d => within f d = true ∧ A2l k ks v d ∧ Zw k bs v d
end
theorem Ux (d : Int) : within [] d = true := by
 unfold within
 rw [show G3 [] = 0 from rfl, Nat.zero_div]
 simp
theorem Sd {t : T} {d : Int} {b : Br} : Ro t d b = true ↔ ((b.kids.length : Int) = Fc t.kind ∧ A5 b.Al = true) ∧ within b.Al d = true := by
 unfold Ro
 rw [Bool.and_eq_true, Bool.and_eq_true, decide_eq_true_iff]
theorem D0s {t : T} {v d : Int} (hv : 0 ≤ v) : Mu t v d = true ↔ Mu t (-1) 24 = true ∧ (t.kind = 1 → t.n < v) ∧ within t.r d = true ∧ ∀ b, b ∈ t.sys → within b.Al d = true := by
 rw [C2j, C2j]
 have hsys : ∀ (h : K2 t = false), Fc t.kind = 0 → t.sys = [] := fun h h0 => by
  unfold K2 at h
  rw [Bool.or_eq_false_iff, Bool.and_eq_false_iff] at h
  rcases h.2 with h2 | h2
  ·exact absurd h0 (of_decide_eq_false h2)
  ·exact List.eq_nil_of_length_eq_zero (by have := of_decide_eq_false h2; omega)
 have hw24 : ∀ l : List Cl, within l 24 = true := fun l => Xn l A4
 constructor
 ·rintro ⟨h1, h2⟩
  refine (fun (h : (if t.kind = 1 then t.r.length = 0 ∧ 0 ≤ t.n ∧ ((-1 : Int) < 0 ∨ t.n < -1) else if t.kind = 2 then t.r.length = 0 ∧ P6 t.name = true else if t.kind = 13 ∨ t.kind = 21 ∨ t.kind = 26 then A6 t.r = true ∧ within t.r 24 = true else if t.kind = 14 then A5 t.r = true ∧ within t.r 24 = true else (∀ x, x ∈ t.sys → Ro t 24 x = true) ∧ t.r.length = 0) ∧ (t.kind = 1 → t.n < v) ∧ within t.r d = true ∧ ∀ b, b ∈ t.sys → within b.Al d = true) => ⟨⟨h1, h.1⟩, h.2⟩) ?_
  split at h2
  ·rename_i hk
   have hs := hsys h1 (H5 A4)
   rw [hs, List.eq_nil_of_length_eq_zero h2.1]
   exact ⟨by rw [if_pos hk]; exact ⟨rfl, h2.2.1, .inl Iy⟩, fun _ => by omega, Ux d, fun b hb => (by cases hb)⟩
  ·rename_i hk1
   rw [if_neg hk1]
   split at h2
   ·rename_i hk
    have hs := hsys h1 (H5 A4)
    rw [hs, List.eq_nil_of_length_eq_zero h2.1]
    exact ⟨by rw [if_pos hk]; exact ⟨rfl, h2.2⟩, fun h => absurd h hk1, Ux d, fun b hb => (by cases hb)⟩
   ·rename_i hk2
    rw [if_neg hk2]
    split at h2
    ·rename_i hk
     have hs := hsys h1 (H5 A4)
     rw [hs]
     exact ⟨by rw [if_pos hk]; exact ⟨h2.1, hw24 _⟩, fun h => absurd h hk1, h2.2, fun b hb => (by cases hb)⟩
    ·rename_i hk3
     rw [if_neg hk3]
     split at h2
     ·rename_i hk
      have hs := hsys h1 (H5 A4)
      rw [hs]
      exact ⟨by rw [if_pos hk]; exact ⟨h2.1, hw24 _⟩, fun h => absurd h hk1, h2.2, fun b hb => (by cases hb)⟩
     ·rename_i hk4
      rw [if_neg hk4, List.eq_nil_of_length_eq_zero h2.2]
      exact ⟨⟨fun x hx => Sd.mpr ⟨(Sd.mp (h2.1 x hx)).1, hw24 _⟩, rfl⟩, fun h => absurd h hk1, Ux d, fun b hb => (Sd.mp (h2.1 b hb)).2⟩
 ·rintro ⟨⟨h1, h2⟩, h3, h4, h5⟩
  refine ⟨h1, ?_⟩
  split at h2
  ·rename_i hk; rw [if_pos hk]; exact ⟨h2.1, h2.2.1, .inr (h3 hk)⟩
  ·rename_i hk1
   rw [if_neg hk1]
   split at h2
   ·rename_i hk; rw [if_pos hk]; exact h2
   ·rename_i hk2
    rw [if_neg hk2]
    split at h2
    ·rename_i hk; rw [if_pos hk]; exact ⟨h2.1, h4⟩
    ·rename_i hk3
     rw [if_neg hk3]
     split at h2
     ·rename_i hk; rw [if_pos hk]; exact ⟨h2.1, h4⟩
     ·rename_i hk4
      rw [if_neg hk4]
      exact ⟨fun x hx => Sd.mpr ⟨(Sd.mp (h2.1 x hx)).1, h5 x hx⟩, h2.2⟩
theorem B5d {k v d : Int} : ∀ {ts : List T} {i : Nat}, A2m k i ts v d ↔ ∀ j, j < ts.length → Iw (ts.getD j t0) (v + (binds k ((i + j : Nat) : Int)).1) (d + (binds k ((i + j : Nat) : Int)).2)
 | [], i => by simp [A2m]
 | t :: ts, i => by
  simp only [A2m, B5d (ts := ts) (i := i + 1)]
  constructor
  ·rintro ⟨h1, h2⟩ j hj
   cases j with
   | zero => simpa using h1
   | succ j => rw [List.getD_cons_succ, show i + (j + 1) = i + 1 + j by omega]; exact h2 j (by simpa using hj)
  ·intro h
   refine ⟨by simpa using h 0 D6, fun j hj => ?_⟩
   have := h (j + 1) (by simpa using hj)
   rw [List.getD_cons_succ, show i + (j + 1) = i + 1 + j by omega] at this
   exact this
theorem A2k {k v d : Int} : ∀ {ts : List T}, A2l k ts v d ↔ ∀ j, j < ts.length → Iw (ts.getD j t0) v (d + more k)
 | [] => by simp [A2l]
 | t :: ts => by
  simp only [A2l, A2k (ts := ts)]
  constructor
  ·rintro ⟨h1, h2⟩ j hj
   cases j with
   | zero => simpa using h1
   | succ j => rw [List.getD_cons_succ]; exact h2 j (by simpa using hj)
  ·intro h
   exact ⟨by simpa using h 0 D6, fun j hj => by have := h (j + 1) (by simpa using hj); rwa [List.getD_cons_succ] at this⟩
theorem B5e {k v d : Int} : ∀ {bs : List Br}, Zw k bs v d ↔ ∀ b, b ∈ bs → within b.Al d = true ∧ A2l k b.kids v d
 | [] => by simp [Zw]
 | .mk f ks :: bs => by
  simp only [Zw, B5e (bs := bs), List.forall_mem_cons, Br.Al, Br.kids, and_assoc]
theorem Ja {t : T} {v d : Int} : Iw t v d ↔ C3h v d t.kind t.n t.r ∧ (∀ b, b ∈ t.sys → within b.Al d = true) ∧ ∀ p, p ∈ parts t → Iw p.1 (v + p.2.1) (d + p.2.2) := by
 have h : Iw t v d ↔ C3h v d t.kind t.n t.r ∧ A2m t.kind 0 t.kids v d ∧ Zw t.kind t.sys v d := by
  obtain ⟨k, n, nm, r, ks, ss⟩ := t
  simp only [Iw, T.kind, T.n, T.r, T.kids, T.sys]
 rw [h, B5d, B5e]
 constructor
 ·rintro ⟨h1, h2, h3⟩
  refine ⟨h1, fun b hb => (h3 b hb).1, fun p hp => ?_⟩
  rcases A1v hp with ⟨i, hi, rfl⟩ | ⟨s, k, hs, hk, rfl⟩
  ·have := h2 i hi; rw [Nat.zero_add] at this; exact this
  ·have := A2k.mp (h3 _ (Ac (d := Bj) hs)).2 k hk; simpa using this
 ·rintro ⟨h1, h2, h3⟩
  refine ⟨h1, fun j hj => ?_, fun b hb => ⟨h2 b hb, A2k.mpr fun k hk => ?_⟩⟩
  ·have := h3 _ (List.mem_of_getElem? (Jv t j hj)); rw [Nat.zero_add]; exact this
  ·obtain ⟨s, hs, e⟩ := List.mem_iff_getElem.mp hb
   have e2 : t.sys.getD s Bj = b := by rw [Cw (d := Bj) hs]; exact e
   have := h3 _ (List.mem_of_getElem? (Jt t s k hs (by rw [e2]; exact hk)))
   rw [e2] at this
   simpa using this
theorem B5c : ∀ (t : T) (v d : Int), 0 ≤ v → v + size t ≤ 9000000000000000000 → (U4 t v d true = true ↔ D5 t ∧ Iw t v d) := T.ind fun t ih v d h0 hb => by
 rw [C4b, D0s h0, Ja, V8]
 have hown : Mu t (-1) 24 = true ↔ ∀ d' : Int, 24 ≤ d' → Mu t (-1) d' = true := by
  constructor
  ·intro h d' hd'
   obtain ⟨k, n, nm, r, ks, ss⟩ := t
   exact (Pn hd').mpr ((Pn A4).mp h)
  ·intro h; exact h 24 A4
 have key : ∀ p, p ∈ parts t → (U4 p.1 (IntKind.i64.wrap (v + if v < 0 then 0 else p.2.1)) (d + p.2.2) true = true ↔ D5 p.1 ∧ Iw p.1 (v + p.2.1) (d + p.2.2)) := fun p hp => by
  have h1 := A1t hp
  have h2 := Kc hp
  rw [if_neg A4, D4z (by unfold Ap; omega)]
  exact ih p hp _ _ A4 A4
 rw [hown]
 unfold C3h
 constructor
 ·rintro ⟨h1, ⟨h2, h3, h4, h5⟩, h6⟩
  exact ⟨⟨h2, fun p hp => ((key p hp).mp (h6 p hp)).1⟩, ⟨by simp at h1; omega, h3, h4⟩, h5, fun p hp => ((key p hp).mp (h6 p hp)).2⟩
 ·rintro ⟨⟨h2, h6⟩, ⟨h1, h3, h4⟩, h5, h7⟩
  exact ⟨by simp; omega, ⟨h2, h3, h4, h5⟩, fun p hp => (key p hp).mpr ⟨h6 p hp, h7 p hp⟩⟩
theorem T9 {t : T} {v d : Int} (hv : 0 ≤ v) (hb : v ≤ 1000000000000) : Eu t v d = 0 ↔ 0 ≤ d ∧ d ≤ 24 ∧ sized t = 0 ∧ D5 t ∧ Iw t v d := by
 rw [B8q]
 constructor
 ·rintro ⟨_, h2, h3, h4, h5⟩
  have := (V0.mp h4).2
  exact ⟨h2, h3, h4, (B5c t v d hv A4).mp h5⟩
 ·rintro ⟨h2, h3, h4, h5⟩
  have := (V0.mp h4).2
  exact ⟨hv, h2, h3, h4, (B5c t v d hv A4).mpr h5⟩
section
variable {C : Type} {A : Tr C}
end
theorem Spec.E4h {P : Program} {k : FuncId} {args : Array Value} {pre : List Fact} {Ms0 : List Be} {α X : Type} (r : α) {val : α → X → Value} {N : α → X → List Fact} {Ms1 : α → X → List Be} (h : Spec P k args pre Ms0 (val r) (N r) (Ms1 r)) :
  Spec P k args pre Ms0 (fun x : {x : α × X // x.1 = r} => val x.1.1 x.1.2) (fun x => N x.1.1 x.1.2) (fun x => Ms1 x.1.1 x.1.2) := fun ok w hk hs => (h ok w hk hs).mono fun e w' hh => by
 obtain ⟨x, he, hs'⟩ := hh
 exact ⟨⟨(r, x), rfl⟩, he, hs'⟩
section
variable {C : Type} {A : Tr C}
theorem D1j {α : Type} {d x : α} {l : List α} (h : x ∈ l) : ∃ i, i < l.length ∧ l.getD i d = x := by
 obtain ⟨i, hi, e⟩ := List.mem_iff_getElem.mp h
 exact ⟨i, hi, by rw [Cw (d := d) hi]; exact e⟩
theorem Bt {α β : Type} {x : Ab α} {k : α → Ab β} {e : Int} (h : x.bind k = .bad e) : x = .bad e ∨ ∃ a, x = .ok a ∧ k a = .bad e := by
 cases x with
 | ok a => exact .inr ⟨a, rfl, h⟩
 | bad e' => injection h with h; subst h; exact .inl rfl
theorem A6f {k : Int} {c : C} {e : Int} : ∀ {ts : List T} {i : Nat}, Cm A k i ts c = .bad e → ∃ j, j < ts.length ∧ (A.Jf c (binds k ((i + j : Nat) : Int)) = .bad e ∨ ∃ c', A.Jf c (binds k ((i + j : Nat) : Int)) = .ok c' ∧ B8 A (ts.getD j t0) c' = .bad e)
 | [], i, h => by rw [Ch] at h; cases h
 | t :: ts, i, h => by
  rw [Cr] at h
  rcases Bt h with h | ⟨c', h1, h⟩
  ·exact ⟨0, by simp, .inl (by simpa using h)⟩
  ·rcases Bt h with h | ⟨t', h2, h⟩
   ·exact ⟨0, by simp, .inr ⟨c', by simpa using h1, by simpa using h⟩⟩
   ·rcases Bt h with h | ⟨ts', h3, h⟩
    ·obtain ⟨j, hj, h4⟩ := A6f h
     refine ⟨j + 1, by simpa using hj, ?_⟩
     rw [List.getD_cons_succ, show i + (j + 1) = i + 1 + j by omega]; exact h4
    ·cases h
theorem A6d {k : Int} {c : C} {e : Int} : ∀ {ts : List T}, C2 A k ts c = .bad e → ∃ j, j < ts.length ∧ (A.Jf c (0, more k) = .bad e ∨ ∃ c', A.Jf c (0, more k) = .ok c' ∧ B8 A (ts.getD j t0) c' = .bad e)
 | [], h => by rw [D3] at h; cases h
 | t :: ts, h => by
  rw [Cq] at h
  rcases Bt h with h | ⟨c', h1, h⟩
  ·exact ⟨0, by simp, .inl h⟩
  ·rcases Bt h with h | ⟨t', h2, h⟩
   ·exact ⟨0, by simp, .inr ⟨c', h1, by simpa using h⟩⟩
   ·rcases Bt h with h | ⟨ts', h3, h⟩
    ·obtain ⟨j, hj, h4⟩ := A6d h
     exact ⟨j + 1, by simpa using hj, by rw [List.getD_cons_succ]; exact h4⟩
    ·cases h
theorem Xu {k : Int} {c : C} {e : Int} : ∀ {bs : List Br}, C9 A k bs c = .bad e → ∃ b, b ∈ bs ∧ (A.Al c b.Al = .bad e ∨ C2 A k b.kids c = .bad e)
 | [], h => by rw [C8] at h; cases h
 | b :: bs, h => by
  rw [Cc] at h
  rcases Bt h with h | ⟨o, h1, h⟩
  ·exact ⟨b, List.mem_cons_self, .inl h⟩
  ·cases o with
   | none => obtain ⟨x, hx, h⟩ := Xu h; exact ⟨x, List.mem_cons_of_mem _ hx, h⟩
   | some f' =>
    rcases Bt h with h | ⟨ks, h2, h⟩
    ·exact ⟨b, List.mem_cons_self, .inr h⟩
    ·rcases Bt h with h | ⟨us, h3, h⟩
     ·obtain ⟨x, hx, h⟩ := Xu h; exact ⟨x, List.mem_cons_of_mem _ hx, h⟩
     ·cases h
theorem Vt {t : T} {c : C} {e : Int} (h : B8 A t c = .bad e) : A.own c t.kind t.n t.name t.r = .bad e ∨ (∃ b, b ∈ t.sys ∧ A.Al c b.Al = .bad e) ∨ ∃ p, p ∈ parts t ∧ (A.Jf c p.2 = .bad e ∨ ∃ c', A.Jf c p.2 = .ok c' ∧ B8 A p.1 c' = .bad e) := by
 rw [Da] at h
 rcases Bt h with h | ⟨o, h1, h⟩
 ·exact .inl h
 ·cases o with
  | inl u => cases h
  | inr p =>
   rcases Bt h with h | ⟨ks, h2, h⟩
   ·obtain ⟨j, hj, h3⟩ := A6f h
    rw [Nat.zero_add] at h3
    exact .inr (.inr ⟨_, List.mem_of_getElem? (Jv t j hj), h3⟩)
   ·rcases Bt h with h | ⟨ss, h3, h⟩
    ·obtain ⟨b, hb, h4⟩ := Xu h
     rcases h4 with h4 | h4
     ·exact .inr (.inl ⟨b, hb, h4⟩)
     ·obtain ⟨j, hj, h5⟩ := A6d h4
      obtain ⟨s, hs, e2⟩ := D1j (d := Bj) hb
      refine .inr (.inr ⟨_, List.mem_of_getElem? (Jt t s j hs (by rw [e2]; exact hj)), ?_⟩)
      rw [e2]; exact h5
    ·cases h
end
theorem Ey {l : List Cl} {i : Nat} : (G3 l).testBit i = true ↔ i < 24 ∧ ∃ c, c ∈ l ∧ (c.pos ||| c.neg).testBit i = true := by
 unfold G3
 rw [E6, Bool.and_eq_true, decide_eq_true_eq, B6h (fun c : Cl => c.pos ||| c.neg)]
 simp
theorem P8 {s : Nat} {f b : Int} (h : (Ae s f b).1 = 0) (i : Nat) (hi : (Ae s f b).2.testBit i = true) : ∃ j, j < 24 ∧ s.testBit j = true ∧ (((j : Int) < f ∧ i = j) ∨ (f ≤ (j : Int) ∨ 24 ≤ j) ∧ (i : Int) = j + b) := by
 obtain ⟨h0, h1, h2⟩ := Hh h i
 rw [h2, Bool.or_eq_true, Bool.and_eq_true, Bool.and_eq_true, decide_eq_true_eq, decide_eq_true_eq, E6, E6, Bool.and_eq_true, Bool.and_eq_true, decide_eq_true_eq, decide_eq_true_eq] at hi
 rcases hi with ⟨h3, h4, h5⟩ | ⟨h3, h4, h5⟩
 ·exact ⟨i, h4, h5, .inl ⟨by omega, rfl⟩⟩
 ·exact ⟨i - b.toNat, h4, h5, .inr ⟨by omega, by omega⟩⟩
theorem Qf {l g : List Cl} {f b : Int} (hf : 0 ≤ f) (h : Aq b l f = .ok g) {i : Nat} (hi : (G3 g).testBit i = true) : ∃ j : Nat, j < 24 ∧ (G3 l).testBit j = true ∧ (((j : Int) < f ∧ i = j) ∨ f ≤ (j : Int) ∧ (i : Int) = j + b) := by
 unfold Aq at h
 split at h
 ·rename_i h0
  injection h with h
  subst h
  have h1 := (Ey.mp hi).1
  refine ⟨i, h1, hi, ?_⟩
  omega
 ·split at h
  ·rename_i h0 h1
   injection h with h
   subst h
   obtain ⟨h2, h3, h4⟩ := Fx h1
   obtain ⟨h5, c, hc, h6⟩ := Ey.mp hi
   rw [h4] at h1 hc
   have hc2 := I9 h1 hc
   obtain ⟨d, hd, e⟩ := List.mem_map.mp hc2
   have h7 := h3 d hd
   obtain ⟨_, h8, h9, h10⟩ := Hu h7
   rw [h10] at e
   subst e
   rw [Nat.testBit_or, Bool.or_eq_true] at h6
   have key : ∀ j, (d.pos.testBit j = true ∨ d.neg.testBit j = true) → j < 24 → (G3 l).testBit j = true := fun j hj hj2 => Ey.mpr ⟨hj2, d, hd, by rw [Nat.testBit_or, Bool.or_eq_true]; exact hj⟩
   rcases h6 with h6 | h6
   ·obtain ⟨j, h11, h12, h13⟩ := P8 h8 i h6
    exact ⟨j, h11, key j (.inl h12) h11, by omega⟩
   ·obtain ⟨j, h11, h12, h13⟩ := P8 h9 i h6
    exact ⟨j, h11, key j (.inr h12) h11, by omega⟩
  ·cases h
theorem B5o {vb db : Int} {c c' : Int × Int} {b : Int × Int} (h : (As vb db).Jf c b = .ok c') : c' = (c.1 + b.1, c.2 + b.2) := by injection h with h; exact h.symm
theorem B9v {l m : List Cl} (hl : l.length ≤ 64) (hm : m.length = l.length) (hr : m.all Ar = true) : (Bb m).1 = 0 := by
 have : (E5 m).length ≤ m.length := by
  have := B3r m m.length
  unfold C9t at this
  rw [List.take_length] at this
  exact this
 unfold Bb
 rw [if_neg (by rw [hr]; simp), if_neg A4]
theorem Z7 {l : List Cl} {f b e : Int} (hb : 0 ≤ b) (hf : 0 ≤ f) (hl : A6 l = true) (h : Aq b l f = .bad e) : e = 10 := by
 unfold Aq at h
 split at h
 ·cases h
 ·split at h
  ·cases h
  ·rename_i h1
   injection h with h
   subst h
   unfold A3 at h1 ⊢
   rw [if_neg (by rw [hl]; simp)] at h1 ⊢
   have hparts : l.all Ar = true ∧ l.length ≤ 64 := by
    unfold A6 at hl
    simp only [Bool.and_eq_true, decide_eq_true_eq] at hl
    exact ⟨hl.1.1.1, hl.2⟩
   split
   ·rename_i h2
    rw [if_pos h2] at h1
    unfold Fh at h2 ⊢
    cases hx : l.find? (fun c => (B1 c f b).1 ≠ 0) with
    | none => rw [hx] at h2; simp at h2
    | some c =>
     simp only
     have hc := List.mem_of_find?_eq_some hx
     rw [hx] at h2
     simp only at h2
     have hr := List.all_eq_true.mp hparts.1 c hc
     have hm : ∀ s, (Ae s f b).1 = 0 ∨ (Ae s f b).1 = 10 := fun s => by
      unfold Ae
      rw [if_neg A4]
      split
      ·exact .inl rfl
      ·split
       ·exact .inr rfl
       ·exact .inl rfl
     unfold B1 at h2 ⊢
     rw [if_neg (by rw [hr]; simp)] at h2 ⊢
     have hp := hm c.pos
     have hn := hm c.neg
     split
     ·omega
     ·rename_i h3
      rw [if_neg h3] at h2
      split
      ·omega
      ·rename_i h4
       rw [if_neg h4] at h2
       exact absurd rfl h2
   ·rename_i h2
    exfalso
    rw [if_neg h2] at h1
    refine h1 ?_
    unfold Fh at h2 ⊢
    cases hx : l.find? (fun c => (B1 c f b).1 ≠ 0) with
    | some c =>
     rw [hx] at h2
     have := List.find?_some hx
     simp at this h2
     exact absurd h2 this
    | none =>
     simp only
     refine B9v hparts.2 D6 ?_
     rw [List.all_eq_true]
     intro c hc
     obtain ⟨d, hd, rfl⟩ := List.mem_map.mp hc
     have := List.find?_eq_none.mp hx d hd
     exact Xg (by simpa using this)
theorem C6z {t : T} (h : D5 t) {b : Br} (hb : b ∈ t.sys) : A5 b.Al = true := (Yi.mp (Nc.mp h).2.2.2.2 b hb).2.1
theorem Nb {t : T} (h : D5 t) {p : Part} (hp : p ∈ parts t) : D5 p.1 := (V8.mp h).2 p hp
theorem B6l {l : List Cl} (h : A5 l = true) : A6 l = true := by
 unfold A5 at h
 rw [Bool.and_eq_true] at h
 exact h.1
def vE (n : Int) : T := .mk 1 n ⟨#[]⟩ [] [] []
theorem C8o {t : T} {f b : Int} (hb : Ap b) (h : Rp t) : Rp (C6 t f b).2 := by
 refine guard_okT' (fun ha u hu => ?_)
 simp only [List.all_cons, List.all_nil, Bool.and_true, Bool.and_eq_true, decide_eq_true_eq] at ha
 exact Sk ⟨ha.2.1, A0e hb ha.2.1 ha.2.2⟩ h hu
theorem D3t {t : T} {f b : Int} (h : Rp t) : Rp (C7 t f b).2 := guard_okT' (fun _ u hu => Sk A4 h hu)
theorem D4a {t : T} {v d : Int} (hv : Ap v) (h : Rp t) : Rp (Cu t v d).2 := by
 refine guard_okT' (fun ha u hu => ?_)
 simp only [List.all_cons, List.all_nil, Bool.and_true, Bool.and_eq_true, decide_eq_true_eq] at ha
 obtain ⟨x, hx, hu⟩ := Ab.A2 hu
 exact Sk A4 (Sk ⟨ha.1, A0e hv ha.1 ha.2.2⟩ h hx) hu
def Qi (n : Int) (u : T) (c : Int × Int) (k m : Int) (r : List Cl) : Ab (T ⊕ (Int × List Cl)) :=
 if k = 1 then (if m = n + c.1 then (if (Cu u c.1 c.2).1 = 0 then .ok (.inl (Cu u c.1 c.2).2) else .bad (Cu u c.1 c.2).1) else .ok (.inr (if n + c.1 < m then m - 1 else m, r))) else .ok (.inr (m, r))
def Ck (n : Int) (u : T) : Tr (Int × Int) where
 own c k m _ r := Qi n u c k m r
 Al _ f := .ok (some f)
 Jf c b := .ok (c.1 + b.1, c.2 + b.2)
theorem Kr {t : T} (h : D5 t) (hk : t.kind = 1) : t = .mk 1 t.n ⟨#[]⟩ [] [] [] ∧ 0 ≤ t.n := by
 obtain ⟨h1, h2, h3, h4, h5⟩ := Nc.mp h
 obtain ⟨_, a2, a3, _⟩ := h1
 have hn : t.name = ⟨#[]⟩ := A3y.mp (beq_iff_eq.mpr (a2 (by rw [hk]; decide)))
 have hr := (a3 hk).1
 have hks : t.kids = [] := by
  rw [hk, show En 1 = 0 by decide] at h2
  exact List.eq_nil_of_length_eq_zero A4
 have hss := h3 (by rw [hk]; decide)
 refine ⟨?_, (a3 hk).2⟩
 obtain ⟨k, n, nm, r, ks, ss⟩ := t
 simp only [T.kind, T.n, T.name, T.r, T.kids, T.sys] at *
 subst hk hn hr hks hss
 rfl
theorem C6y {t : T} (h : D5 t) (hk : t.kind ≠ 1) : t.n = 0 := (Nc.mp h).1.1 hk
theorem Pk {n : Int} {u : T} {v d : Int} {b : Int × Int} : (Ck n u).Jf (v, d) b = .ok (v + b.1, d + b.2) := rfl
theorem Pl {n : Int} {u : T} {c : Int × Int} {f : List Cl} : (Ck n u).Al c f = .ok (some f) := rfl
theorem M1 {n : Int} {u : T} {c : Int × Int} {k m : Int} {nm : ByteArray} {r : List Cl} (hk : k ≠ 1) : (Ck n u).own c k m nm r = .ok (.inr (m, r)) := by
 show Qi n u c k m r = _
 unfold Qi
 rw [if_neg hk]
theorem Mr {n : Int} {u : T} {c : Int × Int} {m : Int} {nm : ByteArray} {r : List Cl} (h : m = n + c.1) : (Ck n u).own c 1 m nm r = if (Cu u c.1 c.2).1 = 0 then .ok (.inl (Cu u c.1 c.2).2) else .bad (Cu u c.1 c.2).1 := by
 show Qi n u c 1 m r = _
 unfold Qi
 rw [if_pos rfl, if_pos h]
theorem W9 {n : Int} {u : T} {c : Int × Int} {m : Int} {nm : ByteArray} {r : List Cl} (h : m ≠ n + c.1) : (Ck n u).own c 1 m nm r = .ok (.inr (if n + c.1 < m then m - 1 else m, r)) := by
 show Qi n u c 1 m r = _
 unfold Qi
 rw [if_pos rfl, if_neg h]
theorem B3x {n : Int} {u t : T} {v d : Int} (hk : t.kind = 1) (h : t.n = n + v) (h0 : (Cu u v d).1 = 0) : B8 (Ck n u) t (v, d) = .ok (Cu u v d).2 := by
 rw [Da, hk, Mr h, if_pos h0]; rfl
theorem Wa {n : Int} {u t : T} {v d : Int} (hk : t.kind = 1) (h : t.n = n + v) (h0 : (Cu u v d).1 ≠ 0) : B8 (Ck n u) t (v, d) = .bad (Cu u v d).1 := by
 rw [Da, hk, Mr h, if_neg h0]; rfl
theorem Tb {n : Int} {u t : T} {c : Int × Int} (hf : D5 t) (hk : t.kind = 1) (h : t.n ≠ n + c.1) : B8 (Ck n u) t c = .ok (.mk 1 (if n + c.1 < t.n then t.n - 1 else t.n) ⟨#[]⟩ [] [] []) := by
 have e := (Kr hf hk).1
 generalize t.n = m at e h ⊢
 subst e
 rw [Da]
 simp only [T.kind, T.n, T.name, T.r, T.kids, T.sys]
 rw [W9 h]
 simp only [Ab.bind, Ch, C8]
theorem C5k {n : Int} {u t : T} {c : Int × Int} (hf : D5 t) (hk : t.kind = 1) (h : n + c.1 < t.n) : B8 (Ck n u) t c = .ok (.mk 1 (t.n - 1) ⟨#[]⟩ [] [] []) := by
 rw [Tb hf hk A4, if_pos h]
theorem C5j {n : Int} {u t : T} {c : Int × Int} (hf : D5 t) (hk : t.kind = 1) (h : t.n < n + c.1) : B8 (Ck n u) t c = .ok t := by
 rw [Tb hf hk A4, if_neg A4]
 exact congrArg Ab.ok (Kr hf hk).1.symm
theorem A7d {n : Int} {u : T} {k : Int} {c : Int × Int} : ∀ {l l' : List Br}, C9 (Ck n u) k l c = .ok l' → l'.length = l.length
 | [], l', h => by rw [C8] at h; injection h with h; subst h; rfl
 | b :: l, l', h => by
  rw [Cc, Pl] at h
  simp only [Ab.bind] at h
  obtain ⟨ks, h1, h⟩ := Ab.A2 (x := C2 (Ck n u) k b.kids c) h
  obtain ⟨bs, h2, h⟩ := Ab.A2 h
  injection h with h
  subst h
  rw [List.length_cons, List.length_cons, A7d h2]
mutual
def E3 : T → Int → Int
 | .mk k n nm r ks ss, m => if k = 1 ∧ n = m then 1 else Ff k 0 ks m + Fj ss m
def Ff (k : Int) : Nat → List T → Int → Int
 | _, [], _ => 0
 | i, t :: ts, m => E3 t (m + (binds k i).1) + Ff k (i + 1) ts m
def Fy : List T → Int → Int
 | [], _ => 0
 | t :: ts, m => E3 t m + Fy ts m
def Fj : List Br → Int → Int
 | [], _ => 0
 | .mk f ks :: bs, m => Fy ks m + Fj bs m
end
theorem A8l (t : T) (m : Int) : E3 t m = if t.kind = 1 ∧ t.n = m then 1 else Ff t.kind 0 t.kids m + Fj t.sys m := by obtain ⟨k, n, nm, r, ks, ss⟩ := t; rfl
theorem Zp {k m : Int} {t : T} : ∀ {ts : List T} {i : Nat}, Ff k i (ts ++ [t]) m = Ff k i ts m + E3 t (m + (binds k ((i + ts.length : Nat) : Int)).1)
 | [], i => by simp only [List.nil_append, Ff, List.length_nil, Nat.add_zero]; omega
 | a :: ts, i => by
  rw [List.cons_append, Ff, Zp (ts := ts), Ff, List.length_cons, show i + 1 + ts.length = i + (ts.length + 1) by omega]
  omega
theorem Zo {m : Int} {t : T} : ∀ {ts : List T}, Fy (ts ++ [t]) m = Fy ts m + E3 t m
 | [] => by simp only [List.nil_append, Fy]; omega
 | a :: ts => by rw [List.cons_append, Fy, Zo (ts := ts), Fy]; omega
theorem Sr {m : Int} {b : Br} : ∀ {bs : List Br}, Fj (bs ++ [b]) m = Fj bs m + Fy b.kids m
 | [] => by obtain ⟨f, ks⟩ := b; simp only [List.nil_append, Fj, Br.kids]; omega
 | .mk f ks :: bs => by rw [List.cons_append, Fj, Sr (bs := bs), Fj]; omega
def Eh : List T → Nat
 | [] => 0
 | t :: ts => size t + Eh ts
def I5 : List Br → Nat
 | [] => 0
 | b :: bs => Eh b.kids + I5 bs
theorem foldl_add {α : Type} (f : α → Nat) : ∀ (l : List α) (a : Nat), l.foldl (fun a p => a + f p) a = a + l.foldl (fun a p => a + f p) 0
 | [], a => rfl
 | x :: l, a => by rw [List.foldl_cons, List.foldl_cons, foldl_add f l (a + f x), foldl_add f l (0 + f x)]; omega
theorem Es (t : T) : size t = 1 + Eh t.kids + I5 t.sys := by
 have hk : ∀ (k : Int) (ts : List T) (i : Nat), (Ee k i ts).foldl (fun a p => a + size p.1) 0 = Eh ts := by
  intro k ts
  induction ts with
  | nil => intro i; rfl
  | cons t ts ih => intro i; rw [Ee, List.foldl_cons, foldl_add, ih, Eh]; simp only; omega
 have hm : ∀ (ts : List T) (b : Int × Int), (ts.map fun k => ((k, b.1, b.2) : Part)).foldl (fun a p => a + size p.1) 0 = Eh ts := by
  intro ts b
  induction ts with
  | nil => rfl
  | cons t ts ih => rw [List.map_cons, List.foldl_cons, foldl_add, ih, Eh]; simp only; omega
 have hs : ∀ (k : Int) (bs : List Br), (Ec k bs).foldl (fun a p => a + size p.1) 0 = I5 bs := by
  intro k bs
  induction bs with
  | nil => rfl
  | cons b bs ih => rw [Ec, List.foldl_append, foldl_add, ih, hm b.kids (0, more k), I5]
 rw [size_eq, parts, List.foldl_append, foldl_add, hs, foldl_add, hk]
mutual
theorem A3t : ∀ (t : T) (m : Int), 0 ≤ E3 t m
 | .mk k n nm r ks ss, m => by
  rw [E3]
  have h1 := Pw (k := k) ks 0 m
  have h2 := Ts ss m
  split <;> omega
theorem Pw {k : Int} : ∀ (ts : List T) (i : Nat) (m : Int), 0 ≤ Ff k i ts m
 | [], i, m => by rw [Ff]; omega
 | t :: ts, i, m => by
  rw [Ff]
  have h1 := A3t t (m + (binds k i).1)
  have h2 := Pw (k := k) ts (i + 1) m
  omega
theorem Tp : ∀ (ts : List T) (m : Int), 0 ≤ Fy ts m
 | [], m => by rw [Fy]; omega
 | t :: ts, m => by
  rw [Fy]
  have h1 := A3t t m
  have h2 := Tp ts m
  omega
theorem Ts : ∀ (bs : List Br) (m : Int), 0 ≤ Fj bs m
 | [], m => by rw [Fj]; omega
 | .mk f ks :: bs, m => by
  rw [Fj]
  have h1 := Tp ks m
  have h2 := Ts bs m
  omega
end
mutual
theorem count_le : ∀ (t : T) (m : Int), E3 t m ≤ size t
 | .mk k n nm r ks ss, m => by
  rw [E3, Es]
  have h1 := Tq (k := k) ks 0 m
  have h2 := Yr ss m
  show _ ≤ ((1 + Eh ks + I5 ss : Nat) : Int)
  split <;> omega
theorem Tq {k : Int} : ∀ (ts : List T) (i : Nat) (m : Int), Ff k i ts m ≤ Eh ts
 | [], i, m => by rw [Ff, Eh]; omega
 | t :: ts, i, m => by
  rw [Ff, Eh]
  have h1 := count_le t (m + (binds k i).1)
  have h2 := Tq (k := k) ts (i + 1) m
  omega
theorem A8m : ∀ (ts : List T) (m : Int), Fy ts m ≤ Eh ts
 | [], m => by rw [Fy, Eh]; omega
 | t :: ts, m => by
  rw [Fy, Eh]
  have h1 := count_le t m
  have h2 := A8m ts m
  omega
theorem Yr : ∀ (bs : List Br) (m : Int), Fj bs m ≤ I5 bs
 | [], m => by rw [Fj, I5]; omega
 | .mk f ks :: bs, m => by
  rw [Fj, I5]
  have h1 := A8m ks m
  have h2 := Yr bs m
  simp only [Br.kids]
  omega
end
theorem B6x {k m : Int} (ts : List T) (i : Nat) : ∀ j, Ff k i (ts.take j) m ≤ Ff k i ts m := by
 induction ts generalizing i with
 | nil => intro j; rw [List.take_nil]; omega
 | cons t ts ih =>
  intro j
  cases j with
  | zero => rw [List.take_zero]; exact Pw (t :: ts) i m
  | succ j => rw [List.take_succ_cons, Ff, Ff]; have := ih (i + 1) j; omega
theorem B6w {m : Int} (ts : List T) : ∀ j, Fy (ts.take j) m ≤ Fy ts m := by
 induction ts with
 | nil => intro j; rw [List.take_nil]; omega
 | cons t ts ih =>
  intro j
  cases j with
  | zero => rw [List.take_zero]; exact Tp (t :: ts) m
  | succ j => rw [List.take_succ_cons, Fy, Fy]; have := ih j; omega
theorem B6y {m : Int} (bs : List Br) : ∀ j, Fj (bs.take j) m ≤ Fj bs m := by
 induction bs with
 | nil => intro j; rw [List.take_nil]; omega
 | cons b bs ih =>
  intro j
  obtain ⟨f, ks⟩ := b
  cases j with
  | zero => rw [List.take_zero]; exact Ts (.mk f ks :: bs) m
  | succ j => rw [List.take_succ_cons, Fj, Fj]; have := ih j; omega
def A3v (t : T) (m : Int) (i : Nat) : Int := Ff t.kind 0 (t.kids.take i) m
def A5r (t : T) (m : Int) (s : Nat) : Int := Ff t.kind 0 t.kids m + Fj (t.sys.take s) m
def A3u (t : T) (m : Int) (s k : Nat) : Int := A5r t m s + Fy ((t.sys.getD s Bj).kids.take k) m
theorem C7u (t : T) (m : Int) : A3v t m 0 = 0 := by simp [A3v, Ff]
theorem A8o {t : T} {m : Int} {i : Nat} (h : i < t.kids.length) : A3v t m (i + 1) = A3v t m i + E3 (t.kids.getD i t0) (m + (binds t.kind (i : Int)).1) := by
 unfold A3v
 rw [Ai (d := t0) h, Zp, List.length_take, Nat.min_eq_left A4, Nat.zero_add]
theorem C7t (t : T) (m : Int) : A5r t m 0 = A3v t m t.kids.length := by
 unfold A5r A3v
 rw [List.take_length, List.take_zero, show Fj [] m = 0 from rfl]; omega
theorem D3v {t : T} {m : Int} (h : ¬ (t.kind = 1 ∧ t.n = m)) : A5r t m t.sys.length = E3 t m := by unfold A5r; rw [List.take_length, A8l, if_neg h]
theorem C7s (t : T) (m : Int) (s : Nat) : A3u t m s 0 = A5r t m s := by
 unfold A3u
 rw [List.take_zero, show Fy [] m = 0 from rfl]; omega
theorem A8n {t : T} {m : Int} {s k : Nat} (h : k < (t.sys.getD s Bj).kids.length) : A3u t m s (k + 1) = A3u t m s k + E3 ((t.sys.getD s Bj).kids.getD k t0) m := by
 unfold A3u
 rw [Ai (d := t0) h, Zo]; omega
theorem D3u {t : T} {m : Int} {s : Nat} (h : s < t.sys.length) : A3u t m s (t.sys.getD s Bj).kids.length = A5r t m (s + 1) := by
 unfold A3u A5r
 rw [List.take_length, Ai (d := Bj) h, Sr]; omega
theorem C3q (t : T) (m : Int) (i : Nat) : 0 ≤ A3v t m i ∧ A3v t m i ≤ size t := by
 have h1 := Pw (k := t.kind) (t.kids.take i) 0 m
 have h2 := B6x (k := t.kind) (m := m) t.kids 0 i
 have h3 := Tq (k := t.kind) t.kids 0 m
 have h4 := Es t
 unfold A3v
 omega
theorem C3p {t : T} {m : Int} {s : Nat} (hs : s < t.sys.length) (k : Nat) : 0 ≤ A3u t m s k ∧ A3u t m s k ≤ size t := by
 have h1 := Pw (k := t.kind) t.kids 0 m
 have h2 := Ts (t.sys.take s) m
 have h3 := Tp ((t.sys.getD s Bj).kids.take k) m
 have h4 := B6w (m := m) (t.sys.getD s Bj).kids k
 have h5 := B6y (m := m) t.sys (s + 1)
 rw [Ai (d := Bj) hs, Sr] at h5
 have h6 := Yr t.sys m
 have h7 := Tq (k := t.kind) t.kids 0 m
 have h8 := Es t
 unfold A3u A5r
 omega
abbrev Zh (n : Int) : Int := if 1099511627776 < n then 1099511627776 else n
def Bp (t : T) (n : Int) (u : T) : Int × T :=
 if Ah t ≠ 0 then (Ah t, t0) else if Ah u ≠ 0 then (Ah u, t0) else if n < 0 then (2, t0) else
 if 20000 < (size t : Int) + E3 t (Zh n) * ((size u : Int) - 1) then (221, t0) else
 match B8 (Ck (Zh n) u) t (0, 0) with
 | .bad e => (e, t0)
 | .ok x => if 200 < depth x then (62, t0) else (0, x)
section
variable {t u : T} {n : Int}
theorem A7b (h : Ah t ≠ 0) : Bp t n u = (Ah t, t0) := by unfold Bp; rw [if_pos h]
theorem A7a (h : Ah t = 0) (h2 : Ah u ≠ 0) : Bp t n u = (Ah u, t0) := by unfold Bp; rw [if_neg (by simp [h]), if_pos h2]
theorem A7c (h : Ah t = 0) (h2 : Ah u = 0) (h3 : n < 0) : Bp t n u = (2, t0) := by unfold Bp; rw [if_neg (by simp [h]), if_neg (by simp [h2]), if_pos h3]
theorem Wb (h : Ah t = 0) (h2 : Ah u = 0) (h3 : ¬ n < 0) (h4 : 20000 < (size t : Int) + E3 t (Zh n) * ((size u : Int) - 1)) : Bp t n u = (221, t0) := by unfold Bp; rw [if_neg (by simp [h]), if_neg (by simp [h2]), if_neg h3, if_pos h4]
theorem Za {e : Int} (h : Ah t = 0) (h2 : Ah u = 0) (h3 : ¬ n < 0) (h4 : ¬ 20000 < (size t : Int) + E3 t (Zh n) * ((size u : Int) - 1)) (h5 : B8 (Ck (Zh n) u) t (0, 0) = .bad e) : Bp t n u = (e, t0) := by
 unfold Bp; rw [if_neg (by simp [h]), if_neg (by simp [h2]), if_neg h3, if_neg h4, h5]
theorem Wc {x : T} (h : Ah t = 0) (h2 : Ah u = 0) (h3 : ¬ n < 0) (h4 : ¬ 20000 < (size t : Int) + E3 t (Zh n) * ((size u : Int) - 1)) (h5 : B8 (Ck (Zh n) u) t (0, 0) = .ok x) (h6 : 200 < depth x) : Bp t n u = (62, t0) := by
 unfold Bp; rw [if_neg (by simp [h]), if_neg (by simp [h2]), if_neg h3, if_neg h4, h5]; simp only; rw [if_pos h6]
theorem A1m {x : T} (h : Ah t = 0) (h2 : Ah u = 0) (h3 : ¬ n < 0) (h4 : ¬ 20000 < (size t : Int) + E3 t (Zh n) * ((size u : Int) - 1)) (h5 : B8 (Ck (Zh n) u) t (0, 0) = .ok x) (h6 : ¬ 200 < depth x) : Bp t n u = (0, x) := by
 unfold Bp; rw [if_neg (by simp [h]), if_neg (by simp [h2]), if_neg h3, if_neg h4, h5]; simp only; rw [if_neg h6]
end
theorem Xh {u : T} {v d : Int} (h : (Cu u v d).1 = 0) : Ah u = 0 ∧ 0 ≤ v ∧ 0 ≤ d ∧ B7d u v d = .ok (Cu u v d).2 := by
 unfold Cu Bz at h ⊢
 split at h
 ·rename_i h1; exact absurd h h1
 ·rename_i h1
  split at h
  ·cases h
  ·rename_i h2
   rw [if_neg h1, if_neg h2]
   simp only [List.all_cons, List.all_nil, Bool.and_true, Bool.not_eq_false, Bool.and_eq_true, decide_eq_true_eq] at h2
   refine ⟨by omega, h2.1, h2.2.1, ?_⟩
   cases hx : B7d u v d with
   | bad e =>
    exfalso
    rw [hx] at h
    simp only at h
    rcases Bt hx with h3 | ⟨y, _, h3⟩
    ·exact lift_bad_ne' h3 h
    ·exact lift_bad_ne' h3 h
   | ok x => rfl
theorem C0x {u : T} {v d : Int} (h : (Cu u v d).1 = 0) : size (Cu u v d).2 = size u := by
 obtain ⟨_, _, _, h1⟩ := Xh h
 obtain ⟨y, h2, h3⟩ := Ab.A2 (x := B8 (As v 0) u (0, 0)) h1
 rw [Lg h3, Lg h2]
mutual
theorem Ta {n : Int} {u : T} : ∀ {t x : T} {c : Int × Int}, D5 t → B8 (Ck n u) t c = .ok x → (size x : Int) = size t + E3 t (n + c.1) * ((size u : Int) - 1)
 | .mk k m nm r ks ss, x, c, hf, hx => by
  by_cases hk : k = 1
  ·subst hk
   have hfv := Kr hf rfl
   simp only [T.n, T.mk.injEq, true_and] at hfv
   obtain ⟨⟨hnm, hr, hks, hss⟩, _⟩ := hfv
   subst hr hks hss
   by_cases h : m = n + c.1
   ·rw [Da] at hx
    simp only [T.kind, T.n, T.name, T.r, T.kids, T.sys] at hx
    rw [Mr h] at hx
    split at hx
    ·rename_i h0
     injection hx with hx
     rw [← hx, C0x h0, E3, if_pos ⟨rfl, h⟩, Es (.mk 1 m nm [] [] [])]
     simp only [T.kids, T.sys, Eh, I5]
     omega
    ·cases hx
   ·have := Tb (u := u) hf rfl (c := c) h
    rw [this] at hx
    injection hx with hx
    rw [← hx, E3, if_neg (show ¬ ((1 : Int) = 1 ∧ m = n + c.1) from fun h2 => h h2.2), Es, Es (.mk 1 m nm [] [] [])]
    simp only [T.kids, T.sys, Eh, I5, Ff, Fj]
    omega
  ·rw [Da] at hx
   simp only [T.kind, T.n, T.name, T.r, T.kids, T.sys] at hx
   rw [M1 hk] at hx
   simp only [Ab.bind] at hx
   obtain ⟨ks', h1, hx⟩ := Ab.A2 (x := Cm (Ck n u) k 0 ks c) hx
   obtain ⟨ss', h2, hx⟩ := Ab.A2 hx
   injection hx with hx
   have hf2 := Nc.mp hf
   simp only [T.kids, T.sys, T.kind] at hf2
   have e1 := A1n hf2.2.2.2.1 h1
   have e2 := A1o hf2.2.2.2.2 h2
   rw [← hx, E3, if_neg (fun h2 => hk h2.1), Es, Es]
   simp only [T.kids, T.sys]
   rw [Int.add_mul]
   omega
theorem A1n {n k : Int} {u : T} : ∀ {ts xs : List T} {i : Nat} {c : Int × Int}, Ib ts → Cm (Ck n u) k i ts c = .ok xs → (Eh xs : Int) = Eh ts + Ff k i ts (n + c.1) * ((size u : Int) - 1)
 | [], xs, i, c, hf, hx => by rw [Ch] at hx; injection hx with hx; subst hx; simp [Eh, Ff]
 | t :: ts, xs, i, c, hf, hx => by
  rw [Cr, Pk] at hx
  simp only [Ab.bind] at hx
  obtain ⟨t', h2, hx⟩ := Ab.A2 (x := B8 (Ck n u) t _) hx
  obtain ⟨ts', h3, hx⟩ := Ab.A2 hx
  injection hx with hx
  subst hx
  have e1 := Ta hf.1 h2
  have e2 := A1n hf.2 h3
  rw [Eh, Eh, Ff, Int.add_mul]
  rw [← Int.add_assoc] at e1
  omega
theorem A1l {n k : Int} {u : T} : ∀ {ts xs : List T} {c : Int × Int}, Ib ts → C2 (Ck n u) k ts c = .ok xs → (Eh xs : Int) = Eh ts + Fy ts (n + c.1) * ((size u : Int) - 1)
 | [], xs, c, hf, hx => by rw [D3] at hx; injection hx with hx; subst hx; simp [Eh, Fy]
 | t :: ts, xs, c, hf, hx => by
  rw [Cq, Pk] at hx
  simp only [Ab.bind] at hx
  obtain ⟨t', h2, hx⟩ := Ab.A2 (x := B8 (Ck n u) t _) hx
  obtain ⟨ts', h3, hx⟩ := Ab.A2 hx
  injection hx with hx
  subst hx
  have e1 := Ta hf.1 h2
  have e2 := A1l hf.2 h3
  rw [Eh, Eh, Fy, Int.add_mul]
  rw [show n + (c.1 + 0) = n + c.1 by omega] at e1
  omega
theorem A1o {n k : Int} {u : T} : ∀ {bs xs : List Br} {c : Int × Int}, Ou k bs → C9 (Ck n u) k bs c = .ok xs → (I5 xs : Int) = I5 bs + Fj bs (n + c.1) * ((size u : Int) - 1)
 | [], xs, c, hf, hx => by rw [C8] at hx; injection hx with hx; subst hx; simp [I5, Fj]
 | .mk f ks :: bs, xs, c, hf, hx => by
  rw [Cc, Pl] at hx
  simp only [Ab.bind, Br.Al, Br.kids] at hx
  obtain ⟨ks', h2, hx⟩ := Ab.A2 (x := C2 (Ck n u) k ks c) hx
  obtain ⟨bs', h3, hx⟩ := Ab.A2 hx
  injection hx with hx
  subst hx
  have e1 := A1l hf.2.2.1 h2
  have e2 := A1o hf.2.2.2 h3
  rw [I5, I5, Fj, Int.add_mul]
  simp only [Br.kids]
  omega
end
theorem Cz {s : Nat} {f b : Int} (h : (Ae s f b).1 = 0) (i : Nat) : (Ae s f b).2.testBit i = true ↔ ∃ j, j < 24 ∧ s.testBit j = true ∧ (((j : Int) < f ∧ i = j) ∨ (f ≤ (j : Int) ∧ (i : Int) = j + b)) := by
 obtain ⟨h0, h1, h2⟩ := Hh h i
 constructor
 ·intro hi
  obtain ⟨j, h3, h4, h5⟩ := P8 h i hi
  exact ⟨j, h3, h4, by omega⟩
 ·rintro ⟨j, h3, h4, h5⟩
  rw [h2, Bool.or_eq_true, Bool.and_eq_true, Bool.and_eq_true, decide_eq_true_eq, decide_eq_true_eq, E6, E6, Bool.and_eq_true, Bool.and_eq_true, decide_eq_true_eq, decide_eq_true_eq]
  rcases h5 with ⟨h5, rfl⟩ | ⟨h5, h6⟩
  ·exact .inl ⟨by omega, h3, h4⟩
  ·refine .inr ⟨by omega, ?_⟩
   rw [show i - b.toNat = j by omega]
   exact ⟨h3, h4⟩
theorem B5h {s : Nat} {f b f2 b2 : Int} (hf : f ≤ f2) (hf2 : f2 ≤ f + b) (h1 : (Ae s f b).1 = 0) (h2 : (Ae (Ae s f b).2 f2 b2).1 = 0) (h3 : (Ae s f (b + b2)).1 = 0) : (Ae (Ae s f b).2 f2 b2).2 = (Ae s f (b + b2)).2 := by
 obtain ⟨a1, a2, _⟩ := Hh h1 0
 obtain ⟨a3, a4, _⟩ := Hh h2 0
 refine Nat.eq_of_testBit_eq fun i => ?_
 rw [Bool.eq_iff_iff, Cz h2, Cz h3]
 have hlt := H7 s f b
 constructor
 ·rintro ⟨j, h4, h5, h6⟩
  obtain ⟨j2, h7, h8, h9⟩ := (Cz h1 j).mp h5
  exact ⟨j2, h7, h8, by omega⟩
 ·rintro ⟨j, h4, h5, h6⟩
  by_cases hj : (j : Int) < f
  ·have h7 := (Cz h1 j).mpr ⟨j, h4, h5, .inl ⟨hj, rfl⟩⟩
   exact ⟨j, h4, h7, by omega⟩
  ·have h7 := (Cz h1 (j + b.toNat)).mpr ⟨j, h4, h5, .inr ⟨by omega, by omega⟩⟩
   refine ⟨j + b.toNat, ?_, h7, by omega⟩
   refine Nat.lt_of_not_le fun hge => ?_
   rw [Nat.testBit_lt_two_pow (Nat.lt_of_lt_of_le hlt (Nat.pow_le_pow_right (n := 2) (i := 24) A4 hge))] at h7
   cases h7
theorem B5f {s m : Nat} {f b : Int} (hs : m < 16777216) (h1 : (Ae s f b).1 = 0) (h2 : (Ae m f b).1 = 0) (h : (Ae s f b).2 ||| (Ae m f b).2 = (Ae s f b).2) : s ||| m = s := by
 refine Nat.eq_of_testBit_eq fun i => ?_
 rw [Nat.testBit_or, Bool.eq_iff_iff, Bool.or_eq_true]
 refine ⟨fun h3 => h3.elim id fun h3 => ?_, .inl⟩
 have hi : i < 24 := by
  refine Nat.lt_of_not_le fun hge => ?_
  rw [Nat.testBit_lt_two_pow (Nat.lt_of_lt_of_le hs (Nat.pow_le_pow_right (n := 2) (i := 24) A4 hge))] at h3
  cases h3
 have key : ∀ i' : Nat, (((i : Int) < f ∧ i' = i) ∨ (f ≤ (i : Int) ∧ (i' : Int) = i + b)) → s.testBit i = true := fun i' h4 => by
  have h5 := (Cz h2 i').mpr ⟨i, hi, h3, h4⟩
  have h6 : (Ae s f b).2.testBit i' = true := by rw [← h, Nat.testBit_or, h5, Bool.or_true]
  obtain ⟨j, _, h7, h8⟩ := (Cz h1 i').mp h6
  obtain ⟨_, hb0, _⟩ := Hh h1 0
  rw [show i = j by omega]; exact h7
 by_cases hf : (i : Int) < f
 ·exact key i (.inl ⟨hf, rfl⟩)
 ·obtain ⟨_, hb0, _⟩ := Hh h1 0
  exact key (i + b.toNat) (.inr ⟨by omega, by omega⟩)
theorem Tg {s : Nat} {f b : Int} (hs : s < 16777216) (h0 : 0 ≤ f) (hb : 0 ≤ b) (h : b = 0 ∨ 24 ≤ f) : Ae s f b = (0, s) := by
 have hs24 : s &&& 16777215 = s := by rw [A4f]; exact Nat.mod_eq_of_lt hs
 have h1 : (Ae s f b).1 = 0 := by
  unfold Ae
  rw [if_neg A4]
  split
  ·rfl
  ·rename_i h2
   rw [if_neg]
   rintro (h3 | h3)
   ·rcases h with h | h
    ·omega
    ·refine h2 ?_
     refine Nat.eq_of_testBit_eq fun i => ?_
     rw [Fk, Kl, Nat.zero_testBit, E6, show min f.toNat 24 = 24 by omega]
     by_cases hi : i < 24 <;> simp [hi]
   ·rcases h with h | h
    ·subst h
     have := A8w (q := s &&& 16777215) (m := 2 ^ min f.toNat 24 - 1) (Ig s)
     simp at h3
     omega
    ·refine h2 ?_
     refine Nat.eq_of_testBit_eq fun i => ?_
     rw [Fk, Kl, Nat.zero_testBit, E6, show min f.toNat 24 = 24 by omega]
     by_cases hi : i < 24 <;> simp [hi]
 refine Prod.ext h1 ?_
 refine Nat.eq_of_testBit_eq fun i => ?_
 rw [Bool.eq_iff_iff, Cz h1]
 have hlt : ∀ j, s.testBit j = true → j < 24 := fun j hj => by
  refine Nat.lt_of_not_le fun hge => ?_
  rw [Nat.testBit_lt_two_pow (Nat.lt_of_lt_of_le hs (Nat.pow_le_pow_right (n := 2) (i := 24) A4 hge))] at hj
  cases hj
 constructor
 ·rintro ⟨j, h2, h3, h4⟩
  rw [show i = j by omega]; exact h3
 ·intro h2
  exact ⟨i, hlt i h2, h2, by have := hlt i h2; omega⟩
theorem X6 {l : List Cl} (h : A6 l = true) : (∀ c, c ∈ l → Ar c = true) ∧ apart l = true := by
 unfold A6 at h
 simp only [Bool.and_eq_true, List.all_eq_true] at h
 exact ⟨h.1.1.1, h.1.2⟩
theorem Gg {c : Cl} : Ar c = true ↔ c.pos < 16777216 ∧ c.neg < 16777216 := by unfold Ar; rw [Bool.and_eq_true, decide_eq_true_eq, decide_eq_true_eq]
theorem W8 {l g : List Cl} {f b : Int} (hl : A6 l = true) (h0 : 0 ≤ f) (hb : 0 ≤ b) (h : Aq b l f = .ok g) : (∀ c, c ∈ l → (B1 c f b).1 = 0) ∧ ∀ x, x ∈ g ↔ ∃ c, c ∈ l ∧ x = (B1 c f b).2 := by
 obtain ⟨hr, hap⟩ := X6 hl
 unfold Aq at h
 split at h
 ·rename_i h1
  injection h with h
  subst h
  have key : ∀ c, c ∈ l → B1 c f b = (0, c) := fun c hc => by
   obtain ⟨h2, h3⟩ := Gg.mp (hr c hc)
   unfold B1
   rw [if_neg (by rw [hr c hc]; simp), Tg h2 h0 hb h1, Tg h3 h0 hb h1]
   simp
  exact ⟨fun c hc => by rw [key c hc], fun x => ⟨fun hx => ⟨x, hx, by rw [key x hx]⟩, fun ⟨c, hc, e⟩ => by rw [e, key c hc]; exact hc⟩⟩
 ·split at h
  ·rename_i h1
   injection h with h
   subst h
   obtain ⟨_, h2, h3⟩ := Fx h1
   refine ⟨h2, fun x => ?_⟩
   rw [h3] at h1 ⊢
   rcases Hj (l.map fun c => (B1 c f b).2) with ⟨_, _, h4, _⟩ | h4 | h4
   ·rw [h4, Dy, List.mem_map]
    constructor
    ·rintro ⟨⟨c, hc, rfl⟩, _⟩; exact ⟨c, hc, rfl⟩
    ·rintro ⟨c, hc, rfl⟩
     refine ⟨⟨c, hc, rfl⟩, Im.mpr fun d hd => ?_⟩
     obtain ⟨c', hc', rfl⟩ := List.mem_map.mp hd
     cases hbl : below (B1 c f b).2 (B1 c' f b).2 with
     | false => exact .inr rfl
     | true =>
      left
      obtain ⟨_, a1, a2, a3⟩ := Hu (h2 c hc)
      obtain ⟨_, b1, b2, b3⟩ := Hu (h2 c' hc')
      rw [a3, b3] at hbl
      unfold below at hbl
      rw [Bool.and_eq_true, decide_eq_true_eq, decide_eq_true_eq] at hbl
      have hr' := Gg.mp (hr c' hc')
      have e1 := B5f hr'.1 a1 b1 hbl.1
      have e2 := B5f hr'.2 a2 b2 hbl.2
      have hbe : below c c' = true := by unfold below; rw [e1, e2]; simp
      rcases Tu.mp hap c hc c' hc' with h5 | h5
      ·rw [h5]
      ·rw [hbe] at h5; cases h5
   ·rw [h4] at h1; cases h1
   ·rw [h4] at h1; cases h1
  ·cases h
theorem Up {l : List Cl} (h : A6 l = true) : l.Pairwise fun a b => Dv a b = true := by
 have hs : Mo l = true := by unfold A6 at h; simp only [Bool.and_eq_true] at h; exact h.1.1.2
 exact Lz.mp hs
theorem D5l {l g h k : List Cl} {f b f2 b2 : Int} (hl : A6 l = true) (h0 : 0 ≤ f) (hb : 0 ≤ b) (hb2 : 0 ≤ b2) (hf : f ≤ f2) (hf2 : f2 ≤ f + b) (h1 : Aq b l f = .ok g) (h2 : Aq b2 g f2 = .ok h) (h3 : Aq (b + b2) l f = .ok k) : h = k := by
 have hg := No h1 hl
 obtain ⟨a1, a2⟩ := W8 hl h0 hb h1
 obtain ⟨b1, b2'⟩ := W8 hg A4 hb2 h2
 obtain ⟨c1, c2⟩ := W8 hl h0 A4 h3
 refine Qd (Up (No h2 hg)) (Up (No h3 hl)) fun x => ?_
 rw [b2', c2]
 have key : ∀ c, c ∈ l → (B1 (B1 c f b).2 f2 b2).2 = (B1 c f (b + b2)).2 := fun c hc => by
  obtain ⟨_, d1, d2, d3⟩ := Hu (a1 c hc)
  obtain ⟨_, e1, e2, e3⟩ := Hu (b1 _ ((a2 _).mpr ⟨c, hc, rfl⟩))
  obtain ⟨_, g1, g2, g3⟩ := Hu (c1 c hc)
  rw [e3, g3]
  rw [d3] at e1 e2 ⊢
  simp only at e1 e2 ⊢
  rw [B5h hf hf2 d1 e1 g1, B5h hf hf2 d2 e2 g2]
 constructor
 ·rintro ⟨d, hd, rfl⟩
  obtain ⟨c, hc, rfl⟩ := (a2 d).mp hd
  exact ⟨c, hc, key c hc⟩
 ·rintro ⟨c, hc, rfl⟩
  exact ⟨_, (a2 _).mpr ⟨c, hc, rfl⟩, (key c hc).symm⟩
section
variable {CA CB CC CD : Type} {A : Tr CA} {B : Tr CB} {C : Tr CC} {D : Tr CD} (R : CA → CB → CC → CD → Prop)
variable {R}
end
def X1 : Tr Unit where
 own _ _ n _ r := .ok (.inr (n, r))
 Al _ f := .ok (some f)
 Jf _ _ := .ok ()
mutual
theorem id_eq : ∀ t : T, B8 X1 t () = .ok t
 | .mk k n nm r ks ss => by rw [Da]; simp only [T.kind, T.n, T.name, T.r, T.kids, T.sys, X1, Ab.bind]; rw [show (Tr.mk _ _ _ : Tr Unit) = X1 from rfl, D2p ks, D2t ss]
theorem D2p {k : Int} : ∀ {i : Nat} (ts : List T), Cm X1 k i ts () = .ok ts
 | i, [] => Ch _ _ _
 | i, t :: ts => by rw [Cr, show X1.Jf () (binds k i) = .ok () from rfl]; simp only [Ab.bind]; rw [id_eq t]; simp only; rw [D2p ts]
theorem D2o {k : Int} : ∀ ts : List T, C2 X1 k ts () = .ok ts
 | [] => D3 _ _
 | t :: ts => by rw [Cq, show X1.Jf () (0, more k) = .ok () from rfl]; simp only [Ab.bind]; rw [id_eq t]; simp only; rw [D2o ts]
theorem D2t {k : Int} : ∀ bs : List Br, C9 X1 k bs () = .ok bs
 | [] => C8 _ _
 | .mk f ks :: bs => by rw [Cc, show X1.Al () (Br.Al (.mk f ks)) = .ok (some f) from rfl]; simp only [Ab.bind]; rw [show (Br.mk f ks).kids = ks from rfl, D2o ks]; simp only; rw [D2t bs]
end
theorem A2q {a b : Int} {t u : T} {c : Int × Int} (hf : D5 t) (hk : t.kind = 1) (h : B8 (As a b) t c = .ok u) : u = .mk 1 (Du a c.1 1 t.n) ⟨#[]⟩ [] [] [] ∧ ¬ (c.1 ≤ t.n ∧ 1000000000 - a < t.n) := by
 have e := (Kr hf hk).1
 generalize t.n = m at e ⊢
 subst e
 rw [Da] at h
 simp only [T.kind, T.n, T.name, T.r, T.kids, T.sys] at h
 rw [F5, B3n] at h
 simp only [Ab.bind, true_and] at h
 by_cases h2 : c.1 ≤ m ∧ 1000000000 - a < m
 ·rw [if_pos h2] at h; cases h
 ·rw [if_neg h2] at h
  simp only [Ch, C8] at h
  injection h with h
  exact ⟨h.symm, h2⟩
theorem D2u {k n : Int} {nm : ByteArray} {r : List Cl} (h : O0 k n nm r) : A6 r = true := by
 obtain ⟨_, _, _, _, h13, h14, h0⟩ := h
 by_cases h1 : k = 13 ∨ k = 21 ∨ k = 26
 ·exact h13 h1
 ·by_cases h2 : k = 14
  ·exact B6l (h14 h2)
  ·rw [h0 A4]; exact R0
theorem D3z {u : T} {v d : Int} (h : (Cu u v d).1 = 0) : D5 u ∧ 0 ≤ v ∧ 0 ≤ d ∧ B8 (As v d) u (0, 0) = .ok (Cu u v d).2 := by
 obtain ⟨h1, h2, h3, h4⟩ := Xh h
 have hf := (M7.mp h1).2
 obtain ⟨y, h5, h6⟩ := Ab.A2 (x := B8 (As v 0) u (0, 0)) h4
 exact ⟨hf, h2, h3, by rw [← C6t (D7b h2) hf (show R3 (0, 0) (0, 0) (0, 0) from ⟨rfl, rfl⟩) h5]; exact h6⟩
theorem C9z {n : Int} {u t x : T} {c : Int × Int} (hf : D5 t) (hk : t.kind = 1) (h : B8 (Ck n u) t c = .ok x) : (t.n = n + c.1 ∧ (Cu u c.1 c.2).1 = 0 ∧ x = (Cu u c.1 c.2).2) ∨ (t.n ≠ n + c.1 ∧ x = .mk 1 (if n + c.1 < t.n then t.n - 1 else t.n) ⟨#[]⟩ [] [] []) := by
 by_cases h1 : t.n = n + c.1
 ·left
  by_cases h2 : (Cu u c.1 c.2).1 = 0
  ·have := B3x (n := n) (u := u) (v := c.1) (d := c.2) hk h1 h2
   rw [show ((c.1, c.2) : Int × Int) = c from rfl, h] at this
   injection this with this
   exact ⟨h1, h2, this⟩
  ·have := Wa (n := n) (u := u) (v := c.1) (d := c.2) hk h1 h2
   rw [show ((c.1, c.2) : Int × Int) = c from rfl, h] at this
   cases this
 ·right
  rw [Tb hf hk h1] at h
  injection h with h
  exact ⟨h1, h.symm⟩
theorem D5p {n : Int} {u : T} {ca : Int × Int} {k m : Int} {nm : ByteArray} {r : List Cl} {x : T} (hk : k ≠ 1) : (Ck n u).own ca k m nm r ≠ .ok (.inl x) := by
 rw [M1 hk]
 intro h
 injection h with h
 cases h
theorem B3y {n : Int} {u : T} : ∀ {t : T} {c : Int × Int} {e : Int}, B8 (Ck n u) t c = .bad e → e ≠ 0 := fun {t} => T.ind (P := fun t => ∀ {c : Int × Int} {e : Int}, B8 (Ck n u) t c = .bad e → e ≠ 0) (fun t ih c e h => by
 rcases Vt h with h1 | ⟨b, _, h1⟩ | ⟨p, hp, h1 | ⟨c', _, h2⟩⟩
 ·by_cases hk : t.kind = 1
  ·rw [hk] at h1
   by_cases h2 : t.n = n + c.1
   ·rw [Mr h2] at h1
    split at h1
    ·cases h1
    ·rename_i h3; injection h1 with h1; exact h1 ▸ h3
   ·rw [W9 h2] at h1; cases h1
  ·rw [M1 hk] at h1; cases h1
 ·cases h1
 ·cases h1
 ·exact ih p hp h2) t
theorem B0e {t u : T} {n : Int} (h : (Bp t n u).1 = 0) : Ah t = 0 ∧ Ah u = 0 ∧ 0 ≤ n ∧ size (Bp t n u).2 ≤ 20000 ∧ B8 (Ck (Zh n) u) t (0, 0) = .ok (Bp t n u).2 := by
 by_cases h1 : Ah t = 0
 ·by_cases h2 : Ah u = 0
  ·by_cases h3 : n < 0
   ·rw [A7c h1 h2 h3] at h; cases h
   ·by_cases h4 : 20000 < (size t : Int) + E3 t (Zh n) * ((size u : Int) - 1)
    ·rw [Wb h1 h2 h3 h4] at h; cases h
    ·cases h5 : B8 (Ck (Zh n) u) t (0, 0) with
     | bad e =>
      rw [Za h1 h2 h3 h4 h5] at h
      exact absurd h (B3y h5)
     | ok x =>
      by_cases h6 : 200 < depth x
      ·rw [Wc h1 h2 h3 h4 h5 h6] at h; cases h
      ·rw [A1m h1 h2 h3 h4 h5 h6]
       have := Ta (M7.mp h1).2 h5
       rw [show Zh n + ((0, 0) : Int × Int).1 = Zh n from Int.add_zero _] at this
       exact ⟨h1, h2, by omega, by show size x ≤ 20000; omega, rfl⟩
  ·rw [A7a h1 h2] at h; exact absurd h h2
 ·rw [A7b h1] at h; exact absurd h h1
theorem Nn : ∀ {l m : List Int}, (l.Pairwise fun a b => a < b) → (m.Pairwise fun a b => a < b) → (∀ x, x ∈ l ↔ x ∈ m) → l = m
 | [], [], _, _, _ => rfl
 | [], b :: m, _, _, h => by have := (h b).mpr List.mem_cons_self; cases this
 | a :: l, [], _, _, h => by have := (h a).mp List.mem_cons_self; cases this
 | a :: l, b :: m, hl, hm, h => by
  obtain ⟨l1, l2⟩ := List.pairwise_cons.mp hl
  obtain ⟨m1, m2⟩ := List.pairwise_cons.mp hm
  have hab : a = b := by
   rcases List.mem_cons.mp ((h a).mp List.mem_cons_self) with h1 | h1
   ·exact h1
   ·rcases List.mem_cons.mp ((h b).mpr List.mem_cons_self) with h2 | h2
    ·exact h2.symm
    ·have := l1 b h2; have := m1 a h1; omega
  subst hab
  have : l = m := Nn l2 m2 fun x => by
   constructor
   ·intro hx
    rcases List.mem_cons.mp ((h x).mp (List.mem_cons_of_mem _ hx)) with h1 | h1
    ·subst h1; have := l1 x hx; omega
    ·exact h1
   ·intro hx
    rcases List.mem_cons.mp ((h x).mpr (List.mem_cons_of_mem _ hx)) with h1 | h1
    ·subst h1; have := m1 x hx; omega
    ·exact h1
  rw [this]
def shI (f b x : Int) : Int := if x < f then x else x + b
theorem B5g {s : Nat} {f b x : Int} (h0 : 0 ≤ f) (hb : 0 ≤ b) (hx : x ∈ Ay s) (hf : f ≤ x) (h : 24 ≤ x + b) : Ae s f b = (10, 0) := by
 obtain ⟨x0, x1, x2⟩ := Fe.mp hx
 have hbit : (Bg (s &&& 16777215) (2 ^ (min f.toNat 24) - 1)).testBit x.toNat = true := by
  rw [Fk, Kl, E6, x2, decide_eq_true A4, decide_eq_true A4, decide_eq_false A4]; rfl
 have hge := Nat.ge_two_pow_of_testBit hbit
 unfold Ae
 rw [if_neg A4, if_neg (fun h1 => by rw [h1, Nat.zero_testBit] at hbit; cases hbit), if_pos]
 by_cases h24 : 24 ≤ b
 ·exact .inl h24
 ·right
  have h1 : 2 ^ x.toNat * 2 ^ b.toNat ≤ Bg (s &&& 16777215) (2 ^ (min f.toNat 24) - 1) * 2 ^ b.toNat := Nat.mul_le_mul_right _ hge
  rw [← Nat.pow_add] at h1
  have h2 : 2 ^ 24 ≤ 2 ^ (x.toNat + b.toNat) := Nat.pow_le_pow_right A4 A4
  have h3 : (2 : Nat) ^ 24 = 16777216 := by decide
  omega
theorem Ye {s : Nat} {f b : Int} (h0 : 0 ≤ f) (hb : 0 ≤ b) (h : ∀ x, x ∈ Ay s → x < f ∨ x + b < 24) : Ae s f b = (0, A1d ((Ay s).map (shI f b))) := by
 have h1 : (Ae s f b).1 = 0 := by
  unfold Ae
  rw [if_neg A4]
  split
  ·rfl
  ·rename_i h2
   rw [if_neg]
   have hbits : ∀ i, (Bg (s &&& 16777215) (2 ^ (min f.toNat 24) - 1)).testBit i = true → (i : Int) + b < 24 := fun i hi => by
    rw [Fk, Kl, E6] at hi
    simp only [Bool.and_eq_true, decide_eq_true_eq, Bool.not_eq_true', decide_eq_false_iff_not] at hi
    have hm : (i : Int) ∈ Ay s := Fe.mpr ⟨by omega, by omega, by simpa using hi.1.2.2⟩
    rcases h _ hm with h3 | h3 <;> omega
   obtain ⟨i, hi⟩ : ∃ i, (Bg (s &&& 16777215) (2 ^ (min f.toNat 24) - 1)).testBit i = true := by
    refine Classical.byContradiction fun hn => h2 (Nat.eq_of_testBit_eq fun i => ?_)
    rw [Nat.zero_testBit]
    cases hh : (Bg (s &&& 16777215) (2 ^ (min f.toNat 24) - 1)).testBit i with
    | false => rfl
    | true => exact absurd ⟨i, hh⟩ hn
   have hb24 := hbits i hi
   have hlt : Bg (s &&& 16777215) (2 ^ (min f.toNat 24) - 1) < 2 ^ (24 - b.toNat) := Nat.lt_pow_two_of_testBit _ fun j hj => by
    cases hh : (Bg (s &&& 16777215) (2 ^ (min f.toNat 24) - 1)).testBit j with
    | false => rfl
    | true => have := hbits j hh; omega
   rintro (h3 | h3)
   ·omega
   ·have h4 : Bg (s &&& 16777215) (2 ^ (min f.toNat 24) - 1) * 2 ^ b.toNat < 2 ^ (24 - b.toNat) * 2 ^ b.toNat := Nat.mul_lt_mul_of_pos_right hlt (Nat.pow_pos A4)
    rw [← Nat.pow_add, show 24 - b.toNat + b.toNat = 24 by omega] at h4
    have h5 : (2 : Nat) ^ 24 = 16777216 := by decide
    omega
 refine Prod.ext h1 ?_
 have hlt := H7 s f b
 have e1 : (Ae s f b).2 = A1d (Ay (Ae s f b).2) := by rw [B8j, A4f]; exact (Nat.mod_eq_of_lt hlt).symm
 rw [e1]
 show A1d _ = A1d _
 congr 1
 refine Nn (P9 _ _) ?_ fun x => ?_
 ·rw [List.pairwise_map]
  refine (P9 s 24).imp fun {a c} hac => ?_
  unfold shI
  split <;> split <;> omega
 ·rw [List.mem_map]
  constructor
  ·intro hx
   obtain ⟨x0, x1, x2⟩ := Fe.mp hx
   obtain ⟨j, h2, h3, h4⟩ := (Cz h1 x.toNat).mp x2
   refine ⟨(j : Int), Fe.mpr ⟨by omega, by omega, by simpa using h3⟩, ?_⟩
   unfold shI
   split <;> omega
  ·rintro ⟨y, hy, rfl⟩
   obtain ⟨y0, y1, y2⟩ := Fe.mp hy
   have hsh : 0 ≤ shI f b y ∧ shI f b y < 24 := by
    unfold shI
    rcases h y hy with h2 | h2 <;> split <;> omega
   refine Fe.mpr ⟨hsh.1, hsh.2, (Cz h1 _).mpr ⟨y.toNat, by omega, y2, ?_⟩⟩
   unfold shI at hsh ⊢
   split <;> omega
theorem Qt (s : Nat) : (Ay s).Pairwise fun a b => a < b := by
 unfold Ay Hi
 rw [List.pairwise_map]
 refine List.Pairwise.filter _ ?_
 exact List.pairwise_lt_range.imp fun h => by omega
theorem C6e (s : Nat) : Ay (s &&& 16777215) = Ay s := by
 refine Nn (Qt _) (Qt _) fun x => ?_
 rw [Fe, Fe, E6]
 constructor
 ·rintro ⟨h1, h2, h3⟩
  rw [Bool.and_eq_true] at h3
  exact ⟨h1, h2, h3.2⟩
 ·rintro ⟨h1, h2, h3⟩
  exact ⟨h1, h2, by rw [h3, decide_eq_true A4]; rfl⟩
theorem C6b {r : Nat} (h0 : ¬ r = 0) (h : r < 4294967296) : ∃ m, r = 2 ^ Lib.ctz 32 r * (2 * m + 1) ∧ Lib.ctz 32 r < 32 := by
 obtain ⟨m, h1, h2⟩ := Lib.ctzFrom_spec 32 r A4 h
 have e : Lib.ctz 32 r = Lib.ctzFrom 32 r := by unfold Lib.ctz; rw [if_neg h0]
 rw [e]
 exact ⟨m, h1, h2⟩
theorem D6j {r k m i : Nat} (h : r = 2 ^ k * (2 * m + 1)) : (r &&& (r - 1)).testBit i = (r.testBit i && decide (i ≠ k)) ∧ r.testBit k = true ∧ (i < k → r.testBit i = false) := by
 have hp : 0 < 2 ^ k := Nat.pow_pos Iy
 have e1 : r = 2 ^ (k + 1) * m + 2 ^ k := by rw [h, Nat.pow_succ, Nat.mul_add, Nat.mul_assoc]; simp
 have e2 : r - 1 = 2 ^ (k + 1) * m + (2 ^ k - 1) := by omega
 have hb1 : 2 ^ k < 2 ^ (k + 1) := by rw [Nat.pow_succ]; omega
 have hb2 : 2 ^ k - 1 < 2 ^ (k + 1) := by omega
 have t1 : ∀ j, r.testBit j = if j < k + 1 then (2 ^ k).testBit j else m.testBit (j - (k + 1)) := fun j => by rw [e1]; exact Nat.testBit_two_pow_mul_add m hb1 j
 have t2 : ∀ j, (r - 1).testBit j = if j < k + 1 then (2 ^ k - 1).testBit j else m.testBit (j - (k + 1)) := fun j => by rw [e2]; exact Nat.testBit_two_pow_mul_add m hb2 j
 refine ⟨?_, by rw [t1, if_pos A4, Nat.testBit_two_pow_self], fun hi => by rw [t1, if_pos A4, Nat.testBit_two_pow_of_ne A4]⟩
 rw [Nat.testBit_and, t1, t2]
 by_cases hi : i < k + 1
 ·rw [if_pos hi, if_pos hi, Nat.testBit_two_pow, Nat.testBit_two_pow_sub_one]
  by_cases hk : k = i
  ·subst hk; simp
  ·simp [hk]
 ·rw [if_neg hi, if_neg hi]
  have : i ≠ k := by omega
  simp [this]
theorem A7r {r : Nat} (h0 : ¬ r = 0) (h : r < 16777216) : Lib.ctz 32 r < 24 ∧ Ay r = (Lib.ctz 32 r : Int) :: Ay (r &&& (r - 1)) := by
 obtain ⟨m, h1, h2⟩ := C6b h0 A4
 have hb := fun i => D6j (i := i) h1
 have hk : Lib.ctz 32 r < 24 := Decidable.byContradiction fun hn => by
  have h3 := Nat.ge_two_pow_of_testBit (hb 0).2.1
  have h4 : 2 ^ 24 ≤ 2 ^ Lib.ctz 32 r := Nat.pow_le_pow_right Iy A4
  omega
 refine ⟨hk, Nn (Qt _) (List.pairwise_cons.mpr ⟨fun x hx => ?_, Qt _⟩) fun x => ?_⟩
 ·obtain ⟨x0, x1, x2⟩ := Fe.mp hx
  rw [(hb x.toNat).1, Bool.and_eq_true, decide_eq_true_eq] at x2
  have : ¬ x.toNat < Lib.ctz 32 r := fun hlt => by have := (hb x.toNat).2.2 hlt; rw [x2.1] at this; cases this
  omega
 ·rw [List.mem_cons, Fe, Fe, (hb x.toNat).1, Bool.and_eq_true, decide_eq_true_eq]
  constructor
  ·rintro ⟨x0, x1, x2⟩
   by_cases hx : x = (Lib.ctz 32 r : Int)
   ·exact .inl hx
   ·exact .inr ⟨x0, x1, x2, by omega⟩
  ·rintro (rfl | ⟨x0, x1, x2, _⟩)
   ·exact ⟨by omega, by omega, by rw [Int.toNat_natCast]; exact (hb 0).2.1⟩
   ·exact ⟨x0, x1, x2⟩
theorem E1j {r : Nat} (h0 : ¬ r = 0) : r &&& (r - 1) < r := Nat.lt_of_le_of_lt Nat.and_le_right A4
def E0k : ByteArray := ⟨#[0, 1, 1, 2, 1, 2, 2, 3, 1, 2, 2, 3, 2, 3, 3, 4, 1, 2, 2, 3, 2, 3, 3, 4, 2, 3, 3, 4, 3, 4, 4, 5, 1, 2, 2, 3, 2, 3, 3, 4, 2, 3, 3, 4, 3, 4, 4, 5, 2, 3, 3, 4, 3, 4, 4, 5, 3, 4, 4, 5, 4, 5, 5, 6, 1, 2, 2, 3, 2, 3, 3, 4, 2, 3, 3, 4, 3, 4, 4, 5, 2, 3, 3, 4, 3, 4, 4, 5, 3, 4, 4, 5, 4, 5, 5, 6, 2, 3, 3, 4, 3, 4, 4, 5, 3, 4, 4, 5, 4, 5, 5, 6, 3, 4, 4, 5, 4, 5, 5, 6, 4, 5, 5, 6, 5, 6, 6, 7, 1, 2, 2, 3, 2, 3, 3, 4, 2, 3, 3, 4, 3, 4, 4, 5, 2, 3, 3, 4, 3, 4, 4, 5, 3, 4, 4, 5, 4, 5, 5, 6, 2, 3, 3, 4, 3, 4, 4, 5, 3, 4, 4, 5, 4, 5, 5, 6, 3, 4, 4, 5, 4, 5, 5, 6, 4, 5, 5, 6, 5, 6, 6, 7, 2, 3, 3, 4, 3, 4, 4, 5, 3, 4, 4, 5, 4, 5, 5, 6, 3, 4, 4, 5, 4, 5, 5, 6, 4, 5, 5, 6, 5, 6, 6, 7, 3, 4, 4, 5, 4, 5, 5, 6, 4, 5, 5, 6, 5, 6, 6, 7, 4, 5, 5, 6, 5, 6, 6, 7, 5, 6, 6, 7, 6, 7, 7, 8]⟩
def pop8 (j : Nat) : Nat := j % 2 + j / 2 % 2 + j / 4 % 2 + j / 8 % 2 + j / 16 % 2 + j / 32 % 2 + j / 64 % 2 + j / 128 % 2
theorem A1k : ∀ j, j < 256 → E0k[j]? = some (UInt8.ofNat (pop8 j)) ∧ pop8 j ≤ 8 := by decide +kernel
def Ri (s : Nat) : Nat := pop8 (s / 16777216) + pop8 (s / 65536 &&& 255) + pop8 (s / 256 &&& 255) + pop8 (s &&& 255)
theorem C5i : ∀ k, k < 24 → Ri (2 ^ k) = 1 := by decide +kernel
theorem B8z : Ri 0 = 0 := by decide
theorem B2b (s : Nat) : s &&& 255 < 256 := Nat.lt_of_le_of_lt Nat.and_le_right Iy
section
variable {tn : Bool} {pn : Nat} {P : Program} [Tab P] {f : FuncId} {R : Ending → World → Prop} {B : Cj} {n : Fz} {K : List Item} {ops : Array Oper} {i : Nat} {l fin : List Nat} {σ : Nat → Value} {Γ : List Fact} {Ms Ms2 : List Be}
variable {dst : Option Tmp} {op : Op} {ty : TypeId} {pos : String} {after : Array Edge} {v : Value} {x y z : Operand}
theorem B4f {t : TypeId} {s : ByteArray} {j : Nat} (hu : Tab.und P t = some .string) (hx : ev σ x = .string s) (hs : s = E0k) (hy : ev σ y = .int .u32 (j : Int)) (hj : j < 256) : D4 P σ (.index t x y) ty (.int .u8 (pop8 j : Nat)) := fun w => by
 subst hs
 have h := (A1k j hj)
 have e : ((UInt8.ofNat (pop8 j)).toNat : Int) = (pop8 j : Nat) := by
  rw [UInt8.toNat_ofNat']
  have := h.2
  omega
 simp [D0, execOp, hx, hy, Instr.index, asIntOf, Dc hu, h.1]
 have := h.2
 omega
theorem D0o {t t' : TypeId} {a b : Nat} (hx : ev σ x = .int .u8 (a : Nat)) (hy : ev σ y = .int .u8 (b : Nat)) (h : a + b < 256) : D4 P σ (.binOp .add t x y t') ty (.int .u8 ((a + b : Nat) : Int)) :=
 Dw hx hy (fun w => Cf w) (fun w => by
  have e : IntKind.u8.wrap ((a : Int) + (b : Int)) = ((a + b : Nat) : Int) := by simp [IntKind.wrap, IntKind.signed, IntKind.bits]; omega
  show Result.ok (Value.int .u8 (IntKind.u8.wrap ((a : Int) + (b : Int)))) w = _
  rw [e])
theorem C5o {s d : TypeId} {ds : TypeDesc} {a : Nat} (hs : Tab.und P s = some ds) (hd : Tab.und P d = some (.int .i64)) (hx : ev σ x = .int .u8 (a : Nat)) (ha : a < 256) : D4 P σ (.convert s d x) ty (.int .i64 (a : Int)) := by
 have h := Nr hs hd hx (ty := ty)
 rwa [show IntKind.i64.wrap (a : Int) = (a : Int) by rw [IntKind.wrap_i64]; omega] at h
theorem A0a {t : TypeId} {s : ByteArray} {j : Nat} (k_ : NV tn pn P f R B n K ops fin l (Ao σ dst (.int .u8 (pop8 j : Nat))) Γ Ms) (hx : ev σ x = .string s := by exact Aa) (hy : ev σ y = .int .u32 (j : Int) := by exact Aa) (hs : s = E0k := by rfl) (hu : Tab.und P t = some .string := by rfl) (hj : j < 256 := by first | omega | exact B2b _) (hd : Ag n dst = true := by rfl) : Kx tn pn P f R B n K ops fin i l dst (.index t x y) ty σ Γ Ms := Dp (B4f hu hx hs hy hj) hd k_
theorem A9i {t t' : TypeId} {a b : Nat} (k_ : NV tn pn P f R B n K ops fin l (Ao σ dst (.int .u8 ((a + b : Nat) : Int))) Γ Ms) (hx : ev σ x = .int .u8 (a : Nat) := by exact Aa) (hy : ev σ y = .int .u8 (b : Nat) := by exact Aa) (h : a + b < 256 := by omega) (hd : Ag n dst = true := by rfl) : Kx tn pn P f R B n K ops fin i l dst (.binOp .add t x y t') ty σ Γ Ms := Dp (D0o hx hy h) hd k_
theorem C8u {s d : TypeId} {ds : TypeDesc} {a : Nat} (k_ : NV tn pn P f R B n K ops fin l (Ao σ dst (.int .i64 (a : Int))) Γ Ms) (hx : ev σ x = .int .u8 (a : Nat) := by exact Aa) (hs : Tab.und P s = some ds := by rfl) (hd' : Tab.und P d = some (.int .i64) := by rfl) (ha : a < 256 := by omega) (hd : Ag n dst = true := by rfl) : Kx tn pn P f R B n K ops fin i l dst (.convert s d x) ty σ Γ Ms := Dp (C5o hs hd' hx ha) hd k_
end
theorem V6 {l : List Cl} (h : (Bb l).1 ≠ 0) : (Bb l).2 = [] := by
 unfold Bb at h ⊢
 split
 ·rfl
 ·rename_i h1
  rw [if_neg h1] at h
  split
  ·rfl
  ·rename_i h2
   rw [if_neg h2] at h
   exact absurd rfl h
theorem A5k {l : List Cl} {f b : Int} (hl : A6 l = true) (h0 : 0 ≤ f) (hb : 0 ≤ b) (h : b = 0 ∨ 24 ≤ f) : A3 l f b = (0, l) := by
 obtain ⟨hr, _⟩ := X6 hl
 have key : ∀ c, c ∈ l → B1 c f b = (0, c) := fun c hc => by
  obtain ⟨h2, h3⟩ := Gg.mp (hr c hc)
  unfold B1
  rw [if_neg (by rw [hr c hc]; simp), Tg h2 h0 hb h, Tg h3 h0 hb h]
  simp
 have hf : Fh (fun c => B1 c f b) l = (0, l) := by
  unfold Fh
  rw [List.find?_eq_none.mpr (fun c hc => by show ¬ decide ((B1 c f b).1 ≠ 0) = true; rw [key c hc]; simp)]
  simp only
  congr 1
  conv => rhs; rw [← List.map_id l]
  exact List.map_congr_left (fun c hc => by rw [key c hc]; rfl)
 unfold A3
 rw [if_neg (by rw [hl]; simp), hf, if_neg D6]
 have := Wv l
 rw [hl, Bool.and_eq_true, decide_eq_true_eq, decide_eq_true_eq] at this
 exact Prod.ext this.1 this.2
theorem Ik {l : List Cl} {f b : Int} (hl : A6 l = true) (h0 : 0 ≤ f) (hb : 0 ≤ b) : Aq b l f = if (A3 l f b).1 = 0 then .ok (A3 l f b).2 else .bad (A3 l f b).1 := by
 unfold Aq
 by_cases h : b = 0 ∨ 24 ≤ f
 ·rw [if_pos h, A5k hl h0 hb h]; rfl
 ·rw [if_neg h]
theorem D3b {l : List Cl} {f b : Int} : 0 ≤ (A3 l f b).1 := by
 have hl : ∀ m : List Cl, 0 ≤ (Bb m).1 := fun m => by rcases Hj m with h | h | h <;> omega
 unfold A3
 split
 ·exact (show (0 : Int) ≤ 2 by omega)
 ·split
  ·unfold Fh
   split
   ·rename_i c _
    rcases C0s c f b with h | h | h <;> (simp only; omega)
   ·exact Int.le_refl 0
  ·exact hl _
theorem Z6 {l : List Cl} {f b e : Int} (h : Aq b l f = .bad e) : 0 < e := by
 unfold Aq at h
 split at h
 ·cases h
 ·split at h
  ·cases h
  ·rename_i h2
   injection h with h
   have := D3b (l := l) (f := f) (b := b)
   omega
theorem Wq {vb db : Int} : ∀ (t : T) {c : Int × Int} {e : Int}, B8 (As vb db) t c = .bad e → 0 < e := T.ind fun t ih c e h => by
 rcases Vt h with h1 | ⟨b, _, h1⟩ | ⟨p, hp, h1 | ⟨c', _, h2⟩⟩
 ·rw [F5] at h1
  rcases Bt h1 with h2 | ⟨g, _, h2⟩
  ·exact Z6 h2
  ·split at h2
   ·injection h2 with h2; omega
   ·cases h2
 ·rw [Gm] at h1
  rcases Bt h1 with h2 | ⟨g, _, h2⟩
  ·exact Z6 h2
  ·cases h2
 ·cases h1
 ·exact ih p hp h2
abbrev EL : Type := Int × List Cl
def El (i : Int) : Nat := if 0 ≤ i ∧ i < 24 then 2 ^ i.toNat else 0
def B2t (s : Nat) (i : Int) : Nat := if 0 ≤ i ∧ i < 24 then (s &&& 16777215) ||| 2 ^ i.toNat else s &&& 16777215
def Eb (s : Nat) (i : Int) : Nat := if 0 ≤ i ∧ i < 24 then Bg (s &&& 16777215) (2 ^ i.toNat) else s &&& 16777215
theorem L7 (i : Int) : B2t 0 i = El i := by unfold B2t El; split <;> simp
theorem Kt (i : Int) : El i < 16777216 := by
 unfold El
 split
 ·exact Nat.pow_lt_pow_right (n := 24) (a := 2) Iy A4
 ·decide
theorem Yx (s : Nat) (i : Int) : Eb s i < 16777216 := by
 unfold Eb
 split
 ·rw [show (16777216 : Nat) = 2 ^ 24 from rfl]
  exact Nat.lt_pow_two_of_testBit _ fun j hj => by
   rw [Fk, E6, decide_eq_false (show ¬ j < 24 by omega)]; simp
 ·exact Ig s
theorem D2w (s : Nat) (i : Int) : ((decide (0 ≤ i) && decide (i < 24)) && decide (((s / 2 ^ (min i.toNat 32) &&& 1 : Nat) : Int) = 1)) = Fv s i := by
 rw [D6y, Nat.and_one_is_mod]
 by_cases h : 0 ≤ i ∧ i < 24
 ·rw [show min i.toNat 32 = i.toNat by omega]
  congr 1
  exact decide_eq_decide.mpr A4
 ·have : (decide (0 ≤ i) && decide (i < 24)) = false := by simp; omega
  rw [this]; rfl
def Fu (i : Int) : Bool := decide (0 ≤ i) && decide (i < 24)
theorem C2a {i : Int} (h : Fu i = true) : Ri (El i &&& 16777215) = 1 := by
 have h1 : 0 ≤ i ∧ i < 24 := by unfold Fu at h; simpa using h
 have h2 := Kt i
 rw [A4f, Nat.mod_eq_of_lt A4]
 unfold El
 rw [if_pos h1]
 exact C5i _ A4
theorem B3v {i : Int} (h : Fu i = false) : Ri (El i &&& 16777215) = 0 := by
 have h1 : ¬ (0 ≤ i ∧ i < 24) := by unfold Fu at h; simp at h; omega
 unfold El
 rw [if_neg h1]
 exact B8z
theorem C1z (i : Int) : decide (((Ri (El i &&& 16777215) : Nat) : Int) = 1) = Fu i := by
 cases h : Fu i
 ·rw [B3v h]; rfl
 ·rw [C2a h]; rfl
theorem B3w (i : Int) : decide (((Ri (El i &&& 16777215) : Nat) : Int) = 0) = !Fu i := by
 cases h : Fu i
 ·rw [B3v h]; rfl
 ·rw [C2a h]; rfl
def E2 (x : EL) (k : List Cl → EL) : EL := if x.1 ≠ 0 then (x.1, []) else k x.2
theorem Bi {x : EL} {k : List Cl → EL} (h : x.1 ≠ 0) : E2 x k = (x.1, []) := if_pos h
theorem Bc {x : EL} {k : List Cl → EL} (h : x.1 = 0) : E2 x k = k x.2 := if_neg (by simp [h])
def C0 (g : List Cl → Cl → EL) : List Cl → List Cl → EL
 | h, [] => (0, h)
 | h, c :: cs => E2 (g h c) fun h' => C0 g h' cs
theorem A3h {g : List Cl → Cl → EL} : ∀ {l m h h' : List Cl}, C0 g h l = (0, h') → C0 g h (l ++ m) = C0 g h' m
 | [], m, h, h', e => by
  rw [C0, Prod.mk.injEq] at e
  rw [List.nil_append, e.2]
 | d :: l, m, h, h', e => by
  rw [C0] at e
  by_cases h0 : (g h d).1 = 0
  ·rw [Bc h0] at e
   rw [List.cons_append, C0, Bc h0]
   exact A3h e
  ·rw [Bi h0, Prod.mk.injEq] at e
   exact absurd e.1 h0
theorem Kn {g : List Cl → Cl → EL} {l h h' : List Cl} {i : Nat} (hi : i < l.length) (e : C0 g h (l.take i) = (0, h')) (h0 : (g h' (l.getD i Bo)).1 = 0) : C0 g h (l.take (i + 1)) = (0, (g h' (l.getD i Bo)).2) := by
 rw [Ai (d := Bo) hi, A3h e, C0, Bc h0, C0]
theorem Fo {g : List Cl → Cl → EL} {l h h' : List Cl} {i : Nat} (hi : i < l.length) (e : C0 g h (l.take i) = (0, h')) (h0 : (g h' (l.getD i Bo)).1 ≠ 0) : C0 g h l = ((g h' (l.getD i Bo)).1, []) := by
 have e2 : l = l.take i ++ l.getD i Bo :: l.drop (i + 1) := by rw [Cw (d := Bo) hi, List.getElem_cons_drop, List.take_append_drop]
 rw [e2, A3h e, ← e2, C0, Bi h0]
theorem Pu {g : List Cl → Cl → EL} {l h h' : List Cl} {i : Nat} (hi : i = l.length) (e : C0 g h (l.take i) = (0, h')) : C0 g h l = (0, h') := by
 rw [hi, List.take_length] at e
 exact e
def E7 (f g : List Cl) : EL := Bb (f ++ g)
def Jx (f g : List Cl) : List Cl := f.flatMap fun a => g.map fun b => E0 a b
def H6 (f g : List Cl) : EL := Bb (Jx f g)
def V3 (c : Cl) : List Cl := ((Ay c.pos).map fun i => (⟨0, El i⟩ : Cl)) ++ ((Ay c.neg).map fun i => (⟨El i, 0⟩ : Cl))
def B0i (c : Cl) : EL := Bb (V3 c)
def Dq (h : List Cl) (c : Cl) : EL := E2 (B0i c) fun o => H6 h o
def Mx (f : List Cl) : EL := C0 Dq [Bo] f
def Mw (f : List Cl) : EL := if A6 f then Mx f else (2, [])
def Cn (c : Cl) (i : Int) : Cl := ⟨Eb c.pos i, Eb c.neg i⟩
def Hv (i : Int) (r : List Cl) (c : Cl) : EL := if Fv c.pos i then H6 [Cn c i] r else (0, [Cn c i])
def Kh (i : Int) (r : List Cl) (c : Cl) (g : List Cl) : EL := if Fv c.neg i then E2 (Mx r) fun s => H6 g s else (0, g)
def Cp (i : Int) (r h : List Cl) (c : Cl) : EL := E2 (Hv i r c) fun g => E2 (Kh i r c g) fun g => E7 h g
theorem B0d {i : Int} {r h : List Cl} {c : Cl} {P : EL} (hP : Hv i r c = P) (h0 : P.1 ≠ 0) : Cp i r h c = (P.1, []) := by unfold Cp; rw [hP]; exact Bi h0
theorem Mq {i : Int} {r h : List Cl} {c : Cl} {P N : EL} (hP : Hv i r c = P) (h0 : P.1 = 0) (hN : Kh i r c P.2 = N) (h1 : N.1 ≠ 0) : Cp i r h c = (N.1, []) := by unfold Cp; rw [hP, Bc h0, hN]; exact Bi h1
theorem On {i : Int} {r h : List Cl} {c : Cl} {P N : EL} (hP : Hv i r c = P) (h0 : P.1 = 0) (hN : Kh i r c P.2 = N) (h1 : N.1 = 0) : Cp i r h c = E7 h N.2 := by unfold Cp; rw [hP, Bc h0, hN]; exact Bc h1
theorem A1j {i : Int} {r : List Cl} {c : Cl} {g : List Cl} {s : EL} (h : Fv c.neg i = true) (hs : s = Mx r) (h0 : s.1 ≠ 0) : Kh i r c g = (s.1, []) := by unfold Kh; rw [if_pos h, ← hs]; exact Bi h0
theorem Qh {i : Int} {r : List Cl} {c : Cl} {g : List Cl} {s m : EL} (h : Fv c.neg i = true) (hs : s = Mx r) (h0 : s.1 = 0) (hm : m = H6 g s.2) : Kh i r c g = m := by unfold Kh; rw [if_pos h, ← hs, hm]; exact Bc h0
theorem A6y {i : Int} {r : List Cl} {c : Cl} {g : List Cl} (h : Fv c.neg i = false) : Kh i r c g = (0, g) := by unfold Kh; rw [if_neg (by simp [h])]
def Bn (f : List Cl) (i : Int) (r : List Cl) : EL := if (A6 f && A6 r) = false then (2, []) else if Fu i = false then (2, []) else C0 (Cp i r) [] f
def Ef (l : List Cl) : List Cl := l.filter fun c => !I0 c
def Tc (f : List Cl) : EL := if A6 f then Bb (Ef f) else (2, [])
def F4 (r : List Cl) : EL := E2 (Mw r) Tc
def Hz (f g : List Cl) : EL := Bb (f.flatMap fun a => Ef (g.map fun b => E0 a b))
def Dm (i : Int) (r : List Cl) (c : Cl) : EL := if Fv c.pos i then E2 (Tc r) fun x => Hz [Cn c i] x else if Fv c.neg i then E2 (F4 r) fun x => Hz [Cn c i] x else (0, [Cn c i])
def Cx (i : Int) (r h : List Cl) (c : Cl) : EL := E2 (Dm i r c) fun g => E7 h g
theorem M8 {i : Int} {r h : List Cl} {c : Cl} {P : EL} (hP : Dm i r c = P) (h0 : P.1 = 0) : Cx i r h c = E7 h P.2 := by unfold Cx; rw [hP]; exact Bc h0
theorem Gi {i : Int} {r h : List Cl} {c : Cl} {P : EL} (hP : Dm i r c = P) (h0 : P.1 ≠ 0) : Cx i r h c = (P.1, []) := by unfold Cx; rw [hP]; exact Bi h0
theorem B1k {i : Int} {r : List Cl} {c : Cl} {q m : EL} (h : Fv c.pos i = true) (hq : q = Tc r) (h0 : q.1 = 0) (hm : m = Hz [Cn c i] q.2) : Dm i r c = m := by unfold Dm; rw [if_pos h, ← hq, hm]; exact Bc h0
theorem A5m {i : Int} {r : List Cl} {c : Cl} {q : EL} (h : Fv c.pos i = true) (hq : q = Tc r) (h0 : q.1 ≠ 0) : Dm i r c = (q.1, []) := by unfold Dm; rw [if_pos h, ← hq]; exact Bi h0
theorem B1l {i : Int} {r : List Cl} {c : Cl} {q m : EL} (h1 : Fv c.pos i = false) (h : Fv c.neg i = true) (hq : q = F4 r) (h0 : q.1 = 0) (hm : m = Hz [Cn c i] q.2) : Dm i r c = m := by unfold Dm; rw [if_neg (by simp [h1]), if_pos h, ← hq, hm]; exact Bc h0
theorem A5n {i : Int} {r : List Cl} {c : Cl} {q : EL} (h1 : Fv c.pos i = false) (h : Fv c.neg i = true) (hq : q = F4 r) (h0 : q.1 ≠ 0) : Dm i r c = (q.1, []) := by unfold Dm; rw [if_neg (by simp [h1]), if_pos h, ← hq]; exact Bi h0
theorem B6n {i : Int} {r : List Cl} {c : Cl} (h1 : Fv c.pos i = false) (h : Fv c.neg i = false) : Dm i r c = (0, [Cn c i]) := by unfold Dm; rw [if_neg (by simp [h1]), if_neg (by simp [h])]
def B6 (f : List Cl) (i : Int) (r : List Cl) : EL := if (A5 f && Fu i && A6 r) = false then (2, []) else C0 (Cx i r) [] f
def M6 (f g : List Cl) : EL := if (A5 f && A5 g) = false then (2, []) else E7 f g
abbrev Ma (x : EL) : Prop := Af x.2
theorem C5d {l m : List Cl} (h : Af l) (hs : ∀ c, c ∈ m → c ∈ l) (hl : m.length ≤ l.length) : Af m := ⟨fun c hc => h.1 c (hs c hc), by have := h.2; omega⟩
theorem N8 {l : List Cl} (h : ∀ c, c ∈ l → u32 c) : Ma (Bb l) := A7x h
theorem J8 {x : EL} {k : List Cl → EL} (h : x.1 = 0 → Ma (k x.2)) : Ma (E2 x k) := by
 by_cases h0 : x.1 = 0
 ·rw [Bc h0]; exact h h0
 ·rw [Bi h0]; exact Cd
theorem Wj {g : List Cl → Cl → EL} : ∀ {l h : List Cl}, (∀ h c, c ∈ l → Af h → Ma (g h c)) → Af h → Ma (C0 g h l)
 | [], h, _, h2 => h2
 | c :: l, h, h1, h2 => by
  rw [C0]
  exact J8 fun _ => Wj (fun h' d hd => h1 h' d (List.mem_cons_of_mem _ hd)) (h1 h c List.mem_cons_self h2)
theorem Ni {a b : Cl} (h : u32 a) (h2 : u32 b) : u32 (E0 a b) := ⟨Nat.or_lt_two_pow (n := 32) h.1 h2.1, Nat.or_lt_two_pow (n := 32) h.2 h2.2⟩
theorem A0u {f g : List Cl} (h : ∀ c, c ∈ f → u32 c) (h2 : ∀ c, c ∈ g → u32 c) : ∀ c, c ∈ f ++ g → u32 c := fun c hc => (List.mem_append.mp hc).elim (h c) (h2 c)
theorem A6b {f g : List Cl} (h : ∀ c, c ∈ f → u32 c) (h2 : ∀ c, c ∈ g → u32 c) : ∀ c, c ∈ Jx f g → u32 c := fun c hc => by
 obtain ⟨a, ha, hc⟩ := List.mem_flatMap.mp hc
 obtain ⟨b, hb, rfl⟩ := List.mem_map.mp hc
 exact Ni (h a ha) (h2 b hb)
theorem C1s (c : Cl) : ∀ d, d ∈ V3 c → u32 d := fun d hd => by
 rcases List.mem_append.mp hd with hd | hd
 ·obtain ⟨i, _, rfl⟩ := List.mem_map.mp hd
  exact ⟨by show (0 : Nat) < _; decide, by have := Kt i; show El i < 4294967296; omega⟩
 ·obtain ⟨i, _, rfl⟩ := List.mem_map.mp hd
  exact ⟨by have := Kt i; show El i < 4294967296; omega, by show (0 : Nat) < _; decide⟩
theorem F2 (c : Cl) (i : Int) : u32 (Cn c i) := ⟨by have := Yx c.pos i; show Eb c.pos i < _; omega, by have := Yx c.neg i; show Eb c.neg i < _; omega⟩
theorem Df {c : Cl} (h : u32 c) : Af [c] := ⟨fun d hd => by rw [List.mem_singleton] at hd; subst hd; exact h, by unfold reach; simp⟩
theorem Kj {f g : List Cl} (h : Af f) (h2 : Af g) : Ma (E7 f g) := N8 (A0u h.1 h2.1)
theorem M3 {f g : List Cl} (h : Af f) (h2 : Af g) : Ma (H6 f g) := N8 (A6b h.1 h2.1)
theorem C2n (c : Cl) : Ma (B0i c) := N8 (C1s c)
theorem Zd {h : List Cl} {c : Cl} (hh : Af h) : Ma (Dq h c) := J8 fun _ => M3 hh (C2n c)
theorem L9 : Af [Bo] := Df ⟨by decide, by decide⟩
theorem Qk (f : List Cl) : Ma (Mx f) := Wj (fun h c _ hh => Zd hh) L9
theorem B4n (f : List Cl) : Ma (Mw f) := by unfold Mw; split; exact Qk f; exact Cd
theorem B9g {i : Int} {r : List Cl} {c : Cl} (hr : Af r) : Ma (Hv i r c) := by
 unfold Hv
 split
 ·exact M3 (Df (F2 c i)) hr
 ·exact Df (F2 c i)
theorem B9h {i : Int} {r : List Cl} {c : Cl} {g : List Cl} (hg : Af g) : Ma (Kh i r c g) := by
 unfold Kh
 split
 ·exact J8 fun _ => M3 hg (Qk r)
 ·exact hg
theorem Zc {i : Int} {r h : List Cl} {c : Cl} (hr : Af r) (hh : Af h) : Ma (Cp i r h c) := by
 unfold Cp
 refine J8 fun _ => J8 fun _ => Kj hh ?_
 have h1 : Ma (Hv i r c) := B9g hr
 exact B9h h1
theorem B4p {f r : List Cl} {i : Int} (hr : Af r) : Ma (Bn f i r) := by
 unfold Bn
 split
 ·exact Cd
 ·split
  ·exact Cd
  ·exact Wj (fun h c _ hh => Zc hr hh) Cd
theorem V1 {l : List Cl} (h : Af l) : Af (Ef l) := C5d h (fun c hc => (List.mem_filter.mp hc).1) (List.length_filter_le _ _)
theorem Ya {f : List Cl} (h : Af f) : Ma (Tc f) := by unfold Tc; split; exact N8 (V1 h).1; exact Cd
theorem Nu (r : List Cl) : Ma (F4 r) := J8 fun _ => Ya (B4n r)
theorem Ld {f g : List Cl} (h : Af f) (h2 : Af g) : Ma (Hz f g) := N8 fun c hc => by
 obtain ⟨a, ha, hc⟩ := List.mem_flatMap.mp hc
 obtain ⟨b, hb, rfl⟩ := List.mem_map.mp (List.mem_filter.mp hc).1
 exact Ni (h.1 a ha) (h2.1 b hb)
theorem B0o {i : Int} {r : List Cl} {c : Cl} (hr : Af r) : Ma (Dm i r c) := by
 unfold Dm
 split
 ·exact J8 fun _ => Ld (Df (F2 c i)) (Ya hr)
 ·split
  ·exact J8 fun _ => Ld (Df (F2 c i)) (Nu r)
  ·exact Df (F2 c i)
theorem B0n {i : Int} {r h : List Cl} {c : Cl} (hr : Af r) (hh : Af h) : Ma (Cx i r h c) := J8 fun _ => Kj hh (B0o hr)
theorem B4q {f r : List Cl} {i : Int} (hr : Af r) : Ma (B6 f i r) := by
 unfold B6
 split
 ·exact Cd
 ·exact Wj (fun h c _ hh => B0n hr hh) Cd
abbrev Zx (x : EL) : Prop := x.2.length ≤ 64
theorem Dr (l : List Cl) : Zx (Bb l) := by
 rcases Hj l with ⟨_, _, h, h2⟩ | h | h
 ·show (Bb l).2.length ≤ 64; rw [h]; exact h2
 ·show (Bb l).2.length ≤ 64; rw [V6 A4]; decide
 ·show (Bb l).2.length ≤ 64; rw [V6 A4]; decide
theorem Sm {x : EL} {k : List Cl → EL} (h : x.1 = 0 → Zx (k x.2)) : Zx (E2 x k) := by
 by_cases h0 : x.1 = 0
 ·rw [Bc h0]; exact h h0
 ·rw [Bi h0]; show ([] : List Cl).length ≤ 64; decide
theorem B5s {g : List Cl → Cl → EL} : ∀ {l h : List Cl}, (∀ h c, c ∈ l → h.length ≤ 64 → Zx (g h c)) → h.length ≤ 64 → Zx (C0 g h l)
 | [], h, _, h2 => h2
 | c :: l, h, h1, h2 => by
  rw [C0]
  exact Sm fun _ => B5s (fun h' d hd => h1 h' d (List.mem_cons_of_mem _ hd)) (h1 h c List.mem_cons_self h2)
theorem Zj (h : List Cl) (c : Cl) : Zx (Dq h c) := Sm fun _ => Dr _
theorem C2z (f : List Cl) : Zx (Mx f) := B5s (fun h c _ _ => Zj h c) Iy
theorem B5r (i : Int) (r h : List Cl) (c : Cl) : Zx (Cp i r h c) := Sm fun _ => Sm fun _ => Dr _
theorem D1t (f : List Cl) : Zx (Tc f) := by unfold Tc; split; exact Dr _; (show ([] : List Cl).length ≤ 64; decide)
theorem B9t (r : List Cl) : Zx (F4 r) := Sm fun _ => D1t _
theorem Gw {f : List Cl} (h : A6 f = true) : f.length ≤ 64 := by
 unfold A6 at h
 simp only [Bool.and_eq_true, decide_eq_true_eq] at h
 exact h.2
theorem D0u (c : Cl) : (V3 c).length ≤ 48 := by
 unfold V3
 rw [List.length_append, List.length_map, List.length_map]
 have h1 : (Ay c.pos).length ≤ 24 := Le _ _
 have h2 : (Ay c.neg).length ≤ 24 := Le _ _
 omega
theorem D1q {s i : Nat} (h : i < (Ay s).length) : 0 ≤ (Ay s).getD i 0 ∧ (Ay s).getD i 0 < 24 := by
 have h1 := A7q (Ac (d := (0 : Int)) h)
 exact ⟨h1.1, by have := h1.2; exact_mod_cast this⟩
theorem B5n {s i : Nat} (h : i < (Ay s).length) : Ap ((Ay s).getD i 0) := by have := D1q h; unfold Ap; omega
theorem Yc (f g : List Cl) : (Jx f g).length = f.length * g.length := by
 unfold Jx
 induction f with
 | nil => simp
 | cons a f ih => rw [List.flatMap_cons, List.length_append, ih, List.length_map, List.length_cons, Nat.succ_mul]; omega
theorem B9q (f g : List Cl) (a : Cl) : Jx (f ++ [a]) g = Jx f g ++ g.map fun b => E0 a b := by unfold Jx; rw [List.flatMap_append]; simp
theorem Bm {ok : Nat → Prop} {l : List Cl} {a : SH} {w : World} (h : L4 ok l a w) : Af l := ⟨h.2, h.1.2.1⟩
def R2 (i : Int) : EL := if Fu i then (0, [⟨El i, 0⟩]) else (2, [])
theorem St.A2p {B : Cj} {Γ : List Fact} {Ms : List Be} {w : World} {e : TypeId} {b : Nat} {l m : List Cl} {a a' : SH} (hs : St B Γ (Ad b [sl a l.length, sl a' m.length] e :: Ms) w) {hBp : Prop} (hB : hBp) (hF : CL l a ∈ Γ) (hG : CL m a' ∈ Γ) : St B (Md [(l, a), (m, a')] (some ⟨b, 0, Option.none⟩, 2) :: Γ) Ms w := by
 have h1 := ((hs.Jn (sz := 1) (m := 2) rfl Iy).A4h Rk).Yu (x := (l, a)) List.mem_cons_self (List.mem_cons_of_mem _ hF)
 have h2 := h1.Yu (x := (m, a')) List.mem_cons_self (List.mem_cons_of_mem _ (List.mem_cons_of_mem _ hG))
 exact (h2.N3 (F := D2) (E := Rk) (d := E8) (bt := 24) (l := [(l, a), (m, a')]) (fun _ => rfl) hB List.mem_cons_self rfl rfl Iy).less sx_
theorem St.D8y {B : Cj} {Γ : List Fact} {Ms : List Be} {w : World} {b : Nat} {e : TypeId} {cs : List Value} {c : Cl} (hs : St B Γ (Ad b cs e :: Ms) w) {hBp : Prop} (hB : hBp) (hc : cs = Aw c) (hu : u32 c) : St B (CL [c] (some ⟨b, 0, Option.none⟩, 1) :: Γ) Ms w :=
 (hs.Jn (sz := 2) (m := 1) (by rw [hc]; rfl) Iy).Ci (l := [c]) hB (by rw [hc]; simp [A8]) rfl (Df hu).2 (Df hu).1
theorem Spec.Kg {P : Program} {k : FuncId} {args : Array Value} {pre : List Fact} {e : TypeId} {r r' : EL} (he : r' = r) (h : Spec P k args pre [] (fun x : SH => .tuple #[sl x r.2.length, .int .i64 r.1]) (fun _ => []) (fun x => [Aj 2 e x r.2.length (A8 r.2)])) (hr : Ma r) :
  Spec P k args pre [] (fun x : SH => .tuple #[sl x r'.2.length, .int .i64 r'.1]) (fun x => [CL r'.2 x]) (fun _ => []) := by
 subst he
 exact fun ok w hok hst => (h ok w hok hst).mono fun e w' hh => by
  obtain ⟨x, he, hs⟩ := hh
  exact ⟨x, he, hs.Ci trivial rfl rfl hr.2 hr.1⟩
theorem Spec.Jk {P : Program} {k : FuncId} {args : Array Value} {pre : List Fact} {e : TypeId} {r r' : EL} (he : r' = r) (h : Spec P k args pre [] (fun x : SH => .tuple #[sl x r.2.length, .int .i64 r.1]) (fun _ => []) (fun x => [Aj 2 e x r.2.length (A8 r.2)])) :
  Spec P k args pre [] (fun x : SH => .tuple #[sl x r'.2.length, .int .i64 r'.1]) (fun _ => []) (fun x => [Aj 2 e x r'.2.length (A8 r'.2)]) := by
 subst he
 exact h
structure Ej where
 form : Int → List Cl → EL
 Al : Int → List Cl → EL
def Vg (x : EL) : Ab (List Cl) := if x.1 = 0 then .ok x.2 else .bad x.1
theorem Ym {x : EL} (h : x.1 = 0) : Vg x = .ok x.2 := if_pos h
theorem A0j {x : EL} (h : x.1 ≠ 0) : Vg x = .bad x.1 := if_neg h
theorem O3 {x : EL} {g : List Cl} : Vg x = .ok g ↔ x = (0, g) := by
 unfold Vg
 split
 ·rename_i h
  constructor
  ·intro h2; injection h2 with h2; exact Prod.ext h h2
  ·rintro rfl; rfl
 ·rename_i h
  constructor
  ·intro h2; cases h2
  ·rintro rfl; exact absurd rfl h
theorem Ov {x : EL} {e : Int} : Vg x = .bad e ↔ x.1 = e ∧ e ≠ 0 := by
 unfold Vg
 split
 ·rename_i h
  constructor
  ·intro h2; cases h2
  ·rintro ⟨h2, h3⟩; exact absurd (h2.symm.trans h) h3
 ·rename_i h
  constructor
  ·intro h2; injection h2 with h2; exact ⟨h2, h2 ▸ h⟩
  ·rintro ⟨h2, h3⟩; rw [h2]
def Ej.row (W : Ej) (k d : Int) (r : List Cl) : EL := if k = 14 then W.Al d r else W.form d r
def Bx (W : Ej) : Tr Int where
 own d k n _ r := (Vg (W.row k d r)).bind fun g => .ok (.inr (n, g))
 Al d f := (Vg (W.Al d f)).bind fun g => .ok (if g.length = 0 then none else some g)
 Jf d b := .ok (d + b.2)
theorem B3m {W : Ej} {d : Int} {b : Int × Int} : (Bx W).Jf d b = .ok (d + b.2) := rfl
theorem S6 {W : Ej} {d k n : Int} {nm : ByteArray} {r : List Cl} (h : (W.row k d r).1 = 0) : (Bx W).own d k n nm r = .ok (.inr (n, (W.row k d r).2)) := by
 show (Vg _).bind _ = _; rw [Ym h]; rfl
theorem A9z {W : Ej} {d k n : Int} {nm : ByteArray} {r : List Cl} (h : (W.row k d r).1 ≠ 0) : (Bx W).own d k n nm r = .bad (W.row k d r).1 := by
 show (Vg _).bind _ = _; rw [A0j h]; rfl
theorem Qe {W : Ej} {d k n : Int} {nm : ByteArray} {r : List Cl} {p : Int × List Cl} : (Bx W).own d k n nm r = .ok (.inr p) ↔ W.row k d r = (0, p.2) ∧ p.1 = n := by
 constructor
 ·intro h
  obtain ⟨g, hg, h2⟩ := Ab.A2 (x := Vg (W.row k d r)) h
  injection h2 with h2; injection h2 with h2; subst h2
  exact ⟨O3.mp hg, rfl⟩
 ·rintro ⟨h1, h2⟩
  rw [S6 (by rw [h1]), h1, ← h2]
theorem Mp {W : Ej} {d k n : Int} {nm : ByteArray} {r : List Cl} {u : T} : (Bx W).own d k n nm r ≠ .ok (.inl u) := by
 intro h
 obtain ⟨g, hg, h2⟩ := Ab.A2 (x := Vg (W.row k d r)) h
 injection h2 with h2; cases h2
theorem Y2 {W : Ej} {d k n e : Int} {nm : ByteArray} {r : List Cl} : (Bx W).own d k n nm r = .bad e ↔ (W.row k d r).1 = e ∧ e ≠ 0 := by
 rw [← Ov]
 show (Vg _).bind _ = _ ↔ _
 cases Vg (W.row k d r) with
 | ok g => constructor <;> (intro h; cases h)
 | bad e' => exact Iff.intro (fun h => by injection h with h; rw [h]) (fun h => by injection h with h; rw [h]; rfl)
theorem S8 {W : Ej} {d : Int} {f : List Cl} (h : (W.Al d f).1 = 0) (h2 : (W.Al d f).2.length = 0) : (Bx W).Al d f = .ok none := by
 show (Vg _).bind _ = _; rw [Ym h]; show Ab.ok (if _ then _ else _) = _; rw [if_pos h2]
theorem S7 {W : Ej} {d : Int} {f : List Cl} (h : (W.Al d f).1 = 0) (h2 : (W.Al d f).2.length ≠ 0) : (Bx W).Al d f = .ok (some (W.Al d f).2) := by
 show (Vg _).bind _ = _; rw [Ym h]; show Ab.ok (if _ then _ else _) = _; rw [if_neg h2]
theorem A4x {W : Ej} {d : Int} {f : List Cl} (h : (W.Al d f).1 ≠ 0) : (Bx W).Al d f = .bad (W.Al d f).1 := by
 show (Vg _).bind _ = _; rw [A0j h]; rfl
theorem Jj {W : Ej} {d : Int} {f : List Cl} : (Bx W).Al d f = .ok none ↔ W.Al d f = (0, []) := by
 constructor
 ·intro h
  obtain ⟨g, hg, h2⟩ := Ab.A2 (x := Vg (W.Al d f)) h
  injection h2 with h2
  rw [O3.mp hg]
  split at h2
  ·rename_i h3; rw [List.eq_nil_of_length_eq_zero h3]
  ·cases h2
 ·intro h; exact S8 (by rw [h]) (by rw [h]; rfl)
theorem Ji {W : Ej} {d : Int} {f g : List Cl} : (Bx W).Al d f = .ok (some g) ↔ W.Al d f = (0, g) ∧ g ≠ [] := by
 constructor
 ·intro h
  obtain ⟨g', hg, h2⟩ := Ab.A2 (x := Vg (W.Al d f)) h
  injection h2 with h2
  split at h2
  ·cases h2
  ·rename_i h3
   injection h2 with h2; subst h2
   exact ⟨O3.mp hg, fun h => h3 (by rw [h]; rfl)⟩
 ·rintro ⟨h, h2⟩
  have h3 := S7 (W := W) (d := d) (f := f) (by rw [h]) (by rw [h]; intro h4; exact h2 (List.eq_nil_of_length_eq_zero h4))
  rw [h3, h]
theorem W7 {W : Ej} {d e : Int} {f : List Cl} : (Bx W).Al d f = .bad e ↔ (W.Al d f).1 = e ∧ e ≠ 0 := by
 rw [← Ov]
 show (Vg _).bind _ = _ ↔ _
 cases Vg (W.Al d f) with
 | ok g => constructor <;> (intro h; cases h)
 | bad e' => exact Iff.intro (fun h => by injection h with h; rw [h]) (fun h => by injection h with h; rw [h]; rfl)
def F6 (g : Nat → T → Ab T) : Nat → List T → Ab (List T)
 | _, [] => .ok []
 | i, t :: ts => (g i t).bind fun t' => (F6 g (i + 1) ts).bind fun ts' => .ok (t' :: ts')
section
variable {g : Nat → T → Ab T}
theorem Va : ∀ (i : Nat) (l : List T) (t : T), F6 g i (l ++ [t]) = (F6 g i l).bind fun l' => (g (i + l.length) t).bind fun t' => .ok (l' ++ [t'])
 | i, [], t => by
  simp only [List.nil_append, F6, Ab.bind, List.length_nil, Nat.add_zero]
 | i, a :: l, t => by
  simp only [List.cons_append, F6, Va (i + 1) l t, List.length_cons]
  rw [show i + 1 + l.length = i + (l.length + 1) by omega]
  cases g i a with
  | bad e => rfl
  | ok a' =>
   simp only [Ab.bind]
   cases F6 g (i + 1) l with
   | bad e => rfl
   | ok l' =>
    simp only
    cases g (i + (l.length + 1)) t with
    | bad e => rfl
    | ok c2 => rfl
theorem A8i {e : Int} : ∀ {l m : List T} {i : Nat}, F6 g i l = .bad e → F6 g i (l ++ m) = .bad e
 | [], m, i, h => by rw [F6] at h; cases h
 | a :: l, m, i, h => by
  rw [List.cons_append, F6]
  rw [F6] at h
  cases h1 : g i a with
  | bad e' => rw [h1] at h; exact h
  | ok a' =>
   rw [h1] at h
   simp only [Ab.bind] at h ⊢
   cases h3 : F6 g (i + 1) l with
   | bad e' => rw [h3] at h; rw [A8i h3]; exact h
   | ok l' => rw [h3] at h; cases h
theorem B6u {l us : List T} {i : Nat} {u : T} (hi : i < l.length) (h : F6 g 0 (l.take i) = .ok us) (hu : g i (l.getD i t0) = .ok u) : F6 g 0 (l.take (i + 1)) = .ok (us ++ [u]) := by
 rw [Ai (d := t0) hi, Va, h]
 simp only [Ab.bind, List.length_take, Nat.zero_add, Nat.min_eq_left (Nat.le_of_lt hi)]
 rw [hu]
theorem B1r {l us : List T} {i : Nat} {e : Int} (hi : i < l.length) (h : F6 g 0 (l.take i) = .ok us) (hu : g i (l.getD i t0) = .bad e) : F6 g 0 l = .bad e := by
 have h1 : F6 g 0 (l.take (i + 1)) = .bad e := by
  rw [Ai (d := t0) hi, Va, h]
  simp only [Ab.bind, List.length_take, Nat.zero_add, Nat.min_eq_left (Nat.le_of_lt hi)]
  rw [hu]
 have h2 := A8i (m := l.drop (i + 1)) h1
 rwa [List.take_append_drop] at h2
theorem A8h : ∀ {l us : List T} {i : Nat}, F6 g i l = .ok us → us.length = l.length
 | [], us, i, h => by rw [F6] at h; injection h with h; subst h; rfl
 | a :: l, us, i, h => by
  rw [F6] at h
  obtain ⟨a', _, h⟩ := Ab.A2 h
  obtain ⟨l', h2, h⟩ := Ab.A2 h
  injection h with h; subst h
  simp [A8h h2]
theorem A8g {e : Int} : ∀ {l : List T} {i : Nat}, F6 g i l = .bad e → ∃ j t, t ∈ l ∧ g j t = .bad e
 | [], i, h => by rw [F6] at h; cases h
 | a :: l, i, h => by
  rw [F6] at h
  cases h1 : g i a with
  | bad e' => rw [h1] at h; injection h with h; subst h; exact ⟨i, a, List.mem_cons_self, h1⟩
  | ok a' =>
   rw [h1] at h
   simp only [Ab.bind] at h
   cases h3 : F6 g (i + 1) l with
   | bad e' => rw [h3] at h; injection h with h; subst h; obtain ⟨j, t, ht, hj⟩ := A8g h3; exact ⟨j, t, List.mem_cons_of_mem _ ht, hj⟩
   | ok l' => rw [h3] at h; cases h
end
theorem Xs {W : Ej} {k d : Int} : ∀ {i : Nat} {ts : List T}, Cm (Bx W) k i ts d = F6 (fun j t => B8 (Bx W) t (d + (binds k j).2)) i ts
 | i, [] => by rw [Ch, F6]
 | i, t :: ts => by rw [Cr, F6, B3m, Xs (i := i + 1) (ts := ts)]; rfl
theorem Xq {W : Ej} {k d : Int} : ∀ {i : Nat} {ts : List T}, C2 (Bx W) k ts d = F6 (fun _ t => B8 (Bx W) t (d + more k)) i ts
 | i, [] => by rw [D3, F6]
 | i, t :: ts => by rw [Cq, F6, B3m, Xq (i := i + 1) (ts := ts)]; rfl
theorem Uh {C : Type} {A : Tr C} {k : Int} {c : C} {ss : List Br} {s : Nat} {bs : List Br} (hs : s < ss.length) (hb : C9 A k (ss.take s) c = .ok bs) (hf : A.Al c (ss.getD s Bj).Al = .ok none) : C9 A k (ss.take (s + 1)) c = .ok bs := by
 rw [Ai (d := Bj) hs, Nk, hb]
 simp only [Ab.bind]
 rw [hf]
theorem Ug {C : Type} {A : Tr C} {t : T} {c : C} {e : Int} {p : Int × List Cl} (h : A.own c t.kind t.n t.name t.r = .ok (.inr p)) (hl : Cm A t.kind 0 t.kids c = .bad e) : B8 A t c = .bad e := by
 rw [Da, h]; simp only [Ab.bind]; rw [hl]
def R6 (r : Ab (List T)) : Int × List T := match r with
 | .ok u => (0, u)
 | .bad e => (e, [])
theorem C7y {r : Ab T} (h : (I1 r).1 ≠ 0) : r = .bad (I1 r).1 := by
 cases r with
 | ok u => exact absurd rfl h
 | bad e => rfl
theorem D4f {r : Ab T} (hb : ∀ e, r = .bad e → e ≠ 0) (h : (I1 r).1 = 0) : r = .ok (I1 r).2 := by
 cases r with
 | ok u => rfl
 | bad e => exact absurd h (hb e rfl)
theorem A4e {r : Ab (List T)} (h : (R6 r).1 ≠ 0) : r = .bad (R6 r).1 := by
 cases r with
 | ok u => exact absurd rfl h
 | bad e => rfl
theorem A8u {r : Ab (List T)} (hb : ∀ e, r = .bad e → e ≠ 0) (h : (R6 r).1 = 0) : r = .ok (R6 r).2 := by
 cases r with
 | ok u => rfl
 | bad e => exact absurd h (hb e rfl)
theorem M0 {W : Ej} : ∀ (t : T) {d e : Int}, B8 (Bx W) t d = .bad e → e ≠ 0 := T.ind fun t ih d e h => by
 rcases Vt h with h1 | ⟨b, _, h1⟩ | ⟨p, hp, h1 | ⟨c', _, h2⟩⟩
 ·exact (Y2.mp h1).2
 ·exact (W7.mp h1).2
 ·cases h1
 ·exact ih p hp h2
theorem Xa {W : Ej} {b : Nat → Int} {l : List T} {i : Nat} {e d : Int} (h : F6 (fun j t => B8 (Bx W) t (d + b j)) i l = .bad e) : e ≠ 0 := by
 obtain ⟨j, t, _, h1⟩ := A8g h
 exact M0 t h1
abbrev Db (W : Ej) (t : T) (d : Int) : Int × T := I1 (B8 (Bx W) t d)
abbrev Yy (W : Ej) (b : Nat → Int) (l : List T) (d : Int) : Int × List T := R6 (F6 (fun j t => B8 (Bx W) t (d + b j)) 0 l)
def C1 (P : List Cl → Int → List Cl → EL) (i : Int) (r : List Cl) (d : Int) (f : List Cl) : EL := if Fv (G3 f) (i + d) = false then (0, f) else E2 (A3 r 0 d) fun s => P f (i + d) s
def Sb (i : Int) (r : List Cl) : Ej := ⟨C1 Bn i r, C1 B6 i r⟩
def Dh (i : Int) (d : Int) (f : List Cl) : EL := Bb (f.map fun c => ⟨Fa c.pos (i + d), Fa c.neg (i + d)⟩)
def Ow (i : Int) : Ej := ⟨Dh i, Dh i⟩
theorem B2x {f : List Cl} {j : Int} {c : Cl} (hc : c ∈ f.map fun c => (⟨Fa c.pos j, Fa c.neg j⟩ : Cl)) : u32 c := by
 obtain ⟨e, _, rfl⟩ := List.mem_map.mp hc
 exact ⟨by have := Xc e.pos j; show Fa _ _ < _; omega, by have := Xc e.neg j; show Fa _ _ < _; omega⟩
theorem A9r {t k : T} (h : k ∈ t.kids) : size k < size t := by obtain ⟨p, hp, e⟩ := Hs h; exact e ▸ Kc hp
theorem A9q {t k : T} {b : Br} (h : b ∈ t.sys) (h2 : k ∈ b.kids) : size k < size t := by obtain ⟨p, hp, e⟩ := Hr h h2; exact e ▸ Kc hp
theorem Spec.E5u {P : Program} {k : FuncId} {args : Array Value} {pre : List Fact} {Ms0 : List Be} {y : Tys} {r r' : Int × T} (he : r' = r) (h : Spec P k args pre Ms0 (fun x : {h : HT // h.er = r.2} => .tuple #[.agg (tc r.2 x.1.vr x.1.vk x.1.vs).toArray, .int .i64 r.1]) (fun _ => []) (fun x => [Di (Gb y x.1)])) :
  Spec P k args pre Ms0 (fun x : {h : HT // h.er = r'.2} => .tuple #[.agg (tc r'.2 x.1.vr x.1.vk x.1.vs).toArray, .int .i64 r'.1]) (fun _ => []) (fun x => [Di (Gb y x.1)]) := by
 subst he
 exact h
theorem Spec.D8z {P : Program} {k : FuncId} {args : Array Value} {pre : List Fact} {Ms0 : List Be} {y : Tys} {e : TypeId} {r r' : Int × List T} (he : r' = r) (h : Spec P k args pre Ms0 (fun x : {p : List HT × SH // p.1.map HT.er = r.2} => .tuple #[sl x.1.2 r.2.length, .int .i64 r.1]) (fun _ => []) (fun x => [Aj 6 e x.1.2 r.2.length (Bl (x.1.1.map HT.tp)), Di (F9 y x.1.1)])) :
  Spec P k args pre Ms0 (fun x : {p : List HT × SH // p.1.map HT.er = r'.2} => .tuple #[sl x.1.2 r'.2.length, .int .i64 r'.1]) (fun _ => []) (fun x => [Aj 6 e x.1.2 r'.2.length (Bl (x.1.1.map HT.tp)), Di (F9 y x.1.1)]) := by
 subst he
 exact h
section
variable {W : Ej}
mutual
theorem Xo : ∀ {t u : T} {d : Int}, B8 (Bx W) t d = .ok u → size u ≤ size t
 | .mk k n nm r ks ss, u, d, hu => by
  rw [Da] at hu
  simp only [T.kind, T.n, T.name, T.r, T.kids, T.sys] at hu
  obtain ⟨o, h9, hu⟩ := Ab.A2 hu
  cases o with
  | inl v => exact absurd h9 Mp
  | inr p =>
   obtain ⟨ks', h10, hu⟩ := Ab.A2 hu
   obtain ⟨ss', h11, hu⟩ := Ab.A2 hu
   injection hu with hu
   subst hu
   rw [Es, Es]
   simp only [T.kids, T.sys]
   have h1 := A0q h10
   have h2 := Uy h11
   omega
theorem A0q {k : Int} : ∀ {ts us : List T} {i : Nat} {d : Int}, Cm (Bx W) k i ts d = .ok us → Eh us ≤ Eh ts
 | [], us, i, d, hu => by rw [Ch] at hu; injection hu with hu; subst hu; exact Nat.le_refl _
 | t :: ts, us, i, d, hu => by
  rw [Cr] at hu
  obtain ⟨c', _, hu⟩ := Ab.A2 hu
  obtain ⟨t', h2, hu⟩ := Ab.A2 hu
  obtain ⟨ts', h3, hu⟩ := Ab.A2 hu
  injection hu with hu
  subst hu
  have h4 := Xo h2
  have h5 := A0q h3
  simp only [Eh]
  omega
theorem A0p {k : Int} : ∀ {ts us : List T} {d : Int}, C2 (Bx W) k ts d = .ok us → Eh us ≤ Eh ts
 | [], us, d, hu => by rw [D3] at hu; injection hu with hu; subst hu; exact Nat.le_refl _
 | t :: ts, us, d, hu => by
  rw [Cq] at hu
  obtain ⟨c', _, hu⟩ := Ab.A2 hu
  obtain ⟨t', h2, hu⟩ := Ab.A2 hu
  obtain ⟨ts', h3, hu⟩ := Ab.A2 hu
  injection hu with hu
  subst hu
  have h4 := Xo h2
  have h5 := A0p h3
  simp only [Eh]
  omega
theorem Uy {k : Int} : ∀ {bs us : List Br} {d : Int}, C9 (Bx W) k bs d = .ok us → I5 us ≤ I5 bs
 | [], us, d, hu => by rw [C8] at hu; injection hu with hu; subst hu; exact Nat.le_refl _
 | .mk f ks :: bs, us, d, hu => by
  rw [Cc] at hu
  simp only [Br.Al, Br.kids] at hu
  obtain ⟨o, h5, hu⟩ := Ab.A2 hu
  cases o with
  | none => have h6 := Uy hu; simp only [I5]; omega
  | some g =>
   obtain ⟨ks', h7, hu⟩ := Ab.A2 hu
   obtain ⟨bs', h8, hu⟩ := Ab.A2 hu
   injection hu with hu
   subst hu
   have h1 := A0p h7
   have h2 := Uy h8
   simp only [I5, Br.kids]
   omega
end
theorem C8l (hW : ∀ d f, Af f → Ma (W.form d f) ∧ Ma (W.Al d f)) {t u : T} {d : Int} (h : Rp t) (hu : B8 (Bx W) t d = .ok u) : Rp u := by
 refine Vu (A := Bx W) ?_ ?_ ?_ t d u h hu
 ·intro c k n nm r p _ hn hr ho
  obtain ⟨h1, h2⟩ := Qe.mp ho
  have h3 := hW c r hr
  have h4 : Ma (W.row k c r) := by unfold Ej.row; split; exact h3.2; exact h3.1
  unfold Ma at h4
  rw [h1] at h4
  exact ⟨by rw [h2]; exact hn, h4⟩
 ·intro c k n nm r u ho
  exact absurd ho Mp
 ·intro c f f' hr ho
  obtain ⟨h1, _⟩ := Ji.mp ho
  have h3 := (hW c f hr).2
  unfold Ma at h3
  rw [h1] at h3
  exact h3
theorem A9p : size t0 = 1 := by decide
theorem C1d {t : T} {d : Int} : size (Db W t d).2 ≤ size t := by
 unfold Db
 cases h : B8 (Bx W) t d with
 | ok u => exact Xo h
 | bad e => show size t0 ≤ size t; rw [A9p]; exact size_pos' t
theorem Ys (hW : ∀ d f, Af f → Ma (W.form d f) ∧ Ma (W.Al d f)) {t : T} {d : Int} (h : Rp t) : Rp (Db W t d).2 := by
 unfold Db
 cases hu : B8 (Bx W) t d with
 | ok u => exact C8l hW h hu
 | bad e => exact V4
end
theorem A2b {P : List Cl → Int → List Cl → EL} (hP : ∀ f i r, Af f → Af r → Ma (P f i r)) {i d : Int} {r f : List Cl} (hf : Af f) : Ma (C1 P i r d f) := by
 unfold C1
 split
 ·exact hf
 ·exact J8 fun _ => hP _ _ _ hf (K0 r 0 d)
theorem C2l (i : Int) (r : List Cl) : ∀ d f, Af f → Ma ((Sb i r).form d f) ∧ Ma ((Sb i r).Al d f) := fun d f hf =>
 ⟨A2b (fun f i r _ hr => B4p hr) hf, A2b (fun f i r _ hr => B4q hr) hf⟩
theorem B4r {i d : Int} {f : List Cl} (hf : Af f) : Ma (Dh i d f) := N8 fun c hc => B2x hc
theorem D0x (i : Int) : ∀ d f, Af f → Ma ((Ow i).form d f) ∧ Ma ((Ow i).Al d f) := fun d f hf => ⟨B4r hf, B4r hf⟩
def A6j (x : Int × T) (k : T → Int × T) : Int × T := if x.1 ≠ 0 then (x.1, t0) else k x.2
theorem Xx {x : Int × T} {k : T → Int × T} (h : x.1 ≠ 0) : A6j x k = (x.1, t0) := if_pos h
theorem A0w {x : Int × T} {k : T → Int × T} (h : x.1 = 0) : A6j x k = k x.2 := if_neg (by simp [h])
section
variable {α : Type} {g : α → T → Int × T}
end
def Fb (t : T) (i : Int) (r : List Cl) : Int := if Ah t ≠ 0 then Ah t else if (Fu i && A6 r) = false then 2 else 0
def Bv (t : T) (i : Int) (r : List Cl) : Int × T := if Fb t i r ≠ 0 then (Fb t i r, t0) else if (A3 r i 1).1 ≠ 0 then ((A3 r i 1).1, t0) else A6j (Db (Sb i (A3 r i 1).2) t 0) fun x => Db (Ow i) x 0
theorem A0o {t : T} {i : Int} {r : List Cl} (h : Fb t i r = 0) : Ah t = 0 ∧ (0 ≤ i ∧ i < 24) ∧ A6 r = true := by
 unfold Fb at h
 split at h
 ·rename_i h1; exact absurd h h1
 ·rename_i h1
  split at h
  ·cases h
  ·rename_i h2
   simp only [Bool.not_eq_false, Bool.and_eq_true] at h2
   refine ⟨Decidable.not_not.mp h1, ?_, h2.2⟩
   have h3 := h2.1
   unfold Fu at h3
   simpa using h3
section
variable {P : Program} [Tab P] {f : FuncId} {R : Ending → World → Prop} {B : Cj} {n : Fz} {K : List Item} {ops : Array Oper} {l : List Nat} {σ : Nat → Value} {Γ : List Fact} {Ms : List Be} {dst : Option Tmp} {ty : TypeId} {x : Operand}
end
theorem Spec.C3o {P : Program} {k : FuncId} {args : Array Value} {pre L : List Fact} {G : Fact} {Ms0 : List Be} {X : Type} {val : X → Value} {N : X → List Fact} {Ms1 : X → List Be} (hp : ∀ F, F ∈ pre → F ∈ G :: L) (h : Spec P k args pre Ms0 val N Ms1) : Spec P k args [Mh L, G] Ms0 val N Ms1 := fun ok w hok hs =>
 h ok w hok ⟨hs.chg, fun F hF => by
  rcases List.mem_cons.mp (hp F hF) with e | e
  ·subst e; exact hs.facts _ (List.mem_cons_of_mem _ List.mem_cons_self)
  ·exact hs.facts (Mh L) List.mem_cons_self F e, hs.res, hs.lt, hs.disj⟩
theorem Spec.C1r {P : Program} {k : FuncId} {args : Array Value} {pre L : List Fact} {G : Fact} {Ms0 : List Be} {X : Type} {val : X → Value} {N : X → List Fact} {Ms1 : X → List Be} (hL : ∀ F, F ∈ L → F ∈ pre) (hG : G ∈ pre) (h : Spec P k args [Mh L, G] Ms0 val N Ms1) : Spec P k args pre Ms0 val N Ms1 := fun ok w hok hs =>
 h ok w hok ⟨hs.chg, fun F hF => by
  rcases List.mem_cons.mp hF with e | e
  ·subst e; exact fun F' hF' => hs.facts F' (hL F' hF')
  ·rw [List.mem_singleton] at e; subst e; exact hs.facts _ hG, hs.res, hs.lt, hs.disj⟩
end Go.Hy
namespace Go.Hy
open Go Go.ChangeShapes Go.WideShapes Go.RowKit Go.Shelf Go.Proofs
theorem Zy {C : Checked} {os : Os} {f : FuncId} {fn : Func} {s : ChangeSpec} {conds : List PathCond} {ts : List TypeId} {tb : TypeId} {H : Type} {enc : TypeId × Value → H} {L : List (String × DataW Unit)}
  (own : ownKnob C.prog.godebug = none) (started : os.Started) (noInit : C.prog.inits.idxOf? f = none) (hfn : C.prog.funcs[f]? = some fn)
  (witness : ∃ (w : World) (tape : Tape) (i : Input), w.os = os ∧ (w.forCall tape i).Shaped C.prog ∧ i.vars = [] ∧ Input.okWide C.prog (w.forCall tape i) .any w.heap.size f i ∧
   ((s.pre enc C.prog fn conds false (w.forCall tape i).memory i.args ∧ laidMetH C.prog L (w.forCall tape i).memory) ∧ sizedMet enc C.prog fn (OpenSpec.ofChange s) false (w.forCall tape i).memory i.args) ∧ Assume.holds {} C.prog (lone (Frame.enter C.prog f i.args .normal) [] (w.forCall tape i)))
  (laid : laidOutB C.prog = true) (hps : fn.params.toList = ts) (hread : ts.all (fun t => C.prog.readableRec t && decide (t < C.prog.types.size)) = true) (hres : fn.resultTypes = #[tb]) (hbool : C.prog.underlying tb = some .bool) (hvars : s.vars = [])
  (hsays : ∀ ds : List (DataW H), ds.length = ts.length → s.fn H ds = { results := [.lit (.bool true)], args := ds })
  (hcall : ∀ (W : World) (base : Nat) (args : Array Value) (ds : List (DataW H)) (p : List MemPlace), (∀ (j : Nat) t v, ts[j]? = some t → args[j]? = some v → Value.okWide C.prog W .any base t v) →
   DataW.TrodAll enc C.prog W 0 (fun _ => true) true ts args.toList ds p → (∀ x, x ∈ DataW.weightsEach C.prog ts ds → x ≤ reach) → laidMetH C.prog L W →
   Calls C.prog f args W fun e W' => e = .returned (.bool true) ∧ Below W.heap.size W W') :
  ReturnsInHanded {} C os f .any (fun w args => (s.pre enc C.prog fn conds false w args ∧ laidMetH C.prog L w) ∧ sizedMet enc C.prog fn (OpenSpec.ofChange s) false w args) (s.post enc C.prog fn false true false false) := by
 refine returnsInHanded_of_change_and (X := fun w _ => laidMetH C.prog L w) (fun _ _ _ hh h => h.of_heap hh) own started noInit hfn witness ?_
 intro W base args ds gs before hval hW hcnd hwt hL _
 have hW' := hW
 obtain ⟨p, q, hA, hV, rfl, hfz, hnd⟩ := hW
 rw [hvars] at hV
 obtain ⟨rfl, rfl⟩ := trodVars_none hV
 rw [hps] at hA hwt
 have hlen : ∀ {ts : List TypeId} {vs : List Value} {ds : List (DataW H)} {ps : List MemPlace}, DataW.TrodAll enc C.prog W 0 (fun _ => true) true ts vs ds ps → ds.length = ts.length := by
  intro ts
  induction ts with
  | nil => intro vs ds ps h; obtain ⟨_, rfl, _⟩ := trodAll_nil h; rfl
  | cons t ts ih =>
   intro vs ds ps h
   obtain ⟨v, vs1, d, ds1, a, b, rfl, rfl, rfl, _, h2⟩ := trodAll_cons h
   simp [ih h2]
 have hvt : s.plain.varTypes C.prog = [] := by
  have : s.plain.vars = [] := hvars
  unfold DataSpec.varTypes; rw [this]; rfl
 have hw2 : ∀ x, x ∈ DataW.weightsEach C.prog ts ds → x ≤ reach := by
  intro x hx
  rw [List.append_nil, hvt, List.append_nil] at hwt
  have := List.all_eq_true.mp hwt x hx
  exact of_decide_eq_true this
 refine (hcall W base args ds p (fun j t v ht hv => hval j t v (by rw [← Array.getElem?_toList, hps]; exact ht) hv) hA hw2 hL).mono ?_
 intro e W' ⟨he, hb⟩
 have hlt : ∀ x ∈ p, x.block < W.heap.size := fun x hx => hW'.lt x (by simpa using hx)
 refine ⟨.bool true, he, ds, [], p ++ [], [], p, [], hW', ?_, ?_, ?_, hb.frame _, fun h => by cases h⟩
 ·rw [List.append_nil, hsays ds (hlen hA), hres]
  exact ⟨[], [], ⟨1, by simp [DataW.trod, Value.cells, hbool]⟩, rfl, rfl⟩
 ·rw [List.append_nil, hsays ds (hlen hA), hps]
  refine Uf laid hb (fun t ht => ?_) hA hlt
  have := List.all_eq_true.mp hread t ht
  simpa using this
 ·rw [List.append_nil, hsays ds (hlen hA), hvars]
  rfl
theorem C9c {P : Program} {W : World} {nm : String} {t e : TypeId} {tab : List Nat} (hg : P.globalNamed nm = some 0) (ht : (P.globals[0]?).map (·.type) = some t) (hu : P.underlying t = some (.array tab.length e)) (he : P.underlying e = some (.int .u8)) (hc : P.cellsOf e = 1) (hc2 : P.cellsOf t = tab.length) (hpos : 0 < tab.length)
  (hp : ([(nm, (DataW.agg (tab.map fun (v : Nat) => .lit (.int .u8 (v : Int))) : DataW Unit))].all fun x => x.2.handleName?.isNone) = true) (h : laidMetH P [(nm, .agg (tab.map fun (v : Nat) => .lit (.int .u8 (v : Int))))] W) : TabAt 0 tab W ∧ 0 < W.heap.size := by
 rw [MakeChecks.laidMetH_plain _ _ _ hp] at h
 obtain ⟨ps, ⟨g0, t0, cs0, f0, p0, q0, hg0, ht0, hv0, hd0, _⟩, _⟩ := h
 obtain rfl := u_ hg hg0
 obtain rfl := u_ ht ht0
 obtain ⟨xs, m1, rfl, hx1, hlen, hn3, hel⟩ := DataW.trod_array hu hd0
 simp only [Prod.mk.injEq, DataW.agg.injEq] at hx1
 have hcell : ∀ j, j < tab.length → W.cell? ⟨0, j, none⟩ = some (.int .u8 (tab.getD j 0)) := by
  intro j hj
  have h1 := hel j hj
  rw [hc, Nat.mul_one, List.getElem?_eq_getElem A4] at h1
  obtain ⟨n, e1, e2, _⟩ := DataW.trod_int he h1
  have h2 := World.var?_cell hg0 hv0 j
  have h3 : cs0[j]? = some (.int .u8 n) := by
   have h4 := congrArg (fun l => l[0]?) e1
   simp only [List.getElem?_take, List.getElem?_drop, List.getElem?_cons_zero] at h4
   simpa using h4
  rw [h2, h3]
  have h5 : (tab.map fun (v : Nat) => (DataW.lit (.int .u8 (v : Int)) : DataW Unit))[j]? = (xs.map (·.1))[j]? := by rw [hx1.1]
  rw [List.getElem?_map, List.getElem?_map, List.getElem?_eq_getElem hj, List.getElem?_eq_getElem (show j < xs.length by omega)] at h5
  simp only [Option.map_some, Option.some.injEq] at h5
  rw [e2] at h5
  simp only [DataW.lit.injEq, Lit.int.injEq, true_and] at h5
  rw [List.getD_eq_getElem?_getD, List.getElem?_eq_getElem hj]
  simp [← h5]
 refine ⟨hcell, ?_⟩
 have h6 := hcell 0 hpos
 refine Nat.lt_of_not_le fun hz => ?_
 unfold World.cell? at h6
 rw [Array.getElem?_eq_none (show W.heap.size ≤ 0 from hz)] at h6
 simp at h6
theorem C9d {W : World} {tab : List Nat} (h : TabAt 0 tab W ∧ 0 < W.heap.size) : (At 0 0 (tab.map fun (v : Nat) => Value.int .u8 (v : Int))).f (okw W) W := by
 refine ⟨h.2, fun j v hj => ?_⟩
 rw [List.getElem?_map] at hj
 cases hq : tab[j]? with
 | none => rw [hq] at hj; cases hj
 | some k =>
  rw [hq] at hj
  injection hj with hj
  subst hj
  have hlt : j < tab.length := by
   refine Nat.lt_of_not_le fun hn => ?_
   rw [List.getElem?_eq_none hn] at hq
   cases hq
  have h1 := h.1 j hlt
  rw [List.getD_eq_getElem?_getD, hq] at h1
  rw [Nat.zero_add]
  exact h1
end Go.Hy
namespace Go.Hy
def Pf (l : List T) (VR VK VS : Nat → SH) : List TP := (List.range l.length).map fun i => (l.getD i t0, VR i, VK i, VS i)
theorem Xw (l : List T) (VR VK VS : Nat → SH) : (Pf l VR VK VS).length = l.length := by simp [Pf]
theorem C4s {l : List T} {VR VK VS : Nat → SH} {i : Nat} (h : i < l.length) : (Pf l VR VK VS).getD i tp0 = (l.getD i t0, VR i, VK i, VS i) := by
 unfold Pf
 rw [List.getD_eq_getElem?_getD, List.getElem?_map, List.getElem?_range h]
 rfl
theorem C4r (l : List T) (VR VK VS : Nat → SH) : (Pf l VR VK VS).map (·.1) = l := by
 refine List.ext_getElem (by simp [Pf]) fun i h1 h2 => ?_
 simp only [Pf, List.getElem_map, List.getElem_range]
 exact Cw (d := t0) h2
theorem D9w (l : List TP) : Hm (Bl l) = true := by
 unfold Hm
 rw [List.all_eq_true]
 intro v hv
 obtain ⟨c, _, hc⟩ := List.mem_flatMap.mp hv
 simp only [Gc, tc, List.mem_cons, List.not_mem_nil, or_false] at hc
 rcases hc with rfl | rfl | rfl | rfl | rfl | rfl <;> rfl
section
variable {P : Program} [Tab P] {B : Cj} {σ : Nat → Value} {Γ : List Fact} {Ms Ms2 : List Be} {ty : TypeId} {x y z : Operand} {v : Value}
theorem C8z {t e : TypeId} {ts : Array TypeId} {bt n : Nat} {zv : Value} {a b : SH} {xs : List Value} {l : List T} {VR VK VS : Nat → SH} (hm : Ms.Perm (Aj 6 e a n xs :: Ms2)) (hF : TLx l b VR VK VS ∈ Γ) (hx : ev σ x = sl a n) (hy : ev σ y = sl b l.length) (hts : ts = #[t, t]) (hu : Tab.und P t = some (.slice e)) (hi : Tab.inf P e = some (6, bt, zv)) (hzs : zv.cells.size = 6)
  (hb : (n + l.length) * bt ≤ 140737488355328) (hnm : n + l.length ≤ 9223372036854775807) :
  Sy P B σ Γ Ms (.call { callee := .builtin .append, args := #[x, y], argTypes := ts }) ty (fun a' : SH => sl a' (n + l.length)) (fun _ => Γ) (fun a' => Aj 6 e a' (n + l.length) (xs ++ Bl (Pf l VR VK VS)) :: Ms2) := by
 obtain ⟨bo, bc⟩ := b
 cases bo with
 | some ad =>
  refine Qc hts hu hi hzs A4 hx hy hm (fun w hs j u hj => ?_) (by rw [Ko (F := Gc) (sz := 6) (fun _ => rfl), Xw]) (D9w _) hb hnm
  obtain ⟨h1, h2⟩ := X3 (F := Gc) (sz := 6) (fun _ => rfl) tp0 (Pf l VR VK VS) j u hj
  rw [Xw] at h1
  rw [C4s h1] at h2
  have hcl : B2y (P4 B Ms w) l (some ad, bc) VR VK VS w := hs.facts _ hF
  obtain ⟨bk, o, hbk, _, hrow⟩ := hcl.1.2.2 A4
  injection hbk with hbk
  subst hbk
  have := hrow (j / 6) h1 (j % 6) u h2
  rw [Addr.add_lit]
  rwa [show o + j / 6 * 6 + j % 6 = o + j by omega] at this
 | none =>
  intro w hs
  have hs' := hs.perm hm
  have hcl : B2y (P4 B Ms w) l (none, bc) VR VK VS w := hs.facts _ hF
  have hl : l.length = 0 := by
   rcases Nat.eq_zero_or_pos l.length with h | h
   ·exact h
   ·obtain ⟨bk, o, hbk, _⟩ := hcl.1.2.2 h; cases hbk
  have hown : w.ownsRow 0 e 6 (sl a n) n xs := hs'.res _ List.mem_cons_self w (fun _ _ => rfl)
  have hl2 : l = [] := List.eq_nil_of_length_eq_zero hl
  subst hl2
  refine ⟨a, w, ?_, by simpa [Pf] using hs'⟩
  subst hts
  have hle : n ≤ a.2 := by
   rcases hown.2 with ⟨h1, h2⟩ | ⟨g, cap, cur, h1, _, _, h3, _⟩
   ·omega
   ·injection h1 with _ _ h1; omega
  obtain ⟨ao, ac⟩ := a
  simp only at hle
  cases ao with
  | none => simp [D0, execOp, resolve, invoke, builtin, hx, hy, sl, Builtin.append_, Dc hu, G7 hi, Builtin.lenOf, hle, Builtin.firstCells]
  | some ad => simp [D0, execOp, resolve, invoke, builtin, hx, hy, sl, Builtin.append_, Dc hu, G7 hi, Builtin.lenOf, hle, Builtin.firstCells, storeCells]
theorem C4w {hBp : Prop} (hB : hBp) {t e : TypeId} {ts : Array TypeId} {g bt : Nat} {zv : Value} {b : SH} {u : T} {ur uk us : SH} {l : List T} {VR VK VS : Nat → SH} (hU : RT u ur uk us ∈ Γ) (hF : TLx l b VR VK VS ∈ Γ) (hx : ev σ x = .slice (some ⟨g, 0, none⟩) 1 1) (hy : ev σ y = sl b l.length) (hts : ts = #[t, t]) (hu : Tab.und P t = some (.slice e)) (hi : Tab.inf P e = some (6, bt, zv)) (hzs : zv.cells.size = 6)
  (hb : (1 + l.length) * bt ≤ 140737488355328) (hnm : (1 + l.length) * 104 ≤ reach) (M : List Be) :
  Sy P B σ Γ ([Ad g (tc u ur uk us) e] ++ M) (.call { callee := .builtin .append, args := #[x, y], argTypes := ts }) ty (fun a' : SH => sl a' (1 + l.length)) (fun a' => [TL (u :: l) a'] ++ Γ) (fun _ => [] ++ M) := fun w hs => by
 have hs0 : St B Γ (Ad g (tc u ur uk us) e :: M) w := hs
 have h1 : St B Γ (Aj 6 e (some ⟨g, 0, none⟩, 1) 1 (tc u ur uk us) :: M) w := hs0.Jn (sz := 6) (m := 1) rfl Iy
 obtain ⟨a', w', hr, h2⟩ := C8z (P := P) (ty := ty) (List.Perm.refl _) hF hx hy hts hu hi hzs hb (by unfold reach at hnm; omega) w h1
 refine ⟨a', w', hr, ?_⟩
 have h3 : St B (AP ((u, ur, uk, us) :: Pf l VR VK VS) :: Γ) (Aj 6 e a' (1 + l.length) (tc u ur uk us ++ Bl (Pf l VR VK VS)) :: M) w' := h2.add (fun p hp => by
  rcases List.mem_cons.mp hp with rfl | hp
  ·exact h2.facts _ hU
  ·obtain ⟨i, hi, rfl⟩ := List.mem_map.mp hp
   have hi := List.mem_range.mp hi
   have hA : B2y _ l b VR VK VS w' := h2.facts _ hF
   exact Yt hA.2 (by rw [List.getElem?_eq_getElem hi, Cw (d := t0) hi]))
 have h4 := h3.Gt (ps := (u, ur, uk, us) :: Pf l VR VK VS) (ts := u :: l) hB List.mem_cons_self (by simp [Bl, Gc]) (by rw [List.map_cons, C4r]) (by rw [List.length_cons, Xw]; omega) (by exact hnm)
 exact h4.less sx_
end
section
variable {tn : Bool} {pn : Nat} {P : Program} [Tab P] {f : FuncId} {R : Ending → World → Prop} {B : Cj} {n : Fz} {K : List Item} {ops : Array Oper} {i : Nat} {l fin : List Nat} {σ : Nat → Value} {Γ : List Fact} {Ms Ms2 : List Be}
variable {dst : Option Tmp} {op : Op} {ty : TypeId} {x y : Operand}
theorem C8n {hBp : Prop} (hB : hBp) {t e : TypeId} {ts : Array TypeId} {g bt : Nat} {zv : Value} {b : SH} (u : T) (ur uk us : SH) (ls : List T) (VR VK VS : Nat → SH) (k_ : ∀ a' : SH, NV tn pn P f R B n K ops fin l (Ao σ dst (sl a' (1 + ls.length))) ([TL (u :: ls) a'] ++ Γ) ([] ++ Ms2)) (hm : Ms.Perm ([Ad g (tc u ur uk us) e] ++ Ms2)) (hU : RT u ur uk us ∈ Γ) (hF : TLx ls b VR VK VS ∈ Γ) (hnm : (1 + ls.length) * 104 ≤ reach) (hb : (1 + ls.length) * bt ≤ 140737488355328) (hx : ev σ x = .slice (some ⟨g, 0, none⟩) 1 1 := by rfl) (hy : ev σ y = sl b ls.length := by rfl) (hts : ts = #[t, t] := by rfl) (hu : Tab.und P t = some (.slice e) := by rfl) (hi : Tab.inf P e = some (6, bt, zv) := by rfl) (hzs : zv.cells.size = 6 := by rfl) (hd : Ag n dst = true := by rfl) (hz : Nat.beq pn 1000002 = true := by rfl) : Kx tn pn P f R B n K ops fin i l dst (.call { callee := .builtin .append, args := #[x, y], argTypes := ts }) ty σ Γ Ms :=
 B4x (F := fun a' => [TL (u :: ls) a']) (r := [Ad g (tc u ur uk us) e]) (r' := fun _ => []) (fun M => C4w hB hU hF hx hy hts hu hi hzs hb hnm M) rfl hd hm hz k_
end
end Go.Hy
