/- Contracts of this program's functions and the laws that they need. -/
import Derived.Lib.TrailingZeros
import Derived.LaidMore
import Derived.OpenShut
import Derived.Stop.Joined
import Derived.MakeChecks
import Derived.Shelf.Spec.TrailingZeros
import Derived.Test.YtibignmpjeemeaaGreatDoorP6
set_option linter.unusedVariables false
set_option linter.unusedSimpArgs false
set_option linter.unusedSectionVars false
namespace Go.Hy
theorem Jn {s : Nat} {f b : Int} (h : (An s f b).1 = 0) (i : Nat) : 0 ≤ f ∧ 0 ≤ b ∧ (An s f b).2.testBit i = ((decide (i < min f.toNat 24) && (s &&& 16777215).testBit i) || (decide (min f.toNat 24 + b.toNat ≤ i) && (s &&& 16777215).testBit (i - b.toNat))) := by
  by_cases h0 : f < 0 ∨ b < 0
  · rw [An, if_pos h0] at h; cases h
  · have hq : ∀ j, (s &&& 16777215).testBit j = true → j < 24 := fun j hj => by rw [Dy, Bool.and_eq_true, decide_eq_true_eq] at hj; exact hj.1
    refine ⟨by omega, by omega, ?_⟩
    generalize hF : min f.toNat 24 = F at *
    by_cases h1 : Bm (s &&& 16777215) (2 ^ (min f.toNat 24) - 1) = 0
    · rw [An, if_neg h0, if_pos h1]
      show ((s &&& 16777215) &&& (2 ^ (min f.toNat 24) - 1)).testBit i = _
      rw [hF] at h1 ⊢
      rw [Nat.testBit_and, M7]
      have h2 : (decide (F + b.toNat ≤ i) && (s &&& 16777215).testBit (i - b.toNat)) = false := by
        cases h3 : (s &&& 16777215).testBit (i - b.toNat) with
        | false => rw [Bool.and_false]
        | true =>
          rw [Bool.and_true]
          refine decide_eq_false (fun h4 => ?_)
          have h5 : (Bm (s &&& 16777215) (2 ^ F - 1)).testBit (i - b.toNat) = true := by
            rw [Gr, M7, h3, decide_eq_true (by have := hq _ h3; omega), decide_eq_false A2]; rfl
          rw [h1, Nat.zero_testBit] at h5
          cases h5
      rw [h2, Bool.or_false, Bool.and_comm]
    · by_cases h2 : 24 ≤ b ∨ 16777215 < Bm (s &&& 16777215) (2 ^ (min f.toNat 24) - 1) * 2 ^ b.toNat
      · rw [An, if_neg h0, if_neg h1, if_pos h2] at h; cases h
      · rw [An, if_neg h0, if_neg h1, if_neg h2]
        show (((s &&& 16777215) &&& (2 ^ (min f.toNat 24) - 1)) ||| (Bm (s &&& 16777215) (2 ^ (min f.toNat 24) - 1) * 2 ^ b.toNat)).testBit i = _
        rw [hF, Nat.testBit_or, Nat.testBit_and, M7, Nat.testBit_mul_two_pow, Gr, M7]
        cases h3 : (s &&& 16777215).testBit (i - b.toNat) with
        | false => simp [Bool.and_comm]
        | true =>
          have h4 := hq _ h3
          rw [decide_eq_true (show i - b.toNat < 32 by omega)]
          simp only [Bool.and_true, Bool.true_and]
          rw [Bool.and_comm]
          congr 1
          by_cases h5 : F + b.toNat ≤ i
          · rw [decide_eq_true (show b.toNat ≤ i by omega), decide_eq_false (show ¬ i - b.toNat < F by omega), decide_eq_true h5]; rfl
          · rw [decide_eq_false h5]
            by_cases h6 : b.toNat ≤ i
            · rw [decide_eq_true h6, decide_eq_true (show i - b.toNat < F by omega)]; rfl
            · rw [decide_eq_false h6]; rfl
theorem Zk {p q : Nat} {f b : Int} (hp : (An p f b).1 = 0) (hq : (An q f b).1 = 0) (h : p &&& q = 0) : (An p f b).2 &&& (An q f b).2 = 0 := by
  refine Nat.eq_of_testBit_eq (fun i => ?_)
  have hb : ∀ j, (p &&& 16777215).testBit j = true → (q &&& 16777215).testBit j = true → False := fun j h1 h2 => by
    rw [Dy, Bool.and_eq_true] at h1 h2
    have : (p &&& q).testBit j = true := by rw [Nat.testBit_and, h1.2, h2.2]; rfl
    rw [h, Nat.zero_testBit] at this
    cases this
  rw [Nat.testBit_and, (Jn hp i).2.2, (Jn hq i).2.2, Nat.zero_testBit]
  cases h1 : (p &&& 16777215).testBit i <;> cases h2 : (q &&& 16777215).testBit i <;> cases h3 : (p &&& 16777215).testBit (i - b.toNat) <;> cases h4 : (q &&& 16777215).testBit (i - b.toNat) <;> first
    | exact (hb _ h1 h2).elim
    | exact (hb _ h3 h4).elim
    | (simp only [Bool.and_true, Bool.and_false, Bool.or_false, Bool.false_or, Bool.and_eq_false_iff, decide_eq_false_iff_not]; done)
    | (by_cases h5 : i < min f.toNat 24
       · rw [decide_eq_true h5, decide_eq_false (show ¬ min f.toNat 24 + b.toNat ≤ i by omega)]; simp
       · rw [decide_eq_false h5]; simp)
theorem We {c : Cl} {f b : Int} (h : (Bl c f b).1 = 0) : Bw c = true ∧ (An c.pos f b).1 = 0 ∧ (An c.neg f b).1 = 0 ∧ (Bl c f b).2 = ⟨(An c.pos f b).2, (An c.neg f b).2⟩ := by
  unfold Bl at h ⊢
  split at h
  · cases h
  · rename_i h1
    split at h
    · rename_i h2; exact absurd h h2
    · rename_i h2
      split at h
      · rename_i h3; exact absurd h h3
      · rename_i h3
        rw [if_neg h1, if_neg h2, if_neg h3]
        exact ⟨by simpa using h1, Decidable.not_not.mp h2, Decidable.not_not.mp h3, rfl⟩
theorem A8m {c : Cl} {f b : Int} (h : (Bl c f b).1 = 0) (hc : Gy c = false) : Gy (Bl c f b).2 = false := by
  obtain ⟨_, h1, h2, h3⟩ := We h
  rw [h3]
  unfold Gy at hc ⊢
  have h4 : c.pos &&& c.neg = 0 := Decidable.not_not.mp (of_decide_eq_false hc)
  exact decide_eq_false (Decidable.not_not.mpr (Zk h1 h2 h4))
theorem Jo (l : List Cl) : ((Bk l).1 = 0 ∧ l.all Bw = true ∧ (Bk l).2 = Eh l ∧ (Eh l).length ≤ 64) ∨ (Bk l).1 = 2 ∨ (Bk l).1 = 3 := by
  unfold Bk
  split
  · exact .inr (.inl rfl)
  · rename_i h1
    split
    · exact .inr (.inr rfl)
    · rename_i h2
      exact .inl ⟨rfl, by simpa using h1, rfl, by omega⟩
theorem Nx {l : List Cl} (h : (Bk l).1 = 0) : Ag (Bk l).2 = true := by
  rcases Jo l with ⟨_, h1, h2, h3⟩ | h1 | h1
  · rw [h2]
    unfold Ag
    rw [Bool.and_eq_true, Bool.and_eq_true, Bool.and_eq_true]
    refine ⟨⟨⟨List.all_eq_true.mpr fun c hc => List.all_eq_true.mp h1 c (Ec.mp hc).1, Mo.mpr (Ie l)⟩, Wg.mpr fun a ha b hb => Jl.mp (Ec.mp ha).2 b (Ec.mp hb).1⟩, decide_eq_true h3⟩
  · rw [h1] at h; cases h
  · rw [h1] at h; cases h
theorem K7 {l : List Cl} (h : (Bk l).1 = 0) {c : Cl} (hc : c ∈ (Bk l).2) : c ∈ l := by
  rcases Jo l with ⟨_, h1, h2, h3⟩ | h1 | h1
  · rw [h2] at hc; exact (Ec.mp hc).1
  · rw [h1] at h; cases h
  · rw [h1] at h; cases h
theorem Fg {l : List Cl} {f b : Int} (h : (A6 l f b).1 = 0) : Ag l = true ∧ (∀ c, c ∈ l → (Bl c f b).1 = 0) ∧ A6 l f b = Bk (l.map fun c => (Bl c f b).2) := by
  unfold A6 at h ⊢
  split at h
  · cases h
  · rename_i h1
    split at h
    · rename_i h2; exact absurd h h2
    · rename_i h2
      have h3 : (Fw (fun c => Bl c f b) l).1 = 0 := Decidable.not_not.mp h2
      rw [if_neg h1, if_neg h2]
      exact ⟨by simpa using h1, A4u.mp h3, by rw [C2b h3]⟩
theorem Qe {l : List Cl} {f b : Int} (h : (A6 l f b).1 = 0) : Ag (A6 l f b).2 = true := by
  obtain ⟨_, _, h3⟩ := Fg h
  rw [h3] at h ⊢
  exact Nx h
theorem A1y {l : List Cl} {f b : Int} (h : (A6 l f b).1 = 0) (hl : Aj l = true) : Aj (A6 l f b).2 = true := by
  obtain ⟨_, h2, h3⟩ := Fg h
  have hf := Qe h
  unfold Aj at hl ⊢
  rw [Bool.and_eq_true, Bool.not_eq_true'] at hl ⊢
  refine ⟨hf, ?_⟩
  rw [List.any_eq_false]
  intro c hc
  rw [h3] at h hc
  obtain ⟨d, hd, rfl⟩ := List.mem_map.mp (K7 h hc)
  have h4 := List.any_eq_false.mp hl.2 d hd
  rw [Bool.not_eq_true] at h4 ⊢
  exact A8m (h2 d hd) h4
theorem Yo {l g : List Cl} {f b : Int} (h : Az b l f = .ok g) (hl : Ag l = true) : Ag g = true := by
  unfold Az at h
  split at h
  · injection h with h; subst h; exact hl
  · split at h
    · rename_i h2; injection h with h; subst h; exact Qe h2
    · cases h
theorem U9 {l g : List Cl} {f b : Int} (h : Az b l f = .ok g) (hl : Aj l = true) : Aj g = true := by
  unfold Az at h
  split at h
  · injection h with h; subst h; exact hl
  · split at h
    · rename_i h2; injection h with h; subst h; exact A1y h2 hl
    · cases h
theorem A0c : Ag [] = true := by decide
theorem A7x (f b : Int) : A6 [] f b = (0, []) := by
  unfold A6
  rw [if_neg (by rw [A0c]; decide)]
  have h : Fw (fun c => Bl c f b) [] = (0, []) := rfl
  rw [h, if_neg Fb]
  exact Nc.mp A0c
theorem Wq (f b : Int) : Az b [] f = .ok [] := by
  unfold Az
  rw [A7x]
  simp
section
variable {C : Type} {A : Tr C}
end
theorem U6 (l : List Cl) (f : Int) : Az 0 l f = .ok l := by unfold Az; rw [if_pos (.inl rfl)]
theorem Iy {vb db : Int} {c : Int × Int} {k n : Int} {nm : ByteArray} {r : List Cl} : (Ba vb db).own c k n nm r = (Az db r c.2).bind fun r' => if k = 1 ∧ c.1 ≤ n ∧ 1000000000 - vb < n then .bad 100 else .ok (.inr (Gv vb c.1 k n, r')) := by
  simp only [Ba, Gv]
  congr 1
  funext g
  by_cases h1 : k = 1 ∧ c.1 ≤ n
  · rw [if_pos h1, if_pos h1]
    by_cases h2 : 1000000000 - vb < n
    · rw [if_pos h2, if_pos ⟨h1.1, h1.2, h2⟩]
    · rw [if_neg h2, if_neg (fun h => h2 h.2.2)]
  · rw [if_neg h1, if_neg h1, if_neg (fun h => h1 ⟨h.1, h.2.1⟩)]
theorem B2a {vb db : Int} {c : Int × Int} {k n : Int} {nm : ByteArray} {r : List Cl} {p : Int × List Cl} (h : (Ba vb db).own c k n nm r = .ok (.inr p)) : Az db r c.2 = .ok p.2 ∧ ¬ (k = 1 ∧ c.1 ≤ n ∧ 1000000000 - vb < n) ∧ p.1 = Gv vb c.1 k n := by
  rw [Iy] at h
  obtain ⟨g, hg, h⟩ := A5.A0 h
  split at h
  · cases h
  · rename_i h1
    injection h with h; injection h with h; subst h
    exact ⟨hg, h1, rfl⟩
theorem A7p {vb db : Int} {c : Int × Int} {f f' : List Cl} (h : (Ba vb db).Ad c f = .ok (some f')) : Az db f c.2 = .ok f' := by
  obtain ⟨g, hg, h⟩ := A5.A0 (x := Az db f c.2) h
  injection h with h; injection h with h; subst h; exact hg
theorem Zn {vb db : Int} {c : Int × Int} {f : List Cl} : (Ba vb db).Ad c f ≠ .ok none := fun h => by
  obtain ⟨g, hg, h⟩ := A5.A0 (x := Az db f c.2) h
  injection h with h; cases h
def R3 (a b c : Int × Int) : Prop := a = b ∧ b = c
theorem B5t {v k n : Int} : Gv 0 v k n = n := by unfold Gv; split <;> omega
theorem S7 {vb db : Int} {c : Int × Int} {f : List Cl} : (Ba vb db).Ad c f = (Az db f c.2).bind fun f' => .ok (some f') := rfl
theorem D0z {a b : Int} (ha : 0 ≤ a) : C3d (A := Ba a 0) (B := Ba 0 b) (D := Ba a b) R3 where
  inl := fun ca cb cc k n nm r u _ _ h => absurd h Ld
  inr := by
    rintro ca cb cc k n nm r p ⟨rfl, rfl⟩ _ h
    obtain ⟨h1, h2, h3⟩ := B2a h
    rw [U6] at h1
    injection h1 with h1
    rw [Iy, Iy, ← h1, h3]
    congr 1
    funext g
    have h4 : Gv 0 ca.1 k (Gv a ca.1 k n) = Gv a ca.1 k n := B5t
    rw [h4, if_neg h2, if_neg]
    unfold Gv
    rintro ⟨h5, h6, h7⟩
    split at h6 <;> split at h7 <;> omega
  none := fun ca cb cc f _ _ h => absurd h Zn
  some := by
    rintro ca cb cc f f' ⟨rfl, rfl⟩ _ h
    have h1 := A7p h
    rw [U6] at h1
    injection h1 with h1
    rw [← h1]; rfl
  Hu := by
    rintro ca cb cc b' ca' hb1 hb2 ⟨rfl, rfl⟩ h
    injection h with h; subst h
    exact .inl ⟨_, _, rfl, rfl, rfl, rfl⟩
def Mz (r : A5 T) : Int × T := match r with
  | .ok u => (0, u)
  | .bad e => (e, t0)
theorem Wr {l : List Cl} {f b e : Int} (h : Az b l f = .bad e) : e ≠ 0 := by
  unfold Az at h
  split at h
  · cases h
  · split at h
    · cases h
    · rename_i h2; injection h with h; exact h ▸ h2
mutual
theorem lift_bad_ne' {vb db : Int} : ∀ {t : T} {c : Int × Int} {e : Int}, B1 (Ba vb db) t c = .bad e → e ≠ 0
  | .mk k n nm r ks ss, c, e, h => by
    rw [Cy] at h
    simp only [T.kind, T.n, T.name, T.r, T.kids, T.sys] at h
    rw [Iy] at h
    cases h0 : Az db r c.2 with
    | bad e' => rw [h0] at h; injection h with h; exact h ▸ Wr h0
    | ok g =>
      rw [h0] at h
      simp only [A5.bind] at h
      by_cases h6 : k = 1 ∧ c.1 ≤ n ∧ 1000000000 - vb < n
      · rw [if_pos h6] at h; injection h with h; subst h; decide
      · rw [if_neg h6] at h
        simp only at h
        cases h1 : Cn (Ba vb db) k 0 ks c with
        | bad e' => rw [h1] at h; injection h with h; exact h ▸ Ur h1
        | ok x =>
          rw [h1] at h
          simp only at h
          cases h2 : C6 (Ba vb db) k ss c with
          | bad e' => rw [h2] at h; injection h with h; exact h ▸ Us h2
          | ok y => rw [h2] at h; cases h
theorem Ur {vb db k : Int} : ∀ {ts : List T} {i : Nat} {c : Int × Int} {e : Int}, Cn (Ba vb db) k i ts c = .bad e → e ≠ 0
  | [], i, c, e, h => by rw [C4] at h; cases h
  | t :: ts, i, c, e, h => by
    rw [C3, B2b] at h
    simp only [A5.bind] at h
    cases h1 : B1 (Ba vb db) t (c.1 + (binds k i).1, c.2 + (binds k i).2) with
    | bad e' => rw [h1] at h; injection h with h; exact h ▸ lift_bad_ne' h1
    | ok x =>
      rw [h1] at h
      simp only at h
      cases h2 : Cn (Ba vb db) k (i + 1) ts c with
      | bad e' => rw [h2] at h; injection h with h; exact h ▸ Ur h2
      | ok y => rw [h2] at h; cases h
theorem Uq {vb db k : Int} : ∀ {ts : List T} {c : Int × Int} {e : Int}, Bv (Ba vb db) k ts c = .bad e → e ≠ 0
  | [], c, e, h => by rw [Cr] at h; cases h
  | t :: ts, c, e, h => by
    rw [C2, B2b] at h
    simp only [A5.bind] at h
    cases h1 : B1 (Ba vb db) t (c.1 + 0, c.2 + more k) with
    | bad e' => rw [h1] at h; injection h with h; exact h ▸ lift_bad_ne' h1
    | ok x =>
      rw [h1] at h
      simp only at h
      cases h2 : Bv (Ba vb db) k ts c with
      | bad e' => rw [h2] at h; injection h with h; exact h ▸ Uq h2
      | ok y => rw [h2] at h; cases h
theorem Us {vb db k : Int} : ∀ {bs : List Br} {c : Int × Int} {e : Int}, C6 (Ba vb db) k bs c = .bad e → e ≠ 0
  | [], c, e, h => by rw [Bs] at h; cases h
  | .mk f ks :: bs, c, e, h => by
    rw [Bq, S7] at h
    simp only [Br.Ad, Br.kids] at h
    cases h0 : Az db f c.2 with
    | bad e' => rw [h0] at h; injection h with h; exact h ▸ Wr h0
    | ok g =>
      rw [h0] at h
      simp only [A5.bind] at h
      cases h1 : Bv (Ba vb db) k ks c with
      | bad e' => rw [h1] at h; injection h with h; exact h ▸ Uq h1
      | ok x =>
        rw [h1] at h
        simp only at h
        cases h2 : C6 (Ba vb db) k bs c with
        | bad e' => rw [h2] at h; injection h with h; exact h ▸ Us h2
        | ok y => rw [h2] at h; cases h
end
def C7a (v d : Int) (k n : Int) (r : List Cl) : Prop := d ≤ 24 ∧ (k = 1 → n < v) ∧ within r d = true
mutual
def Rq : T → Int → Int → Prop
 | .mk k n nm r ks ss, v, d => C7a v d k n r ∧ Zj k 0 ks v d ∧ Xi k ss v d
def Zj (k : Int) : Nat → List T → Int → Int → Prop
 | _, [], _, _ => True
 | i, t :: ts, v, d => Rq t (v + (binds k i).1) (d + (binds k i).2) ∧ Zj k (i + 1) ts v d
def Zi (k : Int) : List T → Int → Int → Prop
 | [], _, _ => True
 | t :: ts, v, d => Rq t v (d + more k) ∧ Zi k ts v d
def Xi (k : Int) : List Br → Int → Int → Prop
 | [], _, _ => True
 | .mk f ks :: bs, v, d => within f d = true ∧ Zi k ks v d ∧ Xi k bs v d
end
theorem B1v {k v d : Int} : ∀ {ts : List T} {i : Nat}, Zj k i ts v d ↔ ∀ j, j < ts.length → Rq (ts.getD j t0) (v + (binds k ((i + j : Nat) : Int)).1) (d + (binds k ((i + j : Nat) : Int)).2)
 | [], i => by simp [Zj]
 | t :: ts, i => by
  simp only [Zj, B1v (ts := ts) (i := i + 1)]
  constructor
  ·rintro ⟨h1, h2⟩ j hj
   cases j with
   | zero => simpa using h1
   | succ j => rw [List.getD_cons_succ, show i + (j + 1) = i + 1 + j by omega]; exact h2 j (by simpa using hj)
  ·intro h
   refine ⟨by simpa using h 0 D8, fun j hj => ?_⟩
   have := h (j + 1) (by simpa using hj)
   rw [List.getD_cons_succ, show i + (j + 1) = i + 1 + j by omega] at this
   exact this
theorem Zh {k v d : Int} : ∀ {ts : List T}, Zi k ts v d ↔ ∀ j, j < ts.length → Rq (ts.getD j t0) v (d + more k)
 | [] => by simp [Zi]
 | t :: ts => by
  simp only [Zi, Zh (ts := ts)]
  constructor
  ·rintro ⟨h1, h2⟩ j hj
   cases j with
   | zero => simpa using h1
   | succ j => rw [List.getD_cons_succ]; exact h2 j (by simpa using hj)
  ·intro h
   exact ⟨by simpa using h 0 D8, fun j hj => by have := h (j + 1) (by simpa using hj); rwa [List.getD_cons_succ] at this⟩
theorem B1w {k v d : Int} : ∀ {bs : List Br}, Xi k bs v d ↔ ∀ b, b ∈ bs → within b.Ad d = true ∧ Zi k b.kids v d
 | [] => by simp [Xi]
 | .mk f ks :: bs => by
  simp only [Xi, B1w (bs := bs), List.forall_mem_cons, Br.Ad, Br.kids, and_assoc]
theorem B1u {t : T} {v d : Int} : Rq t v d ↔ C7a v d t.kind t.n t.r ∧ (∀ b, b ∈ t.sys → within b.Ad d = true) ∧ ∀ p, p ∈ parts t → Rq p.1 (v + p.2.1) (d + p.2.2) := by
 have h : Rq t v d ↔ C7a v d t.kind t.n t.r ∧ Zj t.kind 0 t.kids v d ∧ Xi t.kind t.sys v d := by
  obtain ⟨k, n, nm, r, ks, ss⟩ := t
  simp only [Rq, T.kind, T.n, T.r, T.kids, T.sys]
 rw [h, B1v, B1w]
 constructor
 ·rintro ⟨h1, h2, h3⟩
  refine ⟨h1, fun b hb => (h3 b hb).1, fun p hp => ?_⟩
  rcases Ol hp with ⟨i, hi, rfl⟩ | ⟨s, k, hs, hk, rfl⟩
  ·have := h2 i hi; rw [Nat.zero_add] at this; exact this
  ·have := Zh.mp (h3 _ (Ai (d := Bf) hs)).2 k hk; simpa using this
 ·rintro ⟨h1, h2, h3⟩
  refine ⟨h1, fun j hj => ?_, fun b hb => ⟨h2 b hb, Zh.mpr fun k hk => ?_⟩⟩
  ·have := h3 _ (List.mem_of_getElem? (Ix t j hj)); rw [Nat.zero_add]; exact this
  ·obtain ⟨s, hs, e⟩ := List.mem_iff_getElem.mp hb
   have e2 : t.sys.getD s Bf = b := by rw [Gx (d := Bf) hs]; exact e
   have := h3 _ (List.mem_of_getElem? (Iv t s k hs (by rw [e2]; exact hk)))
   rw [e2] at this
   simpa using this
section
variable {C : Type} {A : Tr C}
end
theorem Spec.C6z {P : Program} {k : FuncId} {args : Array Value} {pre : List Fact} {Ms0 : List Bb} {α X : Type} (r : α) {val : α → X → Value} {N : α → X → List Fact} {Ms1 : α → X → List Bb} (h : Spec P k args pre Ms0 (val r) (N r) (Ms1 r)) :
  Spec P k args pre Ms0 (fun x : {x : α × X // x.1 = r} => val x.1.1 x.1.2) (fun x => N x.1.1 x.1.2) (fun x => Ms1 x.1.1 x.1.2) := fun ok w hk hs => (h ok w hk hs).mono fun e w' hh => by
 obtain ⟨x, he, hs'⟩ := hh
 exact ⟨⟨(r, x), rfl⟩, he, hs'⟩
section
variable {C : Type} {A : Tr C}
theorem A9q {k : Int} {c : C} : ∀ {ts us : List T} {i : Nat}, Cn A k i ts c = .ok us → us.length = ts.length ∧ ∀ j, j < us.length → ∃ c', A.Hu c (binds k ((i + j : Nat) : Int)) = .ok c' ∧ B1 A (ts.getD j t0) c' = .ok (us.getD j t0)
 | [], us, i, h => by rw [C4] at h; injection h with h; subst h; exact ⟨rfl, fun j hj => absurd hj D8⟩
 | t :: ts, us, i, h => by
  rw [C3] at h
  obtain ⟨c', h1, h⟩ := A5.A0 h
  obtain ⟨t', h2, h⟩ := A5.A0 h
  obtain ⟨ts', h3, h⟩ := A5.A0 h
  injection h with h
  subst h
  obtain ⟨h4, h5⟩ := A9q h3
  refine ⟨by simp [h4], fun j hj => ?_⟩
  cases j with
  | zero => exact ⟨c', by simpa using h1, by simpa using h2⟩
  | succ j =>
   obtain ⟨d, h6, h7⟩ := h5 j (by simpa using hj)
   exact ⟨d, by rw [show i + (j + 1) = i + 1 + j by omega]; exact h6, by rw [List.getD_cons_succ, List.getD_cons_succ]; exact h7⟩
theorem A9p {k : Int} {c : C} : ∀ {ts us : List T}, Bv A k ts c = .ok us → us.length = ts.length ∧ ∀ j, j < us.length → ∃ c', A.Hu c (0, more k) = .ok c' ∧ B1 A (ts.getD j t0) c' = .ok (us.getD j t0)
 | [], us, h => by rw [Cr] at h; injection h with h; subst h; exact ⟨rfl, fun j hj => absurd hj D8⟩
 | t :: ts, us, h => by
  rw [C2] at h
  obtain ⟨c', h1, h⟩ := A5.A0 h
  obtain ⟨t', h2, h⟩ := A5.A0 h
  obtain ⟨ts', h3, h⟩ := A5.A0 h
  injection h with h
  subst h
  obtain ⟨h4, h5⟩ := A9p h3
  refine ⟨by simp [h4], fun j hj => ?_⟩
  cases j with
  | zero => exact ⟨c', h1, by simpa using h2⟩
  | succ j =>
   obtain ⟨d, h6, h7⟩ := h5 j (by simpa using hj)
   exact ⟨d, h6, by rw [List.getD_cons_succ, List.getD_cons_succ]; exact h7⟩
theorem Ya {k : Int} {c : C} : ∀ {bs us : List Br}, C6 A k bs c = .ok us → us.length ≤ bs.length ∧ ∀ u, u ∈ us → ∃ b, b ∈ bs ∧ A.Ad c b.Ad = .ok (some u.Ad) ∧ Bv A k b.kids c = .ok u.kids
 | [], us, h => by rw [Bs] at h; injection h with h; subst h; exact ⟨Nat.le_refl _, fun u hu => (by cases hu)⟩
 | b :: bs, us, h => by
  rw [Bq] at h
  obtain ⟨o, h1, h⟩ := A5.A0 h
  cases o with
  | none =>
   obtain ⟨h4, h5⟩ := Ya h
   exact ⟨by simp only [List.length_cons]; omega, fun u hu => by obtain ⟨x, hx, h6⟩ := h5 u hu; exact ⟨x, List.mem_cons_of_mem _ hx, h6⟩⟩
  | some f' =>
   obtain ⟨ks', h2, h⟩ := A5.A0 h
   obtain ⟨bs', h3, h⟩ := A5.A0 h
   injection h with h
   subst h
   obtain ⟨h4, h5⟩ := Ya h3
   refine ⟨by simp only [List.length_cons]; omega, fun u hu => ?_⟩
   rcases List.mem_cons.mp hu with rfl | hu
   ·exact ⟨b, List.mem_cons_self, h1, h2⟩
   ·obtain ⟨x, hx, h6⟩ := h5 u hu; exact ⟨x, List.mem_cons_of_mem _ hx, h6⟩
theorem Un {α : Type} {d x : α} {l : List α} (h : x ∈ l) : ∃ i, i < l.length ∧ l.getD i d = x := by
 obtain ⟨i, hi, e⟩ := List.mem_iff_getElem.mp h
 exact ⟨i, hi, by rw [Gx (d := d) hi]; exact e⟩
theorem C3t {t u : T} {c : C} (h : B1 A t c = .ok u) : A.own c t.kind t.n t.name t.r = .ok (.inl u) ∨ ∃ p, A.own c t.kind t.n t.name t.r = .ok (.inr p) ∧ (u.kind = t.kind ∧ u.n = p.1 ∧ u.name = t.name ∧ u.r = p.2) ∧
  (∀ q, q ∈ parts u → ∃ p, p ∈ parts t ∧ p.2 = q.2 ∧ ∃ c', A.Hu c p.2 = .ok c' ∧ B1 A p.1 c' = .ok q.1) ∧ ∀ b', b' ∈ u.sys → ∃ b, b ∈ t.sys ∧ A.Ad c b.Ad = .ok (some b'.Ad) := by
 rw [Cy] at h
 obtain ⟨o, h1, h⟩ := A5.A0 h
 cases o with
 | inl v => injection h with h; subst h; exact .inl h1
 | inr p =>
  obtain ⟨ks', h2, h⟩ := A5.A0 h
  obtain ⟨ss', h3, h⟩ := A5.A0 h
  injection h with h
  subst h
  obtain ⟨l1, l2⟩ := A9q h2
  obtain ⟨b1, b2⟩ := Ya h3
  refine .inr ⟨p, h1, ⟨rfl, rfl, rfl, rfl⟩, fun q hq => ?_, fun b' hb' => ?_⟩
  ·rcases Ol hq with ⟨i, hi, rfl⟩ | ⟨s, j, hs, hj, rfl⟩
   ·simp only [T.kids, T.kind] at hi ⊢
    obtain ⟨c', h4, h5⟩ := l2 i hi
    exact ⟨_, List.mem_of_getElem? (Ix t i A2), rfl, c', by rw [Nat.zero_add] at h4; exact h4, h5⟩
   ·simp only [T.sys, T.kind] at hs hj ⊢
    obtain ⟨b, hb, _, h6⟩ := b2 _ (Ai (d := Bf) hs)
    obtain ⟨h7, h8⟩ := A9p h6
    obtain ⟨c', h9, h10⟩ := h8 j hj
    obtain ⟨s', hs', e⟩ := Un (d := Bf) hb
    refine ⟨_, List.mem_of_getElem? (Iv t s' j hs' (by rw [e]; omega)), rfl, c', h9, ?_⟩
    rw [e]; exact h10
  ·obtain ⟨b, hb, h6, _⟩ := b2 b' hb'
   exact ⟨b, hb, h6⟩
theorem Dn {α β : Type} {x : A5 α} {k : α → A5 β} {e : Int} (h : x.bind k = .bad e) : x = .bad e ∨ ∃ a, x = .ok a ∧ k a = .bad e := by
 cases x with
 | ok a => exact .inr ⟨a, rfl, h⟩
 | bad e' => injection h with h; subst h; exact .inl rfl
theorem A2t {k : Int} {c : C} {e : Int} : ∀ {ts : List T} {i : Nat}, Cn A k i ts c = .bad e → ∃ j, j < ts.length ∧ (A.Hu c (binds k ((i + j : Nat) : Int)) = .bad e ∨ ∃ c', A.Hu c (binds k ((i + j : Nat) : Int)) = .ok c' ∧ B1 A (ts.getD j t0) c' = .bad e)
 | [], i, h => by rw [C4] at h; cases h
 | t :: ts, i, h => by
  rw [C3] at h
  rcases Dn h with h | ⟨c', h1, h⟩
  ·exact ⟨0, by simp, .inl (by simpa using h)⟩
  ·rcases Dn h with h | ⟨t', h2, h⟩
   ·exact ⟨0, by simp, .inr ⟨c', by simpa using h1, by simpa using h⟩⟩
   ·rcases Dn h with h | ⟨ts', h3, h⟩
    ·obtain ⟨j, hj, h4⟩ := A2t h
     refine ⟨j + 1, by simpa using hj, ?_⟩
     rw [List.getD_cons_succ, show i + (j + 1) = i + 1 + j by omega]; exact h4
    ·cases h
theorem A2q {k : Int} {c : C} {e : Int} : ∀ {ts : List T}, Bv A k ts c = .bad e → ∃ j, j < ts.length ∧ (A.Hu c (0, more k) = .bad e ∨ ∃ c', A.Hu c (0, more k) = .ok c' ∧ B1 A (ts.getD j t0) c' = .bad e)
 | [], h => by rw [Cr] at h; cases h
 | t :: ts, h => by
  rw [C2] at h
  rcases Dn h with h | ⟨c', h1, h⟩
  ·exact ⟨0, by simp, .inl h⟩
  ·rcases Dn h with h | ⟨t', h2, h⟩
   ·exact ⟨0, by simp, .inr ⟨c', h1, by simpa using h⟩⟩
   ·rcases Dn h with h | ⟨ts', h3, h⟩
    ·obtain ⟨j, hj, h4⟩ := A2q h
     exact ⟨j + 1, by simpa using hj, by rw [List.getD_cons_succ]; exact h4⟩
    ·cases h
theorem Vl {k : Int} {c : C} {e : Int} : ∀ {bs : List Br}, C6 A k bs c = .bad e → ∃ b, b ∈ bs ∧ (A.Ad c b.Ad = .bad e ∨ Bv A k b.kids c = .bad e)
 | [], h => by rw [Bs] at h; cases h
 | b :: bs, h => by
  rw [Bq] at h
  rcases Dn h with h | ⟨o, h1, h⟩
  ·exact ⟨b, List.mem_cons_self, .inl h⟩
  ·cases o with
   | none => obtain ⟨x, hx, h⟩ := Vl h; exact ⟨x, List.mem_cons_of_mem _ hx, h⟩
   | some f' =>
    rcases Dn h with h | ⟨ks, h2, h⟩
    ·exact ⟨b, List.mem_cons_self, .inr h⟩
    ·rcases Dn h with h | ⟨us, h3, h⟩
     ·obtain ⟨x, hx, h⟩ := Vl h; exact ⟨x, List.mem_cons_of_mem _ hx, h⟩
     ·cases h
theorem A9o {t : T} {c : C} {e : Int} (h : B1 A t c = .bad e) : A.own c t.kind t.n t.name t.r = .bad e ∨ (∃ b, b ∈ t.sys ∧ A.Ad c b.Ad = .bad e) ∨ ∃ p, p ∈ parts t ∧ (A.Hu c p.2 = .bad e ∨ ∃ c', A.Hu c p.2 = .ok c' ∧ B1 A p.1 c' = .bad e) := by
 rw [Cy] at h
 rcases Dn h with h | ⟨o, h1, h⟩
 ·exact .inl h
 ·cases o with
  | inl u => cases h
  | inr p =>
   rcases Dn h with h | ⟨ks, h2, h⟩
   ·obtain ⟨j, hj, h3⟩ := A2t h
    rw [Nat.zero_add] at h3
    exact .inr (.inr ⟨_, List.mem_of_getElem? (Ix t j hj), h3⟩)
   ·rcases Dn h with h | ⟨ss, h3, h⟩
    ·obtain ⟨b, hb, h4⟩ := Vl h
     rcases h4 with h4 | h4
     ·exact .inr (.inl ⟨b, hb, h4⟩)
     ·obtain ⟨j, hj, h5⟩ := A2q h4
      obtain ⟨s, hs, e2⟩ := Un (d := Bf) hb
      refine .inr (.inr ⟨_, List.mem_of_getElem? (Iv t s j hs (by rw [e2]; exact hj)), ?_⟩)
      rw [e2]; exact h5
    ·cases h
end
theorem Lo {l : List Cl} {i : Nat} : (G3 l).testBit i = true ↔ i < 24 ∧ ∃ c, c ∈ l ∧ (c.pos ||| c.neg).testBit i = true := by
 unfold G3
 rw [Dy, Bool.and_eq_true, decide_eq_true_eq, V0 (fun c : Cl => c.pos ||| c.neg)]
 simp
theorem Qi {t : T} {i : Nat} : (V8 t).testBit i = true ↔ (G3 t.r).testBit i = true ∨ (∃ b, b ∈ t.sys ∧ (G3 b.Ad).testBit i = true) ∨ ∃ p, p ∈ parts t ∧ (V8 p.1).testBit (i + p.2.2.toNat) = true := by
 have hbig : ∀ x : Nat, x < 16777216 → ∀ j, x.testBit j = true → j < 24 := fun x hx j hj => by
  refine Nat.lt_of_not_le fun h => ?_
  rw [Nat.testBit_lt_two_pow (Nat.lt_of_lt_of_le hx (Nat.pow_le_pow_right (n := 2) (i := 24) A2 h))] at hj
  cases hj
 by_cases hi : i < 24
 ·rw [← V7]
  unfold A0g
  rw [List.take_length, V0 O4]
  unfold B9a
  rw [List.take_length, V0 (fun b : Br => G3 b.Ad), or_assoc]
  refine or_congr Iff.rfl (or_congr Iff.rfl ?_)
  have key : ∀ p, p ∈ parts t → ((O4 p).testBit i = true ↔ (V8 p.1).testBit (i + p.2.2.toNat) = true) := fun p hp => by
   have h1 := Ui hp
   rw [C5h (p := p) hi (Uh (k := p.1) (v := p.2.1) (d := p.2.2) hp)]
   unfold D7a
   rw [show ((i : Int) + p.2.2).toNat = i + p.2.2.toNat by omega, Bool.and_eq_true, decide_eq_true_eq]
   exact ⟨fun h => h.2, fun h => ⟨by have := hbig _ (V6 _) _ h; omega, h⟩⟩
  constructor
  ·rintro ⟨p, hp, h⟩; exact ⟨p, hp, (key p hp).mp h⟩
  ·rintro ⟨p, hp, h⟩; exact ⟨p, hp, (key p hp).mpr h⟩
 ·constructor
  ·intro h; exact absurd (hbig _ (V6 _) _ h) hi
  ·rintro (h | ⟨b, _, h⟩ | ⟨p, _, h⟩)
   ·exact absurd (hbig _ (O2 _) _ h) hi
   ·exact absurd (hbig _ (O2 _) _ h) hi
   ·exact absurd (hbig _ (V6 _) _ h) A2
theorem Nb {s : Nat} {f b : Int} (h : (An s f b).1 = 0) (i : Nat) (hi : (An s f b).2.testBit i = true) : ∃ j, j < 24 ∧ s.testBit j = true ∧ (((j : Int) < f ∧ i = j) ∨ (f ≤ (j : Int) ∨ 24 ≤ j) ∧ (i : Int) = j + b) := by
 obtain ⟨h0, h1, h2⟩ := Jn h i
 rw [h2, Bool.or_eq_true, Bool.and_eq_true, Bool.and_eq_true, decide_eq_true_eq, decide_eq_true_eq, Dy, Dy, Bool.and_eq_true, Bool.and_eq_true, decide_eq_true_eq, decide_eq_true_eq] at hi
 rcases hi with ⟨h3, h4, h5⟩ | ⟨h3, h4, h5⟩
 ·exact ⟨i, h4, h5, .inl ⟨by omega, rfl⟩⟩
 ·exact ⟨i - b.toNat, h4, h5, .inr ⟨by omega, by omega⟩⟩
theorem U7 {l g : List Cl} {f b : Int} (hf : 0 ≤ f) (h : Az b l f = .ok g) {i : Nat} (hi : (G3 g).testBit i = true) : ∃ j : Nat, j < 24 ∧ (G3 l).testBit j = true ∧ (((j : Int) < f ∧ i = j) ∨ f ≤ (j : Int) ∧ (i : Int) = j + b) := by
 unfold Az at h
 split at h
 ·rename_i h0
  injection h with h
  subst h
  have h1 := (Lo.mp hi).1
  refine ⟨i, h1, hi, ?_⟩
  omega
 ·split at h
  ·rename_i h0 h1
   injection h with h
   subst h
   obtain ⟨h2, h3, h4⟩ := Fg h1
   obtain ⟨h5, c, hc, h6⟩ := Lo.mp hi
   rw [h4] at h1 hc
   have hc2 := K7 h1 hc
   obtain ⟨d, hd, e⟩ := List.mem_map.mp hc2
   have h7 := h3 d hd
   obtain ⟨_, h8, h9, h10⟩ := We h7
   rw [h10] at e
   subst e
   rw [Nat.testBit_or, Bool.or_eq_true] at h6
   have key : ∀ j, (d.pos.testBit j = true ∨ d.neg.testBit j = true) → j < 24 → (G3 l).testBit j = true := fun j hj hj2 => Lo.mpr ⟨hj2, d, hd, by rw [Nat.testBit_or, Bool.or_eq_true]; exact hj⟩
   rcases h6 with h6 | h6
   ·obtain ⟨j, h11, h12, h13⟩ := Nb h8 i h6
    exact ⟨j, h11, key j (.inl h12) h11, by omega⟩
   ·obtain ⟨j, h11, h12, h13⟩ := Nb h9 i h6
    exact ⟨j, h11, key j (.inr h12) h11, by omega⟩
  ·cases h
theorem X2 {vb db : Int} {c c' : Int × Int} {b : Int × Int} (h : (Ba vb db).Hu c b = .ok c') : c' = (c.1 + b.1, c.2 + b.2) := by injection h with h; exact h.symm
theorem O1 {t : T} (h : Er t) {p : Part} (hp : p ∈ parts t) : Er p.1 := (Zy.mp h).2 p hp
def vE (n : Int) : T := .mk 1 n ⟨#[]⟩ [] [] []
theorem C8f {t : T} {v d : Int} (hv : Ao v) (h : N9 t) : N9 (Ci t v d).2 := by
 refine guard_okT' (fun ha u hu => ?_)
 simp only [List.all_cons, List.all_nil, Bool.and_true, Bool.and_eq_true, decide_eq_true_eq] at ha
 obtain ⟨x, hx, hu⟩ := A5.A0 hu
 exact Zm A2 (Zm ⟨ha.1, B8o hv ha.1 ha.2.2⟩ h hx) hu
def Oj (n : Int) (u : T) (c : Int × Int) (k m : Int) (r : List Cl) : A5 (T ⊕ (Int × List Cl)) :=
 if k = 1 then (if m = n + c.1 then (if (Ci u c.1 c.2).1 = 0 then .ok (.inl (Ci u c.1 c.2).2) else .bad (Ci u c.1 c.2).1) else .ok (.inr (if n + c.1 < m then m - 1 else m, r))) else .ok (.inr (m, r))
def Bx (n : Int) (u : T) : Tr (Int × Int) where
 own c k m _ r := Oj n u c k m r
 Ad _ f := .ok (some f)
 Hu c b := .ok (c.1 + b.1, c.2 + b.2)
theorem Kt {t : T} (h : Er t) (hk : t.kind = 1) : t = .mk 1 t.n ⟨#[]⟩ [] [] [] ∧ 0 ≤ t.n := by
 obtain ⟨h1, h2, h3, h4, h5⟩ := Hv.mp h
 obtain ⟨_, a2, a3, _⟩ := h1
 have hn : t.name = ⟨#[]⟩ := A0n.mp (beq_iff_eq.mpr (a2 (by rw [hk]; decide)))
 have hr := (a3 hk).1
 have hks : t.kids = [] := by
  rw [hk, show De 1 = 0 by decide] at h2
  exact List.eq_nil_of_length_eq_zero A2
 have hss := h3 (by rw [hk]; decide)
 refine ⟨?_, (a3 hk).2⟩
 obtain ⟨k, n, nm, r, ks, ss⟩ := t
 simp only [T.kind, T.n, T.name, T.r, T.kids, T.sys] at *
 subst hk hn hr hks hss
 rfl
theorem C2e {t : T} (h : Er t) (hk : t.kind ≠ 1) : t.n = 0 := (Hv.mp h).1.1 hk
theorem Nq {n : Int} {u : T} {v d : Int} {b : Int × Int} : (Bx n u).Hu (v, d) b = .ok (v + b.1, d + b.2) := rfl
theorem Lj {n : Int} {u : T} {c : Int × Int} {f : List Cl} : (Bx n u).Ad c f = .ok (some f) := rfl
theorem Kl {n : Int} {u : T} {c : Int × Int} {k m : Int} {nm : ByteArray} {r : List Cl} (hk : k ≠ 1) : (Bx n u).own c k m nm r = .ok (.inr (m, r)) := by
 show Oj n u c k m r = _
 unfold Oj
 rw [if_neg hk]
theorem L9 {n : Int} {u : T} {c : Int × Int} {m : Int} {nm : ByteArray} {r : List Cl} (h : m = n + c.1) : (Bx n u).own c 1 m nm r = if (Ci u c.1 c.2).1 = 0 then .ok (.inl (Ci u c.1 c.2).2) else .bad (Ci u c.1 c.2).1 := by
 show Oj n u c 1 m r = _
 unfold Oj
 rw [if_pos rfl, if_pos h]
theorem Ub {n : Int} {u : T} {c : Int × Int} {m : Int} {nm : ByteArray} {r : List Cl} (h : m ≠ n + c.1) : (Bx n u).own c 1 m nm r = .ok (.inr (if n + c.1 < m then m - 1 else m, r)) := by
 show Oj n u c 1 m r = _
 unfold Oj
 rw [if_pos rfl, if_neg h]
theorem B0r {n : Int} {u t : T} {v d : Int} (hk : t.kind = 1) (h : t.n = n + v) (h0 : (Ci u v d).1 = 0) : B1 (Bx n u) t (v, d) = .ok (Ci u v d).2 := by
 rw [Cy, hk, L9 h, if_pos h0]; rfl
theorem Uc {n : Int} {u t : T} {v d : Int} (hk : t.kind = 1) (h : t.n = n + v) (h0 : (Ci u v d).1 ≠ 0) : B1 (Bx n u) t (v, d) = .bad (Ci u v d).1 := by
 rw [Cy, hk, L9 h, if_neg h0]; rfl
theorem R4 {n : Int} {u t : T} {c : Int × Int} (hf : Er t) (hk : t.kind = 1) (h : t.n ≠ n + c.1) : B1 (Bx n u) t c = .ok (.mk 1 (if n + c.1 < t.n then t.n - 1 else t.n) ⟨#[]⟩ [] [] []) := by
 have e := (Kt hf hk).1
 generalize t.n = m at e h ⊢
 subst e
 rw [Cy]
 simp only [T.kind, T.n, T.name, T.r, T.kids, T.sys]
 rw [Ub h]
 simp only [A5.bind, C4, Bs]
theorem C0t {n : Int} {u t : T} {c : Int × Int} (hf : Er t) (hk : t.kind = 1) (h : n + c.1 < t.n) : B1 (Bx n u) t c = .ok (.mk 1 (t.n - 1) ⟨#[]⟩ [] [] []) := by
 rw [R4 hf hk A2, if_pos h]
theorem C0s {n : Int} {u t : T} {c : Int × Int} (hf : Er t) (hk : t.kind = 1) (h : t.n < n + c.1) : B1 (Bx n u) t c = .ok t := by
 rw [R4 hf hk A2, if_neg A2]
 exact congrArg A5.ok (Kt hf hk).1.symm
theorem A3w {n : Int} {u : T} {k : Int} {c : Int × Int} : ∀ {l l' : List Br}, C6 (Bx n u) k l c = .ok l' → l'.length = l.length
 | [], l', h => by rw [Bs] at h; injection h with h; subst h; rfl
 | b :: l, l', h => by
  rw [Bq, Lj] at h
  simp only [A5.bind] at h
  obtain ⟨ks, h1, h⟩ := A5.A0 (x := Bv (Bx n u) k b.kids c) h
  obtain ⟨bs, h2, h⟩ := A5.A0 h
  injection h with h
  subst h
  rw [List.length_cons, List.length_cons, A3w h2]
mutual
def Dl : T → Int → Int
 | .mk k n nm r ks ss, m => if k = 1 ∧ n = m then 1 else Ev k 0 ks m + F5 ss m
def Ev (k : Int) : Nat → List T → Int → Int
 | _, [], _ => 0
 | i, t :: ts, m => Dl t (m + (binds k i).1) + Ev k (i + 1) ts m
def Fh : List T → Int → Int
 | [], _ => 0
 | t :: ts, m => Dl t m + Fh ts m
def F5 : List Br → Int → Int
 | [], _ => 0
 | .mk f ks :: bs, m => Fh ks m + F5 bs m
end
theorem A5d (t : T) (m : Int) : Dl t m = if t.kind = 1 ∧ t.n = m then 1 else Ev t.kind 0 t.kids m + F5 t.sys m := by obtain ⟨k, n, nm, r, ks, ss⟩ := t; rfl
theorem X9 {k m : Int} {t : T} : ∀ {ts : List T} {i : Nat}, Ev k i (ts ++ [t]) m = Ev k i ts m + Dl t (m + (binds k ((i + ts.length : Nat) : Int)).1)
 | [], i => by simp only [List.nil_append, Ev, List.length_nil, Nat.add_zero]; omega
 | a :: ts, i => by
  rw [List.cons_append, Ev, X9 (ts := ts), Ev, List.length_cons, show i + 1 + ts.length = i + (ts.length + 1) by omega]
  omega
theorem X8 {m : Int} {t : T} : ∀ {ts : List T}, Fh (ts ++ [t]) m = Fh ts m + Dl t m
 | [] => by simp only [List.nil_append, Fh]; omega
 | a :: ts => by rw [List.cons_append, Fh, X8 (ts := ts), Fh]; omega
theorem Qk {m : Int} {b : Br} : ∀ {bs : List Br}, F5 (bs ++ [b]) m = F5 bs m + Fh b.kids m
 | [] => by obtain ⟨f, ks⟩ := b; simp only [List.nil_append, F5, Br.kids]; omega
 | .mk f ks :: bs => by rw [List.cons_append, F5, Qk (bs := bs), F5]; omega
def Dp : List T → Nat
 | [] => 0
 | t :: ts => size t + Dp ts
def G6 : List Br → Nat
 | [] => 0
 | b :: bs => Dp b.kids + G6 bs
theorem foldl_add {α : Type} (f : α → Nat) : ∀ (l : List α) (a : Nat), l.foldl (fun a p => a + f p) a = a + l.foldl (fun a p => a + f p) 0
 | [], a => rfl
 | x :: l, a => by rw [List.foldl_cons, List.foldl_cons, foldl_add f l (a + f x), foldl_add f l (0 + f x)]; omega
theorem Du (t : T) : size t = 1 + Dp t.kids + G6 t.sys := by
 have hk : ∀ (k : Int) (ts : List T) (i : Nat), (Dw k i ts).foldl (fun a p => a + size p.1) 0 = Dp ts := by
  intro k ts
  induction ts with
  | nil => intro i; rfl
  | cons t ts ih => intro i; rw [Dw, List.foldl_cons, foldl_add, ih, Dp]; simp only; omega
 have hm : ∀ (ts : List T) (b : Int × Int), (ts.map fun k => ((k, b.1, b.2) : Part)).foldl (fun a p => a + size p.1) 0 = Dp ts := by
  intro ts b
  induction ts with
  | nil => rfl
  | cons t ts ih => rw [List.map_cons, List.foldl_cons, foldl_add, ih, Dp]; simp only; omega
 have hs : ∀ (k : Int) (bs : List Br), (Dt k bs).foldl (fun a p => a + size p.1) 0 = G6 bs := by
  intro k bs
  induction bs with
  | nil => rfl
  | cons b bs ih => rw [Dt, List.foldl_append, foldl_add, ih, hm b.kids (0, more k), G6]
 rw [size_eq, parts, List.foldl_append, foldl_add, hs, foldl_add, hk]
mutual
theorem A0j : ∀ (t : T) (m : Int), 0 ≤ Dl t m
 | .mk k n nm r ks ss, m => by
  rw [Dl]
  have h1 := O5 (k := k) ks 0 m
  have h2 := Ri ss m
  split <;> omega
theorem O5 {k : Int} : ∀ (ts : List T) (i : Nat) (m : Int), 0 ≤ Ev k i ts m
 | [], i, m => by rw [Ev]; omega
 | t :: ts, i, m => by
  rw [Ev]
  have h1 := A0j t (m + (binds k i).1)
  have h2 := O5 (k := k) ts (i + 1) m
  omega
theorem Rg : ∀ (ts : List T) (m : Int), 0 ≤ Fh ts m
 | [], m => by rw [Fh]; omega
 | t :: ts, m => by
  rw [Fh]
  have h1 := A0j t m
  have h2 := Rg ts m
  omega
theorem Ri : ∀ (bs : List Br) (m : Int), 0 ≤ F5 bs m
 | [], m => by rw [F5]; omega
 | .mk f ks :: bs, m => by
  rw [F5]
  have h1 := Rg ks m
  have h2 := Ri bs m
  omega
end
mutual
theorem count_le : ∀ (t : T) (m : Int), Dl t m ≤ size t
 | .mk k n nm r ks ss, m => by
  rw [Dl, Du]
  have h1 := Rh (k := k) ks 0 m
  have h2 := Wc ss m
  show _ ≤ ((1 + Dp ks + G6 ss : Nat) : Int)
  split <;> omega
theorem Rh {k : Int} : ∀ (ts : List T) (i : Nat) (m : Int), Ev k i ts m ≤ Dp ts
 | [], i, m => by rw [Ev, Dp]; omega
 | t :: ts, i, m => by
  rw [Ev, Dp]
  have h1 := count_le t (m + (binds k i).1)
  have h2 := Rh (k := k) ts (i + 1) m
  omega
theorem A5e : ∀ (ts : List T) (m : Int), Fh ts m ≤ Dp ts
 | [], m => by rw [Fh, Dp]; omega
 | t :: ts, m => by
  rw [Fh, Dp]
  have h1 := count_le t m
  have h2 := A5e ts m
  omega
theorem Wc : ∀ (bs : List Br) (m : Int), F5 bs m ≤ G6 bs
 | [], m => by rw [F5, G6]; omega
 | .mk f ks :: bs, m => by
  rw [F5, G6]
  have h1 := A5e ks m
  have h2 := Wc bs m
  simp only [Br.kids]
  omega
end
theorem B3e {k m : Int} (ts : List T) (i : Nat) : ∀ j, Ev k i (ts.take j) m ≤ Ev k i ts m := by
 induction ts generalizing i with
 | nil => intro j; rw [List.take_nil]; omega
 | cons t ts ih =>
  intro j
  cases j with
  | zero => rw [List.take_zero]; exact O5 (t :: ts) i m
  | succ j => rw [List.take_succ_cons, Ev, Ev]; have := ih (i + 1) j; omega
theorem B3d {m : Int} (ts : List T) : ∀ j, Fh (ts.take j) m ≤ Fh ts m := by
 induction ts with
 | nil => intro j; rw [List.take_nil]; omega
 | cons t ts ih =>
  intro j
  cases j with
  | zero => rw [List.take_zero]; exact Rg (t :: ts) m
  | succ j => rw [List.take_succ_cons, Fh, Fh]; have := ih j; omega
theorem B3f {m : Int} (bs : List Br) : ∀ j, F5 (bs.take j) m ≤ F5 bs m := by
 induction bs with
 | nil => intro j; rw [List.take_nil]; omega
 | cons b bs ih =>
  intro j
  obtain ⟨f, ks⟩ := b
  cases j with
  | zero => rw [List.take_zero]; exact Ri (.mk f ks :: bs) m
  | succ j => rw [List.take_succ_cons, F5, F5]; have := ih j; omega
def A0l (t : T) (m : Int) (i : Nat) : Int := Ev t.kind 0 (t.kids.take i) m
def A2d (t : T) (m : Int) (s : Nat) : Int := Ev t.kind 0 t.kids m + F5 (t.sys.take s) m
def A0k (t : T) (m : Int) (s k : Nat) : Int := A2d t m s + Fh ((t.sys.getD s Bf).kids.take k) m
theorem C2r (t : T) (m : Int) : A0l t m 0 = 0 := by simp [A0l, Ev]
theorem A5g {t : T} {m : Int} {i : Nat} (h : i < t.kids.length) : A0l t m (i + 1) = A0l t m i + Dl (t.kids.getD i t0) (m + (binds t.kind (i : Int)).1) := by
 unfold A0l
 rw [Ae (d := t0) h, X9, List.length_take, Nat.min_eq_left A2, Nat.zero_add]
theorem C2q (t : T) (m : Int) : A2d t m 0 = A0l t m t.kids.length := by
 unfold A2d A0l
 rw [List.take_length, List.take_zero, show F5 [] m = 0 from rfl]; omega
theorem C8a {t : T} {m : Int} (h : ¬ (t.kind = 1 ∧ t.n = m)) : A2d t m t.sys.length = Dl t m := by unfold A2d; rw [List.take_length, A5d, if_neg h]
theorem C2p (t : T) (m : Int) (s : Nat) : A0k t m s 0 = A2d t m s := by
 unfold A0k
 rw [List.take_zero, show Fh [] m = 0 from rfl]; omega
theorem A5f {t : T} {m : Int} {s k : Nat} (h : k < (t.sys.getD s Bf).kids.length) : A0k t m s (k + 1) = A0k t m s k + Dl ((t.sys.getD s Bf).kids.getD k t0) m := by
 unfold A0k
 rw [Ae (d := t0) h, X8]; omega
theorem C7z {t : T} {m : Int} {s : Nat} (h : s < t.sys.length) : A0k t m s (t.sys.getD s Bf).kids.length = A2d t m (s + 1) := by
 unfold A0k A2d
 rw [List.take_length, Ae (d := Bf) h, Qk]; omega
theorem B9e (t : T) (m : Int) (i : Nat) : 0 ≤ A0l t m i ∧ A0l t m i ≤ size t := by
 have h1 := O5 (k := t.kind) (t.kids.take i) 0 m
 have h2 := B3e (k := t.kind) (m := m) t.kids 0 i
 have h3 := Rh (k := t.kind) t.kids 0 m
 have h4 := Du t
 unfold A0l
 omega
theorem B9d {t : T} {m : Int} {s : Nat} (hs : s < t.sys.length) (k : Nat) : 0 ≤ A0k t m s k ∧ A0k t m s k ≤ size t := by
 have h1 := O5 (k := t.kind) t.kids 0 m
 have h2 := Ri (t.sys.take s) m
 have h3 := Rg ((t.sys.getD s Bf).kids.take k) m
 have h4 := B3d (m := m) (t.sys.getD s Bf).kids k
 have h5 := B3f (m := m) t.sys (s + 1)
 rw [Ae (d := Bf) hs, Qk] at h5
 have h6 := Wc t.sys m
 have h7 := Rh (k := t.kind) t.kids 0 m
 have h8 := Du t
 unfold A0k A2d
 omega
abbrev Vz (n : Int) : Int := if 1099511627776 < n then 1099511627776 else n
def Ar (t : T) (n : Int) (u : T) : Int × T :=
 if A9 t ≠ 0 then (A9 t, t0) else if A9 u ≠ 0 then (A9 u, t0) else if n < 0 then (2, t0) else
 if 20000 < (size t : Int) + Dl t (Vz n) * ((size u : Int) - 1) then (221, t0) else
 match B1 (Bx (Vz n) u) t (0, 0) with
 | .bad e => (e, t0)
 | .ok x => if 200 < depth x then (62, t0) else (0, x)
section
variable {t u : T} {n : Int}
theorem A3u (h : A9 t ≠ 0) : Ar t n u = (A9 t, t0) := by unfold Ar; rw [if_pos h]
theorem A3t (h : A9 t = 0) (h2 : A9 u ≠ 0) : Ar t n u = (A9 u, t0) := by unfold Ar; rw [if_neg (by simp [h]), if_pos h2]
theorem A3v (h : A9 t = 0) (h2 : A9 u = 0) (h3 : n < 0) : Ar t n u = (2, t0) := by unfold Ar; rw [if_neg (by simp [h]), if_neg (by simp [h2]), if_pos h3]
theorem Ud (h : A9 t = 0) (h2 : A9 u = 0) (h3 : ¬ n < 0) (h4 : 20000 < (size t : Int) + Dl t (Vz n) * ((size u : Int) - 1)) : Ar t n u = (221, t0) := by unfold Ar; rw [if_neg (by simp [h]), if_neg (by simp [h2]), if_neg h3, if_pos h4]
theorem Wv {e : Int} (h : A9 t = 0) (h2 : A9 u = 0) (h3 : ¬ n < 0) (h4 : ¬ 20000 < (size t : Int) + Dl t (Vz n) * ((size u : Int) - 1)) (h5 : B1 (Bx (Vz n) u) t (0, 0) = .bad e) : Ar t n u = (e, t0) := by
 unfold Ar; rw [if_neg (by simp [h]), if_neg (by simp [h2]), if_neg h3, if_neg h4, h5]
theorem Ue {x : T} (h : A9 t = 0) (h2 : A9 u = 0) (h3 : ¬ n < 0) (h4 : ¬ 20000 < (size t : Int) + Dl t (Vz n) * ((size u : Int) - 1)) (h5 : B1 (Bx (Vz n) u) t (0, 0) = .ok x) (h6 : 200 < depth x) : Ar t n u = (62, t0) := by
 unfold Ar; rw [if_neg (by simp [h]), if_neg (by simp [h2]), if_neg h3, if_neg h4, h5]; simp only; rw [if_pos h6]
theorem Yv {x : T} (h : A9 t = 0) (h2 : A9 u = 0) (h3 : ¬ n < 0) (h4 : ¬ 20000 < (size t : Int) + Dl t (Vz n) * ((size u : Int) - 1)) (h5 : B1 (Bx (Vz n) u) t (0, 0) = .ok x) (h6 : ¬ 200 < depth x) : Ar t n u = (0, x) := by
 unfold Ar; rw [if_neg (by simp [h]), if_neg (by simp [h2]), if_neg h3, if_neg h4, h5]; simp only; rw [if_neg h6]
end
theorem Va {u : T} {v d : Int} (h : (Ci u v d).1 = 0) : A9 u = 0 ∧ 0 ≤ v ∧ 0 ≤ d ∧ B3k u v d = .ok (Ci u v d).2 := by
 unfold Ci Cg at h ⊢
 split at h
 ·rename_i h1; exact absurd h h1
 ·rename_i h1
  split at h
  ·cases h
  ·rename_i h2
   rw [if_neg h1, if_neg h2]
   simp only [List.all_cons, List.all_nil, Bool.and_true, Bool.not_eq_false, Bool.and_eq_true, decide_eq_true_eq] at h2
   refine ⟨by omega, h2.1, h2.2.1, ?_⟩
   cases hx : B3k u v d with
   | bad e =>
    exfalso
    rw [hx] at h
    simp only at h
    rcases Dn hx with h3 | ⟨y, _, h3⟩
    ·exact lift_bad_ne' h3 h
    ·exact lift_bad_ne' h3 h
   | ok x => rfl
theorem B6u {u : T} {v d : Int} (h : (Ci u v d).1 = 0) : size (Ci u v d).2 = size u := by
 obtain ⟨_, _, _, h1⟩ := Va h
 obtain ⟨y, h2, h3⟩ := A5.A0 (x := B1 (Ba v 0) u (0, 0)) h1
 rw [Nv h3, Nv h2]
mutual
theorem R2 {n : Int} {u : T} : ∀ {t x : T} {c : Int × Int}, Er t → B1 (Bx n u) t c = .ok x → (size x : Int) = size t + Dl t (n + c.1) * ((size u : Int) - 1)
 | .mk k m nm r ks ss, x, c, hf, hx => by
  by_cases hk : k = 1
  ·subst hk
   have hfv := Kt hf rfl
   simp only [T.n, T.mk.injEq, true_and] at hfv
   obtain ⟨⟨hnm, hr, hks, hss⟩, _⟩ := hfv
   subst hr hks hss
   by_cases h : m = n + c.1
   ·rw [Cy] at hx
    simp only [T.kind, T.n, T.name, T.r, T.kids, T.sys] at hx
    rw [L9 h] at hx
    split at hx
    ·rename_i h0
     injection hx with hx
     rw [← hx, B6u h0, Dl, if_pos ⟨rfl, h⟩, Du (.mk 1 m nm [] [] [])]
     simp only [T.kids, T.sys, Dp, G6]
     omega
    ·cases hx
   ·have := R4 (u := u) hf rfl (c := c) h
    rw [this] at hx
    injection hx with hx
    rw [← hx, Dl, if_neg (show ¬ ((1 : Int) = 1 ∧ m = n + c.1) from fun h2 => h h2.2), Du, Du (.mk 1 m nm [] [] [])]
    simp only [T.kids, T.sys, Dp, G6, Ev, F5]
    omega
  ·rw [Cy] at hx
   simp only [T.kind, T.n, T.name, T.r, T.kids, T.sys] at hx
   rw [Kl hk] at hx
   simp only [A5.bind] at hx
   obtain ⟨ks', h1, hx⟩ := A5.A0 (x := Cn (Bx n u) k 0 ks c) hx
   obtain ⟨ss', h2, hx⟩ := A5.A0 hx
   injection hx with hx
   have hf2 := Hv.mp hf
   simp only [T.kids, T.sys, T.kind] at hf2
   have e1 := Yw hf2.2.2.2.1 h1
   have e2 := Yx hf2.2.2.2.2 h2
   rw [← hx, Dl, if_neg (fun h2 => hk h2.1), Du, Du]
   simp only [T.kids, T.sys]
   rw [Int.add_mul]
   omega
theorem Yw {n k : Int} {u : T} : ∀ {ts xs : List T} {i : Nat} {c : Int × Int}, J1 ts → Cn (Bx n u) k i ts c = .ok xs → (Dp xs : Int) = Dp ts + Ev k i ts (n + c.1) * ((size u : Int) - 1)
 | [], xs, i, c, hf, hx => by rw [C4] at hx; injection hx with hx; subst hx; simp [Dp, Ev]
 | t :: ts, xs, i, c, hf, hx => by
  rw [C3, Nq] at hx
  simp only [A5.bind] at hx
  obtain ⟨t', h2, hx⟩ := A5.A0 (x := B1 (Bx n u) t _) hx
  obtain ⟨ts', h3, hx⟩ := A5.A0 hx
  injection hx with hx
  subst hx
  have e1 := R2 hf.1 h2
  have e2 := Yw hf.2 h3
  rw [Dp, Dp, Ev, Int.add_mul]
  rw [← Int.add_assoc] at e1
  omega
theorem Yu {n k : Int} {u : T} : ∀ {ts xs : List T} {c : Int × Int}, J1 ts → Bv (Bx n u) k ts c = .ok xs → (Dp xs : Int) = Dp ts + Fh ts (n + c.1) * ((size u : Int) - 1)
 | [], xs, c, hf, hx => by rw [Cr] at hx; injection hx with hx; subst hx; simp [Dp, Fh]
 | t :: ts, xs, c, hf, hx => by
  rw [C2, Nq] at hx
  simp only [A5.bind] at hx
  obtain ⟨t', h2, hx⟩ := A5.A0 (x := B1 (Bx n u) t _) hx
  obtain ⟨ts', h3, hx⟩ := A5.A0 hx
  injection hx with hx
  subst hx
  have e1 := R2 hf.1 h2
  have e2 := Yu hf.2 h3
  rw [Dp, Dp, Fh, Int.add_mul]
  rw [show n + (c.1 + 0) = n + c.1 by omega] at e1
  omega
theorem Yx {n k : Int} {u : T} : ∀ {bs xs : List Br} {c : Int × Int}, Pb k bs → C6 (Bx n u) k bs c = .ok xs → (G6 xs : Int) = G6 bs + F5 bs (n + c.1) * ((size u : Int) - 1)
 | [], xs, c, hf, hx => by rw [Bs] at hx; injection hx with hx; subst hx; simp [G6, F5]
 | .mk f ks :: bs, xs, c, hf, hx => by
  rw [Bq, Lj] at hx
  simp only [A5.bind, Br.Ad, Br.kids] at hx
  obtain ⟨ks', h2, hx⟩ := A5.A0 (x := Bv (Bx n u) k ks c) hx
  obtain ⟨bs', h3, hx⟩ := A5.A0 hx
  injection hx with hx
  subst hx
  have e1 := Yu hf.2.2.1 h2
  have e2 := Yx hf.2.2.2 h3
  rw [G6, G6, F5, Int.add_mul]
  simp only [Br.kids]
  omega
end
theorem Lc {s : Nat} {f b : Int} (h : (An s f b).1 = 0) (i : Nat) : (An s f b).2.testBit i = true ↔ ∃ j, j < 24 ∧ s.testBit j = true ∧ (((j : Int) < f ∧ i = j) ∨ (f ≤ (j : Int) ∧ (i : Int) = j + b)) := by
 obtain ⟨h0, h1, h2⟩ := Jn h i
 constructor
 ·intro hi
  obtain ⟨j, h3, h4, h5⟩ := Nb h i hi
  exact ⟨j, h3, h4, by omega⟩
 ·rintro ⟨j, h3, h4, h5⟩
  rw [h2, Bool.or_eq_true, Bool.and_eq_true, Bool.and_eq_true, decide_eq_true_eq, decide_eq_true_eq, Dy, Dy, Bool.and_eq_true, Bool.and_eq_true, decide_eq_true_eq, decide_eq_true_eq]
  rcases h5 with ⟨h5, rfl⟩ | ⟨h5, h6⟩
  ·exact .inl ⟨by omega, h3, h4⟩
  ·refine .inr ⟨by omega, ?_⟩
   rw [show i - b.toNat = j by omega]
   exact ⟨h3, h4⟩
theorem A4j {s : Nat} {f b : Int} (hs : s < 16777216) (h0 : 0 ≤ f) (hb : 0 ≤ b) (h : b = 0 ∨ 24 ≤ f) : An s f b = (0, s) := by
 have hs24 : s &&& 16777215 = s := by rw [A5p]; exact Nat.mod_eq_of_lt hs
 have h1 : (An s f b).1 = 0 := by
  unfold An
  rw [if_neg A2]
  split
  ·rfl
  ·rename_i h2
   rw [if_neg]
   rintro (h3 | h3)
   ·rcases h with h | h
    ·omega
    ·refine h2 ?_
     refine Nat.eq_of_testBit_eq fun i => ?_
     rw [Gr, M7, Nat.zero_testBit, Dy, show min f.toNat 24 = 24 by omega]
     by_cases hi : i < 24 <;> simp [hi]
   ·rcases h with h | h
    ·subst h
     have := A5o (q := s &&& 16777215) (m := 2 ^ min f.toNat 24 - 1) (Hn s)
     simp at h3
     omega
    ·refine h2 ?_
     refine Nat.eq_of_testBit_eq fun i => ?_
     rw [Gr, M7, Nat.zero_testBit, Dy, show min f.toNat 24 = 24 by omega]
     by_cases hi : i < 24 <;> simp [hi]
 refine Prod.ext h1 ?_
 refine Nat.eq_of_testBit_eq fun i => ?_
 rw [Bool.eq_iff_iff, Lc h1]
 have hlt : ∀ j, s.testBit j = true → j < 24 := fun j hj => by
  refine Nat.lt_of_not_le fun hge => ?_
  rw [Nat.testBit_lt_two_pow (Nat.lt_of_lt_of_le hs (Nat.pow_le_pow_right (n := 2) (i := 24) A2 hge))] at hj
  cases hj
 constructor
 ·rintro ⟨j, h2, h3, h4⟩
  rw [show i = j by omega]; exact h3
 ·intro h2
  exact ⟨i, hlt i h2, h2, by have := hlt i h2; omega⟩
theorem A8d {l : List Cl} (h : Ag l = true) : (∀ c, c ∈ l → Bw c = true) ∧ apart l = true := by
 unfold Ag at h
 simp only [Bool.and_eq_true, List.all_eq_true] at h
 exact ⟨h.1.1.1, h.1.2⟩
theorem Wt {c : Cl} : Bw c = true ↔ c.pos < 16777216 ∧ c.neg < 16777216 := by unfold Bw; rw [Bool.and_eq_true, decide_eq_true_eq, decide_eq_true_eq]
section
variable {CA CB CC CD : Type} {A : Tr CA} {B : Tr CB} {C : Tr CC} {D : Tr CD} (R : CA → CB → CC → CD → Prop)
variable {R}
theorem C5y (k : Int) : 0 ≤ more k := (R7 k).1
end
theorem C6i {a b : Int} {t u : T} {c : Int × Int} (hf : Er t) (hk : t.kind = 1) (h : B1 (Ba a b) t c = .ok u) : u = .mk 1 (Gv a c.1 1 t.n) ⟨#[]⟩ [] [] [] ∧ ¬ (c.1 ≤ t.n ∧ 1000000000 - a < t.n) := by
 have e := (Kt hf hk).1
 generalize t.n = m at e ⊢
 subst e
 rw [Cy] at h
 simp only [T.kind, T.n, T.name, T.r, T.kids, T.sys] at h
 rw [Iy, Wq] at h
 simp only [A5.bind, true_and] at h
 by_cases h2 : c.1 ≤ m ∧ 1000000000 - a < m
 ·rw [if_pos h2] at h; cases h
 ·rw [if_neg h2] at h
  simp only [C4, Bs] at h
  injection h with h
  exact ⟨h.symm, h2⟩
theorem B3j {u : T} {v d : Int} (h : (Ci u v d).1 = 0) : Er u ∧ 0 ≤ v ∧ 0 ≤ d ∧ B1 (Ba v d) u (0, 0) = .ok (Ci u v d).2 := by
 obtain ⟨h1, h2, h3, h4⟩ := Va h
 have hf := (D0.mp h1).2
 obtain ⟨y, h5, h6⟩ := A5.A0 (x := B1 (Ba v 0) u (0, 0)) h4
 exact ⟨hf, h2, h3, by rw [← D1a (D0z h2) hf (show R3 (0, 0) (0, 0) (0, 0) from ⟨rfl, rfl⟩) h5]; exact h6⟩
theorem Yt {n : Int} {u t x : T} {c : Int × Int} (hf : Er t) (hk : t.kind = 1) (h : B1 (Bx n u) t c = .ok x) : (t.n = n + c.1 ∧ (Ci u c.1 c.2).1 = 0 ∧ x = (Ci u c.1 c.2).2) ∨ (t.n ≠ n + c.1 ∧ x = .mk 1 (if n + c.1 < t.n then t.n - 1 else t.n) ⟨#[]⟩ [] [] []) := by
 by_cases h1 : t.n = n + c.1
 ·left
  by_cases h2 : (Ci u c.1 c.2).1 = 0
  ·have := B0r (n := n) (u := u) (v := c.1) (d := c.2) hk h1 h2
   rw [show ((c.1, c.2) : Int × Int) = c from rfl, h] at this
   injection this with this
   exact ⟨h1, h2, this⟩
  ·have := Uc (n := n) (u := u) (v := c.1) (d := c.2) hk h1 h2
   rw [show ((c.1, c.2) : Int × Int) = c from rfl, h] at this
   cases this
 ·right
  rw [R4 hf hk h1] at h
  injection h with h
  exact ⟨h1, h.symm⟩
theorem B7u {n : Int} {u : T} {ca : Int × Int} {k m : Int} {nm : ByteArray} {r : List Cl} {x : T} (hk : k ≠ 1) : (Bx n u).own ca k m nm r ≠ .ok (.inl x) := by
 rw [Kl hk]
 intro h
 injection h with h
 cases h
theorem B0s {n : Int} {u : T} : ∀ {t : T} {c : Int × Int} {e : Int}, B1 (Bx n u) t c = .bad e → e ≠ 0 := fun {t} => T.ind (P := fun t => ∀ {c : Int × Int} {e : Int}, B1 (Bx n u) t c = .bad e → e ≠ 0) (fun t ih c e h => by
 rcases A9o h with h1 | ⟨b, _, h1⟩ | ⟨p, hp, h1 | ⟨c', _, h2⟩⟩
 ·by_cases hk : t.kind = 1
  ·rw [hk] at h1
   by_cases h2 : t.n = n + c.1
   ·rw [L9 h2] at h1
    split at h1
    ·cases h1
    ·rename_i h3; injection h1 with h1; exact h1 ▸ h3
   ·rw [Ub h2] at h1; cases h1
  ·rw [Kl hk] at h1; cases h1
 ·cases h1
 ·cases h1
 ·exact ih p hp h2) t
theorem Oi {t u : T} {n : Int} (h : (Ar t n u).1 = 0) : A9 t = 0 ∧ A9 u = 0 ∧ 0 ≤ n ∧ size (Ar t n u).2 ≤ 20000 ∧ B1 (Bx (Vz n) u) t (0, 0) = .ok (Ar t n u).2 := by
 by_cases h1 : A9 t = 0
 ·by_cases h2 : A9 u = 0
  ·by_cases h3 : n < 0
   ·rw [A3v h1 h2 h3] at h; cases h
   ·by_cases h4 : 20000 < (size t : Int) + Dl t (Vz n) * ((size u : Int) - 1)
    ·rw [Ud h1 h2 h3 h4] at h; cases h
    ·cases h5 : B1 (Bx (Vz n) u) t (0, 0) with
     | bad e =>
      rw [Wv h1 h2 h3 h4 h5] at h
      exact absurd h (B0s h5)
     | ok x =>
      by_cases h6 : 200 < depth x
      ·rw [Ue h1 h2 h3 h4 h5 h6] at h; cases h
      ·rw [Yv h1 h2 h3 h4 h5 h6]
       have := R2 (D0.mp h1).2 h5
       rw [show Vz n + ((0, 0) : Int × Int).1 = Vz n from Int.add_zero _] at this
       exact ⟨h1, h2, by omega, by show size x ≤ 20000; omega, rfl⟩
  ·rw [A3t h1 h2] at h; exact absurd h h2
 ·rw [A3u h1] at h; exact absurd h h1
theorem B0t (t u : T) (n : Int) : size (Ar t n u).2 ≤ 20000 := by
 by_cases h : (Ar t n u).1 = 0
 ·exact (Oi h).2.2.2.1
 ·have : (Ar t n u).2 = t0 := by
   unfold Ar at h ⊢
   split
   ·rfl
   ·rename_i h1
    rw [if_neg h1] at h
    split
    ·rfl
    ·rename_i h2
     rw [if_neg h2] at h
     split
     ·rfl
     ·rename_i h3
      rw [if_neg h3] at h
      split
      ·rfl
      ·rename_i h4
       rw [if_neg h4] at h
       cases h5 : B1 (Bx (Vz n) u) t (0, 0) with
       | bad e => rfl
       | ok x =>
        rw [h5] at h
        simp only at h ⊢
        by_cases h6 : 200 < depth x
        ·rw [if_pos h6]
        ·rw [if_neg h6] at h; exact absurd rfl h
  rw [this]
  decide
theorem Sl : ∀ {l m : List Int}, (l.Pairwise fun a b => a < b) → (m.Pairwise fun a b => a < b) → (∀ x, x ∈ l ↔ x ∈ m) → l = m
 | [], [], _, _, _ => rfl
 | [], b :: m, _, _, h => by have := (h b).mpr List.mem_cons_self; cases this
 | a :: l, [], _, _, h => by have := (h a).mp List.mem_cons_self; cases this
 | a :: l, b :: m, hl, hm, h => by
  obtain ⟨l1, l2⟩ := List.pairwise_cons.mp hl
  obtain ⟨m1, m2⟩ := List.pairwise_cons.mp hm
  have hab : a = b := by
   rcases List.mem_cons.mp ((h a).mp List.mem_cons_self) with h1 | h1
   ·exact h1
   ·rcases List.mem_cons.mp ((h b).mpr List.mem_cons_self) with h2 | h2
    ·exact h2.symm
    ·have := l1 b h2; have := m1 a h1; omega
  subst hab
  have : l = m := Sl l2 m2 fun x => by
   constructor
   ·intro hx
    rcases List.mem_cons.mp ((h x).mp (List.mem_cons_of_mem _ hx)) with h1 | h1
    ·subst h1; have := l1 x hx; omega
    ·exact h1
   ·intro hx
    rcases List.mem_cons.mp ((h x).mpr (List.mem_cons_of_mem _ hx)) with h1 | h1
    ·subst h1; have := m1 x hx; omega
    ·exact h1
  rw [this]
theorem Ov (s : Nat) : (Bi s).Pairwise fun a b => a < b := by
 unfold Bi Q6
 rw [List.pairwise_map]
 refine List.Pairwise.filter _ ?_
 exact List.pairwise_lt_range.imp fun h => by omega
theorem C1n (s : Nat) : Bi (s &&& 16777215) = Bi s := by
 refine Sl (Ov _) (Ov _) fun x => ?_
 rw [K5, K5, Dy]
 constructor
 ·rintro ⟨h1, h2, h3⟩
  rw [Bool.and_eq_true] at h3
  exact ⟨h1, h2, h3.2⟩
 ·rintro ⟨h1, h2, h3⟩
  exact ⟨h1, h2, by rw [h3, decide_eq_true A2]; rfl⟩
theorem C1m {r : Nat} (h0 : ¬ r = 0) (h : r < 4294967296) : ∃ m, r = 2 ^ Lib.ctz 32 r * (2 * m + 1) ∧ Lib.ctz 32 r < 32 := by
 obtain ⟨m, h1, h2⟩ := Lib.ctzFrom_spec 32 r A2 h
 have e : Lib.ctz 32 r = Lib.ctzFrom 32 r := by unfold Lib.ctz; rw [if_neg h0]
 rw [e]
 exact ⟨m, h1, h2⟩
theorem D0o {r k m i : Nat} (h : r = 2 ^ k * (2 * m + 1)) : (r &&& (r - 1)).testBit i = (r.testBit i && decide (i ≠ k)) ∧ r.testBit k = true ∧ (i < k → r.testBit i = false) := by
 have hp : 0 < 2 ^ k := Nat.pow_pos Fb
 have e1 : r = 2 ^ (k + 1) * m + 2 ^ k := by rw [h, Nat.pow_succ, Nat.mul_add, Nat.mul_assoc]; simp
 have e2 : r - 1 = 2 ^ (k + 1) * m + (2 ^ k - 1) := by omega
 have hb1 : 2 ^ k < 2 ^ (k + 1) := by rw [Nat.pow_succ]; omega
 have hb2 : 2 ^ k - 1 < 2 ^ (k + 1) := by omega
 have t1 : ∀ j, r.testBit j = if j < k + 1 then (2 ^ k).testBit j else m.testBit (j - (k + 1)) := fun j => by rw [e1]; exact Nat.testBit_two_pow_mul_add m hb1 j
 have t2 : ∀ j, (r - 1).testBit j = if j < k + 1 then (2 ^ k - 1).testBit j else m.testBit (j - (k + 1)) := fun j => by rw [e2]; exact Nat.testBit_two_pow_mul_add m hb2 j
 refine ⟨?_, by rw [t1, if_pos A2, Nat.testBit_two_pow_self], fun hi => by rw [t1, if_pos A2, Nat.testBit_two_pow_of_ne A2]⟩
 rw [Nat.testBit_and, t1, t2]
 by_cases hi : i < k + 1
 ·rw [if_pos hi, if_pos hi, Nat.testBit_two_pow, Nat.testBit_two_pow_sub_one]
  by_cases hk : k = i
  ·subst hk; simp
  ·simp [hk]
 ·rw [if_neg hi, if_neg hi]
  have : i ≠ k := by omega
  simp [this]
theorem A4m {r : Nat} (h0 : ¬ r = 0) (h : r < 16777216) : Lib.ctz 32 r < 24 ∧ Bi r = (Lib.ctz 32 r : Int) :: Bi (r &&& (r - 1)) := by
 obtain ⟨m, h1, h2⟩ := C1m h0 A2
 have hb := fun i => D0o (i := i) h1
 have hk : Lib.ctz 32 r < 24 := Decidable.byContradiction fun hn => by
  have h3 := Nat.ge_two_pow_of_testBit (hb 0).2.1
  have h4 : 2 ^ 24 ≤ 2 ^ Lib.ctz 32 r := Nat.pow_le_pow_right Fb A2
  omega
 refine ⟨hk, Sl (Ov _) (List.pairwise_cons.mpr ⟨fun x hx => ?_, Ov _⟩) fun x => ?_⟩
 ·obtain ⟨x0, x1, x2⟩ := K5.mp hx
  rw [(hb x.toNat).1, Bool.and_eq_true, decide_eq_true_eq] at x2
  have : ¬ x.toNat < Lib.ctz 32 r := fun hlt => by have := (hb x.toNat).2.2 hlt; rw [x2.1] at this; cases this
  omega
 ·rw [List.mem_cons, K5, K5, (hb x.toNat).1, Bool.and_eq_true, decide_eq_true_eq]
  constructor
  ·rintro ⟨x0, x1, x2⟩
   by_cases hx : x = (Lib.ctz 32 r : Int)
   ·exact .inl hx
   ·exact .inr ⟨x0, x1, x2, by omega⟩
  ·rintro (rfl | ⟨x0, x1, x2, _⟩)
   ·exact ⟨by omega, by omega, by rw [Int.toNat_natCast]; exact (hb 0).2.1⟩
   ·exact ⟨x0, x1, x2⟩
theorem D4v {r : Nat} (h0 : ¬ r = 0) : r &&& (r - 1) < r := Nat.lt_of_le_of_lt Nat.and_le_right A2
def D3r : ByteArray := ⟨#[0, 1, 1, 2, 1, 2, 2, 3, 1, 2, 2, 3, 2, 3, 3, 4, 1, 2, 2, 3, 2, 3, 3, 4, 2, 3, 3, 4, 3, 4, 4, 5, 1, 2, 2, 3, 2, 3, 3, 4, 2, 3, 3, 4, 3, 4, 4, 5, 2, 3, 3, 4, 3, 4, 4, 5, 3, 4, 4, 5, 4, 5, 5, 6, 1, 2, 2, 3, 2, 3, 3, 4, 2, 3, 3, 4, 3, 4, 4, 5, 2, 3, 3, 4, 3, 4, 4, 5, 3, 4, 4, 5, 4, 5, 5, 6, 2, 3, 3, 4, 3, 4, 4, 5, 3, 4, 4, 5, 4, 5, 5, 6, 3, 4, 4, 5, 4, 5, 5, 6, 4, 5, 5, 6, 5, 6, 6, 7, 1, 2, 2, 3, 2, 3, 3, 4, 2, 3, 3, 4, 3, 4, 4, 5, 2, 3, 3, 4, 3, 4, 4, 5, 3, 4, 4, 5, 4, 5, 5, 6, 2, 3, 3, 4, 3, 4, 4, 5, 3, 4, 4, 5, 4, 5, 5, 6, 3, 4, 4, 5, 4, 5, 5, 6, 4, 5, 5, 6, 5, 6, 6, 7, 2, 3, 3, 4, 3, 4, 4, 5, 3, 4, 4, 5, 4, 5, 5, 6, 3, 4, 4, 5, 4, 5, 5, 6, 4, 5, 5, 6, 5, 6, 6, 7, 3, 4, 4, 5, 4, 5, 5, 6, 4, 5, 5, 6, 5, 6, 6, 7, 4, 5, 5, 6, 5, 6, 6, 7, 5, 6, 6, 7, 6, 7, 7, 8]⟩
def pop8 (j : Nat) : Nat := j % 2 + j / 2 % 2 + j / 4 % 2 + j / 8 % 2 + j / 16 % 2 + j / 32 % 2 + j / 64 % 2 + j / 128 % 2
theorem Ys : ∀ j, j < 256 → D3r[j]? = some (UInt8.ofNat (pop8 j)) ∧ pop8 j ≤ 8 := by decide +kernel
def Pa (s : Nat) : Nat := pop8 (s / 16777216) + pop8 (s / 65536 &&& 255) + pop8 (s / 256 &&& 255) + pop8 (s &&& 255)
theorem C0r : ∀ k, k < 24 → Pa (2 ^ k) = 1 := by decide +kernel
theorem B5a : Pa 0 = 0 := by decide
theorem A8s (s : Nat) : s &&& 255 < 256 := Nat.lt_of_le_of_lt Nat.and_le_right Fb
section
variable {tn : Bool} {pn : Nat} {P : Program} [Tab P] {f : FuncId} {R : Ending → World → Prop} {B : Ch} {n : Fz} {K : List Item} {ops : Array Oper} {i : Nat} {l fin : List Nat} {σ : Nat → Value} {Γ : List Fact} {Ms Ms2 : List Bb}
variable {dst : Option Tmp} {op : Op} {ty : TypeId} {pos : String} {after : Array Edge} {v : Value} {x y z : Operand}
theorem B1b {t : TypeId} {s : ByteArray} {j : Nat} (hu : Tab.und P t = some .string) (hx : ev σ x = .string s) (hs : s = D3r) (hy : ev σ y = .int .u32 (j : Int)) (hj : j < 256) : Co P σ (.index t x y) ty (.int .u8 (pop8 j : Nat)) := fun w => by
 subst hs
 have h := (Ys j hj)
 have e : ((UInt8.ofNat (pop8 j)).toNat : Int) = (pop8 j : Nat) := by
  rw [UInt8.toNat_ofNat']
  have := h.2
  omega
 simp [Cj, execOp, hx, hy, Instr.index, asIntOf, Dm hu, h.1]
 have := h.2
 omega
theorem C5f {t t' : TypeId} {a b : Nat} (hx : ev σ x = .int .u8 (a : Nat)) (hy : ev σ y = .int .u8 (b : Nat)) (h : a + b < 256) : Co P σ (.binOp .add t x y t') ty (.int .u8 ((a + b : Nat) : Int)) :=
 Db hx hy (fun w => C1 w) (fun w => by
  have e : IntKind.u8.wrap ((a : Int) + (b : Int)) = ((a + b : Nat) : Int) := by simp [IntKind.wrap, IntKind.signed, IntKind.bits]; omega
  show Result.ok (Value.int .u8 (IntKind.u8.wrap ((a : Int) + (b : Int)))) w = _
  rw [e])
theorem C0x {s d : TypeId} {ds : TypeDesc} {a : Nat} (hs : Tab.und P s = some ds) (hd : Tab.und P d = some (.int .i64)) (hx : ev σ x = .int .u8 (a : Nat)) (ha : a < 256) : Co P σ (.convert s d x) ty (.int .i64 (a : Int)) := by
 have h := M1 hs hd hx (ty := ty)
 rwa [show IntKind.i64.wrap (a : Int) = (a : Int) by rw [IntKind.wrap_i64]; omega] at h
theorem Xp {t : TypeId} {s : ByteArray} {j : Nat} (k_ : NV tn pn P f R B n K ops fin l (Af σ dst (.int .u8 (pop8 j : Nat))) Γ Ms) (hx : ev σ x = .string s := by exact Ab) (hy : ev σ y = .int .u32 (j : Int) := by exact Ab) (hs : s = D3r := by rfl) (hu : Tab.und P t = some .string := by rfl) (hj : j < 256 := by first | omega | exact A8s _) (hd : Ac n dst = true := by rfl) : Ju tn pn P f R B n K ops fin i l dst (.index t x y) ty σ Γ Ms := Dd (B1b hu hx hs hy hj) hd k_
theorem A6a {t t' : TypeId} {a b : Nat} (k_ : NV tn pn P f R B n K ops fin l (Af σ dst (.int .u8 ((a + b : Nat) : Int))) Γ Ms) (hx : ev σ x = .int .u8 (a : Nat) := by exact Ab) (hy : ev σ y = .int .u8 (b : Nat) := by exact Ab) (h : a + b < 256 := by omega) (hd : Ac n dst = true := by rfl) : Ju tn pn P f R B n K ops fin i l dst (.binOp .add t x y t') ty σ Γ Ms := Dd (C5f hx hy h) hd k_
theorem C3q {s d : TypeId} {ds : TypeDesc} {a : Nat} (k_ : NV tn pn P f R B n K ops fin l (Af σ dst (.int .i64 (a : Int))) Γ Ms) (hx : ev σ x = .int .u8 (a : Nat) := by exact Ab) (hs : Tab.und P s = some ds := by rfl) (hd' : Tab.und P d = some (.int .i64) := by rfl) (ha : a < 256 := by omega) (hd : Ac n dst = true := by rfl) : Ju tn pn P f R B n K ops fin i l dst (.convert s d x) ty σ Γ Ms := Dd (C0x hs hd' hx ha) hd k_
end
theorem Sx {l : List Cl} (h : (Bk l).1 ≠ 0) : (Bk l).2 = [] := by
 unfold Bk at h ⊢
 split
 ·rfl
 ·rename_i h1
  rw [if_neg h1] at h
  split
  ·rfl
  ·rename_i h2
   rw [if_neg h2] at h
   exact absurd rfl h
theorem A1x {l : List Cl} {f b : Int} (hl : Ag l = true) (h0 : 0 ≤ f) (hb : 0 ≤ b) (h : b = 0 ∨ 24 ≤ f) : A6 l f b = (0, l) := by
 obtain ⟨hr, _⟩ := A8d hl
 have key : ∀ c, c ∈ l → Bl c f b = (0, c) := fun c hc => by
  obtain ⟨h2, h3⟩ := Wt.mp (hr c hc)
  unfold Bl
  rw [if_neg (by rw [hr c hc]; simp), A4j h2 h0 hb h, A4j h3 h0 hb h]
  simp
 have hf : Fw (fun c => Bl c f b) l = (0, l) := by
  unfold Fw
  rw [List.find?_eq_none.mpr (fun c hc => by show ¬ decide ((Bl c f b).1 ≠ 0) = true; rw [key c hc]; simp)]
  simp only
  congr 1
  conv => rhs; rw [← List.map_id l]
  exact List.map_congr_left (fun c hc => by rw [key c hc]; rfl)
 unfold A6
 rw [if_neg (by rw [hl]; simp), hf, if_neg D8]
 have := Ut l
 rw [hl, Bool.and_eq_true, decide_eq_true_eq, decide_eq_true_eq] at this
 exact Prod.ext this.1 this.2
theorem U8 {l : List Cl} {f b : Int} (hl : Ag l = true) (h0 : 0 ≤ f) (hb : 0 ≤ b) : Az b l f = if (A6 l f b).1 = 0 then .ok (A6 l f b).2 else .bad (A6 l f b).1 := by
 unfold Az
 by_cases h : b = 0 ∨ 24 ≤ f
 ·rw [if_pos h, A1x hl h0 hb h]; rfl
 ·rw [if_neg h]
abbrev EL : Type := Int × List Cl
def G1 (i : Int) : Nat := if 0 ≤ i ∧ i < 24 then 2 ^ i.toNat else 0
def A9i (s : Nat) (i : Int) : Nat := if 0 ≤ i ∧ i < 24 then (s &&& 16777215) ||| 2 ^ i.toNat else s &&& 16777215
def Ds (s : Nat) (i : Int) : Nat := if 0 ≤ i ∧ i < 24 then Bm (s &&& 16777215) (2 ^ i.toNat) else s &&& 16777215
theorem Jz (i : Int) : A9i 0 i = G1 i := by unfold A9i G1; split <;> simp
theorem My (i : Int) : G1 i < 16777216 := by
 unfold G1
 split
 ·exact Nat.pow_lt_pow_right (n := 24) (a := 2) Fb A2
 ·decide
theorem Wj (s : Nat) (i : Int) : Ds s i < 16777216 := by
 unfold Ds
 split
 ·rw [show (16777216 : Nat) = 2 ^ 24 from rfl]
  exact Nat.lt_pow_two_of_testBit _ fun j hj => by
   rw [Gr, Dy, decide_eq_false (show ¬ j < 24 by omega)]; simp
 ·exact Hn s
theorem C7b (s : Nat) (i : Int) : ((decide (0 ≤ i) && decide (i < 24)) && decide (((s / 2 ^ (min i.toNat 32) &&& 1 : Nat) : Int) = 1)) = F4 s i := by
 rw [D0v, Nat.and_one_is_mod]
 by_cases h : 0 ≤ i ∧ i < 24
 ·rw [show min i.toNat 32 = i.toNat by omega]
  congr 1
  exact decide_eq_decide.mpr A2
 ·have : (decide (0 ≤ i) && decide (i < 24)) = false := by simp; omega
  rw [this]; rfl
def Ff (i : Int) : Bool := decide (0 ≤ i) && decide (i < 24)
theorem B7t {i : Int} (h : Ff i = true) : Pa (G1 i &&& 16777215) = 1 := by
 have h1 : 0 ≤ i ∧ i < 24 := by unfold Ff at h; simpa using h
 have h2 := My i
 rw [A5p, Nat.mod_eq_of_lt A2]
 unfold G1
 rw [if_pos h1]
 exact C0r _ A2
theorem B0p {i : Int} (h : Ff i = false) : Pa (G1 i &&& 16777215) = 0 := by
 have h1 : ¬ (0 ≤ i ∧ i < 24) := by unfold Ff at h; simp at h; omega
 unfold G1
 rw [if_neg h1]
 exact B5a
theorem B7s (i : Int) : decide (((Pa (G1 i &&& 16777215) : Nat) : Int) = 1) = Ff i := by
 cases h : Ff i
 ·rw [B0p h]; rfl
 ·rw [B7t h]; rfl
theorem B0q (i : Int) : decide (((Pa (G1 i &&& 16777215) : Nat) : Int) = 0) = !Ff i := by
 cases h : Ff i
 ·rw [B0p h]; rfl
 ·rw [B7t h]; rfl
def Ez (x : EL) (k : List Cl → EL) : EL := if x.1 ≠ 0 then (x.1, []) else k x.2
theorem Dx {x : EL} {k : List Cl → EL} (h : x.1 ≠ 0) : Ez x k = (x.1, []) := if_pos h
theorem E7 {x : EL} {k : List Cl → EL} (h : x.1 = 0) : Ez x k = k x.2 := if_neg (by simp [h])
def D6 (g : List Cl → Cl → EL) : List Cl → List Cl → EL
 | h, [] => (0, h)
 | h, c :: cs => Ez (g h c) fun h' => D6 g h' cs
theorem Zw {g : List Cl → Cl → EL} : ∀ {l m h h' : List Cl}, D6 g h l = (0, h') → D6 g h (l ++ m) = D6 g h' m
 | [], m, h, h', e => by
  rw [D6, Prod.mk.injEq] at e
  rw [List.nil_append, e.2]
 | d :: l, m, h, h', e => by
  rw [D6] at e
  by_cases h0 : (g h d).1 = 0
  ·rw [E7 h0] at e
   rw [List.cons_append, D6, E7 h0]
   exact Zw e
  ·rw [Dx h0, Prod.mk.injEq] at e
   exact absurd e.1 h0
theorem Mc {g : List Cl → Cl → EL} {l h h' : List Cl} {i : Nat} (hi : i < l.length) (e : D6 g h (l.take i) = (0, h')) (h0 : (g h' (l.getD i Bc)).1 = 0) : D6 g h (l.take (i + 1)) = (0, (g h' (l.getD i Bc)).2) := by
 rw [Ae (d := Bc) hi, Zw e, D6, E7 h0, D6]
theorem Gd {g : List Cl → Cl → EL} {l h h' : List Cl} {i : Nat} (hi : i < l.length) (e : D6 g h (l.take i) = (0, h')) (h0 : (g h' (l.getD i Bc)).1 ≠ 0) : D6 g h l = ((g h' (l.getD i Bc)).1, []) := by
 have e2 : l = l.take i ++ l.getD i Bc :: l.drop (i + 1) := by rw [Gx (d := Bc) hi, List.getElem_cons_drop, List.take_append_drop]
 rw [e2, Zw e, ← e2, D6, Dx h0]
theorem W4 {g : List Cl → Cl → EL} {l h h' : List Cl} {i : Nat} (hi : i = l.length) (e : D6 g h (l.take i) = (0, h')) : D6 g h l = (0, h') := by
 rw [hi, List.take_length] at e
 exact e
def Fu (f g : List Cl) : EL := Bk (f ++ g)
def Mu (f g : List Cl) : List Cl := f.flatMap fun a => g.map fun b => Dq a b
def Jm (f g : List Cl) : EL := Bk (Mu f g)
def A1p (c : Cl) : List Cl := ((Bi c.pos).map fun i => (⟨0, G1 i⟩ : Cl)) ++ ((Bi c.neg).map fun i => (⟨G1 i, 0⟩ : Cl))
def A6y (c : Cl) : EL := Bk (A1p c)
def Ed (h : List Cl) (c : Cl) : EL := Ez (A6y c) fun o => Jm h o
def Ph (f : List Cl) : EL := D6 Ed [Bc] f
def Sr (f : List Cl) : EL := if Ag f then Ph f else (2, [])
def Cb (c : Cl) (i : Int) : Cl := ⟨Ds c.pos i, Ds c.neg i⟩
def H3 (i : Int) (r : List Cl) (c : Cl) : EL := if F4 c.pos i then Jm [Cb c i] r else (0, [Cb c i])
def Ji (i : Int) (r : List Cl) (c : Cl) (g : List Cl) : EL := if F4 c.neg i then Ez (Ph r) fun s => Jm g s else (0, g)
def Cd (i : Int) (r h : List Cl) (c : Cl) : EL := Ez (H3 i r c) fun g => Ez (Ji i r c g) fun g => Fu h g
theorem A6s {i : Int} {r h : List Cl} {c : Cl} {P : EL} (hP : H3 i r c = P) (h0 : P.1 ≠ 0) : Cd i r h c = (P.1, []) := by unfold Cd; rw [hP]; exact Dx h0
theorem L8 {i : Int} {r h : List Cl} {c : Cl} {P N : EL} (hP : H3 i r c = P) (h0 : P.1 = 0) (hN : Ji i r c P.2 = N) (h1 : N.1 ≠ 0) : Cd i r h c = (N.1, []) := by unfold Cd; rw [hP, E7 h0, hN]; exact Dx h1
theorem Mr {i : Int} {r h : List Cl} {c : Cl} {P N : EL} (hP : H3 i r c = P) (h0 : P.1 = 0) (hN : Ji i r c P.2 = N) (h1 : N.1 = 0) : Cd i r h c = Fu h N.2 := by unfold Cd; rw [hP, E7 h0, hN]; exact E7 h1
theorem Yr {i : Int} {r : List Cl} {c : Cl} {g : List Cl} {s : EL} (h : F4 c.neg i = true) (hs : s = Ph r) (h0 : s.1 ≠ 0) : Ji i r c g = (s.1, []) := by unfold Ji; rw [if_pos h, ← hs]; exact Dx h0
theorem Oh {i : Int} {r : List Cl} {c : Cl} {g : List Cl} {s m : EL} (h : F4 c.neg i = true) (hs : s = Ph r) (h0 : s.1 = 0) (hm : m = Jm g s.2) : Ji i r c g = m := by unfold Ji; rw [if_pos h, ← hs, hm]; exact E7 h0
theorem A3r {i : Int} {r : List Cl} {c : Cl} {g : List Cl} (h : F4 c.neg i = false) : Ji i r c g = (0, g) := by unfold Ji; rw [if_neg (by simp [h])]
def B4 (f : List Cl) (i : Int) (r : List Cl) : EL := if (Ag f && Ag r) = false then (2, []) else if Ff i = false then (2, []) else D6 (Cd i r) [] f
def F9 (l : List Cl) : List Cl := l.filter fun c => !Gy c
def Xr (f : List Cl) : EL := if Ag f then Bk (F9 f) else (2, [])
def H4 (r : List Cl) : EL := Ez (Sr r) Xr
def Kq (f g : List Cl) : EL := Bk (f.flatMap fun a => F9 (g.map fun b => Dq a b))
def D7 (i : Int) (r : List Cl) (c : Cl) : EL := if F4 c.pos i then Ez (Xr r) fun x => Kq [Cb c i] x else if F4 c.neg i then Ez (H4 r) fun x => Kq [Cb c i] x else (0, [Cb c i])
def Cm (i : Int) (r h : List Cl) (c : Cl) : EL := Ez (D7 i r c) fun g => Fu h g
theorem Ku {i : Int} {r h : List Cl} {c : Cl} {P : EL} (hP : D7 i r c = P) (h0 : P.1 = 0) : Cm i r h c = Fu h P.2 := by unfold Cm; rw [hP]; exact E7 h0
theorem Fx {i : Int} {r h : List Cl} {c : Cl} {P : EL} (hP : D7 i r c = P) (h0 : P.1 ≠ 0) : Cm i r h c = (P.1, []) := by unfold Cm; rw [hP]; exact Dx h0
theorem A8a {i : Int} {r : List Cl} {c : Cl} {q m : EL} (h : F4 c.pos i = true) (hq : q = Xr r) (h0 : q.1 = 0) (hm : m = Kq [Cb c i] q.2) : D7 i r c = m := by unfold D7; rw [if_pos h, ← hq, hm]; exact E7 h0
theorem A2a {i : Int} {r : List Cl} {c : Cl} {q : EL} (h : F4 c.pos i = true) (hq : q = Xr r) (h0 : q.1 ≠ 0) : D7 i r c = (q.1, []) := by unfold D7; rw [if_pos h, ← hq]; exact Dx h0
theorem A8b {i : Int} {r : List Cl} {c : Cl} {q m : EL} (h1 : F4 c.pos i = false) (h : F4 c.neg i = true) (hq : q = H4 r) (h0 : q.1 = 0) (hm : m = Kq [Cb c i] q.2) : D7 i r c = m := by unfold D7; rw [if_neg (by simp [h1]), if_pos h, ← hq, hm]; exact E7 h0
theorem A2b {i : Int} {r : List Cl} {c : Cl} {q : EL} (h1 : F4 c.pos i = false) (h : F4 c.neg i = true) (hq : q = H4 r) (h0 : q.1 ≠ 0) : D7 i r c = (q.1, []) := by unfold D7; rw [if_neg (by simp [h1]), if_pos h, ← hq]; exact Dx h0
theorem B2u {i : Int} {r : List Cl} {c : Cl} (h1 : F4 c.pos i = false) (h : F4 c.neg i = false) : D7 i r c = (0, [Cb c i]) := by unfold D7; rw [if_neg (by simp [h1]), if_neg (by simp [h])]
def Aw (f : List Cl) (i : Int) (r : List Cl) : EL := if (Aj f && Ff i && Ag r) = false then (2, []) else D6 (Cm i r) [] f
abbrev Pg (x : EL) : Prop := B3 x.2
theorem C0n {l m : List Cl} (h : B3 l) (hs : ∀ c, c ∈ m → c ∈ l) (hl : m.length ≤ l.length) : B3 m := ⟨fun c hc => h.1 c (hs c hc), by have := h.2; omega⟩
theorem Lm {l : List Cl} (h : ∀ c, c ∈ l → u32 c) : Pg (Bk l) := A4q h
theorem I7 {x : EL} {k : List Cl → EL} (h : x.1 = 0 → Pg (k x.2)) : Pg (Ez x k) := by
 by_cases h0 : x.1 = 0
 ·rw [E7 h0]; exact h h0
 ·rw [Dx h0]; exact En
theorem Uk {g : List Cl → Cl → EL} : ∀ {l h : List Cl}, (∀ h c, c ∈ l → B3 h → Pg (g h c)) → B3 h → Pg (D6 g h l)
 | [], h, _, h2 => h2
 | c :: l, h, h1, h2 => by
  rw [D6]
  exact I7 fun _ => Uk (fun h' d hd => h1 h' d (List.mem_cons_of_mem _ hd)) (h1 h c List.mem_cons_self h2)
theorem Lv {a b : Cl} (h : u32 a) (h2 : u32 b) : u32 (Dq a b) := ⟨Nat.or_lt_two_pow (n := 32) h.1 h2.1, Nat.or_lt_two_pow (n := 32) h.2 h2.2⟩
theorem Y5 {f g : List Cl} (h : ∀ c, c ∈ f → u32 c) (h2 : ∀ c, c ∈ g → u32 c) : ∀ c, c ∈ f ++ g → u32 c := fun c hc => (List.mem_append.mp hc).elim (h c) (h2 c)
theorem A2o {f g : List Cl} (h : ∀ c, c ∈ f → u32 c) (h2 : ∀ c, c ∈ g → u32 c) : ∀ c, c ∈ Mu f g → u32 c := fun c hc => by
 obtain ⟨a, ha, hc⟩ := List.mem_flatMap.mp hc
 obtain ⟨b, hb, rfl⟩ := List.mem_map.mp hc
 exact Lv (h a ha) (h2 b hb)
theorem B7h (c : Cl) : ∀ d, d ∈ A1p c → u32 d := fun d hd => by
 rcases List.mem_append.mp hd with hd | hd
 ·obtain ⟨i, _, rfl⟩ := List.mem_map.mp hd
  exact ⟨by show (0 : Nat) < _; decide, by have := My i; show G1 i < 4294967296; omega⟩
 ·obtain ⟨i, _, rfl⟩ := List.mem_map.mp hd
  exact ⟨by have := My i; show G1 i < 4294967296; omega, by show (0 : Nat) < _; decide⟩
theorem Eg (c : Cl) (i : Int) : u32 (Cb c i) := ⟨by have := Wj c.pos i; show Ds c.pos i < _; omega, by have := Wj c.neg i; show Ds c.neg i < _; omega⟩
theorem Dg {c : Cl} (h : u32 c) : B3 [c] := ⟨fun d hd => by rw [List.mem_singleton] at hd; subst hd; exact h, by unfold reach; simp⟩
theorem M5 {f g : List Cl} (h : B3 f) (h2 : B3 g) : Pg (Fu f g) := Lm (Y5 h.1 h2.1)
theorem M4 {f g : List Cl} (h : B3 f) (h2 : B3 g) : Pg (Jm f g) := Lm (A2o h.1 h2.1)
theorem B8d (c : Cl) : Pg (A6y c) := Lm (B7h c)
theorem X0 {h : List Cl} {c : Cl} (hh : B3 h) : Pg (Ed h c) := I7 fun _ => M4 hh (B8d c)
theorem Sn : B3 [Bc] := Dg ⟨by decide, by decide⟩
theorem R5 (f : List Cl) : Pg (Ph f) := Uk (fun h c _ hh => X0 hh) Sn
theorem B1j (f : List Cl) : Pg (Sr f) := by unfold Sr; split; exact R5 f; exact En
theorem B5i {i : Int} {r : List Cl} {c : Cl} (hr : B3 r) : Pg (H3 i r c) := by
 unfold H3
 split
 ·exact M4 (Dg (Eg c i)) hr
 ·exact Dg (Eg c i)
theorem B5j {i : Int} {r : List Cl} {c : Cl} {g : List Cl} (hg : B3 g) : Pg (Ji i r c g) := by
 unfold Ji
 split
 ·exact I7 fun _ => M4 hg (R5 r)
 ·exact hg
theorem Wz {i : Int} {r h : List Cl} {c : Cl} (hr : B3 r) (hh : B3 h) : Pg (Cd i r h c) := by
 unfold Cd
 refine I7 fun _ => I7 fun _ => M5 hh ?_
 have h1 : Pg (H3 i r c) := B5i hr
 exact B5j h1
theorem B1k {f r : List Cl} {i : Int} (hr : B3 r) : Pg (B4 f i r) := by
 unfold B4
 split
 ·exact En
 ·split
  ·exact En
  ·exact Uk (fun h c _ hh => Wz hr hh) En
theorem Sp {l : List Cl} (h : B3 l) : B3 (F9 l) := C0n h (fun c hc => (List.mem_filter.mp hc).1) (List.length_filter_le _ _)
theorem Z9 {f : List Cl} (h : B3 f) : Pg (Xr f) := by unfold Xr; split; exact Lm (Sp h).1; exact En
theorem Oo (r : List Cl) : Pg (H4 r) := I7 fun _ => Z9 (B1j r)
theorem Ll {f g : List Cl} (h : B3 f) (h2 : B3 g) : Pg (Kq f g) := Lm fun c hc => by
 obtain ⟨a, ha, hc⟩ := List.mem_flatMap.mp hc
 obtain ⟨b, hb, rfl⟩ := List.mem_map.mp (List.mem_filter.mp hc).1
 exact Lv (h.1 a ha) (h2.1 b hb)
theorem A7f {i : Int} {r : List Cl} {c : Cl} (hr : B3 r) : Pg (D7 i r c) := by
 unfold D7
 split
 ·exact I7 fun _ => Ll (Dg (Eg c i)) (Z9 hr)
 ·split
  ·exact I7 fun _ => Ll (Dg (Eg c i)) (Oo r)
  ·exact Dg (Eg c i)
theorem A7e {i : Int} {r h : List Cl} {c : Cl} (hr : B3 r) (hh : B3 h) : Pg (Cm i r h c) := I7 fun _ => M5 hh (A7f hr)
theorem B1l {f r : List Cl} {i : Int} (hr : B3 r) : Pg (Aw f i r) := by
 unfold Aw
 split
 ·exact En
 ·exact Uk (fun h c _ hh => A7e hr hh) En
abbrev Xj (x : EL) : Prop := x.2.length ≤ 64
theorem Ep (l : List Cl) : Xj (Bk l) := by
 rcases Jo l with ⟨_, _, h, h2⟩ | h | h
 ·show (Bk l).2.length ≤ 64; rw [h]; exact h2
 ·show (Bk l).2.length ≤ 64; rw [Sx A2]; decide
 ·show (Bk l).2.length ≤ 64; rw [Sx A2]; decide
theorem Q8 {x : EL} {k : List Cl → EL} (h : x.1 = 0 → Xj (k x.2)) : Xj (Ez x k) := by
 by_cases h0 : x.1 = 0
 ·rw [E7 h0]; exact h h0
 ·rw [Dx h0]; show ([] : List Cl).length ≤ 64; decide
theorem B2d {g : List Cl → Cl → EL} : ∀ {l h : List Cl}, (∀ h c, c ∈ l → h.length ≤ 64 → Xj (g h c)) → h.length ≤ 64 → Xj (D6 g h l)
 | [], h, _, h2 => h2
 | c :: l, h, h1, h2 => by
  rw [D6]
  exact Q8 fun _ => B2d (fun h' d hd => h1 h' d (List.mem_cons_of_mem _ hd)) (h1 h c List.mem_cons_self h2)
theorem X4 (h : List Cl) (c : Cl) : Xj (Ed h c) := Q8 fun _ => Ep _
theorem B8q (f : List Cl) : Xj (Ph f) := B2d (fun h c _ _ => X4 h c) Fb
theorem B2c (i : Int) (r h : List Cl) (c : Cl) : Xj (Cd i r h c) := Q8 fun _ => Q8 fun _ => Ep _
theorem C6n (f : List Cl) : Xj (Xr f) := by unfold Xr; split; exact Ep _; (show ([] : List Cl).length ≤ 64; decide)
theorem B5u (r : List Cl) : Xj (H4 r) := Q8 fun _ => C6n _
theorem C1q {f : List Cl} (h : Ag f = true) : f.length ≤ 64 := by
 unfold Ag at h
 simp only [Bool.and_eq_true, decide_eq_true_eq] at h
 exact h.2
theorem C5k (c : Cl) : (A1p c).length ≤ 48 := by
 unfold A1p
 rw [List.length_append, List.length_map, List.length_map]
 have h1 : (Bi c.pos).length ≤ 24 := K6 _ _
 have h2 : (Bi c.neg).length ≤ 24 := K6 _ _
 omega
theorem C6h {s i : Nat} (h : i < (Bi s).length) : 0 ≤ (Bi s).getD i 0 ∧ (Bi s).getD i 0 < 24 := by
 have h1 := A4l (Ai (d := (0 : Int)) h)
 exact ⟨h1.1, by have := h1.2; exact_mod_cast this⟩
theorem B1z {s i : Nat} (h : i < (Bi s).length) : Ao ((Bi s).getD i 0) := by have := C6h h; unfold Ao; omega
theorem A4i (f g : List Cl) : (Mu f g).length = f.length * g.length := by
 unfold Mu
 induction f with
 | nil => simp
 | cons a f ih => rw [List.flatMap_cons, List.length_append, ih, List.length_map, List.length_cons, Nat.succ_mul]; omega
theorem B5r (f g : List Cl) (a : Cl) : Mu (f ++ [a]) g = Mu f g ++ g.map fun b => Dq a b := by unfold Mu; rw [List.flatMap_append]; simp
theorem Ck {ok : Nat → Prop} {l : List Cl} {a : SH} {w : World} (h : Jx ok l a w) : B3 l := ⟨h.2, h.1.2.1⟩
def Xm (i : Int) : EL := if Ff i then (0, [⟨G1 i, 0⟩]) else (2, [])
theorem St.D4w {B : Ch} {Γ : List Fact} {Ms : List Bb} {w : World} {e : TypeId} {b : Nat} {l m : List Cl} {a a' : SH} (hs : St B Γ (Aa b [sl a l.length, sl a' m.length] e :: Ms) w) {hBp : Prop} (hB : hBp) (hF : CL l a ∈ Γ) (hG : CL m a' ∈ Γ) : St B (CCF [(l, a), (m, a')] (some ⟨b, 0, Option.none⟩, 2) :: Γ) Ms w := by
 have h1 := ((hs.Io (sz := 1) (m := 2) rfl Fb).C8p cpE).B7a (x := (l, a)) List.mem_cons_self (List.mem_cons_of_mem _ hF)
 have h2 := h1.B7a (x := (m, a')) List.mem_cons_self (List.mem_cons_of_mem _ (List.mem_cons_of_mem _ hG))
 exact (h2.A3h (F := Rf) (E := cpE) (d := cp0) (bt := 24) (l := [(l, a), (m, a')]) (fun _ => rfl) hB List.mem_cons_self rfl rfl Fb).less sx_
theorem St.D2f {B : Ch} {Γ : List Fact} {Ms : List Bb} {w : World} {b : Nat} {e : TypeId} {cs : List Value} {c : Cl} (hs : St B Γ (Aa b cs e :: Ms) w) {hBp : Prop} (hB : hBp) (hc : cs = Al c) (hu : u32 c) : St B (CL [c] (some ⟨b, 0, Option.none⟩, 1) :: Γ) Ms w :=
 (hs.Io (sz := 2) (m := 1) (by rw [hc]; rfl) Fb).C7 (l := [c]) hB (by rw [hc]; simp [A8]) rfl (Dg hu).2 (Dg hu).1
theorem Spec.Ua {P : Program} {k : FuncId} {args : Array Value} {pre : List Fact} {e : TypeId} {r r' : EL} (he : r' = r) (h : Spec P k args pre [] (fun x : SH => .tuple #[sl x r.2.length, .int .i64 r.1]) (fun _ => []) (fun x => [Ap 2 e x r.2.length (A8 r.2)])) (hr : Pg r) :
  Spec P k args pre [] (fun x : SH => .tuple #[sl x r'.2.length, .int .i64 r'.1]) (fun x => [CL r'.2 x]) (fun _ => []) := by
 subst he
 exact fun ok w hok hst => (h ok w hok hst).mono fun e w' hh => by
  obtain ⟨x, he, hs⟩ := hh
  exact ⟨x, he, hs.C7 trivial rfl rfl hr.2 hr.1⟩
theorem Spec.Of {P : Program} {k : FuncId} {args : Array Value} {pre : List Fact} {e : TypeId} {r r' : EL} (he : r' = r) (h : Spec P k args pre [] (fun x : SH => .tuple #[sl x r.2.length, .int .i64 r.1]) (fun _ => []) (fun x => [Ap 2 e x r.2.length (A8 r.2)])) :
  Spec P k args pre [] (fun x : SH => .tuple #[sl x r'.2.length, .int .i64 r'.1]) (fun _ => []) (fun x => [Ap 2 e x r'.2.length (A8 r'.2)]) := by
 subst he
 exact h
structure D1 where
 form : Int → List Cl → EL
 Ad : Int → List Cl → EL
def Xl (x : EL) : A5 (List Cl) := if x.1 = 0 then .ok x.2 else .bad x.1
theorem B6i {x : EL} (h : x.1 = 0) : Xl x = .ok x.2 := if_pos h
theorem B8z {x : EL} (h : x.1 ≠ 0) : Xl x = .bad x.1 := if_neg h
theorem T1 {x : EL} {g : List Cl} : Xl x = .ok g ↔ x = (0, g) := by
 unfold Xl
 split
 ·rename_i h
  constructor
  ·intro h2; injection h2 with h2; exact Prod.ext h h2
  ·rintro rfl; rfl
 ·rename_i h
  constructor
  ·intro h2; cases h2
  ·rintro rfl; exact absurd rfl h
theorem X7 {x : EL} {e : Int} : Xl x = .bad e ↔ x.1 = e ∧ e ≠ 0 := by
 unfold Xl
 split
 ·rename_i h
  constructor
  ·intro h2; cases h2
  ·rintro ⟨h2, h3⟩; exact absurd (h2.symm.trans h) h3
 ·rename_i h
  constructor
  ·intro h2; injection h2 with h2; exact ⟨h2, h2 ▸ h⟩
  ·rintro ⟨h2, h3⟩; rw [h2]
def D1.row (W : D1) (k d : Int) (r : List Cl) : EL := if k = 14 then W.Ad d r else W.form d r
def Ax (W : D1) : Tr Int where
 own d k n _ r := (Xl (W.row k d r)).bind fun g => .ok (.inr (n, g))
 Ad d f := (Xl (W.Ad d f)).bind fun g => .ok (if g.length = 0 then none else some g)
 Hu d b := .ok (d + b.2)
theorem B0j {W : D1} {d : Int} {b : Int × Int} : (Ax W).Hu d b = .ok (d + b.2) := rfl
theorem Mq {W : D1} {d k n : Int} {nm : ByteArray} {r : List Cl} (h : (W.row k d r).1 = 0) : (Ax W).own d k n nm r = .ok (.inr (n, (W.row k d r).2)) := by
 show (Xl _).bind _ = _; rw [B6i h]; rfl
theorem A6o {W : D1} {d k n : Int} {nm : ByteArray} {r : List Cl} (h : (W.row k d r).1 ≠ 0) : (Ax W).own d k n nm r = .bad (W.row k d r).1 := by
 show (Xl _).bind _ = _; rw [B8z h]; rfl
theorem F2 {W : D1} {d k n : Int} {nm : ByteArray} {r : List Cl} {p : Int × List Cl} : (Ax W).own d k n nm r = .ok (.inr p) ↔ W.row k d r = (0, p.2) ∧ p.1 = n := by
 constructor
 ·intro h
  obtain ⟨g, hg, h2⟩ := A5.A0 (x := Xl (W.row k d r)) h
  injection h2 with h2; injection h2 with h2; subst h2
  exact ⟨T1.mp hg, rfl⟩
 ·rintro ⟨h1, h2⟩
  rw [Mq (by rw [h1]), h1, ← h2]
theorem D5 {W : D1} {d k n : Int} {nm : ByteArray} {r : List Cl} {u : T} : (Ax W).own d k n nm r ≠ .ok (.inl u) := by
 intro h
 obtain ⟨g, hg, h2⟩ := A5.A0 (x := Xl (W.row k d r)) h
 injection h2 with h2; cases h2
theorem Vr {W : D1} {d k n e : Int} {nm : ByteArray} {r : List Cl} : (Ax W).own d k n nm r = .bad e ↔ (W.row k d r).1 = e ∧ e ≠ 0 := by
 rw [← X7]
 show (Xl _).bind _ = _ ↔ _
 cases Xl (W.row k d r) with
 | ok g => constructor <;> (intro h; cases h)
 | bad e' => exact Iff.intro (fun h => by injection h with h; rw [h]) (fun h => by injection h with h; rw [h]; rfl)
theorem Pv {W : D1} {d : Int} {f : List Cl} (h : (W.Ad d f).1 = 0) (h2 : (W.Ad d f).2.length = 0) : (Ax W).Ad d f = .ok none := by
 show (Xl _).bind _ = _; rw [B6i h]; show A5.ok (if _ then _ else _) = _; rw [if_pos h2]
theorem M0 {W : D1} {d : Int} {f : List Cl} (h : (W.Ad d f).1 = 0) (h2 : (W.Ad d f).2.length ≠ 0) : (Ax W).Ad d f = .ok (some (W.Ad d f).2) := by
 show (Xl _).bind _ = _; rw [B6i h]; show A5.ok (if _ then _ else _) = _; rw [if_neg h2]
theorem A1m {W : D1} {d : Int} {f : List Cl} (h : (W.Ad d f).1 ≠ 0) : (Ax W).Ad d f = .bad (W.Ad d f).1 := by
 show (Xl _).bind _ = _; rw [B8z h]; rfl
theorem Il {W : D1} {d : Int} {f : List Cl} : (Ax W).Ad d f = .ok none ↔ W.Ad d f = (0, []) := by
 constructor
 ·intro h
  obtain ⟨g, hg, h2⟩ := A5.A0 (x := Xl (W.Ad d f)) h
  injection h2 with h2
  rw [T1.mp hg]
  split at h2
  ·rename_i h3; rw [List.eq_nil_of_length_eq_zero h3]
  ·cases h2
 ·intro h; exact Pv (by rw [h]) (by rw [h]; rfl)
theorem Ik {W : D1} {d : Int} {f g : List Cl} : (Ax W).Ad d f = .ok (some g) ↔ W.Ad d f = (0, g) ∧ g ≠ [] := by
 constructor
 ·intro h
  obtain ⟨g', hg, h2⟩ := A5.A0 (x := Xl (W.Ad d f)) h
  injection h2 with h2
  split at h2
  ·cases h2
  ·rename_i h3
   injection h2 with h2; subst h2
   exact ⟨T1.mp hg, fun h => h3 (by rw [h]; rfl)⟩
 ·rintro ⟨h, h2⟩
  have h3 := M0 (W := W) (d := d) (f := f) (by rw [h]) (by rw [h]; intro h4; exact h2 (List.eq_nil_of_length_eq_zero h4))
  rw [h3, h]
theorem U5 {W : D1} {d e : Int} {f : List Cl} : (Ax W).Ad d f = .bad e ↔ (W.Ad d f).1 = e ∧ e ≠ 0 := by
 rw [← X7]
 show (Xl _).bind _ = _ ↔ _
 cases Xl (W.Ad d f) with
 | ok g => constructor <;> (intro h; cases h)
 | bad e' => exact Iff.intro (fun h => by injection h with h; rw [h]) (fun h => by injection h with h; rw [h]; rfl)
def E5 (g : Nat → T → A5 T) : Nat → List T → A5 (List T)
 | _, [] => .ok []
 | i, t :: ts => (g i t).bind fun t' => (E5 g (i + 1) ts).bind fun ts' => .ok (t' :: ts')
section
variable {g : Nat → T → A5 T}
theorem T3 : ∀ (i : Nat) (l : List T) (t : T), E5 g i (l ++ [t]) = (E5 g i l).bind fun l' => (g (i + l.length) t).bind fun t' => .ok (l' ++ [t'])
 | i, [], t => by
  simp only [List.nil_append, E5, A5.bind, List.length_nil, Nat.add_zero]
 | i, a :: l, t => by
  simp only [List.cons_append, E5, T3 (i + 1) l t, List.length_cons]
  rw [show i + 1 + l.length = i + (l.length + 1) by omega]
  cases g i a with
  | bad e => rfl
  | ok a' =>
   simp only [A5.bind]
   cases E5 g (i + 1) l with
   | bad e => rfl
   | ok l' =>
    simp only
    cases g (i + (l.length + 1)) t with
    | bad e => rfl
    | ok c2 => rfl
theorem A4z {e : Int} : ∀ {l m : List T} {i : Nat}, E5 g i l = .bad e → E5 g i (l ++ m) = .bad e
 | [], m, i, h => by rw [E5] at h; cases h
 | a :: l, m, i, h => by
  rw [List.cons_append, E5]
  rw [E5] at h
  cases h1 : g i a with
  | bad e' => rw [h1] at h; exact h
  | ok a' =>
   rw [h1] at h
   simp only [A5.bind] at h ⊢
   cases h3 : E5 g (i + 1) l with
   | bad e' => rw [h3] at h; rw [A4z h3]; exact h
   | ok l' => rw [h3] at h; cases h
theorem B2y {l us : List T} {i : Nat} {u : T} (hi : i < l.length) (h : E5 g 0 (l.take i) = .ok us) (hu : g i (l.getD i t0) = .ok u) : E5 g 0 (l.take (i + 1)) = .ok (us ++ [u]) := by
 rw [Ae (d := t0) hi, T3, h]
 simp only [A5.bind, List.length_take, Nat.zero_add, Nat.min_eq_left (Nat.le_of_lt hi)]
 rw [hu]
theorem A8f {l us : List T} {i : Nat} {e : Int} (hi : i < l.length) (h : E5 g 0 (l.take i) = .ok us) (hu : g i (l.getD i t0) = .bad e) : E5 g 0 l = .bad e := by
 have h1 : E5 g 0 (l.take (i + 1)) = .bad e := by
  rw [Ae (d := t0) hi, T3, h]
  simp only [A5.bind, List.length_take, Nat.zero_add, Nat.min_eq_left (Nat.le_of_lt hi)]
  rw [hu]
 have h2 := A4z (m := l.drop (i + 1)) h1
 rwa [List.take_append_drop] at h2
theorem Wa : ∀ {l us : List T} {i : Nat}, E5 g i l = .ok us → us.length = l.length
 | [], us, i, h => by rw [E5] at h; injection h with h; subst h; rfl
 | a :: l, us, i, h => by
  rw [E5] at h
  obtain ⟨a', _, h⟩ := A5.A0 h
  obtain ⟨l', h2, h⟩ := A5.A0 h
  injection h with h; subst h
  simp [Wa h2]
theorem A4y {e : Int} : ∀ {l : List T} {i : Nat}, E5 g i l = .bad e → ∃ j t, t ∈ l ∧ g j t = .bad e
 | [], i, h => by rw [E5] at h; cases h
 | a :: l, i, h => by
  rw [E5] at h
  cases h1 : g i a with
  | bad e' => rw [h1] at h; injection h with h; subst h; exact ⟨i, a, List.mem_cons_self, h1⟩
  | ok a' =>
   rw [h1] at h
   simp only [A5.bind] at h
   cases h3 : E5 g (i + 1) l with
   | bad e' => rw [h3] at h; injection h with h; subst h; obtain ⟨j, t, ht, hj⟩ := A4y h3; exact ⟨j, t, List.mem_cons_of_mem _ ht, hj⟩
   | ok l' => rw [h3] at h; cases h
end
theorem Qt {W : D1} {k d : Int} : ∀ {i : Nat} {ts : List T}, Cn (Ax W) k i ts d = E5 (fun j t => B1 (Ax W) t (d + (binds k j).2)) i ts
 | i, [] => by rw [C4, E5]
 | i, t :: ts => by rw [C3, E5, B0j, Qt (i := i + 1) (ts := ts)]; rfl
theorem Vk {W : D1} {k d : Int} : ∀ {i : Nat} {ts : List T}, Bv (Ax W) k ts d = E5 (fun _ t => B1 (Ax W) t (d + more k)) i ts
 | i, [] => by rw [Cr, E5]
 | i, t :: ts => by rw [C2, E5, B0j, Vk (i := i + 1) (ts := ts)]; rfl
theorem A1j {C : Type} {A : Tr C} {k : Int} {c : C} {ss : List Br} {s : Nat} {bs : List Br} (hs : s < ss.length) (hb : C6 A k (ss.take s) c = .ok bs) (hf : A.Ad c (ss.getD s Bf).Ad = .ok none) : C6 A k (ss.take (s + 1)) c = .ok bs := by
 rw [Ae (d := Bf) hs, Oc, hb]
 simp only [A5.bind]
 rw [hf]
theorem A1i {C : Type} {A : Tr C} {t : T} {c : C} {e : Int} {p : Int × List Cl} (h : A.own c t.kind t.n t.name t.r = .ok (.inr p)) (hl : Cn A t.kind 0 t.kids c = .bad e) : B1 A t c = .bad e := by
 rw [Cy, h]; simp only [A5.bind]; rw [hl]
def Oz (r : A5 (List T)) : Int × List T := match r with
 | .ok u => (0, u)
 | .bad e => (e, [])
theorem C3a {r : A5 T} (h : (Mz r).1 ≠ 0) : r = .bad (Mz r).1 := by
 cases r with
 | ok u => exact absurd rfl h
 | bad e => rfl
theorem C8k {r : A5 T} (hb : ∀ e, r = .bad e → e ≠ 0) (h : (Mz r).1 = 0) : r = .ok (Mz r).2 := by
 cases r with
 | ok u => rfl
 | bad e => exact absurd h (hb e rfl)
theorem A0r {r : A5 (List T)} (h : (Oz r).1 ≠ 0) : r = .bad (Oz r).1 := by
 cases r with
 | ok u => exact absurd rfl h
 | bad e => rfl
theorem A5m {r : A5 (List T)} (hb : ∀ e, r = .bad e → e ≠ 0) (h : (Oz r).1 = 0) : r = .ok (Oz r).2 := by
 cases r with
 | ok u => rfl
 | bad e => exact absurd h (hb e rfl)
theorem Is {W : D1} : ∀ (t : T) {d e : Int}, B1 (Ax W) t d = .bad e → e ≠ 0 := T.ind fun t ih d e h => by
 rcases A9o h with h1 | ⟨b, _, h1⟩ | ⟨p, hp, h1 | ⟨c', _, h2⟩⟩
 ·exact (Vr.mp h1).2
 ·exact (U5.mp h1).2
 ·cases h1
 ·exact ih p hp h2
theorem V4 {W : D1} {b : Nat → Int} {l : List T} {i : Nat} {e d : Int} (h : E5 (fun j t => B1 (Ax W) t (d + b j)) i l = .bad e) : e ≠ 0 := by
 obtain ⟨j, t, _, h1⟩ := A4y h
 exact Is t h1
abbrev Ca (W : D1) (t : T) (d : Int) : Int × T := Mz (B1 (Ax W) t d)
abbrev Wk (W : D1) (b : Nat → Int) (l : List T) (d : Int) : Int × List T := Oz (E5 (fun j t => B1 (Ax W) t (d + b j)) 0 l)
def B6 (P : List Cl → Int → List Cl → EL) (i : Int) (r : List Cl) (d : Int) (f : List Cl) : EL := if F4 (G3 f) (i + d) = false then (0, f) else Ez (A6 r 0 d) fun s => P f (i + d) s
def Em (i : Int) (r : List Cl) : D1 := ⟨B6 B4 i r, B6 Aw i r⟩
def Cz (i : Int) (d : Int) (f : List Cl) : EL := Bk (f.map fun c => ⟨E6 c.pos (i + d), E6 c.neg (i + d)⟩)
def Mw (i : Int) : D1 := ⟨Cz i, Cz i⟩
theorem A9n {f : List Cl} {j : Int} {c : Cl} (hc : c ∈ f.map fun c => (⟨E6 c.pos j, E6 c.neg j⟩ : Cl)) : u32 c := by
 obtain ⟨e, _, rfl⟩ := List.mem_map.mp hc
 exact ⟨by have := Qh e.pos j; show E6 _ _ < _; omega, by have := Qh e.neg j; show E6 _ _ < _; omega⟩
theorem A6i {t k : T} (h : k ∈ t.kids) : size k < size t := by obtain ⟨p, hp, e⟩ := F8 h; exact e ▸ L7 hp
theorem A6g {t k : T} {b : Br} (h : b ∈ t.sys) (h2 : k ∈ b.kids) : size k < size t := by obtain ⟨p, hp, e⟩ := H0 h h2; exact e ▸ L7 hp
theorem Spec.D8e {P : Program} {k : FuncId} {args : Array Value} {pre : List Fact} {Ms0 : List Bb} {y : Tys} {r r' : Int × T} (he : r' = r) (h : Spec P k args pre Ms0 (fun x : {h : HT // h.er = r.2} => .tuple #[.agg (tc r.2 x.1.vr x.1.vk x.1.vs).toArray, .int .i64 r.1]) (fun _ => []) (fun x => [Cu (F6 y x.1)])) :
  Spec P k args pre Ms0 (fun x : {h : HT // h.er = r'.2} => .tuple #[.agg (tc r'.2 x.1.vr x.1.vk x.1.vs).toArray, .int .i64 r'.1]) (fun _ => []) (fun x => [Cu (F6 y x.1)]) := by
 subst he
 exact h
theorem Spec.D2g {P : Program} {k : FuncId} {args : Array Value} {pre : List Fact} {Ms0 : List Bb} {y : Tys} {e : TypeId} {r r' : Int × List T} (he : r' = r) (h : Spec P k args pre Ms0 (fun x : {p : List HT × SH // p.1.map HT.er = r.2} => .tuple #[sl x.1.2 r.2.length, .int .i64 r.1]) (fun _ => []) (fun x => [Ap 6 e x.1.2 r.2.length (C8 (x.1.1.map HT.tp)), Cu (E4 y x.1.1)])) :
  Spec P k args pre Ms0 (fun x : {p : List HT × SH // p.1.map HT.er = r'.2} => .tuple #[sl x.1.2 r'.2.length, .int .i64 r'.1]) (fun _ => []) (fun x => [Ap 6 e x.1.2 r'.2.length (C8 (x.1.1.map HT.tp)), Cu (E4 y x.1.1)]) := by
 subst he
 exact h
section
variable {W : D1}
mutual
theorem Vh : ∀ {t u : T} {d : Int}, B1 (Ax W) t d = .ok u → size u ≤ size t
 | .mk k n nm r ks ss, u, d, hu => by
  rw [Cy] at hu
  simp only [T.kind, T.n, T.name, T.r, T.kids, T.sys] at hu
  obtain ⟨o, h9, hu⟩ := A5.A0 hu
  cases o with
  | inl v => exact absurd h9 D5
  | inr p =>
   obtain ⟨ks', h10, hu⟩ := A5.A0 hu
   obtain ⟨ss', h11, hu⟩ := A5.A0 hu
   injection hu with hu
   subst hu
   rw [Du, Du]
   simp only [T.kids, T.sys]
   have h1 := Y2 h10
   have h2 := Sf h11
   omega
theorem Y2 {k : Int} : ∀ {ts us : List T} {i : Nat} {d : Int}, Cn (Ax W) k i ts d = .ok us → Dp us ≤ Dp ts
 | [], us, i, d, hu => by rw [C4] at hu; injection hu with hu; subst hu; exact Nat.le_refl _
 | t :: ts, us, i, d, hu => by
  rw [C3] at hu
  obtain ⟨c', _, hu⟩ := A5.A0 hu
  obtain ⟨t', h2, hu⟩ := A5.A0 hu
  obtain ⟨ts', h3, hu⟩ := A5.A0 hu
  injection hu with hu
  subst hu
  have h4 := Vh h2
  have h5 := Y2 h3
  simp only [Dp]
  omega
theorem Y0 {k : Int} : ∀ {ts us : List T} {d : Int}, Bv (Ax W) k ts d = .ok us → Dp us ≤ Dp ts
 | [], us, d, hu => by rw [Cr] at hu; injection hu with hu; subst hu; exact Nat.le_refl _
 | t :: ts, us, d, hu => by
  rw [C2] at hu
  obtain ⟨c', _, hu⟩ := A5.A0 hu
  obtain ⟨t', h2, hu⟩ := A5.A0 hu
  obtain ⟨ts', h3, hu⟩ := A5.A0 hu
  injection hu with hu
  subst hu
  have h4 := Vh h2
  have h5 := Y0 h3
  simp only [Dp]
  omega
theorem Sf {k : Int} : ∀ {bs us : List Br} {d : Int}, C6 (Ax W) k bs d = .ok us → G6 us ≤ G6 bs
 | [], us, d, hu => by rw [Bs] at hu; injection hu with hu; subst hu; exact Nat.le_refl _
 | .mk f ks :: bs, us, d, hu => by
  rw [Bq] at hu
  simp only [Br.Ad, Br.kids] at hu
  obtain ⟨o, h5, hu⟩ := A5.A0 hu
  cases o with
  | none => have h6 := Sf hu; simp only [G6]; omega
  | some g =>
   obtain ⟨ks', h7, hu⟩ := A5.A0 hu
   obtain ⟨bs', h8, hu⟩ := A5.A0 hu
   injection hu with hu
   subst hu
   have h1 := Y0 h7
   have h2 := Sf h8
   simp only [G6, Br.kids]
   omega
end
theorem C3k (hW : ∀ d f, B3 f → Pg (W.form d f) ∧ Pg (W.Ad d f)) {t u : T} {d : Int} (h : N9 t) (hu : B1 (Ax W) t d = .ok u) : N9 u := by
 refine Ts (A := Ax W) ?_ ?_ ?_ t d u h hu
 ·intro c k n nm r p _ hn hr ho
  obtain ⟨h1, h2⟩ := F2.mp ho
  have h3 := hW c r hr
  have h4 : Pg (W.row k c r) := by unfold D1.row; split; exact h3.2; exact h3.1
  unfold Pg at h4
  rw [h1] at h4
  exact ⟨by rw [h2]; exact hn, h4⟩
 ·intro c k n nm r u ho
  exact absurd ho D5
 ·intro c f f' hr ho
  obtain ⟨h1, _⟩ := Ik.mp ho
  have h3 := (hW c f hr).2
  unfold Pg at h3
  rw [h1] at h3
  exact h3
theorem B7l : size t0 = 1 := by decide
theorem T7 {t : T} {d : Int} : size (Ca W t d).2 ≤ size t := by
 unfold Ca
 cases h : B1 (Ax W) t d with
 | ok u => exact Vh h
 | bad e => show size t0 ≤ size t; rw [B7l]; exact size_pos' t
theorem Rk (hW : ∀ d f, B3 f → Pg (W.form d f) ∧ Pg (W.Ad d f)) {t : T} {d : Int} (h : N9 t) : N9 (Ca W t d).2 := by
 unfold Ca
 cases hu : B1 (Ax W) t d with
 | ok u => exact C3k hW h hu
 | bad e => exact N8
end
theorem Z8 {P : List Cl → Int → List Cl → EL} (hP : ∀ f i r, B3 f → B3 r → Pg (P f i r)) {i d : Int} {r f : List Cl} (hf : B3 f) : Pg (B6 P i r d f) := by
 unfold B6
 split
 ·exact hf
 ·exact I7 fun _ => hP _ _ _ hf (Ks r 0 d)
theorem A7c (i : Int) (r : List Cl) : ∀ d f, B3 f → Pg ((Em i r).form d f) ∧ Pg ((Em i r).Ad d f) := fun d f hf =>
 ⟨Z8 (fun f i r _ hr => B1k hr) hf, Z8 (fun f i r _ hr => B1l hr) hf⟩
theorem B1m {i d : Int} {f : List Cl} (hf : B3 f) : Pg (Cz i d f) := Lm fun c hc => A9n hc
theorem C5n (i : Int) : ∀ d f, B3 f → Pg ((Mw i).form d f) ∧ Pg ((Mw i).Ad d f) := fun d f hf => ⟨B1m hf, B1m hf⟩
def Yd (x : Int × T) (k : T → Int × T) : Int × T := if x.1 ≠ 0 then (x.1, t0) else k x.2
theorem Qw {x : Int × T} {k : T → Int × T} (h : x.1 ≠ 0) : Yd x k = (x.1, t0) := if_pos h
theorem Tw {x : Int × T} {k : T → Int × T} (h : x.1 = 0) : Yd x k = k x.2 := if_neg (by simp [h])
section
variable {α : Type} {g : α → T → Int × T}
end
def Cs (t : T) (i : Int) (r : List Cl) : Int := if A9 t ≠ 0 then A9 t else if (Ff i && Ag r) = false then 2 else 0
def B9 (t : T) (i : Int) (r : List Cl) : Int × T := if Cs t i r ≠ 0 then (Cs t i r, t0) else Ca (Em i r) t 0
def Am (t : T) (i : Int) (r : List Cl) : Int × T := if Cs t i r ≠ 0 then (Cs t i r, t0) else if (A6 r i 1).1 ≠ 0 then ((A6 r i 1).1, t0) else Yd (Ca (Em i (A6 r i 1).2) t 0) fun x => Ca (Mw i) x 0
theorem O9 {t : T} {i : Int} {r : List Cl} (h : Cs t i r = 0) : A9 t = 0 ∧ (0 ≤ i ∧ i < 24) ∧ Ag r = true := by
 unfold Cs at h
 split at h
 ·rename_i h1; exact absurd h h1
 ·rename_i h1
  split at h
  ·cases h
  ·rename_i h2
   simp only [Bool.not_eq_false, Bool.and_eq_true] at h2
   refine ⟨Decidable.not_not.mp h1, ?_, h2.2⟩
   have h3 := h2.1
   unfold Ff at h3
   simpa using h3
section
variable {P : Program} [Tab P] {f : FuncId} {R : Ending → World → Prop} {B : Ch} {n : Fz} {K : List Item} {ops : Array Oper} {l : List Nat} {σ : Nat → Value} {Γ : List Fact} {Ms : List Bb} {dst : Option Tmp} {ty : TypeId} {x : Operand}
end
theorem Spec.B9c {P : Program} {k : FuncId} {args : Array Value} {pre L : List Fact} {G : Fact} {Ms0 : List Bb} {X : Type} {val : X → Value} {N : X → List Fact} {Ms1 : X → List Bb} (hp : ∀ F, F ∈ pre → F ∈ G :: L) (h : Spec P k args pre Ms0 val N Ms1) : Spec P k args [L5 L, G] Ms0 val N Ms1 := fun ok w hok hs =>
 h ok w hok ⟨hs.chg, fun F hF => by
  rcases List.mem_cons.mp (hp F hF) with e | e
  ·subst e; exact hs.facts _ (List.mem_cons_of_mem _ List.mem_cons_self)
  ·exact hs.facts (L5 L) List.mem_cons_self F e, hs.res, hs.lt, hs.disj⟩
theorem Spec.B7g {P : Program} {k : FuncId} {args : Array Value} {pre L : List Fact} {G : Fact} {Ms0 : List Bb} {X : Type} {val : X → Value} {N : X → List Fact} {Ms1 : X → List Bb} (hL : ∀ F, F ∈ L → F ∈ pre) (hG : G ∈ pre) (h : Spec P k args [L5 L, G] Ms0 val N Ms1) : Spec P k args pre Ms0 val N Ms1 := fun ok w hok hs =>
 h ok w hok ⟨hs.chg, fun F hF => by
  rcases List.mem_cons.mp hF with e | e
  ·subst e; exact fun F' hF' => hs.facts F' (hL F' hF')
  ·rw [List.mem_singleton] at e; subst e; exact hs.facts _ hG, hs.res, hs.lt, hs.disj⟩
end Go.Hy
namespace Go.Hy
open Go Go.ChangeShapes Go.WideShapes Go.RowKit Go.Shelf Go.Proofs
theorem Xk {C : Checked} {os : Os} {f : FuncId} {fn : Func} {s : ChangeSpec} {conds : List PathCond} {ts : List TypeId} {tb : TypeId} {H : Type} {enc : TypeId × Value → H} {L : List (String × DataW Unit)}
  (own : ownKnob C.prog.godebug = none) (started : os.Started) (noInit : C.prog.inits.idxOf? f = none) (hfn : C.prog.funcs[f]? = some fn)
  (witness : ∃ (w : World) (tape : Tape) (i : Input), w.os = os ∧ (w.forCall tape i).Shaped C.prog ∧ i.vars = [] ∧ Input.okWide C.prog (w.forCall tape i) .any w.heap.size f i ∧
   ((s.pre enc C.prog fn conds false (w.forCall tape i).memory i.args ∧ laidMetH C.prog L (w.forCall tape i).memory) ∧ sizedMet enc C.prog fn (OpenSpec.ofChange s) false (w.forCall tape i).memory i.args) ∧ Assume.holds {} C.prog (lone (Frame.enter C.prog f i.args .normal) [] (w.forCall tape i)))
  (laid : laidOutB C.prog = true) (hps : fn.params.toList = ts) (hread : ts.all (fun t => C.prog.readableRec t && decide (t < C.prog.types.size)) = true) (hres : fn.resultTypes = #[tb]) (hbool : C.prog.underlying tb = some .bool) (hvars : s.vars = [])
  (hsays : ∀ ds : List (DataW H), ds.length = ts.length → s.fn H ds = { results := [.lit (.bool true)], args := ds })
  (hcall : ∀ (W : World) (base : Nat) (args : Array Value) (ds : List (DataW H)) (p : List MemPlace), (∀ (j : Nat) t v, ts[j]? = some t → args[j]? = some v → Value.okWide C.prog W .any base t v) →
   DataW.TrodAll enc C.prog W 0 (fun _ => true) true ts args.toList ds p → (∀ x, x ∈ DataW.weightsEach C.prog ts ds → x ≤ reach) → laidMetH C.prog L W →
   Calls C.prog f args W fun e W' => e = .returned (.bool true) ∧ Below W.heap.size W W') :
  ReturnsInHanded {} C os f .any (fun w args => (s.pre enc C.prog fn conds false w args ∧ laidMetH C.prog L w) ∧ sizedMet enc C.prog fn (OpenSpec.ofChange s) false w args) (s.post enc C.prog fn false true false false) := by
 refine returnsInHanded_of_change_and (X := fun w _ => laidMetH C.prog L w) (fun _ _ _ hh h => h.of_heap hh) own started noInit hfn witness ?_
 intro W base args ds gs before hval hW hcnd hwt hL _
 have hW' := hW
 obtain ⟨p, q, hA, hV, rfl, hfz, hnd⟩ := hW
 rw [hvars] at hV
 obtain ⟨rfl, rfl⟩ := trodVars_none hV
 rw [hps] at hA hwt
 have hlen : ∀ {ts : List TypeId} {vs : List Value} {ds : List (DataW H)} {ps : List MemPlace}, DataW.TrodAll enc C.prog W 0 (fun _ => true) true ts vs ds ps → ds.length = ts.length := by
  intro ts
  induction ts with
  | nil => intro vs ds ps h; obtain ⟨_, rfl, _⟩ := trodAll_nil h; rfl
  | cons t ts ih =>
   intro vs ds ps h
   obtain ⟨v, vs1, d, ds1, a, b, rfl, rfl, rfl, _, h2⟩ := trodAll_cons h
   simp [ih h2]
 have hvt : s.plain.varTypes C.prog = [] := by
  have : s.plain.vars = [] := hvars
  unfold DataSpec.varTypes; rw [this]; rfl
 have hw2 : ∀ x, x ∈ DataW.weightsEach C.prog ts ds → x ≤ reach := by
  intro x hx
  rw [List.append_nil, hvt, List.append_nil] at hwt
  have := List.all_eq_true.mp hwt x hx
  exact of_decide_eq_true this
 refine (hcall W base args ds p (fun j t v ht hv => hval j t v (by rw [← Array.getElem?_toList, hps]; exact ht) hv) hA hw2 hL).mono ?_
 intro e W' ⟨he, hb⟩
 have hlt : ∀ x ∈ p, x.block < W.heap.size := fun x hx => hW'.lt x (by simpa using hx)
 refine ⟨.bool true, he, ds, [], p ++ [], [], p, [], hW', ?_, ?_, ?_, hb.frame _, fun h => by cases h⟩
 ·rw [List.append_nil, hsays ds (hlen hA), hres]
  exact ⟨[], [], ⟨1, by simp [DataW.trod, Value.cells, hbool]⟩, rfl, rfl⟩
 ·rw [List.append_nil, hsays ds (hlen hA), hps]
  refine S2 laid hb (fun t ht => ?_) hA hlt
  have := List.all_eq_true.mp hread t ht
  simpa using this
 ·rw [List.append_nil, hsays ds (hlen hA), hvars]
  rfl
theorem C3x {P : Program} {W : World} {nm : String} {t e : TypeId} {tab : List Nat} (hg : P.globalNamed nm = some 0) (ht : (P.globals[0]?).map (·.type) = some t) (hu : P.underlying t = some (.array tab.length e)) (he : P.underlying e = some (.int .u8)) (hc : P.cellsOf e = 1) (hc2 : P.cellsOf t = tab.length) (hpos : 0 < tab.length)
  (hp : ([(nm, (DataW.agg (tab.map fun (v : Nat) => .lit (.int .u8 (v : Int))) : DataW Unit))].all fun x => x.2.handleName?.isNone) = true) (h : laidMetH P [(nm, .agg (tab.map fun (v : Nat) => .lit (.int .u8 (v : Int))))] W) : TabAt 0 tab W ∧ 0 < W.heap.size := by
 rw [MakeChecks.laidMetH_plain _ _ _ hp] at h
 obtain ⟨ps, ⟨g0, t0, cs0, f0, p0, q0, hg0, ht0, hv0, hd0, _⟩, _⟩ := h
 obtain rfl := u_ hg hg0
 obtain rfl := u_ ht ht0
 obtain ⟨xs, m1, rfl, hx1, hlen, hn3, hel⟩ := DataW.trod_array hu hd0
 simp only [Prod.mk.injEq, DataW.agg.injEq] at hx1
 have hcell : ∀ j, j < tab.length → W.cell? ⟨0, j, none⟩ = some (.int .u8 (tab.getD j 0)) := by
  intro j hj
  have h1 := hel j hj
  rw [hc, Nat.mul_one, List.getElem?_eq_getElem A2] at h1
  obtain ⟨n, e1, e2, _⟩ := DataW.trod_int he h1
  have h2 := World.var?_cell hg0 hv0 j
  have h3 : cs0[j]? = some (.int .u8 n) := by
   have h4 := congrArg (fun l => l[0]?) e1
   simp only [List.getElem?_take, List.getElem?_drop, List.getElem?_cons_zero] at h4
   simpa using h4
  rw [h2, h3]
  have h5 : (tab.map fun (v : Nat) => (DataW.lit (.int .u8 (v : Int)) : DataW Unit))[j]? = (xs.map (·.1))[j]? := by rw [hx1.1]
  rw [List.getElem?_map, List.getElem?_map, List.getElem?_eq_getElem hj, List.getElem?_eq_getElem (show j < xs.length by omega)] at h5
  simp only [Option.map_some, Option.some.injEq] at h5
  rw [e2] at h5
  simp only [DataW.lit.injEq, Lit.int.injEq, true_and] at h5
  rw [List.getD_eq_getElem?_getD, List.getElem?_eq_getElem hj]
  simp [← h5]
 refine ⟨hcell, ?_⟩
 have h6 := hcell 0 hpos
 refine Nat.lt_of_not_le fun hz => ?_
 unfold World.cell? at h6
 rw [Array.getElem?_eq_none (show W.heap.size ≤ 0 from hz)] at h6
 simp at h6
theorem C3y {W : World} {tab : List Nat} (h : TabAt 0 tab W ∧ 0 < W.heap.size) : (At 0 0 (tab.map fun (v : Nat) => Value.int .u8 (v : Int))).f (okw W) W := by
 refine ⟨h.2, fun j v hj => ?_⟩
 rw [List.getElem?_map] at hj
 cases hq : tab[j]? with
 | none => rw [hq] at hj; cases hj
 | some k =>
  rw [hq] at hj
  injection hj with hj
  subst hj
  have hlt : j < tab.length := by
   refine Nat.lt_of_not_le fun hn => ?_
   rw [List.getElem?_eq_none hn] at hq
   cases hq
  have h1 := h.1 j hlt
  rw [List.getD_eq_getElem?_getD, hq] at h1
  rw [Nat.zero_add]
  exact h1
end Go.Hy
namespace Go.Hy
abbrev Wd : Type := Nat → Prop
def G4 (c : Cl) (P N : Wd) : Prop := (∀ i, c.pos.testBit i = true → P i) ∧ ∀ i, c.neg.testBit i = true → N i
def sat (l : List Cl) (P N : Wd) : Prop := ∃ c, c ∈ l ∧ G4 c P N
def Gz (s : Nat) : Wd := fun i => s.testBit i = true
def J2 (P N : Wd) : Prop := ∀ i, ¬ (P i ∧ N i)
theorem C5j {a b : Nat} : a ||| b = a ↔ ∀ i, b.testBit i = true → a.testBit i = true := by
 constructor
 ·intro h i hi
  rw [← h, Nat.testBit_or, hi, Bool.or_true]
 ·intro h
  refine Nat.eq_of_testBit_eq fun i => ?_
  rw [Nat.testBit_or]
  cases hb : b.testBit i with
  | false => simp
  | true => rw [h i hb]; rfl
theorem J3 {a b : Cl} : below a b = true ↔ G4 b (Gz a.pos) (Gz a.neg) := by
 unfold below G4 Gz
 rw [Bool.and_eq_true, decide_eq_true_eq, decide_eq_true_eq, C5j, C5j]
theorem C0l {c : Cl} {P N P' N' : Wd} (hp : ∀ i, P i → P' i) (hn : ∀ i, N i → N' i) (h : G4 c P N) : G4 c P' N' := ⟨fun i hi => hp i (h.1 i hi), fun i hi => hn i (h.2 i hi)⟩
theorem B0g {l : List Cl} {P N P' N' : Wd} (hp : ∀ i, P i → P' i) (hn : ∀ i, N i → N' i) (h : sat l P N) : sat l P' N' := by
 obtain ⟨c, hc, h⟩ := h
 exact ⟨c, hc, C0l hp hn h⟩
theorem Vq (c : Cl) : G4 c (Gz c.pos) (Gz c.neg) := ⟨fun i h => h, fun i h => h⟩
theorem U2 {a b : Cl} {P N : Wd} (h : below a b = true) (hs : G4 a P N) : G4 b P N := by
 have h1 := J3.mp h
 exact ⟨fun i hi => hs.1 i (h1.1 i hi), fun i hi => hs.2 i (h1.2 i hi)⟩
theorem B6w (c : Cl) : below c c = true := J3.mpr (Vq c)
theorem Xc {a b c : Cl} (h : below a b = true) (h2 : below b c = true) : below a c = true := J3.mpr (U2 h2 (J3.mp h))
theorem B6y {a b : Cl} (h : below a b = true) (h2 : below b a = true) : a = b := by
 have h1 := J3.mp h
 have h3 := J3.mp h2
 unfold G4 Gz at h1 h3
 have e1 : a.pos = b.pos := Nat.eq_of_testBit_eq fun i => by
  cases ha : a.pos.testBit i with
  | true => exact (h3.1 i ha).symm
  | false => cases hb : b.pos.testBit i with
   | false => rfl
   | true => rw [h1.1 i hb] at ha; cases ha
 have e2 : a.neg = b.neg := Nat.eq_of_testBit_eq fun i => by
  cases ha : a.neg.testBit i with
  | true => exact (h3.2 i ha).symm
  | false => cases hb : b.neg.testBit i with
   | false => rfl
   | true => rw [h1.2 i hb] at ha; cases ha
 cases a; cases b; simp_all
theorem A1t {l : List Cl} {c : Cl} (h : Cw l c = true) : ∃ d, d ∈ l ∧ c ≠ d ∧ below c d = true := by
 unfold Cw at h
 obtain ⟨d, hd, h2⟩ := List.any_eq_true.mp h
 rw [Bool.and_eq_true] at h2
 exact ⟨d, hd, by simpa using h2.1, h2.2⟩
theorem Qa {l : List Cl} : ∀ (n : Nat) (c : Cl), c.pos + c.neg ≤ n → c ∈ l → ∃ d, d ∈ Eh l ∧ below c d = true
 | n, c, hn, hc => by
  cases h : Cw l c with
  | false => exact ⟨c, Ec.mpr ⟨hc, h⟩, B6w c⟩
  | true =>
   obtain ⟨d, hd, hne, hb⟩ := A1t h
   have h1 : c.pos ||| d.pos = c.pos ∧ c.neg ||| d.neg = c.neg := by
    unfold below at hb
    rw [Bool.and_eq_true, decide_eq_true_eq, decide_eq_true_eq] at hb
    exact hb
   have h2 : d.pos ≤ c.pos := by have := Nat.right_le_or (n := c.pos) (m := d.pos); omega
   have h3 : d.neg ≤ c.neg := by have := Nat.right_le_or (n := c.neg) (m := d.neg); omega
   have h4 : d.pos + d.neg < c.pos + c.neg := by
    refine Nat.lt_of_le_of_ne A2 fun he => hne ?_
    have e1 : c.pos = d.pos := by omega
    have e2 : c.neg = d.neg := by omega
    cases c; cases d; simp_all
   obtain ⟨e, he, h5⟩ := Qa (d.pos + d.neg) d (Nat.le_refl _) hd
   exact ⟨e, he, Xc hb h5⟩
termination_by n c => c.pos + c.neg
theorem A6n {l : List Cl} {P N : Wd} : sat (Eh l) P N ↔ sat l P N := by
 constructor
 ·rintro ⟨c, hc, h⟩; exact ⟨c, (Ec.mp hc).1, h⟩
 ·rintro ⟨c, hc, h⟩
  obtain ⟨d, hd, hb⟩ := Qa _ c (Nat.le_refl _) hc
  exact ⟨d, hd, U2 hb h⟩
theorem G7 {l : List Cl} {P N : Wd} (h : (Bk l).1 = 0) : sat (Bk l).2 P N ↔ sat l P N := by
 rcases Jo l with ⟨_, _, h2, _⟩ | h2 | h2
 ·rw [h2]; exact A6n
 ·rw [h2] at h; cases h
 ·rw [h2] at h; cases h
theorem A6r {l m : List Cl} (Q : Wd → Wd → Prop) (hl : ∀ c, c ∈ l → Q (Gz c.pos) (Gz c.neg)) (hm : ∀ c, c ∈ m → Q (Gz c.pos) (Gz c.neg)) (h : ∀ P N, Q P N → (sat l P N ↔ sat m P N)) : Eh l = Eh m := by
 have half : ∀ {l m : List Cl}, (∀ c, c ∈ l → Q (Gz c.pos) (Gz c.neg)) → (∀ c, c ∈ m → Q (Gz c.pos) (Gz c.neg)) → (∀ P N, Q P N → (sat l P N ↔ sat m P N)) → ∀ x, x ∈ Eh l → x ∈ Eh m := by
  intro l m hl hm h x hx
  obtain ⟨h1, h2⟩ := Ec.mp hx
  have key : ∀ d, d ∈ m → below x d = true → x = d := by
   intro d hd hb
   obtain ⟨e, he, hse⟩ := (h _ _ (hm d hd)).mpr ⟨d, hd, Vq d⟩
   have hb2 : below d e = true := J3.mpr hse
   rcases Jl.mp h2 e he with h3 | h3
   ·subst h3; exact B6y hb hb2
   ·rw [Xc hb hb2] at h3; cases h3
  obtain ⟨d, hd, hsd⟩ := (h _ _ (hl x h1)).mp ⟨x, h1, Vq x⟩
  have hxd := key d hd (J3.mpr hsd)
  refine Ec.mpr ⟨hxd ▸ hd, Jl.mpr fun e he => ?_⟩
  cases hb : below x e with
  | false => exact .inr rfl
  | true => exact .inl (key e he hb)
 exact Sk (Ie l) (Ie m) fun x => ⟨half hl hm h x, half hm hl (fun P N hq => (h P N hq).symm) x⟩
theorem B5w {l m : List Cl} (Q : Wd → Wd → Prop) (r1 : l.all Bw = true) (r2 : m.all Bw = true) (hl : ∀ c, c ∈ l → Q (Gz c.pos) (Gz c.neg)) (hm : ∀ c, c ∈ m → Q (Gz c.pos) (Gz c.neg)) (h : ∀ P N, Q P N → (sat l P N ↔ sat m P N)) : Bk l = Bk m := by
 unfold Bk
 rw [r1, r2, A6r Q hl hm h]
theorem K8 {l : List Cl} (h : Ag l = true) : l.all Bw = true := by
 unfold Ag at h
 simp only [Bool.and_eq_true] at h
 exact h.1.1.1
theorem C7o {l m : List Cl} (Q : Wd → Wd → Prop) (h1 : Ag l = true) (h2 : Ag m = true) (hl : ∀ c, c ∈ l → Q (Gz c.pos) (Gz c.neg)) (hm : ∀ c, c ∈ m → Q (Gz c.pos) (Gz c.neg)) (h : ∀ P N, Q P N → (sat l P N ↔ sat m P N)) : l = m := by
 have h3 := B5w Q (K8 h1) (K8 h2) hl hm h
 rw [Nc.mp h1, Nc.mp h2] at h3
 injection h3
theorem B2o {l m : List Cl} (h1 : Ag l = true) (h2 : Ag m = true) (h : ∀ P N, sat l P N ↔ sat m P N) : l = m := C7o (fun _ _ => True) h1 h2 (fun _ _ => trivial) (fun _ _ => trivial) fun P N _ => h P N
theorem K9 {c : Cl} : Gy c = false ↔ J2 (Gz c.pos) (Gz c.neg) := by
 unfold Gy J2 Gz
 rw [decide_eq_false_iff_not, Decidable.not_not]
 constructor
 ·rintro h i ⟨h1, h2⟩
  have h3 : (c.pos &&& c.neg).testBit i = true := by rw [Nat.testBit_and, h1, h2]; rfl
  rw [h, Nat.zero_testBit] at h3
  cases h3
 ·intro h
  refine Nat.eq_of_testBit_eq fun i => ?_
  rw [Nat.testBit_and, Nat.zero_testBit]
  cases h1 : c.pos.testBit i with
  | false => rfl
  | true => cases h2 : c.neg.testBit i with
   | false => rfl
   | true => exact absurd ⟨h1, h2⟩ (h i)
theorem Fp {l : List Cl} (h : Aj l = true) : Ag l = true ∧ ∀ c, c ∈ l → Gy c = false := by
 unfold Aj at h
 rw [Bool.and_eq_true, Bool.not_eq_true'] at h
 refine ⟨h.1, fun c hc => ?_⟩
 cases hq : Gy c with
 | false => rfl
 | true => rw [List.any_eq_true.mpr ⟨c, hc, hq⟩] at h; cases h.2
theorem C2s {l : List Cl} (h : Ag l = true) (h2 : ∀ c, c ∈ l → Gy c = false) : Aj l = true := by
 unfold Aj
 rw [Bool.and_eq_true, Bool.not_eq_true', h]
 refine ⟨rfl, ?_⟩
 cases hq : l.any Gy with
 | false => rfl
 | true => obtain ⟨c, hc, h3⟩ := List.any_eq_true.mp hq; rw [h2 c hc] at h3; cases h3
theorem B2t {l m : List Cl} (h1 : Aj l = true) (h2 : Aj m = true) (h : ∀ P N, J2 P N → (sat l P N ↔ sat m P N)) : l = m :=
 C7o J2 (Fp h1).1 (Fp h2).1 (fun c hc => K9.mp ((Fp h1).2 c hc)) (fun c hc => K9.mp ((Fp h2).2 c hc)) h
section
variable {f g l : List Cl} {P N : Wd} {a b c : Cl}
theorem B7o : ¬ sat [] P N := by rintro ⟨c, hc, _⟩; cases hc
theorem Sm : sat (f ++ g) P N ↔ sat f P N ∨ sat g P N := by
 unfold sat
 simp only [List.mem_append]
 constructor
 ·rintro ⟨c, h | h, h2⟩
  ·exact .inl ⟨c, h, h2⟩
  ·exact .inr ⟨c, h, h2⟩
 ·rintro (⟨c, h, h2⟩ | ⟨c, h, h2⟩)
  ·exact ⟨c, .inl h, h2⟩
  ·exact ⟨c, .inr h, h2⟩
theorem Lz : sat [c] P N ↔ G4 c P N := by
 unfold sat
 constructor
 ·rintro ⟨d, hd, h⟩; rw [List.mem_singleton] at hd; subst hd; exact h
 ·intro h; exact ⟨c, List.mem_singleton.mpr rfl, h⟩
theorem C4h : G4 Bc P N := ⟨fun i hi => by simp [Bc] at hi, fun i hi => by simp [Bc] at hi⟩
theorem C9p : sat [Bc] P N := Lz.mpr C4h
theorem A3i : G4 (Dq a b) P N ↔ G4 a P N ∧ G4 b P N := by
 unfold G4 Dq
 simp only [Nat.testBit_or, Bool.or_eq_true]
 constructor
 ·rintro ⟨h1, h2⟩; exact ⟨⟨fun i hi => h1 i (.inl hi), fun i hi => h2 i (.inl hi)⟩, fun i hi => h1 i (.inr hi), fun i hi => h2 i (.inr hi)⟩
 ·rintro ⟨h1, h2⟩; exact ⟨fun i hi => hi.elim (h1.1 i) (h2.1 i), fun i hi => hi.elim (h1.2 i) (h2.2 i)⟩
theorem Qz : sat (Mu f g) P N ↔ sat f P N ∧ sat g P N := by
 unfold sat Mu
 simp only [List.mem_flatMap, List.mem_map]
 constructor
 ·rintro ⟨c, ⟨a, ha, b, hb, rfl⟩, h⟩
  have h2 := A3i.mp h
  exact ⟨⟨a, ha, h2.1⟩, b, hb, h2.2⟩
 ·rintro ⟨⟨a, ha, h1⟩, b, hb, h2⟩
  exact ⟨_, ⟨a, ha, b, hb, rfl⟩, A3i.mpr ⟨h1, h2⟩⟩
theorem Yl (hw : J2 P N) : sat (F9 l) P N ↔ sat l P N := by
 unfold sat F9
 constructor
 ·rintro ⟨c, hc, h⟩; exact ⟨c, (List.mem_filter.mp hc).1, h⟩
 ·rintro ⟨c, hc, h⟩
  refine ⟨c, List.mem_filter.mpr ⟨hc, ?_⟩, h⟩
  rw [Bool.not_eq_true', K9]
  rintro i ⟨h1, h2⟩
  exact hw i ⟨h.1 i h1, h.2 i h2⟩
end
theorem Vb {i : Int} {j : Nat} : (G1 i).testBit j = true ↔ (0 ≤ i ∧ i < 24) ∧ (j : Int) = i := by
 unfold G1
 split
 ·rename_i h
  rw [Nat.testBit_two_pow, decide_eq_true_eq]
  omega
 ·rename_i h
  rw [Nat.zero_testBit]
  constructor
  ·intro h2; cases h2
  ·rintro ⟨h2, _⟩; exact absurd h2 h
theorem Jc {s : Nat} {i : Int} {j : Nat} : (Ds s i).testBit j = true ↔ j < 24 ∧ s.testBit j = true ∧ (j : Int) ≠ i := by
 unfold Ds
 split
 ·rename_i h
  rw [Gr, Dy, Nat.testBit_two_pow]
  simp only [Bool.and_eq_true, decide_eq_true_eq, Bool.not_eq_true', decide_eq_false_iff_not]
  constructor
  ·rintro ⟨⟨_, h2, h3⟩, h4⟩; exact ⟨h2, h3, by omega⟩
  ·rintro ⟨h1, h2, h3⟩; exact ⟨⟨by omega, h1, h2⟩, by omega⟩
 ·rename_i h
  rw [Dy]
  simp only [Bool.and_eq_true, decide_eq_true_eq]
  constructor
  ·rintro ⟨h1, h2⟩; exact ⟨h1, h2, by omega⟩
  ·rintro ⟨h1, h2, _⟩; exact ⟨h1, h2⟩
theorem F3 {c : Cl} (h : Bw c = true) : (∀ i, c.pos.testBit i = true → i < 24) ∧ ∀ i, c.neg.testBit i = true → i < 24 := by
 obtain ⟨h1, h2⟩ := Wt.mp h
 have key : ∀ s i : Nat, s < 16777216 → s.testBit i = true → i < 24 := fun s i hs hi => by
  refine Decidable.byContradiction fun hn => ?_
  have h3 : s < 2 ^ i := Nat.lt_of_lt_of_le (show s < 2 ^ 24 by omega) (Nat.pow_le_pow_right A2 A2)
  rw [Nat.testBit_lt_two_pow h3] at hi
  cases hi
 exact ⟨fun i hi => key _ i h1 hi, fun i hi => key _ i h2 hi⟩
theorem C0k {c : Cl} {i : Int} {P N : Wd} (hc : Bw c = true) : G4 (Cb c i) P N ↔ (∀ j : Nat, c.pos.testBit j = true → (j : Int) ≠ i → P j) ∧ ∀ j : Nat, c.neg.testBit j = true → (j : Int) ≠ i → N j := by
 obtain ⟨h1, h2⟩ := F3 hc
 unfold G4 Cb
 simp only [Jc]
 exact ⟨fun h => ⟨fun j hj hn => h.1 j ⟨h1 j hj, hj, hn⟩, fun j hj hn => h.2 j ⟨h2 j hj, hj, hn⟩⟩, fun h => ⟨fun j hj => h.1 j hj.2.1 hj.2.2, fun j hj => h.2 j hj.2.1 hj.2.2⟩⟩
theorem R8 {s : Nat} {x : Int} : x ∈ Bi s ↔ 0 ≤ x ∧ x < 24 ∧ s.testBit x.toNat = true := K5
theorem C9o {c : Cl} {P N : Wd} (hc : Bw c = true) : sat (A1p c) P N ↔ (∃ i, c.pos.testBit i = true ∧ N i) ∨ ∃ i, c.neg.testBit i = true ∧ P i := by
 obtain ⟨b1, b2⟩ := F3 hc
 unfold A1p
 rw [Sm]
 have one : ∀ (s : Nat) (hs : ∀ i, s.testBit i = true → i < 24) (mk : Nat → Cl) (Q : Wd) (hq : ∀ x : Int, 0 ≤ x → x < 24 → (G4 (mk (G1 x)) P N ↔ Q x.toNat)), sat ((Bi s).map fun i => mk (G1 i)) P N ↔ ∃ i, s.testBit i = true ∧ Q i := by
  intro s hs mk Q hq
  unfold sat
  simp only [List.mem_map]
  constructor
  ·rintro ⟨_, ⟨x, hx, rfl⟩, h⟩
   obtain ⟨x0, x1, x2⟩ := R8.mp hx
   exact ⟨x.toNat, x2, (hq x x0 x1).mp h⟩
  ·rintro ⟨i, hi, h⟩
   have h3 := hs i hi
   exact ⟨_, ⟨(i : Int), R8.mpr ⟨by omega, by omega, by simpa using hi⟩, rfl⟩, (hq (i : Int) A2 A2).mpr (by simpa using h)⟩
 have e1 := one c.pos b1 (fun s => ⟨0, s⟩) N (fun x x0 x1 => by
  unfold G4
  simp only [Nat.zero_testBit, Vb]
  constructor
  ·intro h; exact h.2 x.toNat ⟨⟨x0, x1⟩, by omega⟩
  ·intro h; exact ⟨fun i hi => (by cases hi), fun i hi => (show i = x.toNat by omega) ▸ h⟩)
 have e2 := one c.neg b2 (fun s => ⟨s, 0⟩) P (fun x x0 x1 => by
  unfold G4
  simp only [Nat.zero_testBit, Vb]
  constructor
  ·intro h; exact h.1 x.toNat ⟨⟨x0, x1⟩, by omega⟩
  ·intro h; exact ⟨fun i hi => (show i = x.toNat by omega) ▸ h, fun i hi => (by cases hi)⟩)
 exact or_congr e1 e2
theorem O0 {g : List Cl → Cl → EL} {L : List Cl} {I : List Cl → List Cl → Prop} (hs : ∀ pre c h, c ∈ L → I pre h → (g h c).1 = 0 → I (pre ++ [c]) (g h c).2) : ∀ (m pre h : List Cl), I pre h → (∀ c, c ∈ m → c ∈ L) → (D6 g h m).1 = 0 → I (pre ++ m) (D6 g h m).2
 | [], pre, h, hi, _, _ => by rw [List.append_nil]; exact hi
 | c :: m, pre, h, hi, hm, h0 => by
  rw [D6] at h0 ⊢
  by_cases h1 : (g h c).1 = 0
  ·rw [E7 h1] at h0 ⊢
   have h2 := O0 hs m (pre ++ [c]) _ (hs pre c h (hm c List.mem_cons_self) hi h1) (fun d hd => hm d (List.mem_cons_of_mem _ hd)) h0
   rwa [List.append_assoc] at h2
  ·rw [Dx h1] at h0
   exact absurd h0 h1
theorem Da {x : EL} {k : List Cl → EL} (h : (Ez x k).1 = 0) : x.1 = 0 ∧ (k x.2).1 = 0 ∧ Ez x k = k x.2 := by
 by_cases h1 : x.1 = 0
 ·rw [E7 h1] at h ⊢; exact ⟨h1, h, rfl⟩
 ·rw [Dx h1] at h; exact absurd h h1
def Kx (P : Wd) : Wd := fun i => ¬ P i
theorem B7n {f : List Cl} {P N : Wd} (hf : ∀ c, c ∈ f → Bw c = true) (h : (Ph f).1 = 0) : sat (Ph f).2 P N ↔ ¬ sat f (Kx N) (Kx P) := by
 have h2 := O0 (g := Ed) (L := f) (I := fun pre h => ∀ P N, sat h P N ↔ ∀ c, c ∈ pre → ¬ G4 c (Kx N) (Kx P)) (fun pre c h hc hi h0 P N => by
  unfold Ed at h0 ⊢
  obtain ⟨a1, a2, a3⟩ := Da h0
  rw [a3]
  unfold Jm at a2 ⊢
  rw [G7 a2, Qz, hi]
  unfold A6y at a1 ⊢
  rw [G7 a1, C9o (hf c hc)]
  simp only [List.mem_append, List.mem_singleton, or_imp, forall_and, forall_eq]
  refine and_congr Iff.rfl ?_
  unfold G4 Kx
  constructor
  ·rintro (⟨i, hi, hn⟩ | ⟨i, hi, hn⟩) ⟨h1, h2⟩
   ·exact h1 i hi hn
   ·exact h2 i hi hn
  ·intro h1
   refine Classical.byContradiction fun h2 => h1 ⟨fun i hi hn => h2 (.inl ⟨i, hi, hn⟩), fun i hi hn => h2 (.inr ⟨i, hi, hn⟩)⟩) f [] [Bc] (fun P N => ⟨fun _ c hc => (by cases hc), fun _ => C9p⟩) (fun c hc => hc) h P N
 rw [List.nil_append] at h2
 unfold Ph
 rw [h2]
 unfold sat
 constructor
 ·rintro h3 ⟨c, hc, h4⟩; exact h3 c hc h4
 ·intro h3 c hc h4; exact h3 ⟨c, hc, h4⟩
def N6 (P : Wd) (i : Int) (A : Prop) : Wd := fun j => if (j : Int) = i then A else P j
theorem U4 {c : Cl} {i : Int} {P N : Wd} {A A' : Prop} (hc : Bw c = true) : G4 c (N6 P i A) (N6 N i A') ↔ G4 (Cb c i) P N ∧ (F4 c.pos i = true → A) ∧ (F4 c.neg i = true → A') := by
 obtain ⟨b1, b2⟩ := F3 hc
 rw [C0k hc]
 unfold G4 N6 F4
 simp only [Bool.and_eq_true, decide_eq_true_eq]
 constructor
 ·rintro ⟨h1, h2⟩
  refine ⟨⟨fun j hj hn => ?_, fun j hj hn => ?_⟩, ?_, ?_⟩
  ·have := h1 j hj; rwa [if_neg hn] at this
  ·have := h2 j hj; rwa [if_neg hn] at this
  ·rintro ⟨⟨h3, h4⟩, h5⟩; have := h1 _ h5; rwa [if_pos A2] at this
  ·rintro ⟨⟨h3, h4⟩, h5⟩; have := h2 _ h5; rwa [if_pos A2] at this
 ·rintro ⟨⟨h1, h2⟩, h3, h4⟩
  refine ⟨fun j hj => ?_, fun j hj => ?_⟩
  ·split
   ·rename_i h; have := b1 j hj; exact h3 ⟨⟨by omega, by omega⟩, by rw [← h]; simpa using hj⟩
   ·rename_i h; exact h1 j hj h
  ·split
   ·rename_i h; have := b2 j hj; exact h4 ⟨⟨by omega, by omega⟩, by rw [← h]; simpa using hj⟩
   ·rename_i h; exact h2 j hj h
theorem B0i {f r : List Cl} {i : Int} {P N : Wd} (h : (B4 f i r).1 = 0) : Ag f = true ∧ Ag r = true ∧ (0 ≤ i ∧ i < 24) ∧ (sat (B4 f i r).2 P N ↔ sat f (N6 P i (sat r P N)) (N6 N i (¬ sat r (Kx N) (Kx P)))) := by
 unfold B4 at h ⊢
 split at h
 ·cases h
 ·rename_i h1
  split at h
  ·cases h
  ·rename_i h2
   rw [if_neg h1, if_neg h2]
   simp only [Bool.not_eq_false, Bool.and_eq_true] at h1
   have h3 : 0 ≤ i ∧ i < 24 := by unfold Ff at h2; simpa using h2
   refine ⟨h1.1, h1.2, h3, ?_⟩
   have hr := K8 h1.2
   have hf := K8 h1.1
   have h4 := O0 (g := Cd i r) (L := f) (I := fun pre h => ∀ P N, sat h P N ↔ ∃ c, c ∈ pre ∧ G4 c (N6 P i (sat r P N)) (N6 N i (¬ sat r (Kx N) (Kx P)))) (fun pre c h hc hi h0 P N => by
    unfold Cd at h0 ⊢
    obtain ⟨a1, a2, a3⟩ := Da h0
    rw [a3]
    obtain ⟨b1, b2, b3⟩ := Da a2
    rw [b3]
    unfold Fu at b2 ⊢
    rw [G7 b2, Sm, hi]
    have hc24 := List.all_eq_true.mp hf c hc
    have e1 : ∀ P N, sat (H3 i r c).2 P N ↔ G4 (Cb c i) P N ∧ (F4 c.pos i = true → sat r P N) := by
     intro P N
     unfold H3 at a1 ⊢
     split
     ·rename_i h5
      rw [if_pos h5] at a1
      unfold Jm at a1 ⊢
      rw [G7 a1, Qz, Lz]
      exact ⟨fun h => ⟨h.1, fun _ => h.2⟩, fun h => ⟨h.1, h.2 h5⟩⟩
     ·rename_i h5
      rw [Lz]
      exact ⟨fun h => ⟨h, fun h6 => absurd h6 h5⟩, fun h => h.1⟩
    have e2 : sat (Ji i r c (H3 i r c).2).2 P N ↔ sat (H3 i r c).2 P N ∧ (F4 c.neg i = true → ¬ sat r (Kx N) (Kx P)) := by
     unfold Ji at b1 ⊢
     split
     ·rename_i h5
      rw [if_pos h5] at b1
      obtain ⟨d1, d2, d3⟩ := Da b1
      rw [d3]
      unfold Jm at d2 ⊢
      rw [G7 d2, Qz, B7n (fun c hc => List.all_eq_true.mp hr c hc) d1]
      exact ⟨fun h => ⟨h.1, fun _ => h.2⟩, fun h => ⟨h.1, h.2 h5⟩⟩
     ·rename_i h5
      exact ⟨fun h => ⟨h, fun h6 => absurd h6 h5⟩, fun h => h.1⟩
    rw [e2, e1]
    simp only [List.mem_append, List.mem_singleton]
    constructor
    ·rintro (⟨d, hd, hs⟩ | hs)
     ·exact ⟨d, .inl hd, hs⟩
     ·exact ⟨c, .inr rfl, (U4 hc24).mpr ⟨hs.1.1, hs.1.2, hs.2⟩⟩
    ·rintro ⟨d, hd | hd, hs⟩
     ·exact .inl ⟨d, hd, hs⟩
     ·subst hd
      obtain ⟨q1, q2, q3⟩ := (U4 hc24).mp hs
      exact .inr ⟨⟨q1, q2⟩, q3⟩) f [] [] (fun P N => ⟨fun h => absurd h B7o, fun ⟨c, hc, _⟩ => (by cases hc)⟩) (fun c hc => hc) h P N
   rw [List.nil_append] at h4
   exact h4
theorem C4f {r : List Cl} {P N : Wd} (hw : J2 P N) (h : (Xr r).1 = 0) : sat (Xr r).2 P N ↔ sat r P N := by
 unfold Xr at h ⊢
 split at h
 ·rename_i h1
  rw [if_pos h1, G7 h, Yl hw]
 ·cases h
theorem B4p {r : List Cl} {P N : Wd} (hw : J2 P N) (h : (H4 r).1 = 0) : sat (H4 r).2 P N ↔ ¬ sat r (Kx N) (Kx P) := by
 unfold H4 at h ⊢
 obtain ⟨a1, a2, a3⟩ := Da h
 rw [a3, C4f hw a2]
 unfold Sr at a1 ⊢
 split at a1
 ·rename_i h1
  rw [if_pos h1, B7n (fun c hc => List.all_eq_true.mp (K8 h1) c hc) a1]
 ·cases a1
theorem Vy {c : Cl} {x : List Cl} : Kq [c] x = Bk (F9 (x.map fun b => Dq c b)) := by
 unfold Kq
 simp
theorem U3 {c : Cl} {x : List Cl} {P N : Wd} : sat (x.map fun b => Dq c b) P N ↔ G4 c P N ∧ sat x P N := by
 have h := Qz (f := [c]) (g := x) (P := P) (N := N)
 rw [Lz] at h
 rw [← h]
 unfold Mu
 simp
theorem B6q {c : Cl} {i : Int} (h : Gy c = false) : Gy (Cb c i) = false := by
 rw [K9] at h ⊢
 rintro j ⟨h1, h2⟩
 exact h j ⟨(Jc.mp h1).2.1, (Jc.mp h2).2.1⟩
theorem has_both {c : Cl} {i : Int} (h : Gy c = false) (h1 : F4 c.pos i = true) : F4 c.neg i = false := by
 cases h2 : F4 c.neg i with
 | false => rfl
 | true =>
  unfold F4 at h1 h2
  simp only [Bool.and_eq_true] at h1 h2
  exact absurd ⟨h1.2, h2.2⟩ (K9.mp h _)
theorem C4e {c : Cl} {r : List Cl} {i : Int} {P N : Wd} (hw : J2 P N) (hcl : Gy c = false) (h : (D7 i r c).1 = 0) : sat (D7 i r c).2 P N ↔ G4 (Cb c i) P N ∧ (F4 c.pos i = true → sat r P N) ∧ (F4 c.neg i = true → ¬ sat r (Kx N) (Kx P)) := by
 unfold D7 at h ⊢
 split at h
 ·rename_i h1
  rw [if_pos h1]
  obtain ⟨a1, a2, a3⟩ := Da h
  rw [a3]
  rw [Vy] at a2 ⊢
  rw [G7 a2, Yl hw, U3, C4f hw a1]
  have h2 := has_both hcl h1
  exact ⟨fun h => ⟨h.1, fun _ => h.2, fun h3 => by rw [h2] at h3; cases h3⟩, fun h => ⟨h.1, h.2.1 h1⟩⟩
 ·rename_i h1
  rw [if_neg h1]
  split at h
  ·rename_i h2
   rw [if_pos h2]
   obtain ⟨a1, a2, a3⟩ := Da h
   rw [a3]
   rw [Vy] at a2 ⊢
   rw [G7 a2, Yl hw, U3, B4p hw a1]
   exact ⟨fun h => ⟨h.1, fun h3 => absurd h3 h1, fun _ => h.2⟩, fun h => ⟨h.1, h.2.2 h2⟩⟩
  ·rename_i h2
   rw [if_neg h2, Lz]
   exact ⟨fun h => ⟨h, fun h3 => absurd h3 h1, fun h3 => absurd h3 h2⟩, fun h => h.1⟩
theorem C0z {c : Cl} {r : List Cl} {i : Int} (hcl : Gy c = false) (h : (D7 i r c).1 = 0) : ∀ d, d ∈ (D7 i r c).2 → Gy d = false := by
 have key : ∀ x : List Cl, (Kq [Cb c i] x).1 = 0 → ∀ d, d ∈ (Kq [Cb c i] x).2 → Gy d = false := by
  intro x hx d hd
  rw [Vy] at hx hd
  have h2 := K7 hx hd
  unfold F9 at h2
  simpa using (List.mem_filter.mp h2).2
 unfold D7 at h ⊢
 split at h
 ·rename_i h1
  rw [if_pos h1]
  obtain ⟨a1, a2, a3⟩ := Da h
  rw [a3]
  exact key _ a2
 ·rename_i h1
  rw [if_neg h1]
  split at h
  ·rename_i h2
   rw [if_pos h2]
   obtain ⟨a1, a2, a3⟩ := Da h
   rw [a3]
   exact key _ a2
  ·rename_i h2
   rw [if_neg h2]
   intro d hd
   rw [List.mem_singleton] at hd
   subst hd
   exact B6q hcl
theorem Wp {f r : List Cl} {i : Int} (h : (Aw f i r).1 = 0) : Aj f = true ∧ Ag r = true ∧ (0 ≤ i ∧ i < 24) ∧ Aj (Aw f i r).2 = true ∧ ∀ P N, J2 P N → (sat (Aw f i r).2 P N ↔ sat f (N6 P i (sat r P N)) (N6 N i (¬ sat r (Kx N) (Kx P)))) := by
 unfold Aw at h ⊢
 split at h
 ·cases h
 ·rename_i h1
  rw [if_neg h1]
  simp only [Bool.not_eq_false, Bool.and_eq_true] at h1
  obtain ⟨⟨hf, hi⟩, hr⟩ := h1
  have h3 : 0 ≤ i ∧ i < 24 := by unfold Ff at hi; simpa using hi
  obtain ⟨hff, hfc⟩ := Fp hf
  have hf24 := K8 hff
  refine ⟨hf, hr, h3, ?_⟩
  have h4 := O0 (g := Cm i r) (L := f) (I := fun pre h => Aj h = true ∧ ∀ P N, J2 P N → (sat h P N ↔ ∃ c, c ∈ pre ∧ G4 c (N6 P i (sat r P N)) (N6 N i (¬ sat r (Kx N) (Kx P))))) (fun pre c h hc hi h0 => by
   unfold Cm at h0 ⊢
   obtain ⟨a1, a2, a3⟩ := Da h0
   rw [a3]
   unfold Fu at a2 ⊢
   have hcl := hfc c hc
   refine ⟨C2s (Nx a2) fun d hd => ?_, fun P N hw => ?_⟩
   ·rcases List.mem_append.mp (K7 a2 hd) with hd | hd
    ·exact (Fp hi.1).2 d hd
    ·exact C0z hcl a1 d hd
   ·rw [G7 a2, Sm, hi.2 P N hw, C4e hw hcl a1]
    have hc24 := List.all_eq_true.mp hf24 c hc
    simp only [List.mem_append, List.mem_singleton]
    constructor
    ·rintro (⟨d, hd, hs⟩ | hs)
     ·exact ⟨d, .inl hd, hs⟩
     ·exact ⟨c, .inr rfl, (U4 hc24).mpr hs⟩
    ·rintro ⟨d, hd | hd, hs⟩
     ·exact .inl ⟨d, hd, hs⟩
     ·subst hd
      exact .inr ((U4 hc24).mp hs)) f [] [] ⟨by decide, fun P N _ => ⟨fun h => absurd h B7o, fun ⟨c, hc, _⟩ => (by cases hc)⟩⟩ (fun c hc => hc) h
  rw [List.nil_append] at h4
  exact h4
theorem B6e {f r : List Cl} {i : Int} (h : (B4 f i r).1 = 0) : Ag (B4 f i r).2 = true := by
 unfold B4 at h ⊢
 split at h
 ·cases h
 ·rename_i h1
  split at h
  ·cases h
  ·rename_i h2
   rw [if_neg h1, if_neg h2]
   exact O0 (g := Cd i r) (L := f) (I := fun pre h => Ag h = true) (fun pre c h hc hi h0 => by
    unfold Cd at h0 ⊢
    obtain ⟨a1, a2, a3⟩ := Da h0
    rw [a3]
    obtain ⟨b1, b2, b3⟩ := Da a2
    rw [b3]
    exact Nx b2) f [] [] Fb (fun c hc => hc) h
def Gh (P : Wd) (f b : Int) : Wd := fun j => if (j : Int) < f then P j else P (j + b.toNat)
theorem A3j {c : Cl} {f b : Int} {P N : Wd} (h : (Bl c f b).1 = 0) : G4 (Bl c f b).2 P N ↔ G4 c (Gh P f b) (Gh N f b) := by
 obtain ⟨hr, h1, h2, h3⟩ := We h
 obtain ⟨b1, b2⟩ := F3 hr
 obtain ⟨f0, b0, _⟩ := Jn h1 0
 rw [h3]
 have key : ∀ (s : Nat) (hs : ∀ i, s.testBit i = true → i < 24) (hm : (An s f b).1 = 0) (Q : Wd), (∀ i, (An s f b).2.testBit i = true → Q i) ↔ ∀ i, s.testBit i = true → Gh Q f b i := by
  intro s hs hm Q
  constructor
  ·intro h i hi
   unfold Gh
   split
   ·rename_i h4; exact h i ((Lc hm i).mpr ⟨i, hs i hi, hi, .inl ⟨h4, rfl⟩⟩)
   ·rename_i h4; exact h _ ((Lc hm _).mpr ⟨i, hs i hi, hi, .inr ⟨by omega, by omega⟩⟩)
  ·intro h i hi
   obtain ⟨j, _, hj, h4⟩ := (Lc hm i).mp hi
   have h5 := h j hj
   unfold Gh at h5
   rcases h4 with ⟨h4, h6⟩ | ⟨h4, h6⟩
   ·rw [if_pos h4] at h5; rw [h6]; exact h5
   ·rw [if_neg A2] at h5; rw [show i = j + b.toNat by omega]; exact h5
 unfold G4
 exact and_congr (key _ b1 h1 P) (key _ b2 h2 N)
theorem Pu {l : List Cl} {f b : Int} {P N : Wd} (h : (A6 l f b).1 = 0) : sat (A6 l f b).2 P N ↔ sat l (Gh P f b) (Gh N f b) := by
 obtain ⟨_, h2, h3⟩ := Fg h
 rw [h3] at h ⊢
 rw [G7 h]
 unfold sat
 simp only [List.mem_map]
 constructor
 ·rintro ⟨_, ⟨c, hc, rfl⟩, hs⟩; exact ⟨c, hc, (A3j (h2 c hc)).mp hs⟩
 ·rintro ⟨c, hc, hs⟩; exact ⟨_, ⟨c, hc, rfl⟩, (A3j (h2 c hc)).mpr hs⟩
theorem O3 {s : Nat} {i : Int} (h0 : 0 ≤ i) {k : Nat} : (E6 s i).testBit k = true ↔ ∃ j, j < 24 ∧ s.testBit j = true ∧ (((j : Int) < i ∧ k = j) ∨ (i < (j : Int) ∧ k + 1 = j)) := by
 unfold E6
 split
 ·rename_i h
  rw [Nat.testBit_or, Nat.testBit_and, M7, Nat.testBit_mul_two_pow, Nat.testBit_div_two_pow, Dy, Dy]
  simp only [Bool.or_eq_true, Bool.and_eq_true, decide_eq_true_eq]
  constructor
  ·rintro (⟨⟨h1, h2⟩, h3⟩ | ⟨h1, h2, h3⟩)
   ·exact ⟨k, h1, h2, .inl ⟨by omega, rfl⟩⟩
   ·exact ⟨_, h2, h3, .inr ⟨by omega, by omega⟩⟩
  ·rintro ⟨j, h1, h2, ⟨h3, h4⟩ | ⟨h3, h4⟩⟩
   ·subst h4; exact .inl ⟨⟨h1, h2⟩, by omega⟩
   ·refine .inr ⟨by omega, ?_⟩
    rw [show k - i.toNat + (i.toNat + 1) = j by omega]
    exact ⟨h1, h2⟩
 ·rename_i h
  rw [Dy]
  simp only [Bool.and_eq_true, decide_eq_true_eq]
  constructor
  ·rintro ⟨h1, h2⟩; exact ⟨k, h1, h2, .inl ⟨by omega, rfl⟩⟩
  ·rintro ⟨j, h1, h2, ⟨h3, h4⟩ | ⟨h3, h4⟩⟩
   ·subst h4; exact ⟨h1, h2⟩
   ·omega
def drW (P : Wd) (i : Int) : Wd := fun j => if (j : Int) < i then P j else if (j : Int) = i then True else P (j - 1)
theorem A3k {c : Cl} {i : Int} {P N : Wd} (hc : Bw c = true) (h0 : 0 ≤ i) : G4 ⟨E6 c.pos i, E6 c.neg i⟩ P N ↔ G4 c (drW P i) (drW N i) := by
 obtain ⟨b1, b2⟩ := F3 hc
 have key : ∀ (s : Nat) (hs : ∀ i, s.testBit i = true → i < 24) (Q : Wd), (∀ k, (E6 s i).testBit k = true → Q k) ↔ ∀ j, s.testBit j = true → drW Q i j := by
  intro s hs Q
  constructor
  ·intro h j hj
   unfold drW
   split
   ·rename_i h1; exact h j ((O3 h0).mpr ⟨j, hs j hj, hj, .inl ⟨h1, rfl⟩⟩)
   ·split
    ·trivial
    ·rename_i h1 h2; exact h _ ((O3 h0).mpr ⟨j, hs j hj, hj, .inr ⟨by omega, by omega⟩⟩)
  ·intro h k hk
   obtain ⟨j, _, hj, h4⟩ := (O3 h0).mp hk
   have h5 := h j hj
   unfold drW at h5
   rcases h4 with ⟨h4, h6⟩ | ⟨h4, h6⟩
   ·rw [if_pos h4] at h5; rw [h6]; exact h5
   ·rw [if_neg A2, if_neg A2] at h5; rw [show k = j - 1 by omega]; exact h5
 unfold G4
 exact and_congr (key _ b1 P) (key _ b2 N)
theorem C4g {f : List Cl} {i d : Int} {P N : Wd} (hf : ∀ c, c ∈ f → Bw c = true) (h0 : 0 ≤ i + d) (h : (Cz i d f).1 = 0) : sat (Cz i d f).2 P N ↔ sat f (drW P (i + d)) (drW N (i + d)) := by
 unfold Cz at h ⊢
 rw [G7 h]
 unfold sat
 simp only [List.mem_map]
 constructor
 ·rintro ⟨_, ⟨c, hc, rfl⟩, hs⟩; exact ⟨c, hc, (A3k (hf c hc) h0).mp hs⟩
 ·rintro ⟨c, hc, hs⟩; exact ⟨_, ⟨c, hc, rfl⟩, (A3k (hf c hc) h0).mpr hs⟩
theorem A1l {c : Cl} {i : Int} {P N : Wd} {A A' : Prop} (h : ∀ j : Nat, (c.pos ||| c.neg).testBit j = true → (j : Int) ≠ i) : G4 c (N6 P i A) (N6 N i A') ↔ G4 c P N := by
 unfold G4 N6
 constructor
 ·rintro ⟨h1, h2⟩
  refine ⟨fun j hj => ?_, fun j hj => ?_⟩
  ·have := h1 j hj; rwa [if_neg (h j (by rw [Nat.testBit_or, hj]; rfl))] at this
  ·have := h2 j hj; rwa [if_neg (h j (by rw [Nat.testBit_or, hj, Bool.or_true]))] at this
 ·rintro ⟨h1, h2⟩
  refine ⟨fun j hj => ?_, fun j hj => ?_⟩
  ·rw [if_neg (h j (by rw [Nat.testBit_or, hj]; rfl))]; exact h1 j hj
  ·rw [if_neg (h j (by rw [Nat.testBit_or, hj, Bool.or_true]))]; exact h2 j hj
theorem B2l {f : List Cl} {i : Int} (hf : f.all Bw = true) (h : F4 (G3 f) i = false) {c : Cl} (hc : c ∈ f) (j : Nat) (hj : (c.pos ||| c.neg).testBit j = true) : (j : Int) ≠ i := by
 intro e
 subst e
 obtain ⟨b1, b2⟩ := F3 (List.all_eq_true.mp hf c hc)
 have hlt : j < 24 := by
  rw [Nat.testBit_or, Bool.or_eq_true] at hj
  exact hj.elim (b1 j) (b2 j)
 unfold F4 at h
 rw [decide_eq_true (show (0 : Int) ≤ (j : Int) by omega), decide_eq_true (show (j : Int) < 24 by omega)] at h
 simp only [Bool.true_and, Int.toNat_natCast] at h
 rw [Lo.mpr ⟨hlt, c, hc, hj⟩] at h
 cases h
theorem B0h {f : List Cl} {i : Int} {P N : Wd} {A A' : Prop} (hf : f.all Bw = true) (h : F4 (G3 f) i = false) : sat f (N6 P i A) (N6 N i A') ↔ sat f P N := by
 unfold sat
 exact exists_congr fun c => and_congr_right fun hc => A1l (fun j hj => B2l hf h hc j hj)
theorem C0j {f : List Cl} {P N P' N' : Wd} (hf : ∀ c, c ∈ f → Bw c = true) (h1 : ∀ j, j < 24 → (P j ↔ P' j)) (h2 : ∀ j, j < 24 → (N j ↔ N' j)) : sat f P N ↔ sat f P' N' := by
 unfold sat G4
 refine exists_congr fun c => and_congr_right fun hc => ?_
 obtain ⟨b1, b2⟩ := F3 (hf c hc)
 exact and_congr (forall_congr' fun i => ⟨fun h hi => (h1 i (b1 i hi)).mp (h hi), fun h hi => (h1 i (b1 i hi)).mpr (h hi)⟩) (forall_congr' fun i => ⟨fun h hi => (h2 i (b2 i hi)).mp (h hi), fun h hi => (h2 i (b2 i hi)).mpr (h hi)⟩)
def uE : T := .mk 3 0 ⟨#[]⟩ [] [] []
def aE (t u : T) : T := .mk 6 0 ⟨#[]⟩ [] [t, u] []
def lE (t : T) : T := .mk 5 0 ⟨#[]⟩ [] [t] []
def lpE (r : List Cl) : T := .mk 21 0 ⟨#[]⟩ r [] []
def hcF : T := .mk 15 0 ⟨#[]⟩ [] [uE, uE] []
theorem B3a {t : T} {i : Int} {r : List Cl} (h : N9 t) : N9 (B9 t i r).2 := by
 unfold B9
 split
 ·exact N8
 ·exact Rk (A7c i r) h
theorem C0e {x : Int × T} {k : T → Int × T} (hx : N9 x.2) (h : ∀ u, N9 u → N9 (k u).2) : N9 (Yd x k).2 := by
 by_cases h1 : x.1 = 0
 ·rw [Tw h1]; exact h _ hx
 ·rw [Qw h1]; exact N8
theorem A8h {t : T} {i : Int} {r : List Cl} (h : N9 t) : N9 (Am t i r).2 := by
 unfold Am
 split
 ·exact N8
 ·split
  ·exact N8
  ·exact C0e (Rk (A7c _ _) h) fun u hu => Rk (C5n i) hu
theorem A8i {t : T} {i : Int} {r : List Cl} : size (B9 t i r).2 ≤ size t := by
 have hp := size_pos' t
 unfold B9
 split
 ·show size t0 ≤ _; rw [B7l]; exact hp
 ·exact T7
mutual
def H5 : T → Bool
 | .mk _ _ _ _ ks ss => H6 ks || Na ss
def H6 : List T → Bool
 | [] => false
 | t :: ts => H5 t || H6 ts
def Na : List Br → Bool
 | [] => false
 | .mk f ks :: bs => (decide (f = []) || H6 ks) || Na bs
end
theorem Sv : ∀ {ts : List T}, H6 ts = true ↔ ∃ t, t ∈ ts ∧ H5 t = true
 | [] => by simp [H6]
 | t :: ts => by simp [H6, Sv (ts := ts)]
theorem Sw : ∀ {bs : List Br}, Na bs = true ↔ ∃ b, b ∈ bs ∧ (b.Ad = [] ∨ H6 b.kids = true)
 | [] => by simp [Na]
 | .mk f ks :: bs => by simp [Na, Sw (bs := bs), Br.Ad, Br.kids]
theorem Su {t : T} : H5 t = true ↔ H6 t.kids = true ∨ Na t.sys = true := by
 obtain ⟨k, n, nm, r, ks, ss⟩ := t
 simp only [H5, T.kids, T.sys, Bool.or_eq_true]
theorem C1h {t : T} {i : Nat} (hi : i < t.kids.length) (h : H5 (t.kids.getD i t0) = true) : H5 t = true := Su.mpr (.inl (Sv.mpr ⟨_, Ai hi, h⟩))
theorem B5n {t : T} {s : Nat} (hs : s < t.sys.length) (h : (t.sys.getD s Bf).Ad = []) : H5 t = true := Su.mpr (.inr (Sw.mpr ⟨_, Ai hs, .inl h⟩))
theorem C1g {t : T} {s k : Nat} (hs : s < t.sys.length) (hk : k < (t.sys.getD s Bf).kids.length) (h : H5 ((t.sys.getD s Bf).kids.getD k t0) = true) : H5 t = true := Su.mpr (.inr (Sw.mpr ⟨_, Ai hs, .inr (Sv.mpr ⟨_, Ai hk, h⟩)⟩))
section
variable {CA CB CC : Type} {A : Tr CA} {B : Tr CB} {D : Tr CC} (R : CA → CB → CC → Prop)
variable {R}
end
theorem Zu {k n : Int} {nm : ByteArray} {r : List Cl} (h : Ma k n nm r) : (k = 14 → Aj r = true) ∧ Ag r = true := by
 obtain ⟨_, _, h3, h4, h5, h6, h7⟩ := h
 refine ⟨h6, ?_⟩
 by_cases e : k = 13 ∨ k = 21 ∨ k = 26
 ·exact h5 e
 ·by_cases e2 : k = 14
  ·exact (Fp (h6 e2)).1
  ·rw [h7 A2]; decide
theorem C6o {l : List Cl} (h : l ≠ []) (h0 : (Bk l).1 = 0) : (Bk l).2 ≠ [] := by
 rcases Jo l with ⟨_, _, h2, _⟩ | h2 | h2
 ·rw [h2]
  cases l with
  | nil => exact absurd rfl h
  | cons c l =>
   obtain ⟨d, hd, _⟩ := Qa _ c (Nat.le_refl _) (List.mem_cons_self (a := c) (l := l))
   intro e
   rw [e] at hd
   cases hd
 ·rw [h2] at h0; cases h0
 ·rw [h2] at h0; cases h0
theorem B4s {b f : Int} {l g : List Cl} (h : Az b l f = .ok g) (hl : l ≠ []) : g ≠ [] := by
 unfold Az at h
 split at h
 ·injection h with h; subst h; exact hl
 ·split at h
  ·rename_i h1
   injection h with h
   subst h
   obtain ⟨_, _, h3⟩ := Fg h1
   rw [h3] at h1 ⊢
   exact C6o (by simpa using hl) h1
  ·cases h
theorem C4o {P : List Cl → Int → List Cl → EL} {i d : Int} {r f : List Cl} (h : F4 (G3 f) (i + d) = false) : B6 P i r d f = (0, f) := by
 unfold B6
 rw [if_pos h]
end Go.Hy
