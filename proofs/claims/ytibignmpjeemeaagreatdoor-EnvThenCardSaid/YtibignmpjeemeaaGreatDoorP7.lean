/- Contracts of this program's functions and the laws that they need. -/
import Derived.Lib.TrailingZeros
import Derived.LaidMore
import Derived.OpenShut
import Derived.Stop.Joined
import Derived.MakeChecks
import Derived.Shelf.Spec.TrailingZeros
import Derived.Test.YtibignmpjeemeaaGreatDoorP6
set_option linter.unusedVariables false
set_option linter.unusedSimpArgs false
set_option linter.unusedSectionVars false
namespace Go.Hy
def B2l (v d : Int) (k n : Int) (r : List Cl) : Prop := d ≤ 24 ∧ (k = 1 → n < v) ∧ within r d = true
mutual
def G7 : T → Int → Int → Prop
 | .mk k n nm r ks ss, v, d => B2l v d k n r ∧ Wl k 0 ks v d ∧ V2 k ss v d
def Wl (k : Int) : Nat → List T → Int → Int → Prop
 | _, [], _, _ => True
 | i, t :: ts, v, d => G7 t (v + (binds k i).1) (d + (binds k i).2) ∧ Wl k (i + 1) ts v d
def Wk (k : Int) : List T → Int → Int → Prop
 | [], _, _ => True
 | t :: ts, v, d => G7 t v (d + more k) ∧ Wk k ts v d
def V2 (k : Int) : List Br → Int → Int → Prop
 | [], _, _ => True
 | .mk f ks :: bs, v, d => within f d = true ∧ Wk k ks v d ∧ V2 k bs v d
end
theorem Qc (d : Int) : within [] d = true := by
 unfold within
 rw [show Eo [] = 0 from rfl, Nat.zero_div]
 simp
theorem O3 {t : T} {d : Int} {b : Br} : Nk t d b = true ↔ ((b.kids.length : Int) = Dw t.kind ∧ A6 b.As = true) ∧ within b.As d = true := by
 unfold Nk
 rw [Bool.and_eq_true, Bool.and_eq_true, decide_eq_true_iff]
theorem B8q {t : T} {v d : Int} (hv : 0 ≤ v) : Ja t v d = true ↔ Ja t (-1) 24 = true ∧ (t.kind = 1 → t.n < v) ∧ within t.r d = true ∧ ∀ b, b ∈ t.sys → within b.As d = true := by
 rw [B1r, B1r]
 have hsys : ∀ (h : Hd t = false), Dw t.kind = 0 → t.sys = [] := fun h h0 => by
  unfold Hd at h
  rw [Bool.or_eq_false_iff, Bool.and_eq_false_iff] at h
  rcases h.2 with h2 | h2
  ·exact absurd h0 (of_decide_eq_false h2)
  ·exact List.eq_nil_of_length_eq_zero (by have := of_decide_eq_false h2; omega)
 have hw24 : ∀ l : List Cl, within l 24 = true := fun l => T4 l A3
 constructor
 ·rintro ⟨h1, h2⟩
  refine (fun (h : (if t.kind = 1 then t.r.length = 0 ∧ 0 ≤ t.n ∧ ((-1 : Int) < 0 ∨ t.n < -1) else if t.kind = 2 then t.r.length = 0 ∧ L2 t.name = true else if t.kind = 13 ∨ t.kind = 21 ∨ t.kind = 26 then A5 t.r = true ∧ within t.r 24 = true else if t.kind = 14 then A6 t.r = true ∧ within t.r 24 = true else (∀ x, x ∈ t.sys → Nk t 24 x = true) ∧ t.r.length = 0) ∧ (t.kind = 1 → t.n < v) ∧ within t.r d = true ∧ ∀ b, b ∈ t.sys → within b.As d = true) => ⟨⟨h1, h.1⟩, h.2⟩) ?_
  split at h2
  ·rename_i hk
   have hs := hsys h1 (F9 A3)
   rw [hs, List.eq_nil_of_length_eq_zero h2.1]
   exact ⟨by rw [if_pos hk]; exact ⟨rfl, h2.2.1, .inl Iu⟩, fun _ => by omega, Qc d, fun b hb => (by cases hb)⟩
  ·rename_i hk1
   rw [if_neg hk1]
   split at h2
   ·rename_i hk
    have hs := hsys h1 (F9 A3)
    rw [hs, List.eq_nil_of_length_eq_zero h2.1]
    exact ⟨by rw [if_pos hk]; exact ⟨rfl, h2.2⟩, fun h => absurd h hk1, Qc d, fun b hb => (by cases hb)⟩
   ·rename_i hk2
    rw [if_neg hk2]
    split at h2
    ·rename_i hk
     have hs := hsys h1 (F9 A3)
     rw [hs]
     exact ⟨by rw [if_pos hk]; exact ⟨h2.1, hw24 _⟩, fun h => absurd h hk1, h2.2, fun b hb => (by cases hb)⟩
    ·rename_i hk3
     rw [if_neg hk3]
     split at h2
     ·rename_i hk
      have hs := hsys h1 (F9 A3)
      rw [hs]
      exact ⟨by rw [if_pos hk]; exact ⟨h2.1, hw24 _⟩, fun h => absurd h hk1, h2.2, fun b hb => (by cases hb)⟩
     ·rename_i hk4
      rw [if_neg hk4, List.eq_nil_of_length_eq_zero h2.2]
      exact ⟨⟨fun x hx => O3.mpr ⟨(O3.mp (h2.1 x hx)).1, hw24 _⟩, rfl⟩, fun h => absurd h hk1, Qc d, fun b hb => (O3.mp (h2.1 b hb)).2⟩
 ·rintro ⟨⟨h1, h2⟩, h3, h4, h5⟩
  refine ⟨h1, ?_⟩
  split at h2
  ·rename_i hk; rw [if_pos hk]; exact ⟨h2.1, h2.2.1, .inr (h3 hk)⟩
  ·rename_i hk1
   rw [if_neg hk1]
   split at h2
   ·rename_i hk; rw [if_pos hk]; exact h2
   ·rename_i hk2
    rw [if_neg hk2]
    split at h2
    ·rename_i hk; rw [if_pos hk]; exact ⟨h2.1, h4⟩
    ·rename_i hk3
     rw [if_neg hk3]
     split at h2
     ·rename_i hk; rw [if_pos hk]; exact ⟨h2.1, h4⟩
     ·rename_i hk4
      rw [if_neg hk4]
      exact ⟨fun x hx => O3.mpr ⟨(O3.mp (h2.1 x hx)).1, h5 x hx⟩, h2.2⟩
theorem A5a {k v d : Int} : ∀ {ts : List T} {i : Nat}, Wl k i ts v d ↔ ∀ j, j < ts.length → G7 (ts.getD j t0) (v + (binds k ((i + j : Nat) : Int)).1) (d + (binds k ((i + j : Nat) : Int)).2)
 | [], i => by simp [Wl]
 | t :: ts, i => by
  simp only [Wl, A5a (ts := ts) (i := i + 1)]
  constructor
  ·rintro ⟨h1, h2⟩ j hj
   cases j with
   | zero => simpa using h1
   | succ j => rw [List.getD_cons_succ, show i + (j + 1) = i + 1 + j by omega]; exact h2 j (by simpa using hj)
  ·intro h
   refine ⟨by simpa using h 0 D2, fun j hj => ?_⟩
   have := h (j + 1) (by simpa using hj)
   rw [List.getD_cons_succ, show i + (j + 1) = i + 1 + j by omega] at this
   exact this
theorem Wj {k v d : Int} : ∀ {ts : List T}, Wk k ts v d ↔ ∀ j, j < ts.length → G7 (ts.getD j t0) v (d + more k)
 | [] => by simp [Wk]
 | t :: ts => by
  simp only [Wk, Wj (ts := ts)]
  constructor
  ·rintro ⟨h1, h2⟩ j hj
   cases j with
   | zero => simpa using h1
   | succ j => rw [List.getD_cons_succ]; exact h2 j (by simpa using hj)
  ·intro h
   exact ⟨by simpa using h 0 D2, fun j hj => by have := h (j + 1) (by simpa using hj); rwa [List.getD_cons_succ] at this⟩
theorem A5b {k v d : Int} : ∀ {bs : List Br}, V2 k bs v d ↔ ∀ b, b ∈ bs → within b.As d = true ∧ Wk k b.kids v d
 | [] => by simp [V2]
 | .mk f ks :: bs => by
  simp only [V2, A5b (bs := bs), List.forall_mem_cons, Br.As, Br.kids, and_assoc]
theorem Ik {t : T} {v d : Int} : G7 t v d ↔ B2l v d t.kind t.n t.r ∧ (∀ b, b ∈ t.sys → within b.As d = true) ∧ ∀ p, p ∈ parts t → G7 p.1 (v + p.2.1) (d + p.2.2) := by
 have h : G7 t v d ↔ B2l v d t.kind t.n t.r ∧ Wl t.kind 0 t.kids v d ∧ V2 t.kind t.sys v d := by
  obtain ⟨k, n, nm, r, ks, ss⟩ := t
  simp only [G7, T.kind, T.n, T.r, T.kids, T.sys]
 rw [h, A5a, A5b]
 constructor
 ·rintro ⟨h1, h2, h3⟩
  refine ⟨h1, fun b hb => (h3 b hb).1, fun p hp => ?_⟩
  rcases W8 hp with ⟨i, hi, rfl⟩ | ⟨s, k, hs, hk, rfl⟩
  ·have := h2 i hi; rw [Nat.zero_add] at this; exact this
  ·have := Wj.mp (h3 _ (Af (d := C4) hs)).2 k hk; simpa using this
 ·rintro ⟨h1, h2, h3⟩
  refine ⟨h1, fun j hj => ?_, fun b hb => ⟨h2 b hb, Wj.mpr fun k hk => ?_⟩⟩
  ·have := h3 _ (List.mem_of_getElem? (Jk t j hj)); rw [Nat.zero_add]; exact this
  ·obtain ⟨s, hs, e⟩ := List.mem_iff_getElem.mp hb
   have e2 : t.sys.getD s C4 = b := by rw [Cq (d := C4) hs]; exact e
   have := h3 _ (List.mem_of_getElem? (Jh t s k hs (by rw [e2]; exact hk)))
   rw [e2] at this
   simpa using this
theorem A4z : ∀ (t : T) (v d : Int), 0 ≤ v → v + size t ≤ 9000000000000000000 → (Pm t v d true = true ↔ Cm t ∧ G7 t v d) := T.ind fun t ih v d h0 hb => by
 rw [B3b, B8q h0, Ik, Qo]
 have hown : Ja t (-1) 24 = true ↔ ∀ d' : Int, 24 ≤ d' → Ja t (-1) d' = true := by
  constructor
  ·intro h d' hd'
   obtain ⟨k, n, nm, r, ks, ss⟩ := t
   exact (Lp hd').mpr ((Lp A3).mp h)
  ·intro h; exact h 24 A3
 have key : ∀ p, p ∈ parts t → (Pm p.1 (IntKind.i64.wrap (v + if v < 0 then 0 else p.2.1)) (d + p.2.2) true = true ↔ Cm p.1 ∧ G7 p.1 (v + p.2.1) (d + p.2.2)) := fun p hp => by
  have h1 := W6 hp
  have h2 := Mi hp
  rw [if_neg A3, C2u (by unfold Aw; omega)]
  exact ih p hp _ _ A3 A3
 rw [hown]
 unfold B2l
 constructor
 ·rintro ⟨h1, ⟨h2, h3, h4, h5⟩, h6⟩
  exact ⟨⟨h2, fun p hp => ((key p hp).mp (h6 p hp)).1⟩, ⟨by simp at h1; omega, h3, h4⟩, h5, fun p hp => ((key p hp).mp (h6 p hp)).2⟩
 ·rintro ⟨⟨h2, h6⟩, ⟨h1, h3, h4⟩, h5, h7⟩
  exact ⟨by simp; omega, ⟨h2, h3, h4, h5⟩, fun p hp => (key p hp).mpr ⟨h6 p hp, h7 p hp⟩⟩
theorem P1 {t : T} {v d : Int} (hv : 0 ≤ v) (hb : v ≤ 1000000000000) : Dm t v d = 0 ↔ 0 ≤ d ∧ d ≤ 24 ∧ sized t = 0 ∧ Cm t ∧ G7 t v d := by
 rw [A8b]
 constructor
 ·rintro ⟨_, h2, h3, h4, h5⟩
  have := (Qf.mp h4).2
  exact ⟨h2, h3, h4, (A4z t v d hv A3).mp h5⟩
 ·rintro ⟨h2, h3, h4, h5⟩
  have := (Qf.mp h4).2
  exact ⟨hv, h2, h3, h4, (A4z t v d hv A3).mpr h5⟩
section
variable {C : Type} {A : Tr C}
end
section
variable {C : Type} {A : Tr C}
theorem B9k {α : Type} {d x : α} {l : List α} (h : x ∈ l) : ∃ i, i < l.length ∧ l.getD i d = x := by
 obtain ⟨i, hi, e⟩ := List.mem_iff_getElem.mp h
 exact ⟨i, hi, by rw [Cq (d := d) hi]; exact e⟩
theorem Be {α β : Type} {x : A8 α} {k : α → A8 β} {e : Int} (h : x.bind k = .bad e) : x = .bad e ∨ ∃ a, x = .ok a ∧ k a = .bad e := by
 cases x with
 | ok a => exact .inr ⟨a, rfl, h⟩
 | bad e' => injection h with h; subst h; exact .inl rfl
theorem Yu {k : Int} {c : C} {e : Int} : ∀ {ts : List T} {i : Nat}, Ci A k i ts c = .bad e → ∃ j, j < ts.length ∧ (A.Gq c (binds k ((i + j : Nat) : Int)) = .bad e ∨ ∃ c', A.Gq c (binds k ((i + j : Nat) : Int)) = .ok c' ∧ Bh A (ts.getD j t0) c' = .bad e)
 | [], i, h => by rw [Ct] at h; cases h
 | t :: ts, i, h => by
  rw [Ch] at h
  rcases Be h with h | ⟨c', h1, h⟩
  ·exact ⟨0, by simp, .inl (by simpa using h)⟩
  ·rcases Be h with h | ⟨t', h2, h⟩
   ·exact ⟨0, by simp, .inr ⟨c', by simpa using h1, by simpa using h⟩⟩
   ·rcases Be h with h | ⟨ts', h3, h⟩
    ·obtain ⟨j, hj, h4⟩ := Yu h
     refine ⟨j + 1, by simpa using hj, ?_⟩
     rw [List.getD_cons_succ, show i + (j + 1) = i + 1 + j by omega]; exact h4
    ·cases h
theorem Ys {k : Int} {c : C} {e : Int} : ∀ {ts : List T}, Bt A k ts c = .bad e → ∃ j, j < ts.length ∧ (A.Gq c (0, more k) = .bad e ∨ ∃ c', A.Gq c (0, more k) = .ok c' ∧ Bh A (ts.getD j t0) c' = .bad e)
 | [], h => by rw [Cy] at h; cases h
 | t :: ts, h => by
  rw [Cg] at h
  rcases Be h with h | ⟨c', h1, h⟩
  ·exact ⟨0, by simp, .inl h⟩
  ·rcases Be h with h | ⟨t', h2, h⟩
   ·exact ⟨0, by simp, .inr ⟨c', h1, by simpa using h⟩⟩
   ·rcases Be h with h | ⟨ts', h3, h⟩
    ·obtain ⟨j, hj, h4⟩ := Ys h
     exact ⟨j + 1, by simpa using hj, by rw [List.getD_cons_succ]; exact h4⟩
    ·cases h
theorem T9 {k : Int} {c : C} {e : Int} : ∀ {bs : List Br}, Bu A k bs c = .bad e → ∃ b, b ∈ bs ∧ (A.As c b.As = .bad e ∨ Bt A k b.kids c = .bad e)
 | [], h => by rw [Co] at h; cases h
 | b :: bs, h => by
  rw [C7] at h
  rcases Be h with h | ⟨o, h1, h⟩
  ·exact ⟨b, List.mem_cons_self, .inl h⟩
  ·cases o with
   | none => obtain ⟨x, hx, h⟩ := T9 h; exact ⟨x, List.mem_cons_of_mem _ hx, h⟩
   | some f' =>
    rcases Be h with h | ⟨ks, h2, h⟩
    ·exact ⟨b, List.mem_cons_self, .inr h⟩
    ·rcases Be h with h | ⟨us, h3, h⟩
     ·obtain ⟨x, hx, h⟩ := T9 h; exact ⟨x, List.mem_cons_of_mem _ hx, h⟩
     ·cases h
theorem A3j {t : T} {c : C} {e : Int} (h : Bh A t c = .bad e) : A.own c t.kind t.n t.name t.r = .bad e ∨ (∃ b, b ∈ t.sys ∧ A.As c b.As = .bad e) ∨ ∃ p, p ∈ parts t ∧ (A.Gq c p.2 = .bad e ∨ ∃ c', A.Gq c p.2 = .ok c' ∧ Bh A p.1 c' = .bad e) := by
 rw [D5] at h
 rcases Be h with h | ⟨o, h1, h⟩
 ·exact .inl h
 ·cases o with
  | inl u => cases h
  | inr p =>
   rcases Be h with h | ⟨ks, h2, h⟩
   ·obtain ⟨j, hj, h3⟩ := Yu h
    rw [Nat.zero_add] at h3
    exact .inr (.inr ⟨_, List.mem_of_getElem? (Jk t j hj), h3⟩)
   ·rcases Be h with h | ⟨ss, h3, h⟩
    ·obtain ⟨b, hb, h4⟩ := T9 h
     rcases h4 with h4 | h4
     ·exact .inr (.inl ⟨b, hb, h4⟩)
     ·obtain ⟨j, hj, h5⟩ := Ys h4
      obtain ⟨s, hs, e2⟩ := B9k (d := C4) hb
      refine .inr (.inr ⟨_, List.mem_of_getElem? (Jh t s j hs (by rw [e2]; exact hj)), ?_⟩)
      rw [e2]; exact h5
    ·cases h
end
theorem G2 {l : List Cl} {i : Nat} : (Eo l).testBit i = true ↔ i < 24 ∧ ∃ c, c ∈ l ∧ (c.pos ||| c.neg).testBit i = true := by
 unfold Eo
 rw [Ei, Bool.and_eq_true, decide_eq_true_eq, A6a (fun c : Cl => c.pos ||| c.neg)]
 simp
theorem L4 {s : Nat} {f b : Int} (h : (Aa s f b).1 = 0) (i : Nat) (hi : (Aa s f b).2.testBit i = true) : ∃ j, j < 24 ∧ s.testBit j = true ∧ (((j : Int) < f ∧ i = j) ∨ (f ≤ (j : Int) ∨ 24 ≤ j) ∧ (i : Int) = j + b) := by
 obtain ⟨h0, h1, h2⟩ := E6 h i
 rw [h2, Bool.or_eq_true, Bool.and_eq_true, Bool.and_eq_true, decide_eq_true_eq, decide_eq_true_eq, Ei, Ei, Bool.and_eq_true, Bool.and_eq_true, decide_eq_true_eq, decide_eq_true_eq] at hi
 rcases hi with ⟨h3, h4, h5⟩ | ⟨h3, h4, h5⟩
 ·exact ⟨i, h4, h5, .inl ⟨by omega, rfl⟩⟩
 ·exact ⟨i - b.toNat, h4, h5, .inr ⟨by omega, by omega⟩⟩
theorem A1g {l g : List Cl} {f b : Int} (hf : 0 ≤ f) (h : Ah b l f = .ok g) {i : Nat} (hi : (Eo g).testBit i = true) : ∃ j : Nat, j < 24 ∧ (Eo l).testBit j = true ∧ (((j : Int) < f ∧ i = j) ∨ f ≤ (j : Int) ∧ (i : Int) = j + b) := by
 unfold Ah at h
 split at h
 ·rename_i h0
  injection h with h
  subst h
  have h1 := (G2.mp hi).1
  refine ⟨i, h1, hi, ?_⟩
  omega
 ·split at h
  ·rename_i h0 h1
   injection h with h
   subst h
   obtain ⟨h2, h3, h4⟩ := Eb h1
   obtain ⟨h5, c, hc, h6⟩ := G2.mp hi
   rw [h4] at h1 hc
   have hc2 := K6 h1 hc
   obtain ⟨d, hd, e⟩ := List.mem_map.mp hc2
   have h7 := h3 d hd
   obtain ⟨_, h8, h9, h10⟩ := F5 h7
   rw [h10] at e
   subst e
   rw [Nat.testBit_or, Bool.or_eq_true] at h6
   have key : ∀ j, (d.pos.testBit j = true ∨ d.neg.testBit j = true) → j < 24 → (Eo l).testBit j = true := fun j hj hj2 => G2.mpr ⟨hj2, d, hd, by rw [Nat.testBit_or, Bool.or_eq_true]; exact hj⟩
   rcases h6 with h6 | h6
   ·obtain ⟨j, h11, h12, h13⟩ := L4 h8 i h6
    exact ⟨j, h11, key j (.inl h12) h11, by omega⟩
   ·obtain ⟨j, h11, h12, h13⟩ := L4 h9 i h6
    exact ⟨j, h11, key j (.inr h12) h11, by omega⟩
  ·cases h
theorem H5 {vb db : Int} {c c' : Int × Int} {b : Int × Int} (h : (Av vb db).Gq c b = .ok c') : c' = (c.1 + b.1, c.2 + b.2) := by injection h with h; exact h.symm
theorem A9g {l m : List Cl} (hl : l.length ≤ 64) (hm : m.length = l.length) (hr : m.all Az = true) : (B7 m).1 = 0 := by
 have : (Cz m).length ≤ m.length := by
  have := A3t m m.length
  unfold B7u at this
  rw [List.take_length] at this
  exact this
 unfold B7
 rw [if_neg (by rw [hr]; simp), if_neg A3]
theorem Ui {l : List Cl} {f b e : Int} (hb : 0 ≤ b) (hf : 0 ≤ f) (hl : A5 l = true) (h : Ah b l f = .bad e) : e = 10 := by
 unfold Ah at h
 split at h
 ·cases h
 ·split at h
  ·cases h
  ·rename_i h1
   injection h with h
   subst h
   unfold Ad at h1 ⊢
   rw [if_neg (by rw [hl]; simp)] at h1 ⊢
   have hparts : l.all Az = true ∧ l.length ≤ 64 := by
    unfold A5 at hl
    simp only [Bool.and_eq_true, decide_eq_true_eq] at hl
    exact ⟨hl.1.1.1, hl.2⟩
   split
   ·rename_i h2
    rw [if_pos h2] at h1
    unfold E1 at h2 ⊢
    cases hx : l.find? (fun c => (An c f b).1 ≠ 0) with
    | none => rw [hx] at h2; simp at h2
    | some c =>
     simp only
     have hc := List.mem_of_find?_eq_some hx
     rw [hx] at h2
     simp only at h2
     have hr := List.all_eq_true.mp hparts.1 c hc
     have hm : ∀ s, (Aa s f b).1 = 0 ∨ (Aa s f b).1 = 10 := fun s => by
      unfold Aa
      rw [if_neg A3]
      split
      ·exact .inl rfl
      ·split
       ·exact .inr rfl
       ·exact .inl rfl
     unfold An at h2 ⊢
     rw [if_neg (by rw [hr]; simp)] at h2 ⊢
     have hp := hm c.pos
     have hn := hm c.neg
     split
     ·omega
     ·rename_i h3
      rw [if_neg h3] at h2
      split
      ·omega
      ·rename_i h4
       rw [if_neg h4] at h2
       exact absurd rfl h2
   ·rename_i h2
    exfalso
    rw [if_neg h2] at h1
    refine h1 ?_
    unfold E1 at h2 ⊢
    cases hx : l.find? (fun c => (An c f b).1 ≠ 0) with
    | some c =>
     rw [hx] at h2
     have := List.find?_some hx
     simp at this h2
     exact absurd h2 this
    | none =>
     simp only
     refine A9g hparts.2 D2 ?_
     rw [List.all_eq_true]
     intro c hc
     obtain ⟨d, hd, rfl⟩ := List.mem_map.mp hc
     have := List.find?_eq_none.mp hx d hd
     exact Sr (by simpa using this)
theorem B5p {t : T} (h : Cm t) {b : Br} (hb : b ∈ t.sys) : A6 b.As = true := (Ty.mp (Lz.mp h).2.2.2.2 b hb).2.1
theorem Zv {t : T} (h : Cm t) {p : Part} (hp : p ∈ parts t) : Cm p.1 := (Qo.mp h).2 p hp
theorem X8 {l : List Cl} (h : A6 l = true) : A5 l = true := by
 unfold A6 at h
 rw [Bool.and_eq_true] at h
 exact h.1
def vE (n : Int) : T := .mk 1 n ⟨#[]⟩ [] [] []
theorem B6m {t : T} {f b : Int} (hb : Aw b) (h : V1 t) : V1 (Bk t f b).2 := by
 refine guard_okT' (fun ha u hu => ?_)
 simp only [List.all_cons, List.all_nil, Bool.and_true, Bool.and_eq_true, decide_eq_true_eq] at ha
 exact A5l ⟨ha.2.1, B2c hb ha.2.1 ha.2.2⟩ h hu
theorem C1r {t : T} {f b : Int} (h : V1 t) : V1 (Bl t f b).2 := guard_okT' (fun _ u hu => A5l A3 h hu)
theorem Ly {t : T} (h : Cm t) (hk : t.kind = 1) : t = .mk 1 t.n ⟨#[]⟩ [] [] [] ∧ 0 ≤ t.n := by
 obtain ⟨h1, h2, h3, h4, h5⟩ := Lz.mp h
 obtain ⟨_, a2, a3, _⟩ := h1
 have hn : t.name = ⟨#[]⟩ := Xi.mp (beq_iff_eq.mpr (a2 (by rw [hk]; decide)))
 have hr := (a3 hk).1
 have hks : t.kids = [] := by
  rw [hk, show Dl 1 = 0 by decide] at h2
  exact List.eq_nil_of_length_eq_zero A3
 have hss := h3 (by rw [hk]; decide)
 refine ⟨?_, (a3 hk).2⟩
 obtain ⟨k, n, nm, r, ks, ss⟩ := t
 simp only [T.kind, T.n, T.name, T.r, T.kids, T.sys] at *
 subst hk hn hr hks hss
 rfl
def Li : List T → Nat
 | [] => 0
 | t :: ts => size t + Li ts
def Uf : List Br → Nat
 | [] => 0
 | b :: bs => Li b.kids + Uf bs
theorem foldl_add {α : Type} (f : α → Nat) : ∀ (l : List α) (a : Nat), l.foldl (fun a p => a + f p) a = a + l.foldl (fun a p => a + f p) 0
 | [], a => rfl
 | x :: l, a => by rw [List.foldl_cons, List.foldl_cons, foldl_add f l (a + f x), foldl_add f l (0 + f x)]; omega
theorem Vr (t : T) : size t = 1 + Li t.kids + Uf t.sys := by
 have hk : ∀ (k : Int) (ts : List T) (i : Nat), (Da k i ts).foldl (fun a p => a + size p.1) 0 = Li ts := by
  intro k ts
  induction ts with
  | nil => intro i; rfl
  | cons t ts ih => intro i; rw [Da, List.foldl_cons, foldl_add, ih, Li]; simp only; omega
 have hm : ∀ (ts : List T) (b : Int × Int), (ts.map fun k => ((k, b.1, b.2) : Part)).foldl (fun a p => a + size p.1) 0 = Li ts := by
  intro ts b
  induction ts with
  | nil => rfl
  | cons t ts ih => rw [List.map_cons, List.foldl_cons, foldl_add, ih, Li]; simp only; omega
 have hs : ∀ (k : Int) (bs : List Br), (D6 k bs).foldl (fun a p => a + size p.1) 0 = Uf bs := by
  intro k bs
  induction bs with
  | nil => rfl
  | cons b bs ih => rw [D6, List.foldl_append, foldl_add, ih, hm b.kids (0, more k), Uf]
 rw [size_eq, parts, List.foldl_append, foldl_add, hs, foldl_add, hk]
section
variable {t u : T} {n : Int}
end
theorem C8 {s : Nat} {f b : Int} (h : (Aa s f b).1 = 0) (i : Nat) : (Aa s f b).2.testBit i = true ↔ ∃ j, j < 24 ∧ s.testBit j = true ∧ (((j : Int) < f ∧ i = j) ∨ (f ≤ (j : Int) ∧ (i : Int) = j + b)) := by
 obtain ⟨h0, h1, h2⟩ := E6 h i
 constructor
 ·intro hi
  obtain ⟨j, h3, h4, h5⟩ := L4 h i hi
  exact ⟨j, h3, h4, by omega⟩
 ·rintro ⟨j, h3, h4, h5⟩
  rw [h2, Bool.or_eq_true, Bool.and_eq_true, Bool.and_eq_true, decide_eq_true_eq, decide_eq_true_eq, Ei, Ei, Bool.and_eq_true, Bool.and_eq_true, decide_eq_true_eq, decide_eq_true_eq]
  rcases h5 with ⟨h5, rfl⟩ | ⟨h5, h6⟩
  ·exact .inl ⟨by omega, h3, h4⟩
  ·refine .inr ⟨by omega, ?_⟩
   rw [show i - b.toNat = j by omega]
   exact ⟨h3, h4⟩
theorem A5e {s : Nat} {f b f2 b2 : Int} (hf : f ≤ f2) (hf2 : f2 ≤ f + b) (h1 : (Aa s f b).1 = 0) (h2 : (Aa (Aa s f b).2 f2 b2).1 = 0) (h3 : (Aa s f (b + b2)).1 = 0) : (Aa (Aa s f b).2 f2 b2).2 = (Aa s f (b + b2)).2 := by
 obtain ⟨a1, a2, _⟩ := E6 h1 0
 obtain ⟨a3, a4, _⟩ := E6 h2 0
 refine Nat.eq_of_testBit_eq fun i => ?_
 rw [Bool.eq_iff_iff, C8 h2, C8 h3]
 have hlt := Fa s f b
 constructor
 ·rintro ⟨j, h4, h5, h6⟩
  obtain ⟨j2, h7, h8, h9⟩ := (C8 h1 j).mp h5
  exact ⟨j2, h7, h8, by omega⟩
 ·rintro ⟨j, h4, h5, h6⟩
  by_cases hj : (j : Int) < f
  ·have h7 := (C8 h1 j).mpr ⟨j, h4, h5, .inl ⟨hj, rfl⟩⟩
   exact ⟨j, h4, h7, by omega⟩
  ·have h7 := (C8 h1 (j + b.toNat)).mpr ⟨j, h4, h5, .inr ⟨by omega, by omega⟩⟩
   refine ⟨j + b.toNat, ?_, h7, by omega⟩
   refine Nat.lt_of_not_le fun hge => ?_
   rw [Nat.testBit_lt_two_pow (Nat.lt_of_lt_of_le hlt (Nat.pow_le_pow_right (n := 2) (i := 24) A3 hge))] at h7
   cases h7
theorem A5c {s m : Nat} {f b : Int} (hs : m < 16777216) (h1 : (Aa s f b).1 = 0) (h2 : (Aa m f b).1 = 0) (h : (Aa s f b).2 ||| (Aa m f b).2 = (Aa s f b).2) : s ||| m = s := by
 refine Nat.eq_of_testBit_eq fun i => ?_
 rw [Nat.testBit_or, Bool.eq_iff_iff, Bool.or_eq_true]
 refine ⟨fun h3 => h3.elim id fun h3 => ?_, .inl⟩
 have hi : i < 24 := by
  refine Nat.lt_of_not_le fun hge => ?_
  rw [Nat.testBit_lt_two_pow (Nat.lt_of_lt_of_le hs (Nat.pow_le_pow_right (n := 2) (i := 24) A3 hge))] at h3
  cases h3
 have key : ∀ i' : Nat, (((i : Int) < f ∧ i' = i) ∨ (f ≤ (i : Int) ∧ (i' : Int) = i + b)) → s.testBit i = true := fun i' h4 => by
  have h5 := (C8 h2 i').mpr ⟨i, hi, h3, h4⟩
  have h6 : (Aa s f b).2.testBit i' = true := by rw [← h, Nat.testBit_or, h5, Bool.or_true]
  obtain ⟨j, _, h7, h8⟩ := (C8 h1 i').mp h6
  obtain ⟨_, Yd, _⟩ := E6 h1 0
  rw [show i = j by omega]; exact h7
 by_cases hf : (i : Int) < f
 ·exact key i (.inl ⟨hf, rfl⟩)
 ·obtain ⟨_, Yd, _⟩ := E6 h1 0
  exact key (i + b.toNat) (.inr ⟨by omega, by omega⟩)
theorem P4 {s : Nat} {f b : Int} (hs : s < 16777216) (h0 : 0 ≤ f) (hb : 0 ≤ b) (h : b = 0 ∨ 24 ≤ f) : Aa s f b = (0, s) := by
 have hs24 : s &&& 16777215 = s := by rw [Xp]; exact Nat.mod_eq_of_lt hs
 have h1 : (Aa s f b).1 = 0 := by
  unfold Aa
  rw [if_neg A3]
  split
  ·rfl
  ·rename_i h2
   rw [if_neg]
   rintro (h3 | h3)
   ·rcases h with h | h
    ·omega
    ·refine h2 ?_
     refine Nat.eq_of_testBit_eq fun i => ?_
     rw [Fm, Il, Nat.zero_testBit, Ei, show min f.toNat 24 = 24 by omega]
     by_cases hi : i < 24 <;> simp [hi]
   ·rcases h with h | h
    ·subst h
     have := A0i (q := s &&& 16777215) (m := 2 ^ min f.toNat 24 - 1) (K9 s)
     simp at h3
     omega
    ·refine h2 ?_
     refine Nat.eq_of_testBit_eq fun i => ?_
     rw [Fm, Il, Nat.zero_testBit, Ei, show min f.toNat 24 = 24 by omega]
     by_cases hi : i < 24 <;> simp [hi]
 refine Prod.ext h1 ?_
 refine Nat.eq_of_testBit_eq fun i => ?_
 rw [Bool.eq_iff_iff, C8 h1]
 have hlt : ∀ j, s.testBit j = true → j < 24 := fun j hj => by
  refine Nat.lt_of_not_le fun hge => ?_
  rw [Nat.testBit_lt_two_pow (Nat.lt_of_lt_of_le hs (Nat.pow_le_pow_right (n := 2) (i := 24) A3 hge))] at hj
  cases hj
 constructor
 ·rintro ⟨j, h2, h3, h4⟩
  rw [show i = j by omega]; exact h3
 ·intro h2
  exact ⟨i, hlt i h2, h2, by have := hlt i h2; omega⟩
theorem Sg {l : List Cl} (h : A5 l = true) : (∀ c, c ∈ l → Az c = true) ∧ apart l = true := by
 unfold A5 at h
 simp only [Bool.and_eq_true, List.all_eq_true] at h
 exact ⟨h.1.1.1, h.1.2⟩
theorem F7 {c : Cl} : Az c = true ↔ c.pos < 16777216 ∧ c.neg < 16777216 := by unfold Az; rw [Bool.and_eq_true, decide_eq_true_eq, decide_eq_true_eq]
theorem Rn {l g : List Cl} {f b : Int} (hl : A5 l = true) (h0 : 0 ≤ f) (hb : 0 ≤ b) (h : Ah b l f = .ok g) : (∀ c, c ∈ l → (An c f b).1 = 0) ∧ ∀ x, x ∈ g ↔ ∃ c, c ∈ l ∧ x = (An c f b).2 := by
 obtain ⟨hr, hap⟩ := Sg hl
 unfold Ah at h
 split at h
 ·rename_i h1
  injection h with h
  subst h
  have key : ∀ c, c ∈ l → An c f b = (0, c) := fun c hc => by
   obtain ⟨h2, h3⟩ := F7.mp (hr c hc)
   unfold An
   rw [if_neg (by rw [hr c hc]; simp), P4 h2 h0 hb h1, P4 h3 h0 hb h1]
   simp
  exact ⟨fun c hc => by rw [key c hc], fun x => ⟨fun hx => ⟨x, hx, by rw [key x hx]⟩, fun ⟨c, hc, e⟩ => by rw [e, key c hc]; exact hc⟩⟩
 ·split at h
  ·rename_i h1
   injection h with h
   subst h
   obtain ⟨_, h2, h3⟩ := Eb h1
   refine ⟨h2, fun x => ?_⟩
   rw [h3] at h1 ⊢
   rcases Fj (l.map fun c => (An c f b).2) with ⟨_, _, h4, _⟩ | h4 | h4
   ·rw [h4, D8, List.mem_map]
    constructor
    ·rintro ⟨⟨c, hc, rfl⟩, _⟩; exact ⟨c, hc, rfl⟩
    ·rintro ⟨c, hc, rfl⟩
     refine ⟨⟨c, hc, rfl⟩, Gd.mpr fun d hd => ?_⟩
     obtain ⟨c', hc', rfl⟩ := List.mem_map.mp hd
     cases hbl : below (An c f b).2 (An c' f b).2 with
     | false => exact .inr rfl
     | true =>
      left
      obtain ⟨_, a1, a2, a3⟩ := F5 (h2 c hc)
      obtain ⟨_, b1, b2, b3⟩ := F5 (h2 c' hc')
      rw [a3, b3] at hbl
      unfold below at hbl
      rw [Bool.and_eq_true, decide_eq_true_eq, decide_eq_true_eq] at hbl
      have hr' := F7.mp (hr c' hc')
      have e1 := A5c hr'.1 a1 b1 hbl.1
      have e2 := A5c hr'.2 a2 b2 hbl.2
      have hbe : below c c' = true := by unfold below; rw [e1, e2]; simp
      rcases Pb.mp hap c hc c' hc' with h5 | h5
      ·rw [h5]
      ·rw [hbe] at h5; cases h5
   ·rw [h4] at h1; cases h1
   ·rw [h4] at h1; cases h1
  ·cases h
theorem Q1 {l : List Cl} (h : A5 l = true) : l.Pairwise fun a b => Cv a b = true := by
 have hs : J6 l = true := by unfold A5 at h; simp only [Bool.and_eq_true] at h; exact h.1.1.2
 exact Ih.mp hs
theorem A1f {l g h k : List Cl} {f b f2 b2 : Int} (hl : A5 l = true) (h0 : 0 ≤ f) (hb : 0 ≤ b) (hb2 : 0 ≤ b2) (hf : f ≤ f2) (hf2 : f2 ≤ f + b) (h1 : Ah b l f = .ok g) (h2 : Ah b2 g f2 = .ok h) (h3 : Ah (b + b2) l f = .ok k) : h = k := by
 have hg := Gv h1 hl
 obtain ⟨a1, a2⟩ := Rn hl h0 hb h1
 obtain ⟨b1, b2'⟩ := Rn hg A3 hb2 h2
 obtain ⟨c1, c2⟩ := Rn hl h0 A3 h3
 refine Mh (Q1 (Gv h2 hg)) (Q1 (Gv h3 hl)) fun x => ?_
 rw [b2', c2]
 have key : ∀ c, c ∈ l → (An (An c f b).2 f2 b2).2 = (An c f (b + b2)).2 := fun c hc => by
  obtain ⟨_, d1, d2, d3⟩ := F5 (a1 c hc)
  obtain ⟨_, e1, e2, e3⟩ := F5 (b1 _ ((a2 _).mpr ⟨c, hc, rfl⟩))
  obtain ⟨_, g1, g2, g3⟩ := F5 (c1 c hc)
  rw [e3, g3]
  rw [d3] at e1 e2 ⊢
  simp only at e1 e2 ⊢
  rw [A5e hf hf2 d1 e1 g1, A5e hf hf2 d2 e2 g2]
 constructor
 ·rintro ⟨d, hd, rfl⟩
  obtain ⟨c, hc, rfl⟩ := (a2 d).mp hd
  exact ⟨c, hc, key c hc⟩
 ·rintro ⟨c, hc, rfl⟩
  exact ⟨_, (a2 _).mpr ⟨c, hc, rfl⟩, (key c hc).symm⟩
section
variable {CA CB CC CD : Type} {A : Tr CA} {B : Tr CB} {C : Tr CC} {D : Tr CD} (R : CA → CB → CC → CD → Prop)
structure Sq : Prop where
 leaf : ∀ t a b c x ca cb cc cd, R ca cb cc cd → Cm t → t.kind = 1 → Bh A t ca = .ok a → Bh B a cb = .ok b → Bh C t cc = .ok c → Bh D c cd = .ok x → b = x
 nA : ∀ ca k n nm r u, k ≠ 1 → A.own ca k n nm r ≠ .ok (.inl u)
 nB : ∀ ca k n nm r u, k ≠ 1 → B.own ca k n nm r ≠ .ok (.inl u)
 nC : ∀ ca k n nm r u, k ≠ 1 → C.own ca k n nm r ≠ .ok (.inl u)
 nD : ∀ ca k n nm r u, k ≠ 1 → D.own ca k n nm r ≠ .ok (.inl u)
 own : ∀ ca cb cc cd k n nm r pa pb pc pd, R ca cb cc cd → It k n nm r → k ≠ 1 → A.own ca k n nm r = .ok (.inr pa) → B.own cb k pa.1 nm pa.2 = .ok (.inr pb) → C.own cc k n nm r = .ok (.inr pc) → D.own cd k pc.1 nm pc.2 = .ok (.inr pd) → pb = pd
 As : ∀ ca cb cc cd f oa oc ob od, R ca cb cc cd → A6 f = true → A.As ca f = .ok oa → C.As cc f = .ok oc → ∃ fa fc, oa = some fa ∧ oc = some fc ∧ (B.As cb fa = .ok ob → D.As cd fc = .ok od → ∃ g, ob = some g ∧ od = some g)
 Gq : ∀ ca cb cc cd b ca' cb' cc' cd', R ca cb cc cd → 0 ≤ b.1 → 0 ≤ b.2 → A.Gq ca b = .ok ca' → B.Gq cb b = .ok cb' → C.Gq cc b = .ok cc' → D.Gq cd b = .ok cd' → R ca' cb' cc' cd'
variable {R}
theorem B9i (k : Int) : 0 ≤ more k := (S1 k).1
mutual
theorem sq (F : Sq (A := A) (B := B) (C := C) (D := D) R) : ∀ {t a b c x : T} {ca : CA} {cb : CB} {cc : CC} {cd : CD}, Cm t → R ca cb cc cd → Bh A t ca = .ok a → Bh B a cb = .ok b → Bh C t cc = .ok c → Bh D c cd = .ok x → b = x
 | .mk k n nm r ks ss, a, b, c, x, ca, cb, cc, cd, hf, hr, ha, hb, hc, hx => by
  by_cases hk : k = 1
  ·exact F.leaf _ _ _ _ _ _ _ _ _ hr hf hk ha hb hc hx
  ·simp only [Cm] at hf
   obtain ⟨h1, h2, h3, h4, h5⟩ := hf
   rw [D5] at ha hc
   simp only [T.kind, T.n, T.name, T.r, T.kids, T.sys] at ha hc
   obtain ⟨oa, a1, ha⟩ := A8.A0 ha
   obtain ⟨oc, c1, hc⟩ := A8.A0 hc
   cases oa with
   | inl v => exact absurd a1 (F.nA _ _ _ _ _ _ hk)
   | inr pa =>
    cases oc with
    | inl v => exact absurd c1 (F.nC _ _ _ _ _ _ hk)
    | inr pc =>
     obtain ⟨ka, a2, ha⟩ := A8.A0 ha
     obtain ⟨sa, a3, ha⟩ := A8.A0 ha
     obtain ⟨kc, c2, hc⟩ := A8.A0 hc
     obtain ⟨sc, c3, hc⟩ := A8.A0 hc
     injection ha with ha
     injection hc with hc
     subst ha hc
     rw [D5] at hb hx
     simp only [T.kind, T.n, T.name, T.r, T.kids, T.sys] at hb hx
     obtain ⟨ob, b1, hb⟩ := A8.A0 hb
     obtain ⟨od, d1, hx⟩ := A8.A0 hx
     cases ob with
     | inl v => exact absurd b1 (F.nB _ _ _ _ _ _ hk)
     | inr pb =>
      cases od with
      | inl v => exact absurd d1 (F.nD _ _ _ _ _ _ hk)
      | inr pd =>
       obtain ⟨kb, b2, hb⟩ := A8.A0 hb
       obtain ⟨sb, b3, hb⟩ := A8.A0 hb
       obtain ⟨kd, d2, hx⟩ := A8.A0 hx
       obtain ⟨sd, d3, hx⟩ := A8.A0 hx
       injection hb with hb
       injection hx with hx
       subst hb hx
       rw [F.own _ _ _ _ _ _ _ _ _ _ _ _ hr h1 hk a1 b1 c1 d1, sqL F h4 hr a2 b2 c2 d2, sqB F h5 hr a3 b3 c3 d3]
termination_by structural t => t
theorem sqL (F : Sq (A := A) (B := B) (C := C) (D := D) R) {k : Int} : ∀ {ts a b c x : List T} {i : Nat} {ca : CA} {cb : CB} {cc : CC} {cd : CD}, Hp ts → R ca cb cc cd → Ci A k i ts ca = .ok a → Ci B k i a cb = .ok b → Ci C k i ts cc = .ok c → Ci D k i c cd = .ok x → b = x
 | [], a, b, c, x, i, ca, cb, cc, cd, hf, hr, ha, hb, hc, hx => by
  rw [Ct] at ha hc
  injection ha with ha
  injection hc with hc
  subst ha hc
  rw [Ct] at hb hx
  injection hb with hb
  injection hx with hx
  rw [← hb, ← hx]
 | t :: ts, a, b, c, x, i, ca, cb, cc, cd, hf, hr, ha, hb, hc, hx => by
  rw [Ch] at ha hc
  obtain ⟨ca', a1, ha⟩ := A8.A0 ha
  obtain ⟨ta, a2, ha⟩ := A8.A0 ha
  obtain ⟨tsa, a3, ha⟩ := A8.A0 ha
  obtain ⟨cc', c1, hc⟩ := A8.A0 hc
  obtain ⟨tc, c2, hc⟩ := A8.A0 hc
  obtain ⟨tsc, c3, hc⟩ := A8.A0 hc
  injection ha with ha
  injection hc with hc
  subst ha hc
  rw [Ch] at hb hx
  obtain ⟨cb', b1, hb⟩ := A8.A0 hb
  obtain ⟨tb, b2, hb⟩ := A8.A0 hb
  obtain ⟨tsb, b3, hb⟩ := A8.A0 hb
  obtain ⟨cd', d1, hx⟩ := A8.A0 hx
  obtain ⟨td, d2, hx⟩ := A8.A0 hx
  obtain ⟨tsd, d3, hx⟩ := A8.A0 hx
  injection hb with hb
  injection hx with hx
  subst hb hx
  have hbi := M4 k i
  rw [sq F hf.1 (F.Gq _ _ _ _ _ _ _ _ _ hr A3 A3 a1 b1 c1 d1) a2 b2 c2 d2, sqL F hf.2 hr a3 b3 c3 d3]
termination_by structural ts => ts
theorem sqS (F : Sq (A := A) (B := B) (C := C) (D := D) R) {k : Int} : ∀ {ts a b c x : List T} {ca : CA} {cb : CB} {cc : CC} {cd : CD}, Hp ts → R ca cb cc cd → Bt A k ts ca = .ok a → Bt B k a cb = .ok b → Bt C k ts cc = .ok c → Bt D k c cd = .ok x → b = x
 | [], a, b, c, x, ca, cb, cc, cd, hf, hr, ha, hb, hc, hx => by
  rw [Cy] at ha hc
  injection ha with ha
  injection hc with hc
  subst ha hc
  rw [Cy] at hb hx
  injection hb with hb
  injection hx with hx
  rw [← hb, ← hx]
 | t :: ts, a, b, c, x, ca, cb, cc, cd, hf, hr, ha, hb, hc, hx => by
  rw [Cg] at ha hc
  obtain ⟨ca', a1, ha⟩ := A8.A0 ha
  obtain ⟨ta, a2, ha⟩ := A8.A0 ha
  obtain ⟨tsa, a3, ha⟩ := A8.A0 ha
  obtain ⟨cc', c1, hc⟩ := A8.A0 hc
  obtain ⟨tc, c2, hc⟩ := A8.A0 hc
  obtain ⟨tsc, c3, hc⟩ := A8.A0 hc
  injection ha with ha
  injection hc with hc
  subst ha hc
  rw [Cg] at hb hx
  obtain ⟨cb', b1, hb⟩ := A8.A0 hb
  obtain ⟨tb, b2, hb⟩ := A8.A0 hb
  obtain ⟨tsb, b3, hb⟩ := A8.A0 hb
  obtain ⟨cd', d1, hx⟩ := A8.A0 hx
  obtain ⟨td, d2, hx⟩ := A8.A0 hx
  obtain ⟨tsd, d3, hx⟩ := A8.A0 hx
  injection hb with hb
  injection hx with hx
  subst hb hx
  have hm := B9i k
  rw [sq F hf.1 (F.Gq _ _ _ _ _ _ _ _ _ hr A3 hm a1 b1 c1 d1) a2 b2 c2 d2, sqS F hf.2 hr a3 b3 c3 d3]
termination_by structural ts => ts
theorem sqB (F : Sq (A := A) (B := B) (C := C) (D := D) R) {k : Int} : ∀ {bs a b c x : List Br} {ca : CA} {cb : CB} {cc : CC} {cd : CD}, Ng k bs → R ca cb cc cd → Bu A k bs ca = .ok a → Bu B k a cb = .ok b → Bu C k bs cc = .ok c → Bu D k c cd = .ok x → b = x
 | [], a, b, c, x, ca, cb, cc, cd, hf, hr, ha, hb, hc, hx => by
  rw [Co] at ha hc
  injection ha with ha
  injection hc with hc
  subst ha hc
  rw [Co] at hb hx
  injection hb with hb
  injection hx with hx
  rw [← hb, ← hx]
 | .mk f ks :: bs, a, b, c, x, ca, cb, cc, cd, hf, hr, ha, hb, hc, hx => by
  rw [C7] at ha hc
  simp only [Br.As, Br.kids] at ha hc
  obtain ⟨oa, a1, ha⟩ := A8.A0 ha
  obtain ⟨oc, c1, hc⟩ := A8.A0 hc
  have hfc := fun ob od => F.As _ _ _ _ f oa oc ob od hr hf.2.1 a1 c1
  obtain ⟨fa, fc, e1, e2, _⟩ := hfc none none
  subst e1 e2
  obtain ⟨ka, a2, ha⟩ := A8.A0 ha
  obtain ⟨ba, a3, ha⟩ := A8.A0 ha
  obtain ⟨kc, c2, hc⟩ := A8.A0 hc
  obtain ⟨bc, c3, hc⟩ := A8.A0 hc
  injection ha with ha
  injection hc with hc
  subst ha hc
  rw [C7] at hb hx
  simp only [Br.As, Br.kids] at hb hx
  obtain ⟨ob, b1, hb⟩ := A8.A0 hb
  obtain ⟨od, d1, hx⟩ := A8.A0 hx
  obtain ⟨fa', fc', e1, e2, hg⟩ := hfc ob od
  injection e1 with e1
  injection e2 with e2
  subst e1 e2
  obtain ⟨g, g1, g2⟩ := hg b1 d1
  subst g1 g2
  obtain ⟨kb, b2, hb⟩ := A8.A0 hb
  obtain ⟨bb, b3, hb⟩ := A8.A0 hb
  obtain ⟨kd, d2, hx⟩ := A8.A0 hx
  obtain ⟨bd, d3, hx⟩ := A8.A0 hx
  injection hb with hb
  injection hx with hx
  subst hb hx
  rw [sqS F hf.2.2.1 hr a2 b2 c2 d2, sqB F hf.2.2.2 hr a3 b3 c3 d3]
termination_by structural bs => bs
end
end
def V4 : Tr Unit where
 own _ _ n _ r := .ok (.inr (n, r))
 As _ f := .ok (some f)
 Gq _ _ := .ok ()
mutual
theorem id_eq : ∀ t : T, Bh V4 t () = .ok t
 | .mk k n nm r ks ss => by rw [D5]; simp only [T.kind, T.n, T.name, T.r, T.kids, T.sys, V4, A8.bind]; rw [show (Tr.mk _ _ _ : Tr Unit) = V4 from rfl, C0p ks, C0q ss]
theorem C0p {k : Int} : ∀ {i : Nat} (ts : List T), Ci V4 k i ts () = .ok ts
 | i, [] => Ct _ _ _
 | i, t :: ts => by rw [Ch, show V4.Gq () (binds k i) = .ok () from rfl]; simp only [A8.bind]; rw [id_eq t]; simp only; rw [C0p ts]
theorem C0o {k : Int} : ∀ ts : List T, Bt V4 k ts () = .ok ts
 | [] => Cy _ _
 | t :: ts => by rw [Cg, show V4.Gq () (0, more k) = .ok () from rfl]; simp only [A8.bind]; rw [id_eq t]; simp only; rw [C0o ts]
theorem C0q {k : Int} : ∀ bs : List Br, Bu V4 k bs () = .ok bs
 | [] => Co _ _
 | .mk f ks :: bs => by rw [C7, show V4.As () (Br.As (.mk f ks)) = .ok (some f) from rfl]; simp only [A8.bind]; rw [show (Br.mk f ks).kids = ks from rfl, C0o ks]; simp only; rw [C0q bs]
end
theorem Lw {a b : Int} {t u : T} {c : Int × Int} (hf : Cm t) (hk : t.kind = 1) (h : Bh (Av a b) t c = .ok u) : u = .mk 1 (Cr a c.1 1 t.n) ⟨#[]⟩ [] [] [] ∧ ¬ (c.1 ≤ t.n ∧ 1000000000 - a < t.n) := by
 have e := (Ly hf hk).1
 generalize t.n = m at e ⊢
 subst e
 rw [D5] at h
 simp only [T.kind, T.n, T.name, T.r, T.kids, T.sys] at h
 rw [En, Nz] at h
 simp only [A8.bind, true_and] at h
 by_cases h2 : c.1 ≤ m ∧ 1000000000 - a < m
 ·rw [if_pos h2] at h; cases h
 ·rw [if_neg h2] at h
  simp only [Ct, Co] at h
  injection h with h
  exact ⟨h.symm, h2⟩
theorem B6o {n : Int} (h : 0 ≤ n) : Cm (.mk 1 n ⟨#[]⟩ [] [] []) := by
 rw [Lz]
 refine ⟨⟨fun h => absurd rfl h, fun _ => rfl, fun _ => ⟨rfl, h⟩, fun h2 => by simp [T.kind] at h2, fun h2 => by simp [T.kind] at h2, fun h2 => by simp [T.kind] at h2, fun _ => rfl⟩, by simp [T.kind, T.kids]; decide, fun _ => rfl, trivial, trivial⟩
theorem A5w {k n : Int} {nm : ByteArray} {r : List Cl} (h : It k n nm r) : A5 r = true := by
 obtain ⟨_, _, _, _, h13, h14, h0⟩ := h
 by_cases h1 : k = 13 ∨ k = 21 ∨ k = 26
 ·exact h13 h1
 ·by_cases h2 : k = 14
  ·exact X8 (h14 h2)
  ·rw [h0 A3]; exact Mz
theorem S6 {a v k n : Int} (hk : k ≠ 1) : Cr a v k n = n := by unfold Cr; rw [if_neg (fun h => hk h.1)]
theorem C7r {a b c d : Int} (ha : 0 ≤ a) (hb : 0 ≤ b) (hc : 0 ≤ c) (hd : 0 ≤ d) : Sq (A := Av a b) (B := Av c d) (C := V4) (D := Av (a + c) (b + d)) (fun x y _ z => z = x ∧ x.1 ≤ y.1 ∧ y.1 ≤ x.1 + a ∧ 0 ≤ x.2 ∧ x.2 ≤ y.2 ∧ y.2 ≤ x.2 + b) where
 leaf := by
  rintro t u w y x ca cb cc cd ⟨rfl, e1, e2, e3, e4, e5⟩ hf hk h1 h2 h3 h4
  rw [id_eq] at h3
  injection h3 with h3
  subst h3
  obtain ⟨rfl, g1⟩ := Lw hf hk h1
  obtain ⟨_, hn⟩ := Ly hf hk
  obtain ⟨rfl, g2⟩ := Lw (B6o (by unfold Cr; split <;> omega)) rfl h2
  obtain ⟨rfl, g3⟩ := Lw hf hk h4
  simp only [T.n] at *
  congr 1
  unfold Cr at *
  split at * <;> split at * <;> omega
 nA := fun _ _ _ _ _ _ _ => Em
 nB := fun _ _ _ _ _ _ _ => Em
 nC := fun _ _ _ _ _ _ _ h => (by injection h with h; cases h)
 nD := fun _ _ _ _ _ _ _ => Em
 own := by
  rintro ca cb cc cd k n nm r pa pb pc pd ⟨rfl, e1, e2, e3, e4, e5⟩ hh hk h1 h2 h3 h4
  injection h3 with h3
  injection h3 with h3
  subst h3
  obtain ⟨a1, _, a3⟩ := Im h1
  obtain ⟨b1, _, b3⟩ := Im h2
  obtain ⟨d1, _, d3⟩ := Im h4
  refine Prod.ext ?_ (A1f (A5w hh) e3 hb hd e4 e5 a1 b1 d1)
  rw [b3, d3, S6 hk, S6 hk, a3, S6 hk]
 As := by
  rintro ca cb cc cd f oa oc ob od ⟨rfl, e1, e2, e3, e4, e5⟩ hf h1 h3
  injection h3 with h3
  subst h3
  cases oa with
  | none => exact absurd h1 G8
  | some fa =>
   refine ⟨fa, f, rfl, rfl, fun h2 h4 => ?_⟩
   cases ob with
   | none => exact absurd h2 G8
   | some fb =>
    cases od with
    | none => exact absurd h4 G8
    | some fd => exact ⟨fb, rfl, by rw [A1f (X8 hf) e3 hb hd e4 e5 (Hn h1) (Hn h2) (Hn h4)]⟩
 Gq := by
  rintro ca cb cc cd b' ca' cb' cc' cd' ⟨rfl, e1, e2, e3, e4, e5⟩ p1 p2 h1 h2 h3 h4
  have := H5 h1
  have := H5 h2
  have := H5 h4
  subst_vars
  exact ⟨rfl, by dsimp only; omega, by dsimp only; omega, by dsimp only; omega, by dsimp only; omega, by dsimp only; omega⟩
theorem Jy : ∀ {l m : List Int}, (l.Pairwise fun a b => a < b) → (m.Pairwise fun a b => a < b) → (∀ x, x ∈ l ↔ x ∈ m) → l = m
 | [], [], _, _, _ => rfl
 | [], b :: m, _, _, h => by have := (h b).mpr List.mem_cons_self; cases this
 | a :: l, [], _, _, h => by have := (h a).mp List.mem_cons_self; cases this
 | a :: l, b :: m, hl, hm, h => by
  obtain ⟨l1, l2⟩ := List.pairwise_cons.mp hl
  obtain ⟨m1, m2⟩ := List.pairwise_cons.mp hm
  have hab : a = b := by
   rcases List.mem_cons.mp ((h a).mp List.mem_cons_self) with h1 | h1
   ·exact h1
   ·rcases List.mem_cons.mp ((h b).mpr List.mem_cons_self) with h2 | h2
    ·exact h2.symm
    ·have := l1 b h2; have := m1 a h1; omega
  subst hab
  have : l = m := Jy l2 m2 fun x => by
   constructor
   ·intro hx
    rcases List.mem_cons.mp ((h x).mp (List.mem_cons_of_mem _ hx)) with h1 | h1
    ·subst h1; have := l1 x hx; omega
    ·exact h1
   ·intro hx
    rcases List.mem_cons.mp ((h x).mpr (List.mem_cons_of_mem _ hx)) with h1 | h1
    ·subst h1; have := m1 x hx; omega
    ·exact h1
  rw [this]
def shI (f b x : Int) : Int := if x < f then x else x + b
theorem A5d {s : Nat} {f b x : Int} (h0 : 0 ≤ f) (hb : 0 ≤ b) (hx : x ∈ Aq s) (hf : f ≤ x) (h : 24 ≤ x + b) : Aa s f b = (10, 0) := by
 obtain ⟨x0, x1, x2⟩ := Dx.mp hx
 have hbit : (B1 (s &&& 16777215) (2 ^ (min f.toNat 24) - 1)).testBit x.toNat = true := by
  rw [Fm, Il, Ei, x2, decide_eq_true A3, decide_eq_true A3, decide_eq_false A3]; rfl
 have hge := Nat.ge_two_pow_of_testBit hbit
 unfold Aa
 rw [if_neg A3, if_neg (fun h1 => by rw [h1, Nat.zero_testBit] at hbit; cases hbit), if_pos]
 by_cases h24 : 24 ≤ b
 ·exact .inl h24
 ·right
  have h1 : 2 ^ x.toNat * 2 ^ b.toNat ≤ B1 (s &&& 16777215) (2 ^ (min f.toNat 24) - 1) * 2 ^ b.toNat := Nat.mul_le_mul_right _ hge
  rw [← Nat.pow_add] at h1
  have h2 : 2 ^ 24 ≤ 2 ^ (x.toNat + b.toNat) := Nat.pow_le_pow_right A3 A3
  have h3 : (2 : Nat) ^ 24 = 16777216 := by decide
  omega
theorem Ts {s : Nat} {f b : Int} (h0 : 0 ≤ f) (hb : 0 ≤ b) (h : ∀ x, x ∈ Aq s → x < f ∨ x + b < 24) : Aa s f b = (0, Vu ((Aq s).map (shI f b))) := by
 have h1 : (Aa s f b).1 = 0 := by
  unfold Aa
  rw [if_neg A3]
  split
  ·rfl
  ·rename_i h2
   rw [if_neg]
   have hbits : ∀ i, (B1 (s &&& 16777215) (2 ^ (min f.toNat 24) - 1)).testBit i = true → (i : Int) + b < 24 := fun i hi => by
    rw [Fm, Il, Ei] at hi
    simp only [Bool.and_eq_true, decide_eq_true_eq, Bool.not_eq_true', decide_eq_false_iff_not] at hi
    have hm : (i : Int) ∈ Aq s := Dx.mpr ⟨by omega, by omega, by simpa using hi.1.2.2⟩
    rcases h _ hm with h3 | h3 <;> omega
   obtain ⟨i, hi⟩ : ∃ i, (B1 (s &&& 16777215) (2 ^ (min f.toNat 24) - 1)).testBit i = true := by
    refine Classical.byContradiction fun hn => h2 (Nat.eq_of_testBit_eq fun i => ?_)
    rw [Nat.zero_testBit]
    cases hh : (B1 (s &&& 16777215) (2 ^ (min f.toNat 24) - 1)).testBit i with
    | false => rfl
    | true => exact absurd ⟨i, hh⟩ hn
   have hb24 := hbits i hi
   have hlt : B1 (s &&& 16777215) (2 ^ (min f.toNat 24) - 1) < 2 ^ (24 - b.toNat) := Nat.lt_pow_two_of_testBit _ fun j hj => by
    cases hh : (B1 (s &&& 16777215) (2 ^ (min f.toNat 24) - 1)).testBit j with
    | false => rfl
    | true => have := hbits j hh; omega
   rintro (h3 | h3)
   ·omega
   ·have h4 : B1 (s &&& 16777215) (2 ^ (min f.toNat 24) - 1) * 2 ^ b.toNat < 2 ^ (24 - b.toNat) * 2 ^ b.toNat := Nat.mul_lt_mul_of_pos_right hlt (Nat.pow_pos A3)
    rw [← Nat.pow_add, show 24 - b.toNat + b.toNat = 24 by omega] at h4
    have h5 : (2 : Nat) ^ 24 = 16777216 := by decide
    omega
 refine Prod.ext h1 ?_
 have hlt := Fa s f b
 have e1 : (Aa s f b).2 = Vu (Aq (Aa s f b).2) := by rw [A7u, Xp]; exact (Nat.mod_eq_of_lt hlt).symm
 rw [e1]
 show Vu _ = Vu _
 congr 1
 refine Jy (L5 _ _) ?_ fun x => ?_
 ·rw [List.pairwise_map]
  refine (L5 s 24).imp fun {a c} hac => ?_
  unfold shI
  split <;> split <;> omega
 ·rw [List.mem_map]
  constructor
  ·intro hx
   obtain ⟨x0, x1, x2⟩ := Dx.mp hx
   obtain ⟨j, h2, h3, h4⟩ := (C8 h1 x.toNat).mp x2
   refine ⟨(j : Int), Dx.mpr ⟨by omega, by omega, by simpa using h3⟩, ?_⟩
   unfold shI
   split <;> omega
  ·rintro ⟨y, hy, rfl⟩
   obtain ⟨y0, y1, y2⟩ := Dx.mp hy
   have hsh : 0 ≤ shI f b y ∧ shI f b y < 24 := by
    unfold shI
    rcases h y hy with h2 | h2 <;> split <;> omega
   refine Dx.mpr ⟨hsh.1, hsh.2, (C8 h1 _).mpr ⟨y.toNat, by omega, y2, ?_⟩⟩
   unfold shI at hsh ⊢
   split <;> omega
theorem Mu (s : Nat) : (Aq s).Pairwise fun a b => a < b := by
 unfold Aq Fi
 rw [List.pairwise_map]
 refine List.Pairwise.filter _ ?_
 exact List.pairwise_lt_range.imp fun h => by omega
theorem B4z (s : Nat) : Aq (s &&& 16777215) = Aq s := by
 refine Jy (Mu _) (Mu _) fun x => ?_
 rw [Dx, Dx, Ei]
 constructor
 ·rintro ⟨h1, h2, h3⟩
  rw [Bool.and_eq_true] at h3
  exact ⟨h1, h2, h3.2⟩
 ·rintro ⟨h1, h2, h3⟩
  exact ⟨h1, h2, by rw [h3, decide_eq_true A3]; rfl⟩
theorem B4w {r : Nat} (h0 : ¬ r = 0) (h : r < 4294967296) : ∃ m, r = 2 ^ Lib.ctz 32 r * (2 * m + 1) ∧ Lib.ctz 32 r < 32 := by
 obtain ⟨m, h1, h2⟩ := Lib.ctzFrom_spec 32 r A3 h
 have e : Lib.ctz 32 r = Lib.ctzFrom 32 r := by unfold Lib.ctz; rw [if_neg h0]
 rw [e]
 exact ⟨m, h1, h2⟩
theorem C4d {r k m i : Nat} (h : r = 2 ^ k * (2 * m + 1)) : (r &&& (r - 1)).testBit i = (r.testBit i && decide (i ≠ k)) ∧ r.testBit k = true ∧ (i < k → r.testBit i = false) := by
 have hp : 0 < 2 ^ k := Nat.pow_pos Iu
 have e1 : r = 2 ^ (k + 1) * m + 2 ^ k := by rw [h, Nat.pow_succ, Nat.mul_add, Nat.mul_assoc]; simp
 have e2 : r - 1 = 2 ^ (k + 1) * m + (2 ^ k - 1) := by omega
 have hb1 : 2 ^ k < 2 ^ (k + 1) := by rw [Nat.pow_succ]; omega
 have hb2 : 2 ^ k - 1 < 2 ^ (k + 1) := by omega
 have t1 : ∀ j, r.testBit j = if j < k + 1 then (2 ^ k).testBit j else m.testBit (j - (k + 1)) := fun j => by rw [e1]; exact Nat.testBit_two_pow_mul_add m hb1 j
 have t2 : ∀ j, (r - 1).testBit j = if j < k + 1 then (2 ^ k - 1).testBit j else m.testBit (j - (k + 1)) := fun j => by rw [e2]; exact Nat.testBit_two_pow_mul_add m hb2 j
 refine ⟨?_, by rw [t1, if_pos A3, Nat.testBit_two_pow_self], fun hi => by rw [t1, if_pos A3, Nat.testBit_two_pow_of_ne A3]⟩
 rw [Nat.testBit_and, t1, t2]
 by_cases hi : i < k + 1
 ·rw [if_pos hi, if_pos hi, Nat.testBit_two_pow, Nat.testBit_two_pow_sub_one]
  by_cases hk : k = i
  ·subst hk; simp
  ·simp [hk]
 ·rw [if_neg hi, if_neg hi]
  have : i ≠ k := by omega
  simp [this]
theorem Zl {r : Nat} (h0 : ¬ r = 0) (h : r < 16777216) : Lib.ctz 32 r < 24 ∧ Aq r = (Lib.ctz 32 r : Int) :: Aq (r &&& (r - 1)) := by
 obtain ⟨m, h1, h2⟩ := B4w h0 A3
 have hb := fun i => C4d (i := i) h1
 have hk : Lib.ctz 32 r < 24 := Decidable.byContradiction fun hn => by
  have h3 := Nat.ge_two_pow_of_testBit (hb 0).2.1
  have h4 : 2 ^ 24 ≤ 2 ^ Lib.ctz 32 r := Nat.pow_le_pow_right Iu A3
  omega
 refine ⟨hk, Jy (Mu _) (List.pairwise_cons.mpr ⟨fun x hx => ?_, Mu _⟩) fun x => ?_⟩
 ·obtain ⟨x0, x1, x2⟩ := Dx.mp hx
  rw [(hb x.toNat).1, Bool.and_eq_true, decide_eq_true_eq] at x2
  have : ¬ x.toNat < Lib.ctz 32 r := fun hlt => by have := (hb x.toNat).2.2 hlt; rw [x2.1] at this; cases this
  omega
 ·rw [List.mem_cons, Dx, Dx, (hb x.toNat).1, Bool.and_eq_true, decide_eq_true_eq]
  constructor
  ·rintro ⟨x0, x1, x2⟩
   by_cases hx : x = (Lib.ctz 32 r : Int)
   ·exact .inl hx
   ·exact .inr ⟨x0, x1, x2, by omega⟩
  ·rintro (rfl | ⟨x0, x1, x2, _⟩)
   ·exact ⟨by omega, by omega, by rw [Int.toNat_natCast]; exact (hb 0).2.1⟩
   ·exact ⟨x0, x1, x2⟩
theorem C8y {r : Nat} (h0 : ¬ r = 0) : r &&& (r - 1) < r := Nat.lt_of_le_of_lt Nat.and_le_right A3
def C7z : ByteArray := ⟨#[0, 1, 1, 2, 1, 2, 2, 3, 1, 2, 2, 3, 2, 3, 3, 4, 1, 2, 2, 3, 2, 3, 3, 4, 2, 3, 3, 4, 3, 4, 4, 5, 1, 2, 2, 3, 2, 3, 3, 4, 2, 3, 3, 4, 3, 4, 4, 5, 2, 3, 3, 4, 3, 4, 4, 5, 3, 4, 4, 5, 4, 5, 5, 6, 1, 2, 2, 3, 2, 3, 3, 4, 2, 3, 3, 4, 3, 4, 4, 5, 2, 3, 3, 4, 3, 4, 4, 5, 3, 4, 4, 5, 4, 5, 5, 6, 2, 3, 3, 4, 3, 4, 4, 5, 3, 4, 4, 5, 4, 5, 5, 6, 3, 4, 4, 5, 4, 5, 5, 6, 4, 5, 5, 6, 5, 6, 6, 7, 1, 2, 2, 3, 2, 3, 3, 4, 2, 3, 3, 4, 3, 4, 4, 5, 2, 3, 3, 4, 3, 4, 4, 5, 3, 4, 4, 5, 4, 5, 5, 6, 2, 3, 3, 4, 3, 4, 4, 5, 3, 4, 4, 5, 4, 5, 5, 6, 3, 4, 4, 5, 4, 5, 5, 6, 4, 5, 5, 6, 5, 6, 6, 7, 2, 3, 3, 4, 3, 4, 4, 5, 3, 4, 4, 5, 4, 5, 5, 6, 3, 4, 4, 5, 4, 5, 5, 6, 4, 5, 5, 6, 5, 6, 6, 7, 3, 4, 4, 5, 4, 5, 5, 6, 4, 5, 5, 6, 5, 6, 6, 7, 4, 5, 5, 6, 5, 6, 6, 7, 5, 6, 6, 7, 6, 7, 7, 8]⟩
def pop8 (j : Nat) : Nat := j % 2 + j / 2 % 2 + j / 4 % 2 + j / 8 % 2 + j / 16 % 2 + j / 32 % 2 + j / 64 % 2 + j / 128 % 2
theorem Vy : ∀ j, j < 256 → C7z[j]? = some (UInt8.ofNat (pop8 j)) ∧ pop8 j ≤ 8 := by decide +kernel
def Rp (s : Nat) : Nat := pop8 (s / 16777216) + pop8 (s / 65536 &&& 255) + pop8 (s / 256 &&& 255) + pop8 (s &&& 255)
theorem B4f : ∀ k, k < 24 → Rp (2 ^ k) = 1 := by decide +kernel
theorem A8h : Rp 0 = 0 := by decide
theorem A2u (s : Nat) : s &&& 255 < 256 := Nat.lt_of_le_of_lt Nat.and_le_right Iu
section
variable {tn : Bool} {pn : Nat} {P : Program} [Tab P] {f : FuncId} {R : Ending → World → Prop} {B : C0} {n : Fz} {K : List Item} {ops : Array Oper} {i : Nat} {l fin : List Nat} {σ : Nat → Value} {Γ : List Fact} {Ms Ms2 : List B3}
variable {dst : Option Tmp} {op : Op} {ty : TypeId} {pos : String} {after : Array Edge} {v : Value} {x y z : Operand}
theorem A4c {t : TypeId} {s : ByteArray} {j : Nat} (hu : Tab.und P t = some .string) (hx : ev σ x = .string s) (hs : s = C7z) (hy : ev σ y = .int .u32 (j : Int)) (hj : j < 256) : Ce P σ (.index t x y) ty (.int .u8 (pop8 j : Nat)) := fun w => by
 subst hs
 have h := (Vy j hj)
 have e : ((UInt8.ofNat (pop8 j)).toNat : Int) = (pop8 j : Nat) := by
  rw [UInt8.toNat_ofNat']
  have := h.2
  omega
 simp [Cd, execOp, hx, hy, Instr.index, asIntOf, D7 hu, h.1]
 have := h.2
 omega
theorem B8n {t t' : TypeId} {a b : Nat} (hx : ev σ x = .int .u8 (a : Nat)) (hy : ev σ y = .int .u8 (b : Nat)) (h : a + b < 256) : Ce P σ (.binOp .add t x y t') ty (.int .u8 ((a + b : Nat) : Int)) :=
 D0 hx hy (fun w => Bs w) (fun w => by
  have e : IntKind.u8.wrap ((a : Int) + (b : Int)) = ((a + b : Nat) : Int) := by simp [IntKind.wrap, IntKind.signed, IntKind.bits]; omega
  show Result.ok (Value.int .u8 (IntKind.u8.wrap ((a : Int) + (b : Int)))) w = _
  rw [e])
theorem B4i {s d : TypeId} {ds : TypeDesc} {a : Nat} (hs : Tab.und P s = some ds) (hd : Tab.und P d = some (.int .i64)) (hx : ev σ x = .int .u8 (a : Nat)) (ha : a < 256) : Ce P σ (.convert s d x) ty (.int .i64 (a : Int)) := by
 have h := K0 hs hd hx (ty := ty)
 rwa [show IntKind.i64.wrap (a : Int) = (a : Int) by rw [IntKind.wrap_i64]; omega] at h
theorem V5 {t : TypeId} {s : ByteArray} {j : Nat} (k_ : NV tn pn P f R B n K ops fin l (Ak σ dst (.int .u8 (pop8 j : Nat))) Γ Ms) (hx : ev σ x = .string s := by exact Ac) (hy : ev σ y = .int .u32 (j : Int) := by exact Ac) (hs : s = C7z := by rfl) (hu : Tab.und P t = some .string := by rfl) (hj : j < 256 := by first | omega | exact A2u _) (hd : Ae n dst = true := by rfl) : Ir tn pn P f R B n K ops fin i l dst (.index t x y) ty σ Γ Ms := Cw (A4c hu hx hs hy hj) hd k_
theorem A0s {t t' : TypeId} {a b : Nat} (k_ : NV tn pn P f R B n K ops fin l (Ak σ dst (.int .u8 ((a + b : Nat) : Int))) Γ Ms) (hx : ev σ x = .int .u8 (a : Nat) := by exact Ac) (hy : ev σ y = .int .u8 (b : Nat) := by exact Ac) (h : a + b < 256 := by omega) (hd : Ae n dst = true := by rfl) : Ir tn pn P f R B n K ops fin i l dst (.binOp .add t x y t') ty σ Γ Ms := Cw (B8n hx hy h) hd k_
theorem B6s {s d : TypeId} {ds : TypeDesc} {a : Nat} (k_ : NV tn pn P f R B n K ops fin l (Ak σ dst (.int .i64 (a : Int))) Γ Ms) (hx : ev σ x = .int .u8 (a : Nat) := by exact Ac) (hs : Tab.und P s = some ds := by rfl) (hd' : Tab.und P d = some (.int .i64) := by rfl) (ha : a < 256 := by omega) (hd : Ae n dst = true := by rfl) : Ir tn pn P f R B n K ops fin i l dst (.convert s d x) ty σ Γ Ms := Cw (B4i hs hd' hx ha) hd k_
end
theorem Wx {l : List Cl} (h : (B7 l).1 ≠ 0) : (B7 l).2 = [] := by
 unfold B7 at h ⊢
 split
 ·rfl
 ·rename_i h1
  rw [if_neg h1] at h
  split
  ·rfl
  ·rename_i h2
   rw [if_neg h2] at h
   exact absurd rfl h
theorem Ye {l : List Cl} {f b : Int} (hl : A5 l = true) (h0 : 0 ≤ f) (hb : 0 ≤ b) (h : b = 0 ∨ 24 ≤ f) : Ad l f b = (0, l) := by
 obtain ⟨hr, _⟩ := Sg hl
 have key : ∀ c, c ∈ l → An c f b = (0, c) := fun c hc => by
  obtain ⟨h2, h3⟩ := F7.mp (hr c hc)
  unfold An
  rw [if_neg (by rw [hr c hc]; simp), P4 h2 h0 hb h, P4 h3 h0 hb h]
  simp
 have hf : E1 (fun c => An c f b) l = (0, l) := by
  unfold E1
  rw [List.find?_eq_none.mpr (fun c hc => by show ¬ decide ((An c f b).1 ≠ 0) = true; rw [key c hc]; simp)]
  simp only
  congr 1
  conv => rhs; rw [← List.map_id l]
  exact List.map_congr_left (fun c hc => by rw [key c hc]; rfl)
 unfold Ad
 rw [if_neg (by rw [hl]; simp), hf, if_neg D2]
 have := S7 l
 rw [hl, Bool.and_eq_true, decide_eq_true_eq, decide_eq_true_eq] at this
 exact Prod.ext this.1 this.2
theorem Mm {l : List Cl} {f b : Int} (hl : A5 l = true) (h0 : 0 ≤ f) (hb : 0 ≤ b) : Ah b l f = if (Ad l f b).1 = 0 then .ok (Ad l f b).2 else .bad (Ad l f b).1 := by
 unfold Ah
 by_cases h : b = 0 ∨ 24 ≤ f
 ·rw [if_pos h, Ye hl h0 hb h]; rfl
 ·rw [if_neg h]
theorem C0x {l : List Cl} {f b : Int} : 0 ≤ (Ad l f b).1 := by
 have hl : ∀ m : List Cl, 0 ≤ (B7 m).1 := fun m => by rcases Fj m with h | h | h <;> omega
 unfold Ad
 split
 ·exact (show (0 : Int) ≤ 2 by omega)
 ·split
  ·unfold E1
   split
   ·rename_i c _
    rcases B0d c f b with h | h | h <;> (simp only; omega)
   ·exact Int.le_refl 0
  ·exact hl _
theorem Uh {l : List Cl} {f b e : Int} (h : Ah b l f = .bad e) : 0 < e := by
 unfold Ah at h
 split at h
 ·cases h
 ·split at h
  ·cases h
  ·rename_i h2
   injection h with h
   have := C0x (l := l) (f := f) (b := b)
   omega
theorem S5 {vb db : Int} : ∀ (t : T) {c : Int × Int} {e : Int}, Bh (Av vb db) t c = .bad e → 0 < e := T.ind fun t ih c e h => by
 rcases A3j h with h1 | ⟨b, _, h1⟩ | ⟨p, hp, h1 | ⟨c', _, h2⟩⟩
 ·rw [En] at h1
  rcases Be h1 with h2 | ⟨g, _, h2⟩
  ·exact Uh h2
  ·split at h2
   ·injection h2 with h2; omega
   ·cases h2
 ·rw [G0] at h1
  rcases Be h1 with h2 | ⟨g, _, h2⟩
  ·exact Uh h2
  ·cases h2
 ·cases h1
 ·exact ih p hp h2
abbrev EL : Type := Int × List Cl
def Ec (i : Int) : Nat := if 0 ≤ i ∧ i < 24 then 2 ^ i.toNat else 0
def A3h (s : Nat) (i : Int) : Nat := if 0 ≤ i ∧ i < 24 then (s &&& 16777215) ||| 2 ^ i.toNat else s &&& 16777215
theorem Mc (i : Int) : A3h 0 i = Ec i := by unfold A3h Ec; split <;> simp
theorem Kw (i : Int) : Ec i < 16777216 := by
 unfold Ec
 split
 ·exact Nat.pow_lt_pow_right (n := 24) (a := 2) Iu A3
 ·decide
def Wy (i : Int) : Bool := decide (0 ≤ i) && decide (i < 24)
theorem C3i {i : Int} (h : Wy i = true) : Rp (Ec i &&& 16777215) = 1 := by
 have h1 : 0 ≤ i ∧ i < 24 := by unfold Wy at h; simpa using h
 have h2 := Kw i
 rw [Xp, Nat.mod_eq_of_lt A3]
 unfold Ec
 rw [if_pos h1]
 exact B4f _ A3
theorem B8a {i : Int} (h : Wy i = false) : Rp (Ec i &&& 16777215) = 0 := by
 have h1 : ¬ (0 ≤ i ∧ i < 24) := by unfold Wy at h; simp at h; omega
 unfold Ec
 rw [if_neg h1]
 exact A8h
theorem A3w (i : Int) : decide (((Rp (Ec i &&& 16777215) : Nat) : Int) = 0) = !Wy i := by
 cases h : Wy i
 ·rw [B8a h]; rfl
 ·rw [C3i h]; rfl
def J1 (x : EL) (k : List Cl → EL) : EL := if x.1 ≠ 0 then (x.1, []) else k x.2
theorem Bi {x : EL} {k : List Cl → EL} (h : x.1 ≠ 0) : J1 x k = (x.1, []) := if_pos h
theorem C5 {x : EL} {k : List Cl → EL} (h : x.1 = 0) : J1 x k = k x.2 := if_neg (by simp [h])
def Ck (g : List Cl → Cl → EL) : List Cl → List Cl → EL
 | h, [] => (0, h)
 | h, c :: cs => J1 (g h c) fun h' => Ck g h' cs
theorem X3 {g : List Cl → Cl → EL} : ∀ {l m h h' : List Cl}, Ck g h l = (0, h') → Ck g h (l ++ m) = Ck g h' m
 | [], m, h, h', e => by
  rw [Ck, Prod.mk.injEq] at e
  rw [List.nil_append, e.2]
 | d :: l, m, h, h', e => by
  rw [Ck] at e
  by_cases h0 : (g h d).1 = 0
  ·rw [C5 h0] at e
   rw [List.cons_append, Ck, C5 h0]
   exact X3 e
  ·rw [Bi h0, Prod.mk.injEq] at e
   exact absurd e.1 h0
theorem X4 {g : List Cl → Cl → EL} {l h h' : List Cl} {i : Nat} (hi : i < l.length) (e : Ck g h (l.take i) = (0, h')) (h0 : (g h' (l.getD i Bz)).1 = 0) : Ck g h (l.take (i + 1)) = (0, (g h' (l.getD i Bz)).2) := by
 rw [Aj (d := Bz) hi, X3 e, Ck, C5 h0, Ck]
theorem Tv {g : List Cl → Cl → EL} {l h h' : List Cl} {i : Nat} (hi : i < l.length) (e : Ck g h (l.take i) = (0, h')) (h0 : (g h' (l.getD i Bz)).1 ≠ 0) : Ck g h l = ((g h' (l.getD i Bz)).1, []) := by
 have e2 : l = l.take i ++ l.getD i Bz :: l.drop (i + 1) := by rw [Cq (d := Bz) hi, List.getElem_cons_drop, List.take_append_drop]
 rw [e2, X3 e, ← e2, Ck, Bi h0]
theorem Tw {g : List Cl → Cl → EL} {l h h' : List Cl} {i : Nat} (hi : i = l.length) (e : Ck g h (l.take i) = (0, h')) : Ck g h l = (0, h') := by
 rw [hi, List.take_length] at e
 exact e
def Ho (f g : List Cl) : EL := B7 (f ++ g)
def J0 (f g : List Cl) : List Cl := f.flatMap fun a => g.map fun b => Dh a b
def Kr (f g : List Cl) : EL := B7 (J0 f g)
def A4g (c : Cl) : List Cl := ((Aq c.pos).map fun i => (⟨0, Ec i⟩ : Cl)) ++ ((Aq c.neg).map fun i => (⟨Ec i, 0⟩ : Cl))
def A1n (c : Cl) : EL := B7 (A4g c)
def D9 (h : List Cl) (c : Cl) : EL := J1 (A1n c) fun o => Kr h o
def Tn (f : List Cl) : EL := Ck D9 [Bz] f
def Lu (f : List Cl) : EL := if A5 f then Tn f else (2, [])
def Dv (l : List Cl) : List Cl := l.filter fun c => !Hb c
def Wf (f : List Cl) : EL := if A5 f then B7 (Dv f) else (2, [])
def Fg (r : List Cl) : EL := J1 (Lu r) Wf
def Lv (f g : List Cl) : EL := B7 (f.flatMap fun a => Dv (g.map fun b => Dh a b))
def Io (f g : List Cl) : EL := if (A6 f && A6 g) = false then (2, []) else Ho f g
abbrev Qk (x : EL) : Prop := Ai x.2
theorem B4b {l m : List Cl} (h : Ai l) (hs : ∀ c, c ∈ m → c ∈ l) (hl : m.length ≤ l.length) : Ai m := ⟨fun c hc => h.1 c (hs c hc), by have := h.2; omega⟩
theorem Ls {l : List Cl} (h : ∀ c, c ∈ l → u32 c) : Qk (B7 l) := Zq h
theorem We {x : EL} {k : List Cl → EL} (h : x.1 = 0 → Qk (k x.2)) : Qk (J1 x k) := by
 by_cases h0 : x.1 = 0
 ·rw [C5 h0]; exact h h0
 ·rw [Bi h0]; exact Cp
theorem A4m {g : List Cl → Cl → EL} : ∀ {l h : List Cl}, (∀ h c, c ∈ l → Ai h → Qk (g h c)) → Ai h → Qk (Ck g h l)
 | [], h, _, h2 => h2
 | c :: l, h, h1, h2 => by
  rw [Ck]
  exact We fun _ => A4m (fun h' d hd => h1 h' d (List.mem_cons_of_mem _ hd)) (h1 h c List.mem_cons_self h2)
theorem Jv {a b : Cl} (h : u32 a) (h2 : u32 b) : u32 (Dh a b) := ⟨Nat.or_lt_two_pow (n := 32) h.1 h2.1, Nat.or_lt_two_pow (n := 32) h.2 h2.2⟩
theorem Vi {f g : List Cl} (h : ∀ c, c ∈ f → u32 c) (h2 : ∀ c, c ∈ g → u32 c) : ∀ c, c ∈ f ++ g → u32 c := fun c hc => (List.mem_append.mp hc).elim (h c) (h2 c)
theorem Yq {f g : List Cl} (h : ∀ c, c ∈ f → u32 c) (h2 : ∀ c, c ∈ g → u32 c) : ∀ c, c ∈ J0 f g → u32 c := fun c hc => by
 obtain ⟨a, ha, hc⟩ := List.mem_flatMap.mp hc
 obtain ⟨b, hb, rfl⟩ := List.mem_map.mp hc
 exact Jv (h a ha) (h2 b hb)
theorem B1a (c : Cl) : ∀ d, d ∈ A4g c → u32 d := fun d hd => by
 rcases List.mem_append.mp hd with hd | hd
 ·obtain ⟨i, _, rfl⟩ := List.mem_map.mp hd
  exact ⟨by show (0 : Nat) < _; decide, by have := Kw i; show Ec i < 4294967296; omega⟩
 ·obtain ⟨i, _, rfl⟩ := List.mem_map.mp hd
  exact ⟨by have := Kw i; show Ec i < 4294967296; omega, by show (0 : Nat) < _; decide⟩
theorem Z4 {c : Cl} (h : u32 c) : Ai [c] := ⟨fun d hd => by rw [List.mem_singleton] at hd; subst hd; exact h, by unfold reach; simp⟩
theorem A4l {f g : List Cl} (h : Ai f) (h2 : Ai g) : Qk (Ho f g) := Ls (Vi h.1 h2.1)
theorem A4k {f g : List Cl} (h : Ai f) (h2 : Ai g) : Qk (Kr f g) := Ls (Yq h.1 h2.1)
theorem B1u (c : Cl) : Qk (A1n c) := Ls (B1a c)
theorem Uk {h : List Cl} {c : Cl} (hh : Ai h) : Qk (D9 h c) := We fun _ => A4k hh (B1u c)
theorem Hx : Ai [Bz] := Z4 ⟨by decide, by decide⟩
theorem B1v (f : List Cl) : Qk (Tn f) := A4m (fun h c _ hh => Uk hh) Hx
theorem A4i (f : List Cl) : Qk (Lu f) := by unfold Lu; split; exact B1v f; exact Cp
theorem Qh {l : List Cl} (h : Ai l) : Ai (Dv l) := B4b h (fun c hc => (List.mem_filter.mp hc).1) (List.length_filter_le _ _)
theorem B8w {f : List Cl} (h : Ai f) : Qk (Wf f) := by unfold Wf; split; exact Ls (Qh h).1; exact Cp
theorem A8r (r : List Cl) : Qk (Fg r) := We fun _ => B8w (A4i r)
theorem B4o {f g : List Cl} (h : Ai f) (h2 : Ai g) : Qk (Lv f g) := Ls fun c hc => by
 obtain ⟨a, ha, hc⟩ := List.mem_flatMap.mp hc
 obtain ⟨b, hb, rfl⟩ := List.mem_map.mp (List.mem_filter.mp hc).1
 exact Jv (h.1 a ha) (h2.1 b hb)
abbrev C4g (x : EL) : Prop := x.2.length ≤ 64
theorem Jn (l : List Cl) : C4g (B7 l) := by
 rcases Fj l with ⟨_, _, h, h2⟩ | h | h
 ·show (B7 l).2.length ≤ 64; rw [h]; exact h2
 ·show (B7 l).2.length ≤ 64; rw [Wx A3]; decide
 ·show (B7 l).2.length ≤ 64; rw [Wx A3]; decide
theorem B9z {x : EL} {k : List Cl → EL} (h : x.1 = 0 → C4g (k x.2)) : C4g (J1 x k) := by
 by_cases h0 : x.1 = 0
 ·rw [C5 h0]; exact h h0
 ·rw [Bi h0]; show ([] : List Cl).length ≤ 64; decide
theorem A5n (h : List Cl) (c : Cl) : C4g (D9 h c) := B9z fun _ => Jn _
theorem H6 {f : List Cl} (h : A5 f = true) : f.length ≤ 64 := by
 unfold A5 at h
 simp only [Bool.and_eq_true, decide_eq_true_eq] at h
 exact h.2
theorem B8s (c : Cl) : (A4g c).length ≤ 48 := by
 unfold A4g
 rw [List.length_append, List.length_map, List.length_map]
 have h1 : (Aq c.pos).length ≤ 24 := I4 _ _
 have h2 : (Aq c.neg).length ≤ 24 := I4 _ _
 omega
theorem B9s {s i : Nat} (h : i < (Aq s).length) : 0 ≤ (Aq s).getD i 0 ∧ (Aq s).getD i 0 < 24 := by
 have h1 := Zk (Af (d := (0 : Int)) h)
 exact ⟨h1.1, by have := h1.2; exact_mod_cast this⟩
theorem A5k {s i : Nat} (h : i < (Aq s).length) : Aw ((Aq s).getD i 0) := by have := B9s h; unfold Aw; omega
theorem Zj (f g : List Cl) : (J0 f g).length = f.length * g.length := by
 unfold J0
 induction f with
 | nil => simp
 | cons a f ih => rw [List.flatMap_cons, List.length_append, ih, List.length_map, List.length_cons, Nat.succ_mul]; omega
theorem A9b (f g : List Cl) (a : Cl) : J0 (f ++ [a]) g = J0 f g ++ g.map fun b => Dh a b := by unfold J0; rw [List.flatMap_append]; simp
theorem Bw {ok : Nat → Prop} {l : List Cl} {a : SH} {w : World} (h : Hu ok l a w) : Ai l := ⟨h.2, h.1.2.1⟩
def Xe (i : Int) : EL := if Wy i then (0, [⟨Ec i, 0⟩]) else (2, [])
theorem St.A1w {B : C0} {Γ : List Fact} {Ms : List B3} {w : World} {e : TypeId} {b : Nat} {l m : List Cl} {a a' : SH} (hs : St B Γ (Ag b [sl a l.length, sl a' m.length] e :: Ms) w) {hBp : Prop} (hB : hBp) (hF : CL l a ∈ Γ) (hG : CL m a' ∈ Γ) : St B (Hf [(l, a), (m, a')] (some ⟨b, 0, Option.none⟩, 2) :: Γ) Ms w := by
 have h1 := ((hs.Iv (sz := 1) (m := 2) rfl Iu).U6 Kb).U7 (x := (l, a)) List.mem_cons_self (List.mem_cons_of_mem _ hF)
 have h2 := h1.U7 (x := (m, a')) List.mem_cons_self (List.mem_cons_of_mem _ (List.mem_cons_of_mem _ hG))
 exact (h2.Jd (F := Bq) (E := Kb) (d := Cj) (bt := 24) (l := [(l, a), (m, a')]) (fun _ => rfl) hB List.mem_cons_self rfl rfl Iu).less sx_
theorem Spec.O0 {P : Program} {k : FuncId} {args : Array Value} {pre : List Fact} {e : TypeId} {r r' : EL} (he : r' = r) (h : Spec P k args pre [] (fun x : SH => .tuple #[sl x r.2.length, .int .i64 r.1]) (fun _ => []) (fun x => [Am 2 e x r.2.length (A9 r.2)])) (hr : Qk r) :
  Spec P k args pre [] (fun x : SH => .tuple #[sl x r'.2.length, .int .i64 r'.1]) (fun x => [CL r'.2 x]) (fun _ => []) := by
 subst he
 exact fun ok w hok hst => (h ok w hok hst).mono fun e w' hh => by
  obtain ⟨x, he, hs⟩ := hh
  exact ⟨x, he, hs.Dk trivial rfl rfl hr.2 hr.1⟩
theorem Spec.Ph {P : Program} {k : FuncId} {args : Array Value} {pre : List Fact} {e : TypeId} {r r' : EL} (he : r' = r) (h : Spec P k args pre [] (fun x : SH => .tuple #[sl x r.2.length, .int .i64 r.1]) (fun _ => []) (fun x => [Am 2 e x r.2.length (A9 r.2)])) :
  Spec P k args pre [] (fun x : SH => .tuple #[sl x r'.2.length, .int .i64 r'.1]) (fun _ => []) (fun x => [Am 2 e x r'.2.length (A9 r'.2)]) := by
 subst he
 exact h
structure C2j where
 form : Int → List Cl → EL
 As : Int → List Cl → EL
def elR (x : EL) : A8 (List Cl) := if x.1 = 0 then .ok x.2 else .bad x.1
theorem A9y {x : EL} (h : x.1 = 0) : elR x = .ok x.2 := if_pos h
theorem B2s {x : EL} (h : x.1 ≠ 0) : elR x = .bad x.1 := if_neg h
theorem Xd {x : EL} {g : List Cl} : elR x = .ok g ↔ x = (0, g) := by
 unfold elR
 split
 ·rename_i h
  constructor
  ·intro h2; injection h2 with h2; exact Prod.ext h h2
  ·rintro rfl; rfl
 ·rename_i h
  constructor
  ·intro h2; cases h2
  ·rintro rfl; exact absurd rfl h
theorem Us {x : EL} {e : Int} : elR x = .bad e ↔ x.1 = e ∧ e ≠ 0 := by
 unfold elR
 split
 ·rename_i h
  constructor
  ·intro h2; cases h2
  ·rintro ⟨h2, h3⟩; exact absurd (h2.symm.trans h) h3
 ·rename_i h
  constructor
  ·intro h2; injection h2 with h2; exact ⟨h2, h2 ▸ h⟩
  ·rintro ⟨h2, h3⟩; rw [h2]
section
variable {g : Nat → T → A8 T}
end
theorem Y3 {C : Type} {A : Tr C} {k : Int} {c : C} {ss : List Br} {s : Nat} {bs : List Br} (hs : s < ss.length) (hb : Bu A k (ss.take s) c = .ok bs) (hf : A.As c (ss.getD s C4).As = .ok none) : Bu A k (ss.take (s + 1)) c = .ok bs := by
 rw [Aj (d := C4) hs, Jw, hb]
 simp only [A8.bind]
 rw [hf]
theorem Y2 {C : Type} {A : Tr C} {t : T} {c : C} {e : Int} {p : Int × List Cl} (h : A.own c t.kind t.n t.name t.r = .ok (.inr p)) (hl : Ci A t.kind 0 t.kids c = .bad e) : Bh A t c = .bad e := by
 rw [D5, h]; simp only [A8.bind]; rw [hl]
section
variable {W : C2j}
theorem A0y : size t0 = 1 := by decide
end
section
variable {α : Type} {g : α → T → Int × T}
end
section
variable {P : Program} [Tab P] {f : FuncId} {R : Ending → World → Prop} {B : C0} {n : Fz} {K : List Item} {ops : Array Oper} {l : List Nat} {σ : Nat → Value} {Γ : List Fact} {Ms : List B3} {dst : Option Tmp} {ty : TypeId} {x : Operand}
end
end Go.Hy
namespace Go.Hy
open Go Go.ChangeShapes Go.WideShapes Go.RowKit Go.Shelf Go.Proofs
theorem V3 {C : Checked} {os : Os} {f : FuncId} {fn : Func} {s : ChangeSpec} {conds : List PathCond} {ts : List TypeId} {tb : TypeId} {H : Type} {enc : TypeId × Value → H} {L : List (String × DataW Unit)}
  (own : ownKnob C.prog.godebug = none) (started : os.Started) (noInit : C.prog.inits.idxOf? f = none) (hfn : C.prog.funcs[f]? = some fn)
  (witness : ∃ (w : World) (tape : Tape) (i : Input), w.os = os ∧ (w.forCall tape i).Shaped C.prog ∧ i.vars = [] ∧ Input.okWide C.prog (w.forCall tape i) .any w.heap.size f i ∧
   ((s.pre enc C.prog fn conds false (w.forCall tape i).memory i.args ∧ laidMetH C.prog L (w.forCall tape i).memory) ∧ sizedMet enc C.prog fn (OpenSpec.ofChange s) false (w.forCall tape i).memory i.args) ∧ Assume.holds {} C.prog (lone (Frame.enter C.prog f i.args .normal) [] (w.forCall tape i)))
  (laid : laidOutB C.prog = true) (hps : fn.params.toList = ts) (hread : ts.all (fun t => C.prog.readableRec t && decide (t < C.prog.types.size)) = true) (hres : fn.resultTypes = #[tb]) (hbool : C.prog.underlying tb = some .bool) (hvars : s.vars = [])
  (hsays : ∀ ds : List (DataW H), ds.length = ts.length → s.fn H ds = { results := [.lit (.bool true)], args := ds })
  (hcall : ∀ (W : World) (base : Nat) (args : Array Value) (ds : List (DataW H)) (p : List MemPlace), (∀ (j : Nat) t v, ts[j]? = some t → args[j]? = some v → Value.okWide C.prog W .any base t v) →
   DataW.TrodAll enc C.prog W 0 (fun _ => true) true ts args.toList ds p → (∀ x, x ∈ DataW.weightsEach C.prog ts ds → x ≤ reach) → laidMetH C.prog L W →
   Calls C.prog f args W fun e W' => e = .returned (.bool true) ∧ Below W.heap.size W W') :
  ReturnsInHanded {} C os f .any (fun w args => (s.pre enc C.prog fn conds false w args ∧ laidMetH C.prog L w) ∧ sizedMet enc C.prog fn (OpenSpec.ofChange s) false w args) (s.post enc C.prog fn false true false false) := by
 refine returnsInHanded_of_change_and (X := fun w _ => laidMetH C.prog L w) (fun _ _ _ hh h => h.of_heap hh) own started noInit hfn witness ?_
 intro W base args ds gs before hval hW hcnd hwt hL _
 have hW' := hW
 obtain ⟨p, q, hA, hV, rfl, hfz, hnd⟩ := hW
 rw [hvars] at hV
 obtain ⟨rfl, rfl⟩ := trodVars_none hV
 rw [hps] at hA hwt
 have hlen : ∀ {ts : List TypeId} {vs : List Value} {ds : List (DataW H)} {ps : List MemPlace}, DataW.TrodAll enc C.prog W 0 (fun _ => true) true ts vs ds ps → ds.length = ts.length := by
  intro ts
  induction ts with
  | nil => intro vs ds ps h; obtain ⟨_, rfl, _⟩ := trodAll_nil h; rfl
  | cons t ts ih =>
   intro vs ds ps h
   obtain ⟨v, vs1, d, ds1, a, b, rfl, rfl, rfl, _, h2⟩ := trodAll_cons h
   simp [ih h2]
 have hvt : s.plain.varTypes C.prog = [] := by
  have : s.plain.vars = [] := hvars
  unfold DataSpec.varTypes; rw [this]; rfl
 have hw2 : ∀ x, x ∈ DataW.weightsEach C.prog ts ds → x ≤ reach := by
  intro x hx
  rw [List.append_nil, hvt, List.append_nil] at hwt
  have := List.all_eq_true.mp hwt x hx
  exact of_decide_eq_true this
 refine (hcall W base args ds p (fun j t v ht hv => hval j t v (by rw [← Array.getElem?_toList, hps]; exact ht) hv) hA hw2 hL).mono ?_
 intro e W' ⟨he, hb⟩
 have hlt : ∀ x ∈ p, x.block < W.heap.size := fun x hx => hW'.lt x (by simpa using hx)
 refine ⟨.bool true, he, ds, [], p ++ [], [], p, [], hW', ?_, ?_, ?_, hb.frame _, fun h => by cases h⟩
 ·rw [List.append_nil, hsays ds (hlen hA), hres]
  exact ⟨[], [], ⟨1, by simp [DataW.trod, Value.cells, hbool]⟩, rfl, rfl⟩
 ·rw [List.append_nil, hsays ds (hlen hA), hps]
  refine Pu laid hb (fun t ht => ?_) hA hlt
  have := List.all_eq_true.mp hread t ht
  simpa using this
 ·rw [List.append_nil, hsays ds (hlen hA), hvars]
  rfl
theorem B6z {P : Program} {W : World} {nm : String} {t e : TypeId} {tab : List Nat} (hg : P.globalNamed nm = some 0) (ht : (P.globals[0]?).map (·.type) = some t) (hu : P.underlying t = some (.array tab.length e)) (he : P.underlying e = some (.int .u8)) (hc : P.cellsOf e = 1) (hc2 : P.cellsOf t = tab.length) (hpos : 0 < tab.length)
  (hp : ([(nm, (DataW.agg (tab.map fun (v : Nat) => .lit (.int .u8 (v : Int))) : DataW Unit))].all fun x => x.2.handleName?.isNone) = true) (h : laidMetH P [(nm, .agg (tab.map fun (v : Nat) => .lit (.int .u8 (v : Int))))] W) : TabAt 0 tab W ∧ 0 < W.heap.size := by
 rw [MakeChecks.laidMetH_plain _ _ _ hp] at h
 obtain ⟨ps, ⟨g0, t0, cs0, f0, p0, q0, hg0, ht0, hv0, hd0, _⟩, _⟩ := h
 obtain rfl := u_ hg hg0
 obtain rfl := u_ ht ht0
 obtain ⟨xs, m1, rfl, hx1, hlen, hn3, hel⟩ := DataW.trod_array hu hd0
 simp only [Prod.mk.injEq, DataW.agg.injEq] at hx1
 have hcell : ∀ j, j < tab.length → W.cell? ⟨0, j, none⟩ = some (.int .u8 (tab.getD j 0)) := by
  intro j hj
  have h1 := hel j hj
  rw [hc, Nat.mul_one, List.getElem?_eq_getElem A3] at h1
  obtain ⟨n, e1, e2, _⟩ := DataW.trod_int he h1
  have h2 := World.var?_cell hg0 hv0 j
  have h3 : cs0[j]? = some (.int .u8 n) := by
   have h4 := congrArg (fun l => l[0]?) e1
   simp only [List.getElem?_take, List.getElem?_drop, List.getElem?_cons_zero] at h4
   simpa using h4
  rw [h2, h3]
  have h5 : (tab.map fun (v : Nat) => (DataW.lit (.int .u8 (v : Int)) : DataW Unit))[j]? = (xs.map (·.1))[j]? := by rw [hx1.1]
  rw [List.getElem?_map, List.getElem?_map, List.getElem?_eq_getElem hj, List.getElem?_eq_getElem (show j < xs.length by omega)] at h5
  simp only [Option.map_some, Option.some.injEq] at h5
  rw [e2] at h5
  simp only [DataW.lit.injEq, Lit.int.injEq, true_and] at h5
  rw [List.getD_eq_getElem?_getD, List.getElem?_eq_getElem hj]
  simp [← h5]
 refine ⟨hcell, ?_⟩
 have h6 := hcell 0 hpos
 refine Nat.lt_of_not_le fun hz => ?_
 unfold World.cell? at h6
 rw [Array.getElem?_eq_none (show W.heap.size ≤ 0 from hz)] at h6
 simp at h6
theorem B7a {W : World} {tab : List Nat} (h : TabAt 0 tab W ∧ 0 < W.heap.size) : (At 0 0 (tab.map fun (v : Nat) => Value.int .u8 (v : Int))).f (Zf W) W := by
 refine ⟨h.2, fun j v hj => ?_⟩
 rw [List.getElem?_map] at hj
 cases hq : tab[j]? with
 | none => rw [hq] at hj; cases hj
 | some k =>
  rw [hq] at hj
  injection hj with hj
  subst hj
  have hlt : j < tab.length := by
   refine Nat.lt_of_not_le fun hn => ?_
   rw [List.getElem?_eq_none hn] at hq
   cases hq
  have h1 := h.1 j hlt
  rw [List.getD_eq_getElem?_getD, hq] at h1
  rw [Nat.zero_add]
  exact h1
end Go.Hy
namespace Go.Hy
abbrev Wd : Type := Nat → Prop
def Ii (c : Cl) (P N : Wd) : Prop := (∀ i, c.pos.testBit i = true → P i) ∧ ∀ i, c.neg.testBit i = true → N i
def sat (l : List Cl) (P N : Wd) : Prop := ∃ c, c ∈ l ∧ Ii c P N
def Fx (s : Nat) : Wd := fun i => s.testBit i = true
def Ni (P N : Wd) : Prop := ∀ i, ¬ (P i ∧ N i)
theorem B8r {a b : Nat} : a ||| b = a ↔ ∀ i, b.testBit i = true → a.testBit i = true := by
 constructor
 ·intro h i hi
  rw [← h, Nat.testBit_or, hi, Bool.or_true]
 ·intro h
  refine Nat.eq_of_testBit_eq fun i => ?_
  rw [Nat.testBit_or]
  cases hb : b.testBit i with
  | false => simp
  | true => rw [h i hb]; rfl
theorem Hc {a b : Cl} : below a b = true ↔ Ii b (Fx a.pos) (Fx a.neg) := by
 unfold below Ii Fx
 rw [Bool.and_eq_true, decide_eq_true_eq, decide_eq_true_eq, B8r, B8r]
theorem B4a {c : Cl} {P N P' N' : Wd} (hp : ∀ i, P i → P' i) (hn : ∀ i, N i → N' i) (h : Ii c P N) : Ii c P' N' := ⟨fun i hi => hp i (h.1 i hi), fun i hi => hn i (h.2 i hi)⟩
theorem B7l {l : List Cl} {P N P' N' : Wd} (hp : ∀ i, P i → P' i) (hn : ∀ i, N i → N' i) (h : sat l P N) : sat l P' N' := by
 obtain ⟨c, hc, h⟩ := h
 exact ⟨c, hc, B4a hp hn h⟩
theorem Tg (c : Cl) : Ii c (Fx c.pos) (Fx c.neg) := ⟨fun i h => h, fun i h => h⟩
theorem Rm {a b : Cl} {P N : Wd} (h : below a b = true) (hs : Ii a P N) : Ii b P N := by
 have h1 := Hc.mp h
 exact ⟨fun i hi => hs.1 i (h1.1 i hi), fun i hi => hs.2 i (h1.2 i hi)⟩
theorem B0k (c : Cl) : below c c = true := Hc.mpr (Tg c)
theorem Uw {a b c : Cl} (h : below a b = true) (h2 : below b c = true) : below a c = true := Hc.mpr (Rm h2 (Hc.mp h))
theorem B0m {a b : Cl} (h : below a b = true) (h2 : below b a = true) : a = b := by
 have h1 := Hc.mp h
 have h3 := Hc.mp h2
 unfold Ii Fx at h1 h3
 have e1 : a.pos = b.pos := Nat.eq_of_testBit_eq fun i => by
  cases ha : a.pos.testBit i with
  | true => exact (h3.1 i ha).symm
  | false => cases hb : b.pos.testBit i with
   | false => rfl
   | true => rw [h1.1 i hb] at ha; cases ha
 have e2 : a.neg = b.neg := Nat.eq_of_testBit_eq fun i => by
  cases ha : a.neg.testBit i with
  | true => exact (h3.2 i ha).symm
  | false => cases hb : b.neg.testBit i with
   | false => rfl
   | true => rw [h1.2 i hb] at ha; cases ha
 cases a; cases b; simp_all
theorem Ya {l : List Cl} {c : Cl} (h : Bx l c = true) : ∃ d, d ∈ l ∧ c ≠ d ∧ below c d = true := by
 unfold Bx at h
 obtain ⟨d, hd, h2⟩ := List.any_eq_true.mp h
 rw [Bool.and_eq_true] at h2
 exact ⟨d, hd, by simpa using h2.1, h2.2⟩
theorem Oa {l : List Cl} : ∀ (n : Nat) (c : Cl), c.pos + c.neg ≤ n → c ∈ l → ∃ d, d ∈ Cz l ∧ below c d = true
 | n, c, hn, hc => by
  cases h : Bx l c with
  | false => exact ⟨c, D8.mpr ⟨hc, h⟩, B0k c⟩
  | true =>
   obtain ⟨d, hd, hne, hb⟩ := Ya h
   have h1 : c.pos ||| d.pos = c.pos ∧ c.neg ||| d.neg = c.neg := by
    unfold below at hb
    rw [Bool.and_eq_true, decide_eq_true_eq, decide_eq_true_eq] at hb
    exact hb
   have h2 : d.pos ≤ c.pos := by have := Nat.right_le_or (n := c.pos) (m := d.pos); omega
   have h3 : d.neg ≤ c.neg := by have := Nat.right_le_or (n := c.neg) (m := d.neg); omega
   have h4 : d.pos + d.neg < c.pos + c.neg := by
    refine Nat.lt_of_le_of_ne A3 fun he => hne ?_
    have e1 : c.pos = d.pos := by omega
    have e2 : c.neg = d.neg := by omega
    cases c; cases d; simp_all
   obtain ⟨e, he, h5⟩ := Oa (d.pos + d.neg) d (Nat.le_refl _) hd
   exact ⟨e, he, Uw hb h5⟩
termination_by n c => c.pos + c.neg
theorem A1d {l : List Cl} {P N : Wd} : sat (Cz l) P N ↔ sat l P N := by
 constructor
 ·rintro ⟨c, hc, h⟩; exact ⟨c, (D8.mp hc).1, h⟩
 ·rintro ⟨c, hc, h⟩
  obtain ⟨d, hd, hb⟩ := Oa _ c (Nat.le_refl _) hc
  exact ⟨d, hd, Rm hb h⟩
theorem H0 {l : List Cl} {P N : Wd} (h : (B7 l).1 = 0) : sat (B7 l).2 P N ↔ sat l P N := by
 rcases Fj l with ⟨_, _, h2, _⟩ | h2 | h2
 ·rw [h2]; exact A1d
 ·rw [h2] at h; cases h
 ·rw [h2] at h; cases h
theorem A1j {l m : List Cl} (Q : Wd → Wd → Prop) (hl : ∀ c, c ∈ l → Q (Fx c.pos) (Fx c.neg)) (hm : ∀ c, c ∈ m → Q (Fx c.pos) (Fx c.neg)) (h : ∀ P N, Q P N → (sat l P N ↔ sat m P N)) : Cz l = Cz m := by
 have half : ∀ {l m : List Cl}, (∀ c, c ∈ l → Q (Fx c.pos) (Fx c.neg)) → (∀ c, c ∈ m → Q (Fx c.pos) (Fx c.neg)) → (∀ P N, Q P N → (sat l P N ↔ sat m P N)) → ∀ x, x ∈ Cz l → x ∈ Cz m := by
  intro l m hl hm h x hx
  obtain ⟨h1, h2⟩ := D8.mp hx
  have key : ∀ d, d ∈ m → below x d = true → x = d := by
   intro d hd hb
   obtain ⟨e, he, hse⟩ := (h _ _ (hm d hd)).mpr ⟨d, hd, Tg d⟩
   have hb2 : below d e = true := Hc.mpr hse
   rcases Gd.mp h2 e he with h3 | h3
   ·subst h3; exact B0m hb hb2
   ·rw [Uw hb hb2] at h3; cases h3
  obtain ⟨d, hd, hsd⟩ := (h _ _ (hl x h1)).mp ⟨x, h1, Tg x⟩
  have hxd := key d hd (Hc.mpr hsd)
  refine D8.mpr ⟨hxd ▸ hd, Gd.mpr fun e he => ?_⟩
  cases hb : below x e with
  | false => exact .inr rfl
  | true => exact .inl (key e he hb)
 exact Mh (Gt l) (Gt m) fun x => ⟨half hl hm h x, half hm hl (fun P N hq => (h P N hq).symm) x⟩
theorem A9h {l m : List Cl} (Q : Wd → Wd → Prop) (r1 : l.all Az = true) (r2 : m.all Az = true) (hl : ∀ c, c ∈ l → Q (Fx c.pos) (Fx c.neg)) (hm : ∀ c, c ∈ m → Q (Fx c.pos) (Fx c.neg)) (h : ∀ P N, Q P N → (sat l P N ↔ sat m P N)) : B7 l = B7 m := by
 unfold B7
 rw [r1, r2, A1j Q hl hm h]
theorem F4 {l : List Cl} (h : A5 l = true) : l.all Az = true := by
 unfold A5 at h
 simp only [Bool.and_eq_true] at h
 exact h.1.1.1
theorem C1j {l m : List Cl} (Q : Wd → Wd → Prop) (h1 : A5 l = true) (h2 : A5 m = true) (hl : ∀ c, c ∈ l → Q (Fx c.pos) (Fx c.neg)) (hm : ∀ c, c ∈ m → Q (Fx c.pos) (Fx c.neg)) (h : ∀ P N, Q P N → (sat l P N ↔ sat m P N)) : l = m := by
 have h3 := A9h Q (F4 h1) (F4 h2) hl hm h
 rw [I8.mp h1, I8.mp h2] at h3
 injection h3
theorem C0y {l m : List Cl} (h1 : A5 l = true) (h2 : A5 m = true) (h : ∀ P N, sat l P N ↔ sat m P N) : l = m := C1j (fun _ _ => True) h1 h2 (fun _ _ => trivial) (fun _ _ => trivial) fun P N _ => h P N
theorem U4 {c : Cl} : Hb c = false ↔ Ni (Fx c.pos) (Fx c.neg) := by
 unfold Hb Ni Fx
 rw [decide_eq_false_iff_not, Decidable.not_not]
 constructor
 ·rintro h i ⟨h1, h2⟩
  have h3 : (c.pos &&& c.neg).testBit i = true := by rw [Nat.testBit_and, h1, h2]; rfl
  rw [h, Nat.zero_testBit] at h3
  cases h3
 ·intro h
  refine Nat.eq_of_testBit_eq fun i => ?_
  rw [Nat.testBit_and, Nat.zero_testBit]
  cases h1 : c.pos.testBit i with
  | false => rfl
  | true => cases h2 : c.neg.testBit i with
   | false => rfl
   | true => exact absurd ⟨h1, h2⟩ (h i)
theorem Dn {l : List Cl} (h : A6 l = true) : A5 l = true ∧ ∀ c, c ∈ l → Hb c = false := by
 unfold A6 at h
 rw [Bool.and_eq_true, Bool.not_eq_true'] at h
 refine ⟨h.1, fun c hc => ?_⟩
 cases hq : Hb c with
 | false => rfl
 | true => rw [List.any_eq_true.mpr ⟨c, hc, hq⟩] at h; cases h.2
theorem U5 {l : List Cl} (h : A5 l = true) (h2 : ∀ c, c ∈ l → Hb c = false) : A6 l = true := by
 unfold A6
 rw [Bool.and_eq_true, Bool.not_eq_true', h]
 refine ⟨rfl, ?_⟩
 cases hq : l.any Hb with
 | false => rfl
 | true => obtain ⟨c, hc, h3⟩ := List.any_eq_true.mp hq; rw [h2 c hc] at h3; cases h3
theorem C1i {l m : List Cl} (h1 : A6 l = true) (h2 : A6 m = true) (h : ∀ P N, Ni P N → (sat l P N ↔ sat m P N)) : l = m :=
 C1j Ni (Dn h1).1 (Dn h2).1 (fun c hc => U4.mp ((Dn h1).2 c hc)) (fun c hc => U4.mp ((Dn h2).2 c hc)) h
section
variable {f g l : List Cl} {P N : Wd} {a b c : Cl}
theorem V6 : ¬ sat [] P N := by rintro ⟨c, hc, _⟩; cases hc
theorem Mk : sat (f ++ g) P N ↔ sat f P N ∨ sat g P N := by
 unfold sat
 simp only [List.mem_append]
 constructor
 ·rintro ⟨c, h | h, h2⟩
  ·exact .inl ⟨c, h, h2⟩
  ·exact .inr ⟨c, h, h2⟩
 ·rintro (⟨c, h, h2⟩ | ⟨c, h, h2⟩)
  ·exact ⟨c, .inl h, h2⟩
  ·exact ⟨c, .inr h, h2⟩
theorem Qg : sat [c] P N ↔ Ii c P N := by
 unfold sat
 constructor
 ·rintro ⟨d, hd, h⟩; rw [List.mem_singleton] at hd; subst hd; exact h
 ·intro h; exact ⟨c, List.mem_singleton.mpr rfl, h⟩
theorem B7n : Ii Bz P N := ⟨fun i hi => by simp [Bz] at hi, fun i hi => by simp [Bz] at hi⟩
theorem B1e : sat [Bz] P N := Qg.mpr B7n
theorem Z2 : Ii (Dh a b) P N ↔ Ii a P N ∧ Ii b P N := by
 unfold Ii Dh
 simp only [Nat.testBit_or, Bool.or_eq_true]
 constructor
 ·rintro ⟨h1, h2⟩; exact ⟨⟨fun i hi => h1 i (.inl hi), fun i hi => h2 i (.inl hi)⟩, fun i hi => h1 i (.inr hi), fun i hi => h2 i (.inr hi)⟩
 ·rintro ⟨h1, h2⟩; exact ⟨fun i hi => hi.elim (h1.1 i) (h2.1 i), fun i hi => hi.elim (h1.2 i) (h2.2 i)⟩
theorem Td : sat (J0 f g) P N ↔ sat f P N ∧ sat g P N := by
 unfold sat J0
 simp only [List.mem_flatMap, List.mem_map]
 constructor
 ·rintro ⟨c, ⟨a, ha, b, hb, rfl⟩, h⟩
  have h2 := Z2.mp h
  exact ⟨⟨a, ha, h2.1⟩, b, hb, h2.2⟩
 ·rintro ⟨⟨a, ha, h1⟩, b, hb, h2⟩
  exact ⟨_, ⟨a, ha, b, hb, rfl⟩, Z2.mpr ⟨h1, h2⟩⟩
theorem A3r (hw : Ni P N) : sat (Dv l) P N ↔ sat l P N := by
 unfold sat Dv
 constructor
 ·rintro ⟨c, hc, h⟩; exact ⟨c, (List.mem_filter.mp hc).1, h⟩
 ·rintro ⟨c, hc, h⟩
  refine ⟨c, List.mem_filter.mpr ⟨hc, ?_⟩, h⟩
  rw [Bool.not_eq_true', U4]
  rintro i ⟨h1, h2⟩
  exact hw i ⟨h.1 i h1, h.2 i h2⟩
end
theorem M3 {i : Int} {j : Nat} : (Ec i).testBit j = true ↔ (0 ≤ i ∧ i < 24) ∧ (j : Int) = i := by
 unfold Ec
 split
 ·rename_i h
  rw [Nat.testBit_two_pow, decide_eq_true_eq]
  omega
 ·rename_i h
  rw [Nat.zero_testBit]
  constructor
  ·intro h2; cases h2
  ·rintro ⟨h2, _⟩; exact absurd h2 h
theorem Hm {c : Cl} (h : Az c = true) : (∀ i, c.pos.testBit i = true → i < 24) ∧ ∀ i, c.neg.testBit i = true → i < 24 := by
 obtain ⟨h1, h2⟩ := F7.mp h
 have key : ∀ s i : Nat, s < 16777216 → s.testBit i = true → i < 24 := fun s i hs hi => by
  refine Decidable.byContradiction fun hn => ?_
  have h3 : s < 2 ^ i := Nat.lt_of_lt_of_le (show s < 2 ^ 24 by omega) (Nat.pow_le_pow_right A3 A3)
  rw [Nat.testBit_lt_two_pow h3] at hi
  cases hi
 exact ⟨fun i hi => key _ i h1 hi, fun i hi => key _ i h2 hi⟩
theorem Db {s : Nat} {x : Int} : x ∈ Aq s ↔ 0 ≤ x ∧ x < 24 ∧ s.testBit x.toNat = true := Dx
theorem C3d {c : Cl} {P N : Wd} (hc : Az c = true) : sat (A4g c) P N ↔ (∃ i, c.pos.testBit i = true ∧ N i) ∨ ∃ i, c.neg.testBit i = true ∧ P i := by
 obtain ⟨b1, b2⟩ := Hm hc
 unfold A4g
 rw [Mk]
 have one : ∀ (s : Nat) (hs : ∀ i, s.testBit i = true → i < 24) (mk : Nat → Cl) (Q : Wd) (hq : ∀ x : Int, 0 ≤ x → x < 24 → (Ii (mk (Ec x)) P N ↔ Q x.toNat)), sat ((Aq s).map fun i => mk (Ec i)) P N ↔ ∃ i, s.testBit i = true ∧ Q i := by
  intro s hs mk Q hq
  unfold sat
  simp only [List.mem_map]
  constructor
  ·rintro ⟨_, ⟨x, hx, rfl⟩, h⟩
   obtain ⟨x0, x1, x2⟩ := Db.mp hx
   exact ⟨x.toNat, x2, (hq x x0 x1).mp h⟩
  ·rintro ⟨i, hi, h⟩
   have h3 := hs i hi
   exact ⟨_, ⟨(i : Int), Db.mpr ⟨by omega, by omega, by simpa using hi⟩, rfl⟩, (hq (i : Int) A3 A3).mpr (by simpa using h)⟩
 have e1 := one c.pos b1 (fun s => ⟨0, s⟩) N (fun x x0 x1 => by
  unfold Ii
  simp only [Nat.zero_testBit, M3]
  constructor
  ·intro h; exact h.2 x.toNat ⟨⟨x0, x1⟩, by omega⟩
  ·intro h; exact ⟨fun i hi => (by cases hi), fun i hi => (show i = x.toNat by omega) ▸ h⟩)
 have e2 := one c.neg b2 (fun s => ⟨s, 0⟩) P (fun x x0 x1 => by
  unfold Ii
  simp only [Nat.zero_testBit, M3]
  constructor
  ·intro h; exact h.1 x.toNat ⟨⟨x0, x1⟩, by omega⟩
  ·intro h; exact ⟨fun i hi => (show i = x.toNat by omega) ▸ h, fun i hi => (by cases hi)⟩)
 exact or_congr e1 e2
theorem P9 {g : List Cl → Cl → EL} {L : List Cl} {I : List Cl → List Cl → Prop} (hs : ∀ pre c h, c ∈ L → I pre h → (g h c).1 = 0 → I (pre ++ [c]) (g h c).2) : ∀ (m pre h : List Cl), I pre h → (∀ c, c ∈ m → c ∈ L) → (Ck g h m).1 = 0 → I (pre ++ m) (Ck g h m).2
 | [], pre, h, hi, _, _ => by rw [List.append_nil]; exact hi
 | c :: m, pre, h, hi, hm, h0 => by
  rw [Ck] at h0 ⊢
  by_cases h1 : (g h c).1 = 0
  ·rw [C5 h1] at h0 ⊢
   have h2 := P9 hs m (pre ++ [c]) _ (hs pre c h (hm c List.mem_cons_self) hi h1) (fun d hd => hm d (List.mem_cons_of_mem _ hd)) h0
   rwa [List.append_assoc] at h2
  ·rw [Bi h1] at h0
   exact absurd h0 h1
theorem Fl {x : EL} {k : List Cl → EL} (h : (J1 x k).1 = 0) : x.1 = 0 ∧ (k x.2).1 = 0 ∧ J1 x k = k x.2 := by
 by_cases h1 : x.1 = 0
 ·rw [C5 h1] at h ⊢; exact ⟨h1, h, rfl⟩
 ·rw [Bi h1] at h; exact absurd h h1
def Q6 (P : Wd) : Wd := fun i => ¬ P i
theorem B1f {f : List Cl} {P N : Wd} (hf : ∀ c, c ∈ f → Az c = true) (h : (Tn f).1 = 0) : sat (Tn f).2 P N ↔ ¬ sat f (Q6 N) (Q6 P) := by
 have h2 := P9 (g := D9) (L := f) (I := fun pre h => ∀ P N, sat h P N ↔ ∀ c, c ∈ pre → ¬ Ii c (Q6 N) (Q6 P)) (fun pre c h hc hi h0 P N => by
  unfold D9 at h0 ⊢
  obtain ⟨a1, a2, a3⟩ := Fl h0
  rw [a3]
  unfold Kr at a2 ⊢
  rw [H0 a2, Td, hi]
  unfold A1n at a1 ⊢
  rw [H0 a1, C3d (hf c hc)]
  simp only [List.mem_append, List.mem_singleton, or_imp, forall_and, forall_eq]
  refine and_congr Iff.rfl ?_
  unfold Ii Q6
  constructor
  ·rintro (⟨i, hi, hn⟩ | ⟨i, hi, hn⟩) ⟨h1, h2⟩
   ·exact h1 i hi hn
   ·exact h2 i hi hn
  ·intro h1
   refine Classical.byContradiction fun h2 => h1 ⟨fun i hi hn => h2 (.inl ⟨i, hi, hn⟩), fun i hi hn => h2 (.inr ⟨i, hi, hn⟩)⟩) f [] [Bz] (fun P N => ⟨fun _ c hc => (by cases hc), fun _ => B1e⟩) (fun c hc => hc) h P N
 rw [List.nil_append] at h2
 unfold Tn
 rw [h2]
 unfold sat
 constructor
 ·rintro h3 ⟨c, hc, h4⟩; exact h3 c hc h4
 ·intro h3 c hc h4; exact h3 ⟨c, hc, h4⟩
theorem B7k {r : List Cl} {P N : Wd} (hw : Ni P N) (h : (Wf r).1 = 0) : sat (Wf r).2 P N ↔ sat r P N := by
 unfold Wf at h ⊢
 split at h
 ·rename_i h1
  rw [if_pos h1, H0 h, A3r hw]
 ·cases h
theorem A7v {r : List Cl} {P N : Wd} (hw : Ni P N) (h : (Fg r).1 = 0) : sat (Fg r).2 P N ↔ ¬ sat r (Q6 N) (Q6 P) := by
 unfold Fg at h ⊢
 obtain ⟨a1, a2, a3⟩ := Fl h
 rw [a3, B7k hw a2]
 unfold Lu at a1 ⊢
 split at a1
 ·rename_i h1
  rw [if_pos h1, B1f (fun c hc => List.all_eq_true.mp (F4 h1) c hc) a1]
 ·cases a1
def Ke (P : Wd) (f b : Int) : Wd := fun j => if (j : Int) < f then P j else P (j + b.toNat)
theorem Z3 {c : Cl} {f b : Int} {P N : Wd} (h : (An c f b).1 = 0) : Ii (An c f b).2 P N ↔ Ii c (Ke P f b) (Ke N f b) := by
 obtain ⟨hr, h1, h2, h3⟩ := F5 h
 obtain ⟨b1, b2⟩ := Hm hr
 obtain ⟨f0, b0, _⟩ := E6 h1 0
 rw [h3]
 have key : ∀ (s : Nat) (hs : ∀ i, s.testBit i = true → i < 24) (hm : (Aa s f b).1 = 0) (Q : Wd), (∀ i, (Aa s f b).2.testBit i = true → Q i) ↔ ∀ i, s.testBit i = true → Ke Q f b i := by
  intro s hs hm Q
  constructor
  ·intro h i hi
   unfold Ke
   split
   ·rename_i h4; exact h i ((C8 hm i).mpr ⟨i, hs i hi, hi, .inl ⟨h4, rfl⟩⟩)
   ·rename_i h4; exact h _ ((C8 hm _).mpr ⟨i, hs i hi, hi, .inr ⟨by omega, by omega⟩⟩)
  ·intro h i hi
   obtain ⟨j, _, hj, h4⟩ := (C8 hm i).mp hi
   have h5 := h j hj
   unfold Ke at h5
   rcases h4 with ⟨h4, h6⟩ | ⟨h4, h6⟩
   ·rw [if_pos h4] at h5; rw [h6]; exact h5
   ·rw [if_neg A3] at h5; rw [show i = j + b.toNat by omega]; exact h5
 unfold Ii
 exact and_congr (key _ b1 h1 P) (key _ b2 h2 N)
theorem B7m {l : List Cl} {f b : Int} {P N : Wd} (h : (Ad l f b).1 = 0) : sat (Ad l f b).2 P N ↔ sat l (Ke P f b) (Ke N f b) := by
 obtain ⟨_, h2, h3⟩ := Eb h
 rw [h3] at h ⊢
 rw [H0 h]
 unfold sat
 simp only [List.mem_map]
 constructor
 ·rintro ⟨_, ⟨c, hc, rfl⟩, hs⟩; exact ⟨c, hc, (Z3 (h2 c hc)).mp hs⟩
 ·rintro ⟨c, hc, hs⟩; exact ⟨_, ⟨c, hc, rfl⟩, (Z3 (h2 c hc)).mpr hs⟩
theorem D3a (l : List Cl) : (Cz l).length ≤ l.length := by
 have := A3t l l.length
 rwa [B7t] at this
theorem A5o {l : List Cl} (h : l.all Az = true) (h2 : l.length ≤ 64) : (B7 l).1 = 0 := by
 unfold B7
 rw [if_neg (by simp [h]), if_neg (by have := D3a l; omega)]
theorem Tf {f : List Cl} {P N P' N' : Wd} (hf : ∀ c, c ∈ f → Az c = true) (h1 : ∀ j, j < 24 → (P j ↔ P' j)) (h2 : ∀ j, j < 24 → (N j ↔ N' j)) : sat f P N ↔ sat f P' N' := by
 unfold sat Ii
 refine exists_congr fun c => and_congr_right fun hc => ?_
 obtain ⟨b1, b2⟩ := Hm (hf c hc)
 exact and_congr (forall_congr' fun i => ⟨fun h hi => (h1 i (b1 i hi)).mp (h hi), fun h hi => (h1 i (b1 i hi)).mpr (h hi)⟩) (forall_congr' fun i => ⟨fun h hi => (h2 i (b2 i hi)).mp (h hi), fun h hi => (h2 i (b2 i hi)).mpr (h hi)⟩)
def uE : T := .mk 3 0 ⟨#[]⟩ [] [] []
def aE (t u : T) : T := .mk 6 0 ⟨#[]⟩ [] [t, u] []
def lE (t : T) : T := .mk 5 0 ⟨#[]⟩ [] [t] []
mutual
def To : T → Bool
 | .mk _ _ _ _ ks ss => I2 ks || Tp ss
def I2 : List T → Bool
 | [] => false
 | t :: ts => To t || I2 ts
def Tp : List Br → Bool
 | [] => false
 | .mk f ks :: bs => (decide (f = []) || I2 ks) || Tp bs
end
section
variable {CA CB CC : Type} {A : Tr CA} {B : Tr CB} {D : Tr CC} (R : CA → CB → CC → Prop)
variable {R}
end
theorem A1h {a b : Cl} (h : Az a = true) (h2 : Az b = true) : Az (Dh a b) = true := by
 obtain ⟨a1, a2⟩ := F7.mp h
 obtain ⟨b1, b2⟩ := F7.mp h2
 exact F7.mpr ⟨Nat.or_lt_two_pow (n := 24) a1 b1, Nat.or_lt_two_pow (n := 24) a2 b2⟩
theorem A0j {f g : List Cl} (h : f.all Az = true) (h2 : g.all Az = true) : (J0 f g).all Az = true := List.all_eq_true.mpr fun c hc => by
 obtain ⟨a, ha, hc⟩ := List.mem_flatMap.mp hc
 obtain ⟨b, hb, rfl⟩ := List.mem_map.mp hc
 exact A1h (List.all_eq_true.mp h a ha) (List.all_eq_true.mp h2 b hb)
theorem A8w {f : List Cl} (h : (Tn f).1 = 0) : A5 (Tn f).2 = true :=
 P9 (g := D9) (L := f) (I := fun pre h => A5 h = true) (fun pre c h hc hi h0 => by
  unfold D9 at h0 ⊢
  obtain ⟨a1, a2, a3⟩ := Fl h0
  rw [a3]
  exact I5 a2) f [] [Bz] Iu (fun c hc => hc) h
theorem A9r {c : Cl} (h : Az c = true) : A5 [c] = true := by
 unfold A5
 simp [h, J6, apart]
theorem Zm {i : Int} (h : 0 ≤ i ∧ i < 24) : Aq (Ec i) = [i] := by
 refine Jy (L5 _ _) (List.pairwise_singleton _ _) fun x => ?_
 rw [Db, List.mem_singleton]
 constructor
 ·rintro ⟨h1, h2, h3⟩
  have := (M3.mp h3).2
  omega
 ·rintro rfl
  exact ⟨h.1, h.2, M3.mpr ⟨h, by omega⟩⟩
def N1 (i : Int) : Cl := ⟨Ec i, 0⟩
theorem Kn (i : Int) : Az (N1 i) = true := F7.mpr ⟨Kw i, by show (0 : Nat) < _; omega⟩
theorem B9w {i d : Int} (hi : 0 ≤ i) (hd : 0 ≤ d) (h : i + d < 24) : Ad [N1 i] 0 d = (0, [N1 (i + d)]) := by
 have h1 : Aa (Ec i) 0 d = (0, Ec (i + d)) := by
  rw [Ts A3 hd (fun x hx => by rw [Zm ⟨hi, by omega⟩, List.mem_singleton] at hx; right; omega), Zm ⟨hi, by omega⟩]
  unfold Ec
  rw [if_pos ⟨by omega, h⟩]
  simp [Vu, shI, if_neg (show ¬ i < 0 by omega)]
 have h0 : Aa 0 0 d = (0, 0) := by
  rw [Ts A3 hd (fun x hx => by rw [show Aq 0 = [] from by decide] at hx; cases hx), show Aq 0 = [] by decide]
  rfl
 have h2 : An (N1 i) 0 d = (0, N1 (i + d)) := by
  unfold An
  rw [if_neg (by rw [Kn]; simp), show (N1 i).pos = Ec i from rfl, show (N1 i).neg = 0 from rfl, h1, h0]
  simp [N1]
 have h3 : E1 (fun c => An c 0 d) [N1 i] = (0, [N1 (i + d)]) := by
  rw [X5 (fun j hj => by have : j = 0 := (by simpa using hj); subst this; rw [show ([N1 i] : List Cl).getD 0 Bz = N1 i from rfl, h2]), List.map_cons, List.map_nil, h2]
 unfold Ad
 rw [if_neg (by rw [A9r (Kn i)]; simp), h3, if_neg D2]
 exact I8.mp (A9r (Kn _))
theorem C3e {i : Int} {P N : Wd} (h : 0 ≤ i ∧ i < 24) : sat [N1 i] P N ↔ P i.toNat := by
 rw [Qg]
 unfold Ii N1
 simp only [M3, Nat.zero_testBit]
 constructor
 ·intro h1; exact h1.1 i.toNat ⟨h, by omega⟩
 ·intro h1; exact ⟨fun j hj => (show i.toNat = j by omega) ▸ h1, fun j hj => (by cases hj)⟩
theorem Qm {k n : Int} {nm : ByteArray} {r : List Cl} (h : It k n nm r) : (k = 14 → A6 r = true) ∧ A5 r = true := by
 obtain ⟨_, _, h3, h4, h5, h6, h7⟩ := h
 refine ⟨h6, ?_⟩
 by_cases e : k = 13 ∨ k = 21 ∨ k = 26
 ·exact h5 e
 ·by_cases e2 : k = 14
  ·exact (Dn (h6 e2)).1
  ·rw [h7 A3]; decide
theorem C0a {l : List Cl} (h : l ≠ []) (h0 : (B7 l).1 = 0) : (B7 l).2 ≠ [] := by
 rcases Fj l with ⟨_, _, h2, _⟩ | h2 | h2
 ·rw [h2]
  cases l with
  | nil => exact absurd rfl h
  | cons c l =>
   obtain ⟨d, hd, _⟩ := Oa _ c (Nat.le_refl _) (List.mem_cons_self (a := c) (l := l))
   intro e
   rw [e] at hd
   cases hd
 ·rw [h2] at h0; cases h0
 ·rw [h2] at h0; cases h0
theorem A8a {b f : Int} {l g : List Cl} (h : Ah b l f = .ok g) (hl : l ≠ []) : g ≠ [] := by
 unfold Ah at h
 split at h
 ·injection h with h; subst h; exact hl
 ·split at h
  ·rename_i h1
   injection h with h
   subst h
   obtain ⟨_, _, h3⟩ := Eb h1
   rw [h3] at h1 ⊢
   exact C0a (by simpa using hl) h1
  ·cases h
theorem C3v (i : Int) : Qk (Xe i) := by
 unfold Xe
 split
 ·exact Z4 ⟨by have := Kw i; show Ec i < _; omega, by show (0 : Nat) < _; omega⟩
 ·exact Cp
theorem B7i (N : Wd) (f b : Int) : Ke (Q6 N) f b = Q6 (Ke N f b) := by
 funext j
 unfold Ke Q6
 by_cases h : (j : Int) < f
 ·simp only [if_pos h]
 ·simp only [if_neg h]
theorem C1v {P N : Wd} {f b : Int} (h : Ni P N) : Ni (Ke P f b) (Ke N f b) := fun j hj => by
 unfold Ke at hj
 split at hj
 ·exact h _ hj
 ·exact h _ hj
theorem Nx {f g : List Cl} {k b : Int} {P N : Wd} (hf : A5 f = true) (h : Ah b f k = .ok g) : sat g P N ↔ sat f (Ke P k b) (Ke N k b) := by
 unfold Ah at h
 split at h
 ·rename_i h1
  injection h with h
  subst h
  refine Tf (fun c hc => List.all_eq_true.mp (F4 hf) c hc) (fun j hj => ?_) (fun j hj => ?_)
  ·unfold Ke
   rcases h1 with h1 | h1
   ·subst h1; split <;> exact Iff.rfl
   ·rw [if_pos A3]
  ·unfold Ke
   rcases h1 with h1 | h1
   ·subst h1; split <;> exact Iff.rfl
   ·rw [if_pos A3]
 ·split at h
  ·rename_i h1 h2
   injection h with h
   subst h
   exact B7m h2
  ·cases h
theorem B1d {P : Wd} {k b : Int} (hk : 0 ≤ k) (hb : 0 ≤ b) : Ke (Ke P k b) 0 k = Ke P 0 (b + k) := by
 funext j
 unfold Ke
 rw [if_neg A3, if_neg A3, if_neg A3]
 congr 1
 omega
theorem S3 {v b k n : Int} {nm : ByteArray} {c : Int × Int} {r : List Cl} {p : Int × List Cl} (h : (Av v b).own c k n nm r = .ok (.inr p)) : p.1 = Cr v c.1 k n ∧ Ah b r c.2 = .ok p.2 := by
 rw [En] at h
 obtain ⟨g, hg, h2⟩ := A8.A0 (x := Ah b r c.2) h
 split at h2
 ·cases h2
 ·injection h2 with h2
  injection h2 with h2
  subst h2
  exact ⟨rfl, hg⟩
theorem O7 {v b : Int} {c : Int × Int} {f : List Cl} {o : Option (List Cl)} (h : (Av v b).As c f = .ok o) : ∃ g, o = some g ∧ Ah b f c.2 = .ok g := by
 rw [G0] at h
 obtain ⟨g, hg, h2⟩ := A8.A0 (x := Ah b f c.2) h
 injection h2 with h2
 exact ⟨g, h2.symm, hg⟩
theorem B5f {f g : List Cl} (h : (Io f g).1 = 0) : (Io f g).2.length ≤ 64 ∧ A6 (Io f g).2 = true := by
 unfold Io at h ⊢
 split at h
 ·cases h
 ·rename_i h1
  rw [if_neg h1]
  simp only [Bool.not_eq_false, Bool.and_eq_true] at h1
  unfold Ho at h ⊢
  have hr := I5 h
  refine ⟨H6 hr, U5 hr fun c hc => ?_⟩
  rcases List.mem_append.mp (K6 h hc) with hc | hc
  ·exact (Dn h1.1).2 c hc
  ·exact (Dn h1.2).2 c hc
section
variable {C : Type} {A : Tr C}
end
def A8g (l : List Cl) : List Cl := l.filter fun c => !A8f c
theorem Z7 {l : List Cl} (h : l.all Az = true) : A8g l = Dv l := by
 unfold A8g Dv
 refine List.filter_congr fun c hc => ?_
 rw [B4c (List.all_eq_true.mp h c hc)]
def Nc (f g : List Cl) : EL := if (A5 f && A5 g) = false then (2, []) else Kr f g
def Nd (f g : List Cl) : EL := if (A5 f && A5 g) = false then (2, []) else Ho f g
def F1 (f g : List Cl) : EL := if (A6 f && A6 g) = false then (2, []) else B7 (A8g (J0 f g))
theorem A4o {r : List Cl} (h : (Wf r).1 = 0) : A6 (Wf r).2 = true := by
 unfold Wf at h ⊢
 split at h
 ·rename_i h1
  rw [if_pos h1]
  exact U5 (I5 h) fun c hc => by
   have := K6 h hc
   have := (List.mem_filter.mp this).2
   simpa using this
 ·cases h
theorem A4n {r : List Cl} (h : (Fg r).1 = 0) : A6 (Fg r).2 = true := by
 unfold Fg at h ⊢
 obtain ⟨a1, a2, a3⟩ := Fl h
 rw [a3]
 exact A4o a2
theorem B0f {f g : List Cl} : Dv (J0 f g) = f.flatMap fun a => Dv (g.map fun b => Dh a b) := by
 unfold Dv J0
 rw [List.filter_flatMap]
theorem L3 {f g : List Cl} (h : A6 f = true) (h2 : A6 g = true) : F1 f g = Lv f g := by
 unfold F1 Lv
 rw [if_neg (by simp [h, h2]), Z7 (A0j (F4 (Dn h).1) (F4 (Dn h2).1)), B0f]
theorem A9c {f g : List Cl} (h : (Lv f g).1 = 0) : A6 (Lv f g).2 = true := by
 unfold Lv at h ⊢
 exact U5 (I5 h) fun c hc => by
  obtain ⟨a, _, h2⟩ := List.mem_flatMap.mp (K6 h hc)
  have := (List.mem_filter.mp h2).2
  simpa using this
theorem A9j {f g : List Cl} (h : A6 f = true) (h2 : A6 g = true) : Io f g = Ho f g := by unfold Io; rw [if_neg (by simp [h, h2])]
def Nn (k : Int) (r : List Cl) (ks : List T) : T := .mk k 0 ⟨#[]⟩ r ks []
abbrev kd (t : T) (i : Nat) : T := t.kids.getD i t0
abbrev Ev := List T × List (List Cl)
def ofE (p neg : Bool) (f : List Cl) : EL := if p = true then (if neg = true then Fg f else Wf f) else if neg = true then Lu f else (0, f)
def Jb (p : Bool) (g h : List Cl) : EL := if p = true then F1 g h else Nc g h
def Tu (p : Bool) (g h : List Cl) : EL := if p = true then Io g h else Nd g h
def Cx (p neg : Bool) (D : List (List Cl)) : List Int → List Cl → EL
 | [], g => (0, g)
 | i :: l, g => J1 (ofE p neg (D.getD i.toNat [])) fun h => J1 (Jb p g h) fun g => Cx p neg D l g
def Sp (p : Bool) (D : List (List Cl)) (c : Cl) : EL := J1 (Cx p false D (Aq c.pos) [Bz]) fun g => Cx p true D (Aq c.neg) g
def Ey (p : Bool) (D : List (List Cl)) (h : List Cl) (c : Cl) : EL := J1 (Sp p D c) fun g => Tu p h g
def El (p : Bool) (D : List (List Cl)) (f : List Cl) : EL := Ck (Ey p D) [] f
theorem V8 {p neg : Bool} {D : List (List Cl)} : ∀ {l m : List Int} {g g' : List Cl}, Cx p neg D l g = (0, g') → Cx p neg D (l ++ m) g = Cx p neg D m g'
 | [], m, g, g', h => by
  rw [Cx, Prod.mk.injEq] at h
  rw [List.nil_append, h.2]
 | i :: l, m, g, g', h => by
  rw [Cx] at h
  rw [List.cons_append, Cx]
  by_cases h1 : (ofE p neg (D.getD i.toNat [])).1 = 0
  ·rw [C5 h1] at h ⊢
   by_cases h2 : (Jb p g (ofE p neg (D.getD i.toNat [])).2).1 = 0
   ·rw [C5 h2] at h ⊢
    exact V8 h
   ·rw [Bi h2, Prod.mk.injEq] at h
    exact absurd h.1 h2
  ·rw [Bi h1, Prod.mk.injEq] at h
   exact absurd h.1 h1
theorem C4e {p neg : Bool} {D : List (List Cl)} {l : List Int} {g g' : List Cl} {k : Nat} (hk : k < l.length) (h : Cx p neg D (l.take k) g = (0, g')) (h1 : (ofE p neg (D.getD (l.getD k 0).toNat [])).1 = 0) (h2 : (Jb p g' (ofE p neg (D.getD (l.getD k 0).toNat [])).2).1 = 0) :
  Cx p neg D (l.take (k + 1)) g = (0, (Jb p g' (ofE p neg (D.getD (l.getD k 0).toNat [])).2).2) := by
 rw [Aj (d := 0) hk, V8 h, Cx, C5 h1, C5 h2, Cx]
theorem B4y {p neg : Bool} {D : List (List Cl)} {l : List Int} {g g' : List Cl} {k : Nat} (hk : k < l.length) (h : Cx p neg D (l.take k) g = (0, g')) (h1 : (ofE p neg (D.getD (l.getD k 0).toNat [])).1 ≠ 0) : Cx p neg D l g = ((ofE p neg (D.getD (l.getD k 0).toNat [])).1, []) := by
 have e2 : l = l.take k ++ l.getD k 0 :: l.drop (k + 1) := by rw [Cq (d := 0) hk, List.getElem_cons_drop, List.take_append_drop]
 rw [e2, V8 h, ← e2, Cx, Bi h1]
theorem B4x {p neg : Bool} {D : List (List Cl)} {l : List Int} {g g' : List Cl} {k : Nat} (hk : k < l.length) (h : Cx p neg D (l.take k) g = (0, g')) (h1 : (ofE p neg (D.getD (l.getD k 0).toNat [])).1 = 0) (h2 : (Jb p g' (ofE p neg (D.getD (l.getD k 0).toNat [])).2).1 ≠ 0) : Cx p neg D l g = ((Jb p g' (ofE p neg (D.getD (l.getD k 0).toNat [])).2).1, []) := by
 have e2 : l = l.take k ++ l.getD k 0 :: l.drop (k + 1) := by rw [Cq (d := 0) hk, List.getElem_cons_drop, List.take_append_drop]
 rw [e2, V8 h, ← e2, Cx, C5 h1, Bi h2]
theorem S2 {p neg : Bool} {D : List (List Cl)} {l : List Int} {g g' : List Cl} {k : Nat} (hk : k = l.length) (h : Cx p neg D (l.take k) g = (0, g')) : Cx p neg D l g = (0, g') := by
 rw [hk, List.take_length] at h
 exact h
def Fh {α β : Type} (g : α → Int × β) : List α → Int × List β
 | [] => (0, [])
 | a :: l => if (g a).1 ≠ 0 then ((g a).1, []) else if (Fh g l).1 ≠ 0 then ((Fh g l).1, []) else (0, (g a).2 :: (Fh g l).2)
theorem B2e {α β : Type} {g : α → Int × β} : ∀ {l : List α}, (∀ a, a ∈ l → (g a).1 = 0) → Fh g l = (0, l.map fun a => (g a).2)
 | [], _ => rfl
 | a :: l, h => by
  have h0 := h a List.mem_cons_self
  have ih := B2e (g := g) (l := l) fun b hb => h b (List.mem_cons_of_mem _ hb)
  rw [Fh, if_neg (by simp [h0]), ih, if_neg D2]
  rfl
theorem A5h {α β : Type} {g : α → Int × β} {d : α} : ∀ {l : List α} {i : Nat}, i < l.length → (∀ j, j < i → (g (l.getD j d)).1 = 0) → (g (l.getD i d)).1 ≠ 0 → Fh g l = ((g (l.getD i d)).1, [])
 | [], i, h, _, _ => absurd h D2
 | a :: l, 0, h, _, h2 => by
  rw [List.getD_cons_zero] at h2 ⊢
  rw [Fh, if_pos h2]
 | a :: l, i + 1, h, h1, h2 => by
  have h0 := h1 0 A3
  rw [List.getD_cons_zero] at h0
  rw [List.getD_cons_succ] at h2 ⊢
  have ih := A5h (g := g) (d := d) (l := l) (i := i) (by simpa using h) (fun j hj => by have := h1 (j + 1) A3; rwa [List.getD_cons_succ] at this) h2
  rw [Fh, if_neg (by simp [h0]), ih, if_pos h2]
def Y5 {α : Type} (x : Int × α) : A8 α := if x.1 = 0 then .ok x.2 else .bad x.1
def Vf (e : Ev) : A8 Ev := (Y5 (Fh (fun t => Bk t 0 1) e.1)).bind fun l => .ok (.mk 1 0 ⟨#[]⟩ [] [] [] :: l, e.2)
def Sm (e : Ev) : A8 Ev := (Y5 (Fh (fun f => Ad f 0 1) e.2)).bind fun D => (Y5 (Fh (fun t => Bl t 0 1) e.1)).bind fun l => .ok (l, [⟨1, 0⟩] :: D)
def Kf (e : Ev) (b : Int × Int) : A8 Ev := if b.1 = 1 then Vf e else if b.2 = 1 then Sm e else .ok e
def Bd : Tr Ev where
 own e k n nm r := if k = 1 then .ok (.inl (e.1.getD n.toNat t0)) else (elR (El (decide (k = 14)) e.2 r)).bind fun g => .ok (.inr (0, g))
 As e f := (elR (El true e.2 f)).bind fun g => .ok (if g.length = 0 then none else some g)
 Gq e b := Kf e b
def E2 (e : Ev) : Bool := decide (e.1.length ≤ 200) && decide (e.2.length ≤ 24)
def D1 (e : Ev) : Bool := e.2.all fun f => A5 f
def Tt (f : List Cl) (d : Nat) : Bool := decide (Eo f / 2 ^ d = 0)
def C1p (e : Ev) (v d : Int) : Int :=
 if (decide (v < 0) || decide (d < 0) || decide (24 < d) || !E2 e || !D1 e || !(e.2.all fun f => Tt f d.toNat)) = true then 2
 else (Fh (fun t => (Dm t v d, ())) e.1).1
def idE (v d : Int) : Int × Ev := if v < 0 ∨ 200 < v ∨ d < 0 ∨ 24 < d then (2, [], []) else (0, (List.range v.toNat).map (fun (n : Nat) => (T.mk 1 (n : Int) ⟨#[]⟩ [] [] [])), (List.range d.toNat).map fun (i : Nat) => [⟨Ec (i : Int), 0⟩])
def Bc (f : List Cl) (e : Ev) : EL := if (A5 f && E2 e && Tt f e.2.length && D1 e) = true then El false e.2 f else (2, [])
def A2 (t : T) (e : Ev) : Int × T :=
 if E2 e = false then (2, t0)
 else if Dm t e.1.length e.2.length ≠ 0 then (Dm t e.1.length e.2.length, t0)
 else if (D1 e && e.1.all fun x => decide (Ax x = 0)) = false then (2, t0)
 else match Bh Bd t e with
  | .bad x => (x, t0)
  | .ok u => if Ax u ≠ 0 then (Ax u, t0) else (0, u)
def Fs (e f : Ev) : Int × Ev :=
 if (Fh (fun g => Bc g f) e.2).1 ≠ 0 then ((Fh (fun g => Bc g f) e.2).1, [], [])
 else if (Fh (fun t => A2 t f) e.1).1 ≠ 0 then ((Fh (fun t => A2 t f) e.1).1, [], [])
 else (0, (Fh (fun t => A2 t f) e.1).2, (Fh (fun g => Bc g f) e.2).2)
def C3 (p : Bool) (g : List Cl) : Prop := if p = true then A6 g = true else A5 g = true
def Ss (p : Bool) (P N : Wd) : Prop := p = true → Ni P N
theorem Jf {p : Bool} {g : List Cl} (h : C3 p g) : A5 g = true := by
 unfold C3 at h
 split at h
 ·exact (Dn h).1
 ·exact h
def Q2 (D : List (List Cl)) (P N : Wd) : Wd := fun j => sat (D.getD j []) P N
def Si (D : List (List Cl)) (P N : Wd) : Wd := fun j => ¬ sat (D.getD j []) (Q6 N) (Q6 P)
theorem C3w {p neg : Bool} {d : List Cl} (hd : A5 d = true) (h : (ofE p neg d).1 = 0) : C3 p (ofE p neg d).2 ∧ ∀ P N, Ss p P N → (sat (ofE p neg d).2 P N ↔ if neg = true then ¬ sat d (Q6 N) (Q6 P) else sat d P N) := by
 unfold ofE at h ⊢
 cases p with
 | false =>
  simp only [Bool.false_eq_true, if_false] at h ⊢
  cases neg with
  | false =>
   simp only [Bool.false_eq_true, if_false]
   exact ⟨by unfold C3; rw [if_neg Iu]; exact hd, fun P N _ => trivial⟩
  | true =>
   simp only [if_true] at h ⊢
   unfold Lu at h ⊢
   rw [if_pos hd] at h ⊢
   exact ⟨by unfold C3; rw [if_neg Iu]; exact A8w h, fun P N _ => B1f (fun c hc => List.all_eq_true.mp (F4 hd) c hc) h⟩
 | true =>
  simp only [if_true] at h ⊢
  cases neg with
  | false =>
   simp only [Bool.false_eq_true, if_false] at h ⊢
   exact ⟨by unfold C3; rw [if_pos rfl]; exact A4o h, fun P N hw => B7k (hw rfl) h⟩
  | true =>
   simp only [if_true] at h ⊢
   exact ⟨by unfold C3; rw [if_pos rfl]; exact A4n h, fun P N hw => A7v (hw rfl) h⟩
theorem B9j {p : Bool} {g k : List Cl} (hg : C3 p g) (hk : C3 p k) (h : (Jb p g k).1 = 0) : C3 p (Jb p g k).2 ∧ ∀ P N, Ss p P N → (sat (Jb p g k).2 P N ↔ sat g P N ∧ sat k P N) := by
 unfold Jb at h ⊢
 cases p with
 | false =>
  simp only [Bool.false_eq_true, if_false] at h ⊢
  unfold C3 at hg hk ⊢
  simp only [Bool.false_eq_true, if_false] at hg hk ⊢
  unfold Nc at h ⊢
  rw [if_neg (by simp [hg, hk])] at h ⊢
  unfold Kr at h ⊢
  exact ⟨I5 h, fun P N _ => (H0 h).trans Td⟩
 | true =>
  simp only [if_true] at h ⊢
  unfold C3 at hg hk ⊢
  simp only [if_true] at hg hk ⊢
  have e := L3 hg hk
  refine ⟨by rw [e] at h ⊢; exact A9c h, fun P N hw => ?_⟩
  unfold F1 at h ⊢
  rw [if_neg (by simp [hg, hk]), Z7 (A0j (F4 (Dn hg).1) (F4 (Dn hk).1))] at h ⊢
  exact (H0 h).trans ((A3r (hw rfl)).trans Td)
theorem C0m {p : Bool} {g k : List Cl} (hg : C3 p g) (hk : C3 p k) (h : (Tu p g k).1 = 0) : C3 p (Tu p g k).2 ∧ ∀ P N, Ss p P N → (sat (Tu p g k).2 P N ↔ sat g P N ∨ sat k P N) := by
 unfold Tu at h ⊢
 cases p with
 | false =>
  simp only [Bool.false_eq_true, if_false] at h ⊢
  unfold C3 at hg hk ⊢
  simp only [Bool.false_eq_true, if_false] at hg hk ⊢
  unfold Nd at h ⊢
  rw [if_neg (by simp [hg, hk])] at h ⊢
  unfold Ho at h ⊢
  exact ⟨I5 h, fun P N _ => (H0 h).trans Mk⟩
 | true =>
  simp only [if_true] at h ⊢
  unfold C3 at hg hk ⊢
  simp only [if_true] at hg hk ⊢
  refine ⟨(B5f h).2, fun P N hw => ?_⟩
  rw [A9j hg hk] at h ⊢
  unfold Ho at h ⊢
  exact (H0 h).trans Mk
theorem B4l (p : Bool) : C3 p [Bz] := by cases p <;> (unfold C3; decide)
theorem A8x (p : Bool) : C3 p [] := by cases p <;> (unfold C3; decide)
theorem Wp {p neg : Bool} {D : List (List Cl)} : ∀ {l : List Int} {g : List Cl}, (∀ i, i ∈ l → A5 (D.getD i.toNat []) = true) → C3 p g → (Cx p neg D l g).1 = 0 →
  C3 p (Cx p neg D l g).2 ∧ ∀ P N, Ss p P N → (sat (Cx p neg D l g).2 P N ↔ sat g P N ∧ ∀ i, i ∈ l → if neg = true then Si D P N i.toNat else Q2 D P N i.toNat)
 | [], g, hD, hg, h => ⟨hg, fun P N _ => ⟨fun h => ⟨h, fun i hi => by cases hi⟩, fun h => h.1⟩⟩
 | i :: l, g, hD, hg, h => by
  rw [Cx] at h ⊢
  obtain ⟨h1, h, e⟩ := Fl h
  rw [e]
  obtain ⟨a1, a2⟩ := C3w (hD i List.mem_cons_self) h1
  obtain ⟨h2, h, e⟩ := Fl h
  rw [e]
  obtain ⟨b1, b2⟩ := B9j hg a1 h2
  obtain ⟨c1, c2⟩ := Wp (neg := neg) (fun j hj => hD j (List.mem_cons_of_mem _ hj)) b1 h
  refine ⟨c1, fun P N hw => ?_⟩
  rw [c2 P N hw, b2 P N hw, a2 P N hw]
  constructor
  ·rintro ⟨⟨q1, q2⟩, q3⟩
   refine ⟨q1, fun j hj => ?_⟩
   rcases List.mem_cons.mp hj with rfl | hj
   ·exact q2
   ·exact q3 j hj
  ·rintro ⟨q1, q2⟩
   exact ⟨⟨q1, q2 i List.mem_cons_self⟩, fun j hj => q2 j (List.mem_cons_of_mem _ hj)⟩
theorem C1t {p : Bool} {D : List (List Cl)} {c : Cl} (hc : Az c = true) (hD : ∀ j, (c.pos ||| c.neg).testBit j = true → A5 (D.getD j []) = true) (h : (Sp p D c).1 = 0) :
  C3 p (Sp p D c).2 ∧ ∀ P N, Ss p P N → (sat (Sp p D c).2 P N ↔ Ii c (Q2 D P N) (Si D P N)) := by
 obtain ⟨r1, r2⟩ := Hm hc
 have dp : ∀ i, i ∈ Aq c.pos → A5 (D.getD i.toNat []) = true := fun i hi => hD _ (by rw [Nat.testBit_or, (Db.mp hi).2.2]; rfl)
 have dn : ∀ i, i ∈ Aq c.neg → A5 (D.getD i.toNat []) = true := fun i hi => hD _ (by rw [Nat.testBit_or, (Db.mp hi).2.2, Bool.or_true])
 unfold Sp at h ⊢
 obtain ⟨h1, h, e⟩ := Fl h
 rw [e]
 obtain ⟨a1, a2⟩ := Wp dp (B4l p) h1
 obtain ⟨b1, b2⟩ := Wp dn a1 h
 refine ⟨b1, fun P N hw => ?_⟩
 rw [b2 P N hw, a2 P N hw]
 simp only [Bool.false_eq_true, if_false, if_true]
 constructor
 ·rintro ⟨⟨_, q1⟩, q2⟩
  refine ⟨fun j hj => ?_, fun j hj => ?_⟩
  ·have := q1 (j : Int) (Db.mpr ⟨by omega, by have := r1 j hj; omega, by simpa using hj⟩)
   simpa using this
  ·have := q2 (j : Int) (Db.mpr ⟨by omega, by have := r2 j hj; omega, by simpa using hj⟩)
   simpa using this
 ·rintro ⟨q1, q2⟩
  exact ⟨⟨B1e, fun i hi => q1 _ (Db.mp hi).2.2⟩, fun i hi => q2 _ (Db.mp hi).2.2⟩
theorem Lj {p : Bool} {D : List (List Cl)} {f : List Cl} (hf : f.all Az = true) (hD : ∀ c, c ∈ f → ∀ j, (c.pos ||| c.neg).testBit j = true → A5 (D.getD j []) = true) (h : (El p D f).1 = 0) :
  C3 p (El p D f).2 ∧ ∀ P N, Ss p P N → (sat (El p D f).2 P N ↔ sat f (Q2 D P N) (Si D P N)) := by
 have key := P9 (g := Ey p D) (L := f) (I := fun pre h => C3 p h ∧ ∀ P N, Ss p P N → (sat h P N ↔ sat pre (Q2 D P N) (Si D P N))) (fun pre c g hc hI h0 => by
  unfold Ey at h0 ⊢
  obtain ⟨h1, h0, e⟩ := Fl h0
  rw [e]
  obtain ⟨a1, a2⟩ := C1t (List.all_eq_true.mp hf c hc) (hD c hc) h1
  obtain ⟨b1, b2⟩ := C0m hI.1 a1 h0
  refine ⟨b1, fun P N hw => ?_⟩
  rw [b2 P N hw, hI.2 P N hw, a2 P N hw, Mk, Qg]) f [] [] ⟨A8x p, fun P N _ => ⟨fun h => absurd h V6, fun h => absurd h V6⟩⟩ (fun c hc => hc) h
 exact key
theorem U1 {i : Int} : A5 [N1 i] = true := A9r (Kn i)
theorem T5 {n : Int} (h : 0 ≤ n) : Cm (vE n) := by
 unfold vE
 simp only [Cm, Hp, Ng]
 refine ⟨?_, rfl, fun _ => trivial, trivial, trivial⟩
 refine ⟨fun h => absurd rfl h, fun _ => rfl, fun _ => ⟨rfl, h⟩, fun h => by omega, fun h => by omega, fun h => by omega, fun _ => rfl⟩
theorem Qd {f : List Cl} {d : Nat} (hd : d ≤ 24) (hf : f.all Az = true) (h : within f d = true) : ∀ c, c ∈ f → ∀ j, (c.pos ||| c.neg).testBit j = true → j < d := fun c hc j hj => by
 refine Decidable.byContradiction fun hn => ?_
 have h24 : j < 24 := by
  obtain ⟨r1, r2⟩ := Hm (List.all_eq_true.mp hf c hc)
  rw [Nat.testBit_or, Bool.or_eq_true] at hj
  rcases hj with hj | hj
  ·exact r1 j hj
  ·exact r2 j hj
 have h1 := (within_iff (l := f) (d := d) A3).mp h j A3
 rw [G2.mpr ⟨h24, c, hc, hj⟩] at h1
 cases h1
theorem A0g (k i : Int) : ((binds k i).1 = 0 ∨ (binds k i).1 = 1) ∧ ((binds k i).2 = 0 ∨ (binds k i).2 = 1) ∧ ¬ ((binds k i).1 = 1 ∧ (binds k i).2 = 1) := by
 unfold binds
 (repeat' split) <;> simp
variable {S : Nat → Prop}
theorem I3 {α β : Type} {g : α → Int × β} : ∀ {l : List α}, (Fh g l).1 = 0 → (∀ a, a ∈ l → (g a).1 = 0) ∧ (Fh g l).2 = l.map fun a => (g a).2
 | [], _ => ⟨fun t ht => (by cases ht), rfl⟩
 | t :: ts, h => by
  rw [Fh] at h ⊢
  by_cases h1 : (g t).1 ≠ 0
  ·rw [if_pos h1] at h; exact absurd h h1
  ·rw [if_neg h1] at h ⊢
   by_cases h2 : (Fh g ts).1 ≠ 0
   ·rw [if_pos h2] at h; exact absurd h h2
   ·rw [if_neg h2]
    obtain ⟨a1, a2⟩ := I3 (Decidable.not_not.mp h2)
    refine ⟨fun u hu => ?_, by rw [a2]; rfl⟩
    rcases List.mem_cons.mp hu with rfl | hu
    ·exact Decidable.not_not.mp h1
    ·exact a1 u hu
theorem X0 {t : T} {ns : List Int} {r : A8 T} (h : (Bm t ns r).1 = 0) : Ax t = 0 ∧ (r = .ok (Bm t ns r).2 ∨ r = .bad 0) := by
 unfold Bm at h ⊢
 split at h
 ·rename_i h1; exact absurd h h1
 ·rename_i h1
  split at h
  ·cases h
  ·rename_i h2
   rw [if_neg h1, if_neg h2]
   refine ⟨Decidable.not_not.mp h1, ?_⟩
   cases r with
   | ok u => exact .inl rfl
   | bad e => right; simp only at h; subst h; rfl
theorem B3p {x : T} (h : (Bk x 0 1).1 = 0) : Bh (Av 1 0) x (0, 0) = .ok (Bk x 0 1).2 := by
 obtain ⟨h1, h2 | h2⟩ := X0 h
 ·exact h2
 ·have := S5 x h2; omega
theorem B5u {x : T} (h : (Bl x 0 1).1 = 0) : Bh (Av 0 1) x (0, 0) = .ok (Bl x 0 1).2 := by
 obtain ⟨h1, h2 | h2⟩ := X0 h
 ·exact h2
 ·have := S5 x h2; omega
theorem Th {α : Type} {x : Int × α} {a : α} (h : Y5 x = .ok a) : x.1 = 0 ∧ x.2 = a := by
 unfold Y5 at h
 split at h
 ·rename_i h1; injection h with h; exact ⟨h1, h⟩
 ·cases h
theorem O1 {α : Type} {x : Int × α} {e : Int} (h : Y5 x = .bad e) : e ≠ 0 := by
 unfold Y5 at h
 split at h
 ·cases h
 ·rename_i h1; injection h with h; exact h ▸ h1
theorem Xo {e : Ev} {b : Int × Int} {x : Int} (h : Kf e b = .bad x) : x ≠ 0 := by
 unfold Kf at h
 split at h
 ·unfold Vf at h
  rcases Be h with h | ⟨_, _, h⟩
  ·exact O1 h
  ·cases h
 ·split at h
  ·unfold Sm at h
   rcases Be h with h | ⟨_, _, h⟩
   ·exact O1 h
   ·rcases Be h with h | ⟨_, _, h⟩
    ·exact O1 h
    ·cases h
  ·cases h
theorem N0 : ∀ (t : T) {e : Ev} {x : Int}, Bh Bd t e = .bad x → x ≠ 0 := T.ind fun t ih e x h => by
 rcases A3j h with h1 | ⟨b, _, h1⟩ | ⟨p, hp, h1 | ⟨c', _, h2⟩⟩
 ·simp only [Bd] at h1
  split at h1
  ·cases h1
  ·rcases Be h1 with h1 | ⟨_, _, h1⟩
   ·exact (Us.mp h1).2
   ·cases h1
 ·simp only [Bd] at h1
  rcases Be h1 with h1 | ⟨_, _, h1⟩
  ·exact (Us.mp h1).2
  ·cases h1
 ·exact Xo h1
 ·exact ih p hp h2
theorem Gr {t : T} {e : Ev} (h : (A2 t e).1 = 0) : E2 e = true ∧ Dm t e.1.length e.2.length = 0 ∧ D1 e = true ∧ (∀ x, x ∈ e.1 → Ax x = 0) ∧ Bh Bd t e = .ok (A2 t e).2 ∧ Ax (A2 t e).2 = 0 := by
 unfold A2 at h ⊢
 split at h
 ·cases h
 rename_i h1
 rw [if_neg h1]
 split at h
 ·rename_i h2; exact absurd h h2
 rename_i h2
 rw [if_neg h2]
 split at h
 ·cases h
 rename_i h3
 rw [if_neg h3]
 have h3 : D1 e = true ∧ (e.1.all fun x => decide (Ax x = 0)) = true := by
  rw [← Bool.and_eq_true]
  cases hq : (D1 e && e.1.all fun x => decide (Ax x = 0)) with
  | true => rfl
  | false => exact absurd hq h3
 have h1 : E2 e = true := by
  cases hq : E2 e with
  | true => rfl
  | false => exact absurd hq h1
 cases hq : Bh Bd t e with
 | bad x =>
  rw [hq] at h
  exact absurd h (N0 t hq)
 | ok u =>
  rw [hq] at h
  simp only at h ⊢
  split at h
  ·rename_i h4; exact absurd h h4
  ·rename_i h4
   rw [if_neg h4]
   exact ⟨h1, Decidable.not_not.mp h2, h3.1, fun x hx => of_decide_eq_true (List.all_eq_true.mp h3.2 x hx), rfl, Decidable.not_not.mp h4⟩
abbrev bnd (b : Int × Int) : Prop := (b.1 = 0 ∨ b.1 = 1) ∧ (b.2 = 0 ∨ b.2 = 1) ∧ ¬ (b.1 = 1 ∧ b.2 = 1)
theorem A6m (k : Int) : bnd (0, more k) := ⟨.inl rfl, by have := S1 k; show more k = 0 ∨ more k = 1; omega, fun h => by cases h.1⟩
theorem Yr {CA CB : Type} {A : Tr CA} {B : Tr CB} {k : Int} {f : List Cl} {ks : List T} {bs : List Br} {a b : List Br} {ca : CA} {cb : CB} (ha : Bu A k (.mk f ks :: bs) ca = .ok a) (hb : Bu B k a cb = .ok b) :
  ∃ oa ob, A.As ca f = .ok oa ∧ (oa = none → ob = none) ∧ (∀ fa, oa = some fa → B.As cb fa = .ok ob) ∧ ∃ ba bb, Bu A k bs ca = .ok ba ∧ Bu B k ba cb = .ok bb ∧ ((ob = none ∧ b = bb) ∨ ∃ g ka kb, ob = some g ∧ Bt A k ks ca = .ok ka ∧ Bt B k ka cb = .ok kb ∧ b = .mk g kb :: bb) := by
 rw [C7] at ha
 simp only [Br.As, Br.kids] at ha
 obtain ⟨oa, a1, ha⟩ := A8.A0 ha
 cases oa with
 | none => exact ⟨none, none, a1, fun _ => rfl, fun fa h => (by cases h), a, b, ha, hb, .inl ⟨rfl, rfl⟩⟩
 | some fa =>
  obtain ⟨ka, a2, ha⟩ := A8.A0 ha
  obtain ⟨ba, a3, ha⟩ := A8.A0 ha
  injection ha with ha
  subst ha
  rw [C7] at hb
  simp only [Br.As, Br.kids] at hb
  obtain ⟨ob, b1, hb⟩ := A8.A0 hb
  cases ob with
  | none => exact ⟨some fa, none, a1, fun h => (by cases h), fun fa' h => (by injection h with h; subst h; exact b1), ba, b, a3, hb, .inl ⟨rfl, rfl⟩⟩
  | some g =>
   obtain ⟨kb, b2, hb⟩ := A8.A0 hb
   obtain ⟨bb, b3, hb⟩ := A8.A0 hb
   injection hb with hb
   exact ⟨some fa, some g, a1, fun h => (by cases h), fun fa' h => (by injection h with h; subst h; exact b1), ba, bb, a3, b3, .inr ⟨g, ka, kb, rfl, a2, b2, hb.symm⟩⟩
section
variable {CA CB CC CD : Type} {A : Tr CA} {B : Tr CB} {C : Tr CC} {D : Tr CD} (nv mv : Bool) (R : CA → CB → CC → CD → Int → Int → Prop)
structure Sq4 : Prop where
 leaf : ∀ t a b c x ca cb cc cd v d, R ca cb cc cd v d → Cm t → (mv = true → G7 t v d) → t.kind = 1 → Bh A t ca = .ok a → Bh B a cb = .ok b → Bh C t cc = .ok c → Bh D c cd = .ok x → b = x
 nA : ∀ ca k n nm r u, k ≠ 1 → A.own ca k n nm r ≠ .ok (.inl u)
 nB : ∀ ca k n nm r u, k ≠ 1 → B.own ca k n nm r ≠ .ok (.inl u)
 nC : ∀ ca k n nm r u, k ≠ 1 → C.own ca k n nm r ≠ .ok (.inl u)
 nD : ∀ ca k n nm r u, k ≠ 1 → D.own ca k n nm r ≠ .ok (.inl u)
 own : ∀ ca cb cc cd v d k n nm r pa pb pc pd, R ca cb cc cd v d → (mv = true → d ≤ 24) → It k n nm r → k ≠ 1 → (mv = true → within r d = true) → A.own ca k n nm r = .ok (.inr pa) → B.own cb k pa.1 nm pa.2 = .ok (.inr pb) → C.own cc k n nm r = .ok (.inr pc) → D.own cd k pc.1 nm pc.2 = .ok (.inr pd) → pb = pd
 As : ∀ ca cb cc cd v d f oa ob oc od, R ca cb cc cd v d → (mv = true → d ≤ 24) → A6 f = true → (nv = true → f ≠ []) → (mv = true → within f d = true) → A.As ca f = .ok oa → (oa = none → ob = none) → (∀ fa, oa = some fa → B.As cb fa = .ok ob) → C.As cc f = .ok oc → (oc = none → od = none) → (∀ fc, oc = some fc → D.As cd fc = .ok od) → ob = od
 Gq : ∀ ca cb cc cd v d b ca' cb' cc' cd', R ca cb cc cd v d → bnd b → (mv = true → d + b.2 ≤ 24) → A.Gq ca b = .ok ca' → B.Gq cb b = .ok cb' → C.Gq cc b = .ok cc' → D.Gq cd b = .ok cd' → R ca' cb' cc' cd' (v + b.1) (d + b.2)
variable {nv mv R}
mutual
theorem sq4 (F : Sq4 (A := A) (B := B) (C := C) (D := D) nv mv R) : ∀ {t a b c x : T} {ca : CA} {cb : CB} {cc : CC} {cd : CD} {v d : Int}, Cm t → (mv = true → G7 t v d) → (nv = true → To t = false) → R ca cb cc cd v d → Bh A t ca = .ok a → Bh B a cb = .ok b → Bh C t cc = .ok c → Bh D c cd = .ok x → b = x
 | .mk k n nm r ks ss, a, b, c, x, ca, cb, cc, cd, v, d, hf, hm, hn, hr, ha, hb, hc, hx => by
  by_cases hk : k = 1
  ·exact F.leaf _ _ _ _ _ _ _ _ _ _ _ hr hf hm hk ha hb hc hx
  ·simp only [Cm] at hf
   obtain ⟨h1, h2, h3, h4, h5⟩ := hf
   have m1 : mv = true → d ≤ 24 := fun hq => (by have := hm hq; simp only [G7] at this; exact this.1.1)
   have m3 : mv = true → within r d = true := fun hq => (by have := hm hq; simp only [G7] at this; exact this.1.2.2)
   have m4 : mv = true → Wl k 0 ks v d := fun hq => (by have := hm hq; simp only [G7] at this; exact this.2.1)
   have m5 : mv = true → V2 k ss v d := fun hq => (by have := hm hq; simp only [G7] at this; exact this.2.2)
   have n1 : nv = true → I2 ks = false := fun hq => by
    have := hn hq
    simp only [To, Bool.or_eq_false_iff] at this
    exact this.1
   have n2 : nv = true → Tp ss = false := fun hq => by
    have := hn hq
    simp only [To, Bool.or_eq_false_iff] at this
    exact this.2
   rw [D5] at ha hc
   simp only [T.kind, T.n, T.name, T.r, T.kids, T.sys] at ha hc
   obtain ⟨oa, a1, ha⟩ := A8.A0 ha
   obtain ⟨oc, c1, hc⟩ := A8.A0 hc
   cases oa with
   | inl v => exact absurd a1 (F.nA _ _ _ _ _ _ hk)
   | inr pa =>
    cases oc with
    | inl v => exact absurd c1 (F.nC _ _ _ _ _ _ hk)
    | inr pc =>
     obtain ⟨ka, a2, ha⟩ := A8.A0 ha
     obtain ⟨sa, a3, ha⟩ := A8.A0 ha
     obtain ⟨kc, c2, hc⟩ := A8.A0 hc
     obtain ⟨sc, c3, hc⟩ := A8.A0 hc
     injection ha with ha
     injection hc with hc
     subst ha hc
     rw [D5] at hb hx
     simp only [T.kind, T.n, T.name, T.r, T.kids, T.sys] at hb hx
     obtain ⟨ob, b1, hb⟩ := A8.A0 hb
     obtain ⟨od, d1, hx⟩ := A8.A0 hx
     cases ob with
     | inl v => exact absurd b1 (F.nB _ _ _ _ _ _ hk)
     | inr pb =>
      cases od with
      | inl v => exact absurd d1 (F.nD _ _ _ _ _ _ hk)
      | inr pd =>
       obtain ⟨kb, b2, hb⟩ := A8.A0 hb
       obtain ⟨sb, b3, hb⟩ := A8.A0 hb
       obtain ⟨kd, d2, hx⟩ := A8.A0 hx
       obtain ⟨sd, d3, hx⟩ := A8.A0 hx
       injection hb with hb
       injection hx with hx
       subst hb hx
       rw [F.own _ _ _ _ _ _ _ _ _ _ _ _ _ _ hr m1 h1 hk m3 a1 b1 c1 d1, D2v F h4 m4 n1 hr a2 b2 c2 d2, D2w F m1 h5 m5 n2 hr a3 b3 c3 d3]
termination_by structural t => t
theorem D2v (F : Sq4 (A := A) (B := B) (C := C) (D := D) nv mv R) {k : Int} : ∀ {ts a b c x : List T} {i : Nat} {ca : CA} {cb : CB} {cc : CC} {cd : CD} {v d : Int}, Hp ts → (mv = true → Wl k i ts v d) → (nv = true → I2 ts = false) → R ca cb cc cd v d → Ci A k i ts ca = .ok a → Ci B k i a cb = .ok b → Ci C k i ts cc = .ok c → Ci D k i c cd = .ok x → b = x
 | [], a, b, c, x, i, ca, cb, cc, cd, v, d, hf, hm, hn, hr, ha, hb, hc, hx => by
  rw [Ct] at ha hc
  injection ha with ha
  injection hc with hc
  subst ha hc
  rw [Ct] at hb hx
  injection hb with hb
  injection hx with hx
  rw [← hb, ← hx]
 | t :: ts, a, b, c, x, i, ca, cb, cc, cd, v, d, hf, hm, hn, hr, ha, hb, hc, hx => by
  simp only [Hp] at hf
  have hm1 : mv = true → G7 t (v + (binds k i).1) (d + (binds k i).2) := fun hq => (by have := hm hq; simp only [Wl] at this; exact this.1)
  have hm2 : mv = true → Wl k (i + 1) ts v d := fun hq => (by have := hm hq; simp only [Wl] at this; exact this.2)
  have n1 : nv = true → To t = false := fun hq => by
   have := hn hq
   simp only [I2, Bool.or_eq_false_iff] at this
   exact this.1
  have n2 : nv = true → I2 ts = false := fun hq => by
   have := hn hq
   simp only [I2, Bool.or_eq_false_iff] at this
   exact this.2
  rw [Ch] at ha hc
  obtain ⟨ca', a1, ha⟩ := A8.A0 ha
  obtain ⟨ta, a2, ha⟩ := A8.A0 ha
  obtain ⟨tsa, a3, ha⟩ := A8.A0 ha
  obtain ⟨cc', c1, hc⟩ := A8.A0 hc
  obtain ⟨tc, c2, hc⟩ := A8.A0 hc
  obtain ⟨tsc, c3, hc⟩ := A8.A0 hc
  injection ha with ha
  injection hc with hc
  subst ha hc
  rw [Ch] at hb hx
  obtain ⟨cb', b1, hb⟩ := A8.A0 hb
  obtain ⟨tb, b2, hb⟩ := A8.A0 hb
  obtain ⟨tsb, b3, hb⟩ := A8.A0 hb
  obtain ⟨cd', d1, hx⟩ := A8.A0 hx
  obtain ⟨td, d2, hx⟩ := A8.A0 hx
  obtain ⟨tsd, d3, hx⟩ := A8.A0 hx
  injection hb with hb
  injection hx with hx
  subst hb hx
  rw [sq4 F hf.1 hm1 n1 (F.Gq _ _ _ _ _ _ _ _ _ _ _ hr (A0g k i) (fun hq => (Ik.mp (hm1 hq)).1.1) a1 b1 c1 d1) a2 b2 c2 d2, D2v F hf.2 hm2 n2 hr a3 b3 c3 d3]
termination_by structural ts => ts
theorem D2u (F : Sq4 (A := A) (B := B) (C := C) (D := D) nv mv R) {k : Int} : ∀ {ts a b c x : List T} {ca : CA} {cb : CB} {cc : CC} {cd : CD} {v d : Int}, Hp ts → (mv = true → Wk k ts v d) → (nv = true → I2 ts = false) → R ca cb cc cd v d → Bt A k ts ca = .ok a → Bt B k a cb = .ok b → Bt C k ts cc = .ok c → Bt D k c cd = .ok x → b = x
 | [], a, b, c, x, ca, cb, cc, cd, v, d, hf, hm, hn, hr, ha, hb, hc, hx => by
  rw [Cy] at ha hc
  injection ha with ha
  injection hc with hc
  subst ha hc
  rw [Cy] at hb hx
  injection hb with hb
  injection hx with hx
  rw [← hb, ← hx]
 | t :: ts, a, b, c, x, ca, cb, cc, cd, v, d, hf, hm, hn, hr, ha, hb, hc, hx => by
  simp only [Hp] at hf
  have hm1 : mv = true → G7 t v (d + more k) := fun hq => (by have := hm hq; simp only [Wk] at this; exact this.1)
  have hm2 : mv = true → Wk k ts v d := fun hq => (by have := hm hq; simp only [Wk] at this; exact this.2)
  have n1 : nv = true → To t = false := fun hq => by
   have := hn hq
   simp only [I2, Bool.or_eq_false_iff] at this
   exact this.1
  have n2 : nv = true → I2 ts = false := fun hq => by
   have := hn hq
   simp only [I2, Bool.or_eq_false_iff] at this
   exact this.2
  rw [Cg] at ha hc
  obtain ⟨ca', a1, ha⟩ := A8.A0 ha
  obtain ⟨ta, a2, ha⟩ := A8.A0 ha
  obtain ⟨tsa, a3, ha⟩ := A8.A0 ha
  obtain ⟨cc', c1, hc⟩ := A8.A0 hc
  obtain ⟨tc, c2, hc⟩ := A8.A0 hc
  obtain ⟨tsc, c3, hc⟩ := A8.A0 hc
  injection ha with ha
  injection hc with hc
  subst ha hc
  rw [Cg] at hb hx
  obtain ⟨cb', b1, hb⟩ := A8.A0 hb
  obtain ⟨tb, b2, hb⟩ := A8.A0 hb
  obtain ⟨tsb, b3, hb⟩ := A8.A0 hb
  obtain ⟨cd', d1, hx⟩ := A8.A0 hx
  obtain ⟨td, d2, hx⟩ := A8.A0 hx
  obtain ⟨tsd, d3, hx⟩ := A8.A0 hx
  injection hb with hb
  injection hx with hx
  subst hb hx
  have hkk := F.Gq _ _ _ _ _ _ _ _ _ _ _ hr (A6m k) (fun hq => (Ik.mp (hm1 hq)).1.1) a1 b1 c1 d1
  rw [show v + ((0, more k) : Int × Int).1 = v from Int.add_zero v] at hkk
  rw [sq4 F hf.1 hm1 n1 hkk a2 b2 c2 d2, D2u F hf.2 hm2 n2 hr a3 b3 c3 d3]
termination_by structural ts => ts
theorem D2w (F : Sq4 (A := A) (B := B) (C := C) (D := D) nv mv R) {k : Int} : ∀ {bs a b c x : List Br} {ca : CA} {cb : CB} {cc : CC} {cd : CD} {v d : Int}, (mv = true → d ≤ 24) → Ng k bs → (mv = true → V2 k bs v d) → (nv = true → Tp bs = false) → R ca cb cc cd v d → Bu A k bs ca = .ok a → Bu B k a cb = .ok b → Bu C k bs cc = .ok c → Bu D k c cd = .ok x → b = x
 | [], a, b, c, x, ca, cb, cc, cd, v, d, hd, hf, hm, hn, hr, ha, hb, hc, hx => by
  rw [Co] at ha hc
  injection ha with ha
  injection hc with hc
  subst ha hc
  rw [Co] at hb hx
  injection hb with hb
  injection hx with hx
  rw [← hb, ← hx]
 | .mk f ks :: bs, a, b, c, x, ca, cb, cc, cd, v, d, hd, hf, hm, hn, hr, ha, hb, hc, hx => by
  simp only [Ng] at hf
  have hb1 : mv = true → within f d = true := fun hq => (by have := hm hq; simp only [V2] at this; exact this.1)
  have hb2 : mv = true → Wk k ks v d := fun hq => (by have := hm hq; simp only [V2] at this; exact this.2.1)
  have hb3 : mv = true → V2 k bs v d := fun hq => (by have := hm hq; simp only [V2] at this; exact this.2.2)
  have nn : nv = true → f ≠ [] ∧ I2 ks = false ∧ Tp bs = false := fun hq => by
   have := hn hq
   simp only [Tp, Bool.or_eq_false_iff] at this
   refine ⟨fun h9 => ?_, this.1.2, this.2⟩
   have h8 := this.1.1
   rw [h9] at h8
   cases h8
  obtain ⟨oa, ob, a1, a2, a3, ba, bb, a4, a5, a6⟩ := Yr ha hb
  obtain ⟨oc, od, c1, c2, c3, bc, bd, c4, c5, c6⟩ := Yr hc hx
  have e := F.As _ _ _ _ _ _ f oa ob oc od hr hd hf.2.1 (fun hq => (nn hq).1) hb1 a1 a2 a3 c1 c2 c3
  have et := D2w F hd hf.2.2.2 hb3 (fun hq => (nn hq).2.2) hr a4 a5 c4 c5
  subst e
  rcases a6 with ⟨e1, e2⟩ | ⟨g, ka, kb, e1, e2, e3, e4⟩
  ·rcases c6 with ⟨e5, e6⟩ | ⟨g', kc, kd, e5, e6, e7, e8⟩
   ·rw [e2, e6, et]
   ·rw [e1] at e5; cases e5
  ·rcases c6 with ⟨e5, e6⟩ | ⟨g', kc, kd, e5, e6, e7, e8⟩
   ·rw [e1] at e5; cases e5
   ·rw [e1] at e5
    injection e5 with e5
    rw [e4, e8, e5, et, D2u F hf.2.2.1 hb2 (fun hq => (nn hq).2.1) hr e2 e3 e6 e7]
termination_by structural bs => bs
end
end
end Go.Hy
