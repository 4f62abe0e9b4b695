/- Contracts of this program's functions and the laws that they need. -/
import Derived.RangeFuncNested
import Derived.RangeFuncBound
import Derived.RangeFuncCalls
import Derived.RangeFuncLeaves
import Derived.RangeFuncBox
import Derived.Shelf.Abstract
import Derived.Shelf.RegionOpen
import Derived.WalkKit
import Derived.OwnWalkIn
import Derived.TacticsInMore
import Derived.LoopNIn
import Derived.LoopIn
import Derived.Tactics2
import Derived.Shelf.SlSortCmp.NoneTotal
import Derived.Test.YtpfjlbopkhdebaaGreatDoorP7
set_option linter.unusedVariables false
set_option linter.unusedSimpArgs false
set_option linter.unusedSectionVars false
namespace Go.Hy
def Kf (ts : List T) (d : Int) : Cx := match ts.find? (fun t => decide (t.kind < 0)) with
 | some t => (-t.kind, [], 0)
 | none => Ix ts d
theorem C4r {ts : List T} {d : Int} {i : Nat} (hi : i < ts.length) (h0 : ∀ j, j < i → ¬ (ts.getD j t0).kind < 0) (h : (ts.getD i t0).kind < 0) : Kf ts d = (-(ts.getD i t0).kind, [], 0) := by
 have : ts.find? (fun t => decide (t.kind < 0)) = some (ts.getD i t0) := by
  rw [List.find?_eq_some_iff_getElem]
  rw [Eo (d := t0) hi] at h ⊢
  refine ⟨by simpa using h, i, hi, rfl, fun j hj => ?_⟩
  have := h0 j hj
  rw [Eo (d := t0) (show j < ts.length by omega)] at this
  simpa using this
 unfold Kf
 rw [this]
theorem C9n {ts : List T} {d : Int} (h0 : ∀ j, j < ts.length → ¬ (ts.getD j t0).kind < 0) : Kf ts d = Ix ts d := by
 have : ts.find? (fun t => decide (t.kind < 0)) = none := by
  rw [List.find?_eq_none]
  intro t ht
  obtain ⟨i, hi, rfl⟩ := Qo (d := t0) ht
  simpa using h0 i hi
 unfold Kf
 rw [this]
theorem V3 {t : T} {v d : Int} (hv : 0 ≤ v ∧ v ≤ 1000000000000) (h : Fc t v d = 0) : Ep t ∧ 0 ≤ t.kind ∧ A0j t v d ∧ C0 t = 0 := by
 obtain ⟨_, _, h1, h2, h3⟩ := (C4p hv.1 hv.2).mp h
 exact ⟨h2, Kw h2, h3, T0.mpr ⟨h1, h2⟩⟩
theorem Yz {ts : List T} {d : Int} (h : Ag ts d = 0) : ∀ j, j < ts.length → Fc (ts.getD j t0) ((ts.length : Int) - 1 - j) d = 0 := Qs.mpr (Ek.mp h).2.2.2
theorem A7u {r : T → Int × T} : ∀ {ts : List T} {u : T}, u ∈ (Iw r ts).2 → ∃ t, t ∈ ts ∧ u = (r t).2
 | [], u, h => by cases h
 | t :: ts, u, h => by
  rw [Iw] at h
  split at h
  ·cases h
  ·split at h
   ·cases h
   ·rcases List.mem_cons.mp h with rfl | h
    ·exact ⟨t, List.mem_cons_self, rfl⟩
    ·obtain ⟨x, hx, e⟩ := A7u h
     exact ⟨x, List.mem_cons_of_mem _ hx, e⟩
def Zz (ts : List T) (c : Cl) : Int × List T := Iw (fun t => Bh t c) ts
def Sx (c : Cl) (d : Int) : Bool := decide ((c.pos ||| c.neg) / 2 ^ d.toNat = 0)
def F2 (ts : List T) (d : Int) (c : Cl) : Cx := if Ag ts d ≠ 0 then (Ag ts d, [], 0) else if (single c && Sx c d) = false then (2, [], 0) else if (Zz ts c).1 ≠ 0 then ((Zz ts c).1, [], 0) else Ix (Zz ts c).2 d
theorem B6o {ts : List T} {d : Int} {c : Cl} {r : Int × List T} (h0 : Ag ts d = 0) (h1 : (single c && Sx c d) = true) (h2 : r = Zz ts c) (h3 : r.1 ≠ 0) : F2 ts d c = (r.1, [], 0) := by
 subst h2
 unfold F2
 rw [if_neg (by simp [h0]), if_neg (by rw [h1]; decide), if_pos h3]
theorem C3y {ts : List T} {d : Int} {c : Cl} {r : Int × List T} (h0 : Ag ts d = 0) (h1 : (single c && Sx c d) = true) (h2 : r = Zz ts c) (h3 : r.1 = 0) : F2 ts d c = Ix r.2 (if r.1 = 0 then d else 0) := by
 subst h2
 unfold F2
 rw [if_neg (by simp [h0]), if_neg (by rw [h1]; decide), if_neg (by simp [h3]), if_pos h3]
theorem B9b {ts : List T} {c : Cl} {m : Nat} (hz : ∀ t, t ∈ ts → size t ≤ m) : ∀ u, u ∈ (Zz ts c).2 → size u ≤ m := fun u hu => by
 obtain ⟨t, ht, rfl⟩ := A7u hu
 exact Nat.le_trans A3r (hz t ht)
theorem D1s (s : Nat) : (A3 s).Pairwise (· < ·) := by
 unfold A3 Bv
 rw [List.pairwise_map]
 refine List.Pairwise.imp (fun {a b} h => by omega) ((List.pairwise_lt_range (n := 24)).filter _)
theorem Td (l : List Int) (x : Int) : Hs (l ++ [x]) = Hs l + 2 ^ x.toNat := by simp [Hs]
theorem A6c (x : Int) (l : List Int) : Hs (x :: l) = 2 ^ x.toNat + Hs l := by simp [Hs]
theorem B2o : ∀ {l : List Int} {a : Nat}, l.Pairwise (· < ·) → (∀ x, x ∈ l → (a : Int) ≤ x) → ∃ q, Hs l = 2 ^ a * q ∧ ∀ j : Nat, (Hs l).testBit j = true ↔ (j : Int) ∈ l
 | [], a, _, _ => ⟨0, by simp [Hs], fun j => by simp [Hs]⟩
 | x :: l, a, hp, ha => by
  have hx := ha x List.mem_cons_self
  obtain ⟨h1, h2⟩ := List.pairwise_cons.mp hp
  obtain ⟨q, hq, hb⟩ := B2o (l := l) (a := x.toNat + 1) h2 fun y hy => by have := h1 y hy; omega
  have hlt : 2 ^ x.toNat < 2 ^ (x.toNat + 1) := Nat.pow_lt_pow_right Jp A2
  have e : Hs (x :: l) = 2 ^ (x.toNat + 1) * q ||| 2 ^ x.toNat := by
   rw [A6c, hq, ← Nat.two_pow_add_eq_or_of_lt hlt, Nat.add_comm]
  refine ⟨2 ^ (x.toNat - a) * (2 * q + 1), ?_, fun j => ?_⟩
  ·rw [A6c, hq, ← Nat.mul_assoc, ← Nat.pow_add, show a + (x.toNat - a) = x.toNat by omega, Nat.pow_succ, Nat.mul_add, Nat.mul_one, Nat.mul_assoc]
   omega
  ·rw [e, Nat.testBit_or, Bool.or_eq_true, ← hq, hb, List.mem_cons, Nat.testBit_two_pow, decide_eq_true_eq]
   constructor
   ·rintro (h | h)
    ·exact .inr h
    ·exact .inl A2
   ·rintro (h | h)
    ·exact .inr A2
    ·exact .inl h
theorem C8q {l : List Int} (h : l.Pairwise (· < ·)) (h0 : ∀ x, x ∈ l → 0 ≤ x) (j : Nat) : (Hs l).testBit j = true ↔ (j : Int) ∈ l := by
 obtain ⟨_, _, h2⟩ := B2o (a := 0) h fun x hx => by have := h0 x hx; omega
 exact h2 j
theorem B4e {a b : Nat} (h : ∀ j, a.testBit j = true ↔ b.testBit j = true) : a = b := Nat.eq_of_testBit_eq fun j => by
 have := h j
 cases h1 : a.testBit j <;> cases h2 : b.testBit j <;> simp_all
theorem B2n (s : Nat) (i : Int) : Hs ((A3 s).filter fun x => decide (x ≠ i)) = Bd s i := B4e fun j => by
 rw [C8q ((D1s s).filter _) (fun x hx => (He.mp (List.mem_filter.mp hx).1).1), List.mem_filter, He, J2]
 simp only [decide_eq_true_eq, Int.toNat_natCast]
 constructor
 ·rintro ⟨⟨_, h2, h3⟩, h4⟩; exact ⟨by omega, h3, h4⟩
 ·rintro ⟨h2, h3, h4⟩; exact ⟨⟨by omega, by omega, h3⟩, h4⟩
theorem Xv {s : Nat} {i : Int} {j : Nat} : (Jj s i).testBit j = true ↔ j < 24 ∧ (s.testBit j = true ∨ (j : Int) = i) := by
 have h24 : (s &&& 16777215).testBit j = true ↔ j < 24 ∧ s.testBit j = true := by
  rw [show (16777215 : Nat) = 2 ^ 24 - 1 by decide, Nat.testBit_and, Nat.testBit_two_pow_sub_one, Bool.and_eq_true, decide_eq_true_eq, and_comm]
 unfold Jj
 split
 ·rename_i h
  rw [Nat.testBit_or, Bool.or_eq_true, h24, Nat.testBit_two_pow, decide_eq_true_eq]
  constructor
  ·rintro (h1 | h1)
   ·exact ⟨h1.1, .inl h1.2⟩
   ·exact ⟨by omega, .inr A2⟩
  ·rintro ⟨h1, h2 | h2⟩
   ·exact .inl ⟨h1, h2⟩
   ·exact .inr A2
 ·rename_i h
  rw [h24]
  constructor
  ·rintro ⟨h1, h2⟩; exact ⟨h1, .inl h2⟩
  ·rintro ⟨h1, h2 | h2⟩
   ·exact ⟨h1, h2⟩
   ·omega
theorem A6b {X Y i : Nat} (h : ∀ j, j ≠ i → (X.testBit j = true ↔ Y.testBit j = true)) (hx : X.testBit i = true) (hy : Y.testBit i = false) : ∀ n, Hs (Bv X n) = Hs (Bv Y n) + if i < n then 2 ^ i else 0
 | 0 => by simp [Bv, Hs]
 | n + 1 => by
  have ih := A6b h hx hy n
  rw [Gs, Gs]
  by_cases e : n = i
  ·subst e
   rw [if_pos hx, if_neg (by simp [hy]), Td, ih, if_neg (Nat.lt_irrefl _), if_pos (Nat.lt_succ_self _), Int.toNat_natCast]
   omega
  ·have h1 := h n e
   by_cases hb : Y.testBit n = true
   ·rw [if_pos hb, if_pos (h1.mpr hb), Td, Td, ih]
    by_cases hi : i < n
    ·rw [if_pos hi, if_pos A2]; omega
    ·rw [if_neg hi, if_neg A2]; omega
   ·rw [if_neg hb, if_neg (fun h2 => hb (h1.mp h2)), ih]
    by_cases hi : i < n
    ·rw [if_pos hi, if_pos A2]
    ·rw [if_neg hi, if_neg A2]
theorem D9b {s : Nat} (h : s < 16777216) : Hs (A3 s) = s := by rw [Uy, A0f]; exact Nat.mod_eq_of_lt h
theorem C8o {s : Nat} {i : Int} (h : 0 ≤ i ∧ i < 24) : Hs (A3 (Bd s i) ++ [i]) = Jj s i := by
 rw [Td]
 have hf := A6b (X := Jj s i) (Y := Bd s i) (i := i.toNat) (fun j hj => by
  rw [Xv, J2]
  constructor
  ·rintro ⟨h1, h2 | h2⟩
   ·exact ⟨h1, h2, by omega⟩
   ·omega
  ·rintro ⟨h1, h2, _⟩; exact ⟨h1, .inl h2⟩) (Xv.mpr ⟨by omega, .inr A2⟩) (by
  cases hb : (Bd s i).testBit i.toNat with
  | false => rfl
  | true => have := (J2.mp hb).2.2; omega) 24
 rw [if_pos A2] at hf
 rw [← hf]
 exact D9b (A0y s i)
theorem B1t (s : Nat) : Bd s (-1) = s &&& 16777215 := by unfold Bd; rw [if_neg Jp]
theorem C7w {s : Nat} {i : Int} (h : ¬ (0 ≤ i ∧ i < 24)) : Jj s i = Bd s (-1) := by rw [B1t]; unfold Jj; rw [if_neg h]
theorem C3x {a b : Nat} (ha : a < 16777216) (hb : b < 16777216) : (A3 b).foldl Jj a = a ||| b := B4e fun j => by
 have key : ∀ (l : List Int) (x : Nat), x < 16777216 → ((l.foldl Jj x).testBit j = true ↔ x.testBit j = true ∨ ((j : Int) ∈ l ∧ j < 24)) := by
  intro l
  induction l with
  | nil => intro x hx; simp
  | cons y l ih =>
   intro x hx
   rw [List.foldl_cons, ih _ (A0y x y), Xv, List.mem_cons]
   have h24 : x.testBit j = true → j < 24 := fun h => Nat.lt_of_not_le fun h2 => by
    rw [Nat.testBit_lt_two_pow (Nat.lt_of_lt_of_le hx (Nat.pow_le_pow_right (n := 2) (i := 24) A2 h2))] at h
    cases h
   constructor
   ·rintro (⟨h1, h2 | h2⟩ | h2)
    ·exact .inl h2
    ·exact .inr ⟨.inl h2, h1⟩
    ·exact .inr ⟨.inr h2.1, h2.2⟩
   ·rintro (h1 | ⟨h1 | h1, h2⟩)
    ·exact .inl ⟨h24 h1, .inl h1⟩
    ·exact .inl ⟨h2, .inr h1⟩
    ·exact .inr ⟨h1, h2⟩
 rw [key _ _ ha, Nat.testBit_or, Bool.or_eq_true, He]
 have h24 : b.testBit j = true → j < 24 := fun h => Nat.lt_of_not_le fun h2 => by
  rw [Nat.testBit_lt_two_pow (Nat.lt_of_lt_of_le hb (Nat.pow_le_pow_right (n := 2) (i := 24) A2 h2))] at h
  cases h
 constructor
 ·rintro (h | h)
  ·exact .inl h
  ·exact .inr (by simpa using h.1.2.2)
 ·rintro (h | h)
  ·exact .inl h
  ·exact .inr ⟨⟨by omega, by have := h24 h; omega, by simpa using h⟩, h24 h⟩
theorem B8w {l : List Int} {a : Nat} {k : Nat} (h : k < l.length) : (l.take (k + 1)).foldl Jj a = Jj ((l.take k).foldl Jj a) (l.getD k 0) := by
 rw [Ad (d := 0) h, List.foldl_append]; rfl
theorem D2s {l : List Int} {k : Nat} {p : Int → Bool} (h : k < l.length) (hp : p (l.getD k 0) = true) : (l.take (k + 1)).filter p = (l.take k).filter p ++ [l.getD k 0] := by
 rw [Ad (d := 0) h, List.filter_append, List.filter_cons, if_pos hp, List.filter_nil]
theorem D6k {l : List Int} {k : Nat} {p : Int → Bool} (h : k < l.length) (hp : p (l.getD k 0) = false) : (l.take (k + 1)).filter p = (l.take k).filter p := by
 rw [Ad (d := 0) h, List.filter_append, List.filter_cons, if_neg (by rw [hp]; decide), List.filter_nil, List.append_nil]
theorem D5z {s : Nat} : ∀ x, x ∈ A3 s → 0 ≤ x ∧ x < 24 := fun x hx => ⟨(He.mp hx).1, (He.mp hx).2.1⟩
theorem D1q (s : Nat) : (A3 s).length ≤ 24 := by
 unfold A3 Bv
 rw [List.length_map]
 exact Nat.le_trans (List.length_filter_le _ _) E5
def L9 (c : Cl) (i : Nat) : List Cl := (if c.pos.testBit i then [⟨0, E8 i⟩] else []) ++ if c.neg.testBit i then [⟨E8 i, 0⟩] else []
def Ft (c : Cl) (n : Nat) : List Cl := (List.range n).flatMap (L9 c)
theorem Qb (c : Cl) (n : Nat) : Ft c (n + 1) = Ft c n ++ L9 c n := by
 unfold Ft
 rw [List.range_succ, List.flatMap_append]
 simp
theorem B6p (c : Cl) (i : Nat) : (L9 c i).length ≤ 2 := by
 unfold L9
 split <;> split <;> simp
theorem Wa (c : Cl) : ∀ n, (Ft c n).length ≤ 2 * n
 | 0 => by simp [Ft]
 | n + 1 => by
  rw [Qb, List.length_append]
  have := Wa c n
  have := B6p c n
  omega
theorem B4g {c d : Cl} {n : Nat} : d ∈ Ft c n ↔ ∃ i, i < n ∧ (c.pos.testBit i = true ∧ d = ⟨0, E8 i⟩ ∨ c.neg.testBit i = true ∧ d = ⟨E8 i, 0⟩) := by
 unfold Ft
 rw [List.mem_flatMap]
 constructor
 ·rintro ⟨i, hi, hd⟩
  refine ⟨i, List.mem_range.mp hi, ?_⟩
  unfold L9 at hd
  rcases List.mem_append.mp hd with hd | hd
  ·split at hd
   ·rename_i h; exact .inl ⟨h, by simpa using hd⟩
   ·cases hd
  ·split at hd
   ·rename_i h; exact .inr ⟨h, by simpa using hd⟩
   ·cases hd
 ·rintro ⟨i, hi, h⟩
  refine ⟨i, List.mem_range.mpr hi, ?_⟩
  unfold L9
  rcases h with ⟨h1, rfl⟩ | ⟨h1, rfl⟩
  ·rw [if_pos h1]; exact List.mem_append_left _ List.mem_cons_self
  ·rw [if_pos h1]; exact List.mem_append_right _ List.mem_cons_self
theorem Ut (c : Cl) (n : Nat) : (Ft c n).all Ao = true := List.all_eq_true.mpr fun d hd => by
 obtain ⟨i, _, h⟩ := B4g.mp hd
 have := Ln (i : Int)
 rcases h with ⟨_, rfl⟩ | ⟨_, rfl⟩
 ·exact Cw.mpr ⟨by show (0 : Nat) < _; omega, this⟩
 ·exact Cw.mpr ⟨this, by show (0 : Nat) < _; omega⟩
theorem C5k (c : Cl) : (A0i c).all Ao = true := List.all_eq_true.mpr fun d hd => by
 unfold A0i at hd
 rcases List.mem_append.mp hd with hd | hd
 ·obtain ⟨x, _, rfl⟩ := List.mem_map.mp hd
  exact Cw.mpr ⟨by show (0 : Nat) < _; omega, Ln _⟩
 ·obtain ⟨x, _, rfl⟩ := List.mem_map.mp hd
  exact Cw.mpr ⟨Ln _, by show (0 : Nat) < _; omega⟩
theorem D5x {c d : Cl} : d ∈ A0i c ↔ d ∈ Ft c 24 := by
 rw [B4g]
 unfold A0i
 rw [List.mem_append, List.mem_map, List.mem_map]
 constructor
 ·rintro (⟨x, hx, rfl⟩ | ⟨x, hx, rfl⟩)
  ·obtain ⟨h1, h2, h3⟩ := He.mp hx
   exact ⟨x.toNat, by omega, .inl ⟨h3, by rw [Int.toNat_of_nonneg h1]⟩⟩
  ·obtain ⟨h1, h2, h3⟩ := He.mp hx
   exact ⟨x.toNat, by omega, .inr ⟨h3, by rw [Int.toNat_of_nonneg h1]⟩⟩
 ·rintro ⟨i, hi, ⟨h, rfl⟩ | ⟨h, rfl⟩⟩
  ·exact .inl ⟨i, He.mpr ⟨by omega, by omega, by rw [Int.toNat_natCast]; exact h⟩, rfl⟩
  ·exact .inr ⟨i, He.mpr ⟨by omega, by omega, by rw [Int.toNat_natCast]; exact h⟩, rfl⟩
theorem A1g (c : Cl) : Ax (Ft c 24) = Qk c :=
 B8m (fun _ _ => True) (Ut c 24) (C5k c) (fun _ _ => trivial) (fun _ _ => trivial) fun P N _ => by
  unfold sat
  exact exists_congr fun d => and_congr_left fun _ => D5x.symm
theorem Wu (c : Cl) : (Qk c).1 = 0 := by
 rw [← A1g]
 exact Zs (Ut c 24) (by have := Wa c 24; omega)
theorem D4m {i : Nat} (h : i < 24) : Hs [(i : Int)] = E8 i := by
 unfold E8
 rw [if_pos A2]
 simp [Hs]
def Fe (f g : List Cl) (i : Nat) : List Cl := I3 (f.take i) g
theorem A6v {f g : List Cl} {i : Nat} (h : i < f.length) : Fe f g (i + 1) = Fe f g i ++ g.map (Db (f.getD i A4)) := by
 unfold Fe I3
 rw [Ad (d := A4) h, List.flatMap_append]
 simp
theorem B4h {f g : List Cl} : ∀ i, (Fe f g i).length ≤ i * g.length
 | 0 => by simp [Fe, I3]
 | i + 1 => by
  have := B4h (f := f) (g := g) i
  by_cases h : i < f.length
  ·rw [A6v h, List.length_append, List.length_map, Nat.add_mul, Nat.one_mul]; omega
  ·have e : Fe f g (i + 1) = Fe f g i := by unfold Fe; rw [List.take_of_length_le A2, List.take_of_length_le A2]
   rw [e, Nat.add_mul]; omega
def Bn (f g : List Cl) : EL := if (Aa f && Aa g) = false then (2, []) else Hn f g
def Lj (f g : List Cl) (i k : Nat) : List Cl := Fe f g i ++ (g.take k).map (Db (f.getD i A4))
theorem Ma (f g : List Cl) (i : Nat) : Lj f g i 0 = Fe f g i := by simp [Lj]
theorem A2r {f g : List Cl} {i k : Nat} (h : k < g.length) : Lj f g i (k + 1) = Lj f g i k ++ [Db (f.getD i A4) (g.getD k A4)] := by
 unfold Lj
 rw [Ad (d := A4) h, List.map_append, List.append_assoc]
 rfl
theorem A6x {f g : List Cl} {i : Nat} (h : i < f.length) : Fe f g (i + 1) = Lj f g i g.length := by
 rw [A6v h]; unfold Lj; rw [List.take_length]
theorem Tm {f g : List Cl} {i k : Nat} (hi : i ≤ f.length) (hf : f.length ≤ 64) (hg : g.length ≤ 64) : (Lj f g i k).length ≤ 5000 := by
 have h1 := B4h (f := f) (g := g) i
 have h2 : i * g.length ≤ 64 * 64 := Nat.mul_le_mul A2 hg
 unfold Lj
 rw [List.length_append, List.length_map, List.length_take]
 omega
theorem A2p (f g : List Cl) : Fe f g f.length = I3 f g := by unfold Fe; rw [List.take_length]
theorem X2 {f g : List Cl} {i : Nat} (hf : f.all Ao = true) (hg : g.all Ao = true) : (Fe f g i).all Ao = true :=
 A8f (List.all_eq_true.mpr fun c hc => List.all_eq_true.mp hf c (List.mem_of_mem_take hc)) hg
def Dk (f g : List Cl) : EL := if (Aa f && Aa g) = false then (2, []) else Ff f g
theorem D9z (c : Cl) : Aa (Qk c).2 = true := Gl (Wu c)
theorem D1m {h : List Cl} {c : Cl} (hr : Aa h = true) : Bn h (Qk c).2 = D5 h c := by
 unfold Bn D5
 rw [if_neg (by simp [hr, D9z]), Cc (Wu c)]
theorem B8h {f g : List Cl} (h : (Hn f g).1 ≠ 0) : (Hn f g).2 = [] := P5 h
def Yn (f : List Cl) (i : Nat) (h : List Cl) (e : Int) : Prop := (e = 0 ∧ K3 f = Cy D5 h (f.drop i) ∧ Aa h = true) ∨ (e ≠ 0 ∧ K3 f = (e, h))
theorem D1j (f : List Cl) : Yn f 0 [⟨0, 0⟩] 0 := .inl ⟨rfl, rfl, by decide⟩
theorem D1i {f h : List Cl} {i : Nat} (hi : i < f.length) (hv : Yn f i h 0) : Yn f (i + 1) (Bn h (Qk (f.getD i A4)).2).2 (Bn h (Qk (f.getD i A4)).2).1 := by
 rcases hv with ⟨_, h1, h2⟩ | ⟨h1, _⟩
 ·rw [D1m h2]
  rw [Md A4 hi, Cy] at h1
  by_cases h0 : (D5 h (f.getD i A4)).1 = 0
  ·rw [Cc h0] at h1
   refine .inl ⟨h0, h1, ?_⟩
   unfold D5 at h0 ⊢
   rw [Cc (Wu _)] at h0 ⊢
   exact Gl h0
  ·rw [Cd h0] at h1
   refine .inr ⟨h0, ?_⟩
   have : (D5 h (f.getD i A4)).2 = [] := by
    unfold D5 at h0 ⊢
    rw [Cc (Wu _)] at h0 ⊢
    exact B8h h0
   rw [h1, this]
 ·exact absurd rfl h1
theorem D5v {f h : List Cl} {i : Nat} {e : Int} (hv : Yn f i h e) (hi : e = 0 → f.length ≤ i) : K3 f = (e, h) := by
 rcases hv with ⟨h0, h1, _⟩ | ⟨_, h1⟩
 ·rw [h1, List.drop_eq_nil_of_le (hi h0), h0]; rfl
 ·exact h1
theorem C1u {f : List Cl} (h : Aa f = true) : Lp f = Ax (Fu f) := by
 unfold Lp
 rw [if_pos h, Yf (Hv h)]
theorem D0u {f : List Cl} (h : Aa f = false) : Lp f = (2, []) := by
 unfold Lp
 rw [if_neg (by simp [h])]
theorem B8f {f : List Cl} (h : (D6 f).1 = 0) : Aa (D6 f).2 = true := by
 unfold D6 at h ⊢
 split at h
 ·rename_i h1
  rw [if_pos h1]
  exact A2m h
 ·cases h
theorem C3r {f : List Cl} (h : (D6 f).1 = 0) : Bc f = Ax (Fu (D6 f).2) := by
 unfold Bc
 rw [Cc h, C1u (B8f h)]
theorem C7u {f : List Cl} (h : (D6 f).1 ≠ 0) : Bc f = ((D6 f).1, []) := Cd h
theorem C8l {c : Cl} : (Ao c && !Lg c) = single c := by
 unfold single
 cases h : Ao c with
 | false => rfl
 | true => rw [Ti h]
def Ay (f g : List Cl) : EL := if (A8 f && A8 g) = false then (2, []) else Ax (Fu (I3 f g))
def E9 (i : Int) (r : List Cl) (c : Cl) : EL := if Bu c.pos i = true then Bn [A9 c i] r else (0, [A9 c i])
def De (i : Int) (r : List Cl) (c : Cl) : EL := if (E9 i r c).1 = 0 ∧ Bu c.neg i = true then (if (D6 r).1 = 0 then Bn (E9 i r c).2 (D6 r).2 else ((D6 r).1, (E9 i r c).2)) else E9 i r c
def Bl (i : Int) (r h : List Cl) (c : Cl) : EL := if (De i r c).1 = 0 then Dk h (De i r c).2 else ((De i r c).1, h)
theorem A2q {f g : List Cl} (h : Aa f = true) (h2 : Aa g = true) : Bn f g = Hn f g := by unfold Bn; rw [if_neg (by simp [h, h2])]
theorem A3b {f g : List Cl} (h : Aa f = true) (h2 : Aa g = true) : Dk f g = Ff f g := by unfold Dk; rw [if_neg (by simp [h, h2])]
theorem A8v {c : Cl} (i : Int) : Aa [A9 c i] = true := E2v (A9n c i)
theorem C9b {i : Int} {r : List Cl} {c : Cl} (hr : Aa r = true) : E9 i r c = Dq i r c ∧ ((Dq i r c).1 = 0 → Aa (Dq i r c).2 = true) := by
 unfold E9 Dq
 split
 ·rw [A2q (A8v i) hr]
  exact ⟨rfl, fun h => Gl h⟩
 ·exact ⟨rfl, fun _ => A8v i⟩
theorem C0t {i : Int} {r h : List Cl} {c : Cl} (hr : Aa r = true) (hh : Aa h = true) : (Bl i r h c).1 = (C2 i r h c).1 ∧ ((C2 i r h c).1 = 0 → (Bl i r h c).2 = (C2 i r h c).2 ∧ Aa (C2 i r h c).2 = true) ∧ ((C2 i r h c).1 ≠ 0 → (C2 i r h c).2 = []) := by
 obtain ⟨p1, p2⟩ := C9b (i := i) (c := c) hr
 have hn : D6 r = K3 r := by unfold D6; rw [if_pos hr]
 have q1 : ∀ (x : EL), De i r c = x → Bl i r h c = if x.1 = 0 then Dk h x.2 else (x.1, h) := fun x hx => by unfold Bl; rw [hx]
 by_cases a1 : (Dq i r c).1 = 0
 ·by_cases a2 : Bu c.neg i = true
  ·by_cases a3 : (K3 r).1 = 0
   ·have e2 : De i r c = Hn (Dq i r c).2 (K3 r).2 := by
     unfold De
     rw [p1, hn, if_pos ⟨a1, a2⟩, if_pos a3, A2q (p2 a1) (A2m a3)]
    have e3 : Hc i r c (Dq i r c).2 = Hn (Dq i r c).2 (K3 r).2 := by
     unfold Hc
     rw [if_pos a2, Cc a3]
    rw [q1 _ e2]
    by_cases a4 : (Hn (Dq i r c).2 (K3 r).2).1 = 0
    ·rw [if_pos a4, A3b hh (show Aa (Hn (Dq i r c).2 (K3 r).2).2 = true from Gl a4), Kn rfl a1 e3 a4]
     exact ⟨rfl, fun h0 => ⟨rfl, Gl h0⟩, fun h0 => P5 h0⟩
    ·rw [if_neg a4, Ja rfl a1 e3 a4]
     exact ⟨rfl, fun h0 => absurd h0 a4, fun _ => rfl⟩
   ·have e2 : De i r c = ((K3 r).1, (Dq i r c).2) := by
     unfold De
     rw [p1, hn, if_pos ⟨a1, a2⟩, if_neg a3]
    have e3 : Hc i r c (Dq i r c).2 = ((K3 r).1, []) := by
     unfold Hc
     rw [if_pos a2, Cd a3]
    rw [q1 _ e2, if_neg a3, Ja rfl a1 e3 a3]
    exact ⟨rfl, fun h0 => absurd h0 a3, fun _ => rfl⟩
  ·have e2 : De i r c = Dq i r c := by
    unfold De
    rw [p1, if_neg (fun h => a2 h.2)]
   have e3 : Hc i r c (Dq i r c).2 = (0, (Dq i r c).2) := by
    unfold Hc
    rw [if_neg a2]
   rw [q1 _ e2, if_pos a1, A3b hh (p2 a1), Kn rfl a1 e3 rfl]
   exact ⟨rfl, fun h0 => ⟨rfl, Gl h0⟩, fun h0 => P5 h0⟩
 ·have e2 : De i r c = Dq i r c := by
   unfold De
   rw [p1, if_neg (fun h => a1 h.1)]
  rw [q1 _ e2, if_neg a1, Wp rfl a1]
  exact ⟨rfl, fun h0 => absurd h0 a1, fun _ => rfl⟩
def Yg (f : List Cl) (i : Int) (r : List Cl) (k : Nat) (h : List Cl) : Prop := B5 f i r = Cy (C2 i r) h (f.drop k) ∧ Aa h = true ∧ Aa r = true
theorem Gj {f r h : List Cl} {i : Int} {k : Nat} (hk : k < f.length) (hv : Yg f i r k h) (h0 : (Bl i r h (f.getD k A4)).1 = 0) : Yg f i r (k + 1) (Bl i r h (f.getD k A4)).2 := by
 obtain ⟨v1, v2, v3⟩ := hv
 obtain ⟨e1, e2, _⟩ := C0t (i := i) (c := f.getD k A4) v3 v2
 rw [e1] at h0
 obtain ⟨e4, e5⟩ := e2 h0
 rw [Md A4 hk, Cy, Cc h0] at v1
 rw [e4]
 exact ⟨v1, e5, v3⟩
theorem I1 {f r h : List Cl} {i : Int} {k : Nat} (hk : k < f.length) (hv : Yg f i r k h) (h0 : (Bl i r h (f.getD k A4)).1 ≠ 0) : B5 f i r = ((Bl i r h (f.getD k A4)).1, []) := by
 obtain ⟨v1, v2, v3⟩ := hv
 obtain ⟨e1, _, _⟩ := C0t (i := i) (c := f.getD k A4) v3 v2
 rw [e1] at h0 ⊢
 rw [v1, Md A4 hk, Cy, Cd h0]
theorem C9a {f r h : List Cl} {i : Int} {k : Nat} (hk : f.length ≤ k) (hv : Yg f i r k h) : B5 f i r = (0, h) := by
 rw [hv.1, List.drop_eq_nil_of_le hk]; rfl
theorem C4m {f r : List Cl} {i : Int} (hf : Aa f = true) (hr : Aa r = true) (hi : Gc i = true) : Yg f i r 0 [] := by
 refine ⟨?_, by decide, hr⟩
 unfold B5
 rw [if_neg (by simp [hf, hr]), if_neg (by simp [hi])]
 rfl
def Ci (i : Int) (r : List Cl) (c : Cl) : EL := if Bu c.neg i = true then Bc r else if Bu c.pos i = true then Lp r else (0, [A4])
def Co (i : Int) (r : List Cl) (c : Cl) : EL := if (Ci i r c).1 = 0 then Ay [A9 c i] (Ci i r c).2 else ((Ci i r c).1, [A9 c i])
def B6 (i : Int) (r h : List Cl) (c : Cl) : EL := if (Co i r c).1 = 0 then C5 h (Co i r c).2 else ((Co i r c).1, h)
theorem C4c {c : Cl} {i : Int} (h : Eg c = false) : A8 [A9 c i] = true := Qt (A8v i) fun d hd => by
 rw [List.mem_singleton] at hd
 subst hd
 exact A3v h
theorem B4a {r : List Cl} (h : (Lp r).1 = 0) : A8 (Lp r).2 = true := by
 unfold Lp at h ⊢
 split at h
 ·rename_i h1
  rw [if_pos h1]
  exact Qt (Gl h) fun c hc => by
   have := O5 h hc
   have := (List.mem_filter.mp this).2
   simpa using this
 ·cases h
theorem B3z {r : List Cl} (h : (Bc r).1 = 0) : A8 (Bc r).2 = true := by
 unfold Bc at h ⊢
 obtain ⟨a1, a2, a3⟩ := Dy h
 rw [a3]
 exact B4a a2
theorem B9o {f g : List Cl} : Er (I3 f g) = f.flatMap fun a => Er (g.map fun b => Db a b) := by
 unfold Er I3
 rw [List.filter_flatMap]
theorem Po {f g : List Cl} (h : A8 f = true) (h2 : A8 g = true) : Ay f g = Jk f g := by
 unfold Ay Jk
 rw [if_neg (by simp [h, h2]), Yf (A8f (Hv (Dg h).1) (Hv (Dg h2).1)), B9o]
theorem A2s {f g : List Cl} (h : (Jk f g).1 = 0) : A8 (Jk f g).2 = true := by
 unfold Jk at h ⊢
 exact Qt (Gl h) fun c hc => by
  obtain ⟨a, _, h2⟩ := List.mem_flatMap.mp (O5 h hc)
  have := (List.mem_filter.mp h2).2
  simpa using this
theorem C5x {d : Cl} (h : A8 [d] = true) : Jk [d] [A4] = (0, [d]) := by
 rw [Tn]
 have e : Db d A4 = d := by unfold Db A4; simp
 have e2 : Er ([A4].map fun b => Db d b) = [d] := by
  rw [List.map_cons, List.map_nil, e]
  exact A3x fun c hc => (Dg h).2 c hc
 rw [e2]
 exact Uj.mp (Dg h).1
theorem C9m {i : Int} {r : List Cl} {c : Cl} (hcl : Eg c = false) : (Co i r c).1 = (Ce i r c).1 ∧ ((Ce i r c).1 = 0 → Co i r c = Ce i r c ∧ A8 (Ce i r c).2 = true) := by
 have ht := C4c (i := i) hcl
 by_cases hp : Bu c.pos i = true
 ·have hn := has_both hcl hp
  have e1 : Ci i r c = Lp r := by unfold Ci; rw [if_neg (by simp [hn]), if_pos hp]
  unfold Ce Co
  rw [if_pos hp, e1]
  by_cases h0 : (Lp r).1 = 0
  ·rw [if_pos h0, Cc h0, Po ht (B4a h0)]
   exact ⟨rfl, fun h => ⟨rfl, A2s h⟩⟩
  ·rw [if_neg h0, Cd h0]
   exact ⟨rfl, fun h => absurd h h0⟩
 ·by_cases hn : Bu c.neg i = true
  ·have e1 : Ci i r c = Bc r := by unfold Ci; rw [if_pos hn]
   unfold Ce Co
   rw [if_neg hp, if_pos hn, e1]
   by_cases h0 : (Bc r).1 = 0
   ·rw [if_pos h0, Cc h0, Po ht (B3z h0)]
    exact ⟨rfl, fun h => ⟨rfl, A2s h⟩⟩
   ·rw [if_neg h0, Cd h0]
    exact ⟨rfl, fun h => absurd h h0⟩
  ·have e1 : Ci i r c = (0, [A4]) := by unfold Ci; rw [if_neg hn, if_neg hp]
   unfold Ce Co
   rw [if_neg hp, if_neg hn, e1, if_pos rfl, Po ht Jp, C5x ht]
   exact ⟨rfl, fun _ => ⟨rfl, ht⟩⟩
theorem B8o {f g : List Cl} (h : A8 f = true) (h2 : A8 g = true) : C5 f g = Ff f g := by unfold C5; rw [if_neg (by simp [h, h2])]
theorem C0x {i : Int} {r h : List Cl} {c : Cl} (hcl : Eg c = false) (hh : A8 h = true) : (B6 i r h c).1 = (C6 i r h c).1 ∧ ((C6 i r h c).1 = 0 → (B6 i r h c).2 = (C6 i r h c).2 ∧ A8 (C6 i r h c).2 = true) ∧ ((C6 i r h c).1 ≠ 0 → (C6 i r h c).2 = []) := by
 obtain ⟨p1, p2⟩ := C9m (i := i) (r := r) hcl
 unfold B6
 by_cases a1 : (Ce i r c).1 = 0
 ·obtain ⟨p3, p4⟩ := p2 a1
  rw [p3, if_pos a1, Kx rfl a1, ← B8o hh p4]
  exact ⟨rfl, fun h0 => ⟨rfl, (C6l h0).2⟩, fun h0 => C6m h0⟩
 ·rw [if_neg (by rw [p1]; exact a1), Fy rfl a1]
  exact ⟨p1, fun h0 => absurd h0 a1, fun _ => rfl⟩
def Yw (f : List Cl) (i : Int) (r : List Cl) (k : Nat) (h : List Cl) : Prop := Aw f i r = Cy (C6 i r) h (f.drop k) ∧ A8 h = true ∧ A8 f = true
theorem Es {f r h : List Cl} {i : Int} {k : Nat} (hk : k < f.length) (hv : Yw f i r k h) (h0 : (B6 i r h (f.getD k A4)).1 = 0) : Yw f i r (k + 1) (B6 i r h (f.getD k A4)).2 := by
 obtain ⟨v1, v2, v3⟩ := hv
 obtain ⟨e1, e2, _⟩ := C0x (i := i) (r := r) ((Dg v3).2 _ (Ac (d := A4) hk)) v2
 rw [e1] at h0
 obtain ⟨e4, e5⟩ := e2 h0
 rw [Md A4 hk, Cy, Cc h0] at v1
 rw [e4]
 exact ⟨v1, e5, v3⟩
theorem Fv {f r h : List Cl} {i : Int} {k : Nat} (hk : k < f.length) (hv : Yw f i r k h) (h0 : (B6 i r h (f.getD k A4)).1 ≠ 0) : Aw f i r = ((B6 i r h (f.getD k A4)).1, []) := by
 obtain ⟨v1, v2, v3⟩ := hv
 obtain ⟨e1, _, _⟩ := C0x (i := i) (r := r) ((Dg v3).2 _ (Ac (d := A4) hk)) v2
 rw [e1] at h0 ⊢
 rw [v1, Md A4 hk, Cy, Cd h0]
theorem C9l {f r h : List Cl} {i : Int} {k : Nat} (hk : f.length ≤ k) (hv : Yw f i r k h) : Aw f i r = (0, h) := by
 rw [hv.1, List.drop_eq_nil_of_le hk]; rfl
theorem C4q {f r : List Cl} {i : Int} (hf : A8 f = true) (hr : Aa r = true) (hi : Gc i = true) : Yw f i r 0 [] := by
 refine ⟨?_, by decide, hf⟩
 unfold Aw
 rw [if_neg (by simp [hf, hr, hi])]
 rfl
def C7c (f : List Cl) (j : Int) : List Cl := f.map fun c => ⟨C2v c.pos j, C2v c.neg j⟩
def M5 (p : Bool) (i : Int) (r : List Cl) (d : Int) (f : List Cl) : EL := if p = true then Cn Aw i r d f else Cn B5 i r d f
def A5c (i : Int) (x : EL) (d : Int) : EL := J0 x fun f => Ax (C7c f (i + d))
def M0 (i : Int) (r : List Cl) (b : Bool) : E3 := if b = true then ⟨fun d f => A5c i (Cn B5 i r d f) d, fun d f => A5c i (Cn Aw i r d f) d⟩ else Mq i r
def Og (i : Int) (r : List Cl) (b : Bool) (t : T) (d : Int) : T := match Cq (Bg (M0 i r b)) t d with
 | .ok u => u
 | .bad e => J9 e
theorem C1a {i : Int} {r : List Cl} {b : Bool} {t u : T} {d : Int} (h : Cq (Bg (M0 i r b)) t d = .ok u) : Og i r b t d = u := by unfold Og; rw [h]
theorem Si {i : Int} {r : List Cl} {b : Bool} {t : T} {d e : Int} (h : Cq (Bg (M0 i r b)) t d = .bad e) : Og i r b t d = J9 e := by unfold Og; rw [h]
theorem C7b (f : List Cl) (j : Int) : (C7c f j).all Ao = true := List.all_eq_true.mpr fun c hc => by
 obtain ⟨e, _, rfl⟩ := List.mem_map.mp hc
 exact Cw.mpr ⟨B5p _ _, B5p _ _⟩
theorem D3e {f : List Cl} {j : Int} (h : f.length ≤ 64) : (Ax (C7c f j)).1 = 0 := Zs (C7b f j) (by unfold C7c; rw [List.length_map]; exact h)
theorem D6l (j : Int) : Ax (C7c [] j) = (0, []) := rfl
theorem C0d (i : Int) (r : List Cl) : M0 i r false = Mq i r := rfl
theorem B1v {i : Int} {r : List Cl} {d : Int} {f : List Cl} : (M0 i r true).form d f = A5c i (Cn B5 i r d f) d := rfl
theorem B1w {i : Int} {r : List Cl} {d : Int} {f : List Cl} : (M0 i r true).B1 d f = A5c i (Cn Aw i r d f) d := rfl
theorem Xl {i d : Int} {x : EL} (h : x.1 ≠ 0) : A5c i x d = (x.1, []) := Cd h
theorem D6m {i d : Int} {x : EL} (h : x.1 = 0) (h2 : x.2.length ≤ 64) : A5c i x d = (0, (Ax (C7c x.2 (i + d))).2) := by
 unfold A5c
 rw [Cc h]
 exact Prod.ext (D3e h2) rfl
structure A8j (W : E3) : Prop where
 form : ∀ d f, 0 ≤ d → Aa f = true → (W.form d f).1 = 0 → Aa (W.form d f).2 = true
 B1 : ∀ d f, 0 ≤ d → A8 f = true → (W.B1 d f).1 = 0 → A8 (W.B1 d f).2 = true
 nil : ∀ d, W.form d [] = (0, [])
theorem A3a (i : Int) (r : List Cl) : A8j (Mq i r) where
 form := fun d f hd hf h0 => (B2p (P := fun _ => True) (N := fun _ => True) hf (Prod.ext h0 rfl)).1
 B1 := fun d f hd hf h0 => (B2q hf (Prod.ext h0 rfl)).1
 nil := fun d => C9r (by unfold Bu Dl; simp)
theorem C9c {W : E3} (hW : A8j W) {k n d : Int} {nm : ByteArray} {r : List Cl} (hd : 0 ≤ d) (h : Sy k n nm r) (h0 : (W.row k d r).1 = 0) : Sy k n nm (W.row k d r).2 := by
 have h9 := h
 obtain ⟨h1, h2, h3, h4, h5, h6, h7⟩ := h
 obtain ⟨q1, q2⟩ := B8r h9
 unfold E3.row at h0 ⊢
 by_cases e : k = 14
 ·rw [if_pos e] at h0 ⊢
  exact ⟨h1, h2, fun h => by omega, fun h => by omega, fun h => by omega, fun _ => hW.B1 d r hd (h6 e) h0, fun h => by omega⟩
 ·rw [if_neg e] at h0 ⊢
  refine ⟨h1, h2, fun h => ⟨?_, (h3 h).2⟩, fun h => ⟨?_, (h4 h).2⟩, fun h => hW.form d r hd q2 h0, fun h => absurd h e, fun h => ?_⟩
  ·rw [(h3 h).1, hW.nil]
  ·rw [(h4 h).1, hW.nil]
  ·rw [h7 h, hW.nil]
section
variable {W : E3}
mutual
theorem O6 (hW : A8j W) : ∀ {t u : T} {d : Int}, 0 ≤ d → Ep t → Cq (Bg W) t d = .ok u → Ep u
 | .mk k n nm r ks ss, u, d, hd, h, hu => by
  simp only [Ep] at h
  obtain ⟨h1, h2, h3, h4, h5⟩ := h
  rw [Mg] at hu
  simp only [T.kind, T.n, T.name, T.r, T.kids, T.sys] at hu
  obtain ⟨o, h9, hu⟩ := B9.Ai hu
  cases o with
  | inl v => exact absurd h9 N4
  | inr p =>
   obtain ⟨a1, a2⟩ := Wo.mp h9
   obtain ⟨ks', h10, hu⟩ := B9.Ai hu
   obtain ⟨ss', h11, hu⟩ := B9.Ai hu
   injection hu with hu
   subst hu
   simp only [Ep]
   have hr := C9c hW hd h1 (by rw [a1])
   rw [a1] at hr
   refine ⟨by rw [a2]; exact hr, by rw [Nd h10]; exact h2, fun h => ?_, Zu hW hd h4 h10, Sw hW hd h5 h11⟩
   have h12 := M1 h11
   rw [h3 h] at h12
   exact List.eq_nil_of_length_eq_zero (Nat.le_zero.mp h12)
theorem Zu (hW : A8j W) {kd : Int} : ∀ {ts : List T} {i : Nat} {d : Int} {us : List T}, 0 ≤ d → Lv ts → Fb (Bg W) kd i ts d = .ok us → Lv us
 | [], i, d, us, hd, h, hu => by rw [Gh] at hu; injection hu with hu; subst hu; simp only [Lv]
 | t :: ts, i, d, us, hd, h, hu => by
  simp only [Lv] at h
  rw [G6] at hu
  obtain ⟨c', h1, hu⟩ := B9.Ai hu
  obtain ⟨t', h2, hu⟩ := B9.Ai hu
  obtain ⟨ts', h3, hu⟩ := B9.Ai hu
  injection hu with hu
  subst hu
  injection h1 with h1
  subst h1
  have hb := (Oc kd i).2.2.1
  simp only [Lv]
  exact ⟨O6 hW A2 h.1 h2, Zu hW hd h.2 h3⟩
theorem Zt (hW : A8j W) {kd : Int} : ∀ {ts : List T} {d : Int} {us : List T}, 0 ≤ d → Lv ts → Ee (Bg W) kd ts d = .ok us → Lv us
 | [], d, us, hd, h, hu => by rw [Gg] at hu; injection hu with hu; subst hu; simp only [Lv]
 | t :: ts, d, us, hd, h, hu => by
  simp only [Lv] at h
  rw [G5] at hu
  obtain ⟨c', h1, hu⟩ := B9.Ai hu
  obtain ⟨t', h2, hu⟩ := B9.Ai hu
  obtain ⟨ts', h3, hu⟩ := B9.Ai hu
  injection hu with hu
  subst hu
  injection h1 with h1
  subst h1
  have hb := (X1 kd).1
  simp only [Lv]
  exact ⟨O6 hW (by dsimp only; omega) h.1 h2, Zt hW hd h.2 h3⟩
theorem Sw (hW : A8j W) {kd : Int} : ∀ {bs : List Br} {d : Int} {us : List Br}, 0 ≤ d → T1 kd bs → F6 (Bg W) kd bs d = .ok us → T1 kd us
 | [], d, us, hd, h, hu => by rw [G2] at hu; injection hu with hu; subst hu; simp only [T1]
 | .mk f ks :: bs, d, us, hd, h, hu => by
  simp only [T1] at h
  obtain ⟨h1, h2, h3, h4⟩ := h
  rw [G7] at hu
  simp only [Br.B1, Br.kids] at hu
  obtain ⟨o, h5, hu⟩ := B9.Ai hu
  cases o with
  | none => exact Sw hW hd h4 hu
  | some f' =>
   obtain ⟨e1, _⟩ := Kd.mp h5
   obtain ⟨ks', h6, hu⟩ := B9.Ai hu
   obtain ⟨bs', h7, hu⟩ := B9.Ai hu
   injection hu with hu
   subst hu
   simp only [T1]
   have hf := hW.B1 d f hd h2 (by rw [e1])
   rw [e1] at hf
   exact ⟨by rw [Nc h6]; exact h1, hf, Zt hW hd h3 h6, Sw hW hd h4 h7⟩
end
end
section
variable {i : Int} {r : List Cl}
theorem D4e {k d : Int} {rr : List Cl} : (M0 i r true).row k d rr = A5c i ((Mq i r).row k d rr) d := by
 unfold E3.row
 split
 ·exact B1w
 ·exact B1v
end
def pE (x : EL) : Prop := 0 ≤ x.1 ∧ x.1 ≤ 10
theorem B3s (l : List Cl) : pE ((0, l) : EL) := ⟨Int.le_refl 0, by show (0 : Int) ≤ 10; omega⟩
theorem A2f (l : List Cl) : pE ((2, l) : EL) := ⟨by show (0 : Int) ≤ 2; omega, by show (2 : Int) ≤ 10; omega⟩
theorem It (l : List Cl) : pE (Ax l) := by rcases Hu l with h | h | h <;> exact ⟨by omega, by omega⟩
theorem K9 {x : EL} {k : List Cl → EL} (hx : pE x) (hk : ∀ g, pE (k g)) : pE (J0 x k) := by
 unfold J0
 split
 ·exact ⟨hx.1, hx.2⟩
 ·exact hk _
theorem A0p {g : List Cl → Cl → EL} (hg : ∀ h c, pE (g h c)) : ∀ {l h : List Cl}, pE (Cy g h l)
 | [], h => B3s h
 | c :: cs, h => by rw [Cy]; exact K9 (hg h c) fun h' => A0p hg
theorem D5i (f : List Cl) (a b : Int) : pE (An f a b) := ⟨Xb, A0s⟩
theorem C1l (f : List Cl) : pE (K3 f) := A0p fun h c => K9 (It _) fun o => It _
theorem D0l (f : List Cl) : pE (Lp f) := by
 unfold Lp
 split
 ·exact It _
 ·exact A2f _
theorem C5i (f : List Cl) : pE (Bc f) := K9 (by
 unfold D6
 split
 ·exact C1l _
 ·exact A2f _) D0l
theorem V6 (f : List Cl) (i : Int) (r : List Cl) : pE (B5 f i r) := by
 unfold B5
 split
 ·exact A2f _
 ·split
  ·exact A2f _
  ·refine A0p fun h c => K9 ?_ fun g => K9 ?_ fun g => It _
   ·unfold Dq
    split
    ·exact It _
    ·exact B3s _
   ·unfold Hc
    split
    ·exact K9 (C1l _) fun s => It _
    ·exact B3s _
theorem V7 (f : List Cl) (i : Int) (r : List Cl) : pE (Aw f i r) := by
 unfold Aw
 split
 ·exact A2f _
 ·refine A0p fun h c => K9 ?_ fun g => It _
  unfold Ce
  split
  ·exact K9 (D0l _) fun x => It _
  ·split
   ·exact K9 (C5i _) fun x => It _
   ·exact B3s _
theorem Yj {P : List Cl → Int → List Cl → EL} (hP : ∀ f i r, pE (P f i r)) {i d : Int} {r f : List Cl} : pE (Cn P i r d f) := by
 unfold Cn
 split
 ·exact B3s _
 ·exact K9 (D5i _ _ _) fun s => hP _ _ _
def D6v (W : E3) : Prop := ∀ d f, pE (W.form d f) ∧ pE (W.B1 d f)
theorem C1d (i : Int) (r : List Cl) : D6v (Mq i r) := fun d f => ⟨Yj V6, Yj V7⟩
theorem C1c (i : Int) (r : List Cl) (b : Bool) : D6v (M0 i r b) := by
 cases b
 ·exact C1d i r
 ·exact fun d f => ⟨by rw [B1v]; exact K9 (Yj V6) fun f => It _, by rw [B1w]; exact K9 (Yj V7) fun f => It _⟩
theorem C9t {W : E3} (h : D6v W) (k d : Int) (f : List Cl) : pE (W.row k d f) := by
 unfold E3.row
 split
 ·exact (h d f).2
 ·exact (h d f).1
theorem A9s {W : E3} (hW : D6v W) : ∀ (t : T) {d e : Int}, Cq (Bg W) t d = .bad e → 0 < e ∧ e ≤ 10 := T.ind fun t ih d e h => by
 rcases Wb h with h1 | ⟨b, _, h1⟩ | ⟨p, hp, h1 | ⟨c', _, h2⟩⟩
 ·have := Qe.mp h1
  have h2 := C9t hW t.kind d t.r
  unfold pE at h2
  omega
 ·have := P2.mp h1
  have h2 := (hW d b.B1).2
  unfold pE at h2
  omega
 ·cases h1
 ·exact ih p hp h2
theorem C4n {W : E3} {t u : T} {d : Int} (h : Cq (Bg W) t d = .ok u) : u.kind = t.kind := by
 rcases B2a h with h1 | ⟨p, _, h1, _⟩
 ·exact absurd h1 N4
 ·exact h1.1
theorem Qg {i : Int} {r : List Cl} {b : Bool} {t : T} {d : Int} (hf : Ep t) : (Cq (Bg (M0 i r b)) t d = .ok (Og i r b t d) ∧ 0 ≤ (Og i r b t d).kind) ∨ ∃ e, 0 < e ∧ e ≤ 10 ∧ Cq (Bg (M0 i r b)) t d = .bad e ∧ Og i r b t d = J9 e := by
 cases h : Cq (Bg (M0 i r b)) t d with
 | ok u =>
  rw [C1a h]
  exact .inl ⟨rfl, by rw [C4n h]; exact Kw hf⟩
 | bad e => exact .inr ⟨e, (A9s (C1c i r b) t h).1, (A9s (C1c i r b) t h).2, rfl, Si h⟩
theorem B2y (i : Int) (r : List Cl) (k d : Int) (f : List Cl) : M5 (decide (k = 14)) i r d f = (Mq i r).row k d f := by
 unfold M5 E3.row Mq
 by_cases h : k = 14
 ·simp [h]
 ·simp [h]
theorem W9 {i : Int} {r : List Cl} {k d : Int} {f : List Cl} : (M0 i r false).row k d f = M5 (decide (k = 14)) i r d f := (B2y i r k d f).symm
theorem T9 {i : Int} {r : List Cl} {d : Int} {f : List Cl} : (M0 i r false).B1 d f = M5 true i r d f := rfl
theorem B1x {i : Int} {r : List Cl} {k d : Int} {f : List Cl} : (M0 i r true).row k d f = A5c i (M5 (decide (k = 14)) i r d f) d := by rw [D4e, B2y]
theorem Xw {i : Int} {r : List Cl} {d : Int} {f : List Cl} : (M0 i r true).B1 d f = A5c i (M5 true i r d f) d := rfl
theorem C0u {p : Bool} {i d : Int} {r f : List Cl} : pE (M5 p i r d f) := by
 unfold M5
 split
 ·exact Yj V7
 ·exact Yj V6
section
variable {i d k n : Int} {nm : ByteArray} {r f : List Cl} {x : EL}
theorem D0n {b : Bool} (h : x = M5 (decide (k = 14)) i r d f) (h0 : x.1 ≠ 0) : (Bg (M0 i r b)).own d k n nm f = .bad x.1 := by
 subst h
 cases b
 ·rw [R1 (by rw [W9]; exact h0), W9]
 ·rw [R1 (by rw [B1x, Xl h0]; exact h0), B1x, Xl h0]
theorem D5j (h : x = M5 (decide (k = 14)) i r d f) (h0 : x.1 = 0) : (Bg (M0 i r false)).own d k n nm f = .ok (.inr (n, x.2)) := by
 subst h
 rw [Sb (by rw [W9]; exact h0), W9]
theorem C6u {b : Bool} (h : x = M5 true i r d f) (h0 : x.1 ≠ 0) : (Bg (M0 i r b)).B1 d f = .bad x.1 := by
 subst h
 cases b
 ·rw [Pm (by rw [T9]; exact h0), T9]
 ·rw [Pm (by rw [Xw, Xl h0]; exact h0), Xw, Xl h0]
theorem B8x {b : Bool} (h : x = M5 true i r d f) (h0 : x.1 = 0) (hn : x.2.length = 0) : (Bg (M0 i r b)).B1 d f = .ok none := by
 subst h
 have e : M5 true i r d f = (0, []) := Prod.ext h0 (List.eq_nil_of_length_eq_zero hn)
 cases b
 ·exact Nw.mpr (by rw [T9, e])
 ·exact Nw.mpr (by rw [Xw, e]; exact (D6m rfl (Nat.zero_le _)).trans (by rw [D6l]))
theorem D2v (h : x = M5 true i r d f) (h0 : x.1 = 0) (hn : ¬ x.2.length = 0) : (Bg (M0 i r false)).B1 d f = .ok (some x.2) := by
 subst h
 exact Kd.mpr ⟨by rw [T9]; exact Prod.ext h0 rfl, fun e => hn (by rw [e]; rfl)⟩
end
def A3p (x : Int × T) : T := if x.1 = 0 then x.2 else J9 x.1
theorem C4x (i : Int) (r : List Cl) (b : Bool) (t : T) (d : Int) : Og i r b t d = A3p (Lw (Cq (Bg (M0 i r b)) t d)) := by
 unfold Og A3p
 cases h : Cq (Bg (M0 i r b)) t d with
 | ok u => simp [Lw]
 | bad e =>
  have := Se t h
  simp [Lw, this]
theorem C9s (i : Int) (r : List Cl) (t : T) (d : Int) : Og i r false t d = A3p (E1 (Mq i r) t d) := C4x i r false t d
def swapT (i : Int) (r : List Cl) (t : T) : T := if t.kind < 0 then t else Og i r false t 0
def Gz (r : List Cl) (l : List Int) (t : T) : T := l.foldl (fun u i => swapT i r u) t
theorem B2f {r : List Cl} {l : List Int} {t : T} {k : Nat} (h : k < l.length) : Gz r (l.take (k + 1)) t = swapT (l.getD k 0) r (Gz r (l.take k) t) := by
 unfold Gz
 rw [Ad (d := 0) h, List.foldl_append]
 rfl
theorem Zb {r : List Cl} {l : List Int} {t u y : T} {k : Nat} (h : k < l.length) (hu : u = Gz r (l.take k) t) (hy : y = swapT (l.getD k 0) r u) : y = Gz r (l.take (k + 1)) t := by
 rw [hy, hu, B2f h]
def P7 (n : Nat) (t : T) : Prop := (-1000000 ≤ t.kind ∧ t.kind < 0) ∨ (Ep t ∧ size t ≤ n)
theorem B8t {n : Nat} {i : Int} {r : List Cl} {t : T} (h : P7 n t) : P7 n (swapT i r t) := by
 rcases h with h | ⟨h, h2⟩
 ·unfold swapT
  rw [if_pos h.2]
  exact .inl h
 ·unfold swapT
  have hk := Kw h
  rw [if_neg A2]
  rcases Qg (i := i) (r := r) (b := false) (d := 0) h with ⟨h3, h4⟩ | ⟨e, h3, h4, h5, h6⟩
  ·rw [C0d] at h3
   exact .inr ⟨O6 (A3a i r) A2 h h3, Nat.le_trans (Qa h3) h2⟩
  ·rw [h6]
   exact .inl ⟨by show -1000000 ≤ -e; omega, J8 h3⟩
theorem Kt {n : Nat} {r : List Cl} : ∀ {l : List Int} {t : T}, P7 n t → P7 n (Gz r l t)
 | [], t, h => h
 | i :: l, t, h => Kt (l := l) (B8t (i := i) h)
theorem C6q {n : Nat} {t : T} (h : P7 n t) : -1000000 ≤ t.kind := by
 rcases h with h | ⟨h, _⟩
 ·exact h.1
 ·have := Kw h
  omega
def Lz (c : Cl) (t : T) : T := Gz [] (A3 c.neg) (Gz [A4] (A3 c.pos) t)
theorem B5b {n : Nat} {c : Cl} {t : T} (h : P7 n t) : P7 n (Lz c t) := Kt (Kt h)
theorem C8k {e : Int} : size (J9 e) = 1 := by
 rw [R0]
 show 1 + Km [] + Ue [] = 1
 simp [Km, Ue]
theorem Y6 {r : List Cl} {e : Int} (he : 0 < e) : ∀ {l : List Int}, Gz r l (J9 e) = J9 e
 | [] => rfl
 | i :: l => by
  show Gz r l (swapT i r (J9 e)) = _
  rw [show swapT i r (J9 e) = J9 e from if_pos (J8 he)]
  exact Y6 he
theorem C8i {i : Int} {r : List Cl} {t : T} (h : Ep t) : swapT i r t = A3p (E1 (Mq i r) t 0) := by
 have hk := Kw h
 unfold swapT
 rw [if_neg A2, C9s]
theorem C3t {W : E3} {t : T} {d : Int} : (∃ u, Cq (Bg W) t d = .ok u ∧ E1 W t d = (0, u)) ∨ ∃ e, Cq (Bg W) t d = .bad e ∧ E1 W t d = (e, t0) := by
 unfold E1
 cases h : Cq (Bg W) t d with
 | ok u => exact .inl ⟨u, rfl, rfl⟩
 | bad e => exact .inr ⟨e, rfl, rfl⟩
theorem B0x (u : T) : A3p (0, u) = u := if_pos rfl
theorem A3o {e : Int} {u : T} (h : 0 < e) : A3p (e, u) = J9 e := if_neg (by show ¬ e = 0; omega)
theorem B7o (r : List Cl) (i : Int) (l : List Int) (t : T) : F0 r (i :: l) t = We (E1 (Mq i r) t 0) (F0 r l) := rfl
theorem Y5 {r : List Cl} : ∀ {l : List Int} {t : T}, Ep t → Gz r l t = A3p (F0 r l t) ∧ ((F0 r l t).1 = 0 → Ep (F0 r l t).2) ∧ 0 ≤ (F0 r l t).1
 | [], t, h => ⟨(B0x t).symm, fun _ => h, Int.le_refl 0⟩
 | i :: l, t, h => by
  have h1 : Gz r (i :: l) t = Gz r l (swapT i r t) := rfl
  rw [h1, C8i h, B7o]
  rcases C3t (W := Mq i r) (t := t) (d := 0) with ⟨u, h2, h3⟩ | ⟨e, h2, h3⟩
  ·rw [h3, B0x, Jz rfl]
   exact Y5 (O6 (A3a i r) (Int.le_refl 0) h h2)
  ·have h4 := (A9s (C1d i r) t h2).1
   rw [h3, A3o h4, J5 (by show e ≠ 0; omega), Y6 h4]
   exact ⟨(A3o h4).symm, fun h5 => by omega, by show 0 ≤ e; omega⟩
theorem Nu {n : Nat} (hn : 1 ≤ n) {r : List Cl} : ∀ {l : List Int} {t : T}, (Ep t ∨ ∃ e, t = J9 e ∧ 0 < e) → size t ≤ n → size (Gz r l t) ≤ n ∧ (Ep (Gz r l t) ∨ ∃ e, Gz r l t = J9 e ∧ 0 < e)
 | [], t, h, hs => ⟨hs, h⟩
 | i :: l, t, h, hs => by
  show size (Gz r l (swapT i r t)) ≤ n ∧ (Ep (Gz r l (swapT i r t)) ∨ ∃ e, Gz r l (swapT i r t) = J9 e ∧ 0 < e)
  rcases h with h | ⟨e, rfl, he⟩
  ·have hk := Kw h
   have e1 : swapT i r t = Og i r false t 0 := if_neg A2
   rw [e1]
   rcases Qg (i := i) (r := r) (b := false) (d := 0) h with ⟨h3, h4⟩ | ⟨e, h3, h4, h5, h6⟩
   ·rw [C0d] at h3
    exact Nu hn (.inl (O6 (A3a i r) A2 h h3)) (Nat.le_trans (Qa h3) hs)
   ·rw [h6]
    exact Nu hn (.inr ⟨e, rfl, h3⟩) (by rw [C8k]; exact hn)
  ·rw [show swapT i r (J9 e) = J9 e from if_pos (J8 he)]
   exact Nu hn (.inr ⟨e, rfl, he⟩) hs
theorem B6k {n : Nat} {c : Cl} {t : T} (h : Ep t) (hs : size t ≤ n) : size (Lz c t) ≤ n := by
 have h1 := size_pos' t
 obtain ⟨a1, a2⟩ := Nu (n := n) A2 (r := [A4]) (l := A3 c.pos) (.inl h) hs
 exact (Nu A2 a2 a1).1
theorem B5q {x : Int × T} (h0 : 0 ≤ x.1) (h : x.1 = 0 → Ep x.2) (h2 : x.1 ≠ 0 → x.2 = t0) : K4 (A3p x) = x := by
 obtain ⟨e, u⟩ := x
 simp only at h0 h h2
 by_cases he : e = 0
 ·subst he
  rw [B0x]
  have := Kw (h rfl)
  unfold K4
  rw [if_neg A2]
 ·rw [A3o A2, h2 he]
  unfold K4
  rw [if_pos (J8 A2)]
  exact Prod.ext (by show - -e = e; omega) rfl
theorem C3s {c : Cl} {t : T} (h : C0 t = 0) (hc : single c = true) : K4 (Lz c t) = Bh t c := by
 have hf := (T0.mp h).2
 unfold Bh Lz
 rw [if_neg (by simp [h]), if_neg (by simp [hc])]
 obtain ⟨a1, a2, a3⟩ := Y5 (r := [A4]) (l := A3 c.pos) hf
 rw [a1]
 by_cases h0 : (F0 [A4] (A3 c.pos) t).1 = 0
 ·rw [Jz h0, show A3p (F0 [A4] (A3 c.pos) t) = (F0 [A4] (A3 c.pos) t).2 from if_pos h0]
  obtain ⟨b1, b2, b3⟩ := Y5 (r := []) (l := A3 c.neg) (a2 h0)
  rw [b1]
  exact B5q b3 b2 (fun h9 => Xe h9)
 ·rw [J5 h0, show A3p (F0 [A4] (A3 c.pos) t) = J9 (F0 [A4] (A3 c.pos) t).1 from if_neg h0, Y6 A2]
  have h9 := Xe (g := fun i u => E1 (Mq i [A4]) u 0) (l := A3 c.pos) (t := t) h0
  exact (B5q (x := ((F0 [A4] (A3 c.pos) t).1, t0)) a3 (fun h8 => absurd h8 h0) (fun _ => rfl)).symm ▸ (by rw [show A3p ((F0 [A4] (A3 c.pos) t).1, t0) = J9 (F0 [A4] (A3 c.pos) t).1 from if_neg h0])
theorem D3d {u : T} (h : u.kind < 0) : K4 u = (-u.kind, t0) := by unfold K4; rw [if_pos h]
theorem D3c {u : T} (h : ¬ u.kind < 0) : K4 u = (0, u) := by unfold K4; rw [if_neg h]
theorem A7p {g : T → T} {r : T → Int × T} : ∀ {ts : List T}, (∀ t, t ∈ ts → K4 (g t) = r t) →
  ((ts.map g).find? (fun t => decide (t.kind < 0)) = none ∧ Iw r ts = (0, ts.map g)) ∨ ∃ u, (ts.map g).find? (fun t => decide (t.kind < 0)) = some u ∧ u.kind < 0 ∧ Iw r ts = (-u.kind, [])
 | [], _ => .inl ⟨rfl, rfl⟩
 | t :: ts, h => by
  have h1 := h t List.mem_cons_self
  rw [List.map_cons, List.find?_cons, Iw]
  by_cases hk : (g t).kind < 0
  ·have h2 : r t = (-(g t).kind, t0) := by rw [← h1]; exact D3d hk
   rw [decide_eq_true hk, h2, if_pos (by show -(g t).kind ≠ 0; omega)]
   exact .inr ⟨g t, rfl, hk, rfl⟩
  ·have h2 : r t = (0, g t) := by rw [← h1]; exact D3c hk
   rw [decide_eq_false hk, h2, if_neg E5]
   rcases A7p (g := g) (r := r) (ts := ts) (fun u hu => h u (List.mem_cons_of_mem _ hu)) with ⟨a1, a2⟩ | ⟨u, a1, a2, a3⟩
   ·left
    rw [a2, if_neg E5]
    exact ⟨a1, rfl⟩
   ·right
    rw [a3, if_pos (by show -u.kind ≠ 0; omega)]
    exact ⟨u, a1, a2, rfl⟩
theorem C6x {g : T → T} {r : T → Int × T} {ts : List T} (h : ∀ t, t ∈ ts → K4 (g t) = r t) (d : Int) : Kf (ts.map g) d = if (Iw r ts).1 ≠ 0 then ((Iw r ts).1, [], 0) else Ix (Iw r ts).2 d := by
 unfold Kf
 rcases A7p h with ⟨a1, a2⟩ | ⟨u, a1, a2, a3⟩
 ·rw [a1, a2, if_neg E5]
 ·rw [a1, a3, if_pos (by show -u.kind ≠ 0; omega)]
def A4q (c : Cl) (d : Int) (j : Nat) : Bool := decide (d ≤ (j : Int)) && (Bu c.pos (j : Int) || Bu c.neg (j : Int))
def Ty (c : Cl) (d : Int) (i : Nat) : Bool := (List.range i).any (A4q c d)
theorem Yk (c : Cl) (d : Int) (i : Nat) : Ty c d (i + 1) = (Ty c d i || A4q c d i) := by
 unfold Ty
 rw [List.range_succ, List.any_append]
 simp
theorem A3e {c : Cl} {d : Int} (hd : 0 ≤ d ∧ d ≤ 24) (hc : Ao c = true) : Sx c d = !Ty c d 24 := by
 obtain ⟨h1, h2⟩ := Cw.mp hc
 have h3 : c.pos ||| c.neg < 2 ^ 24 := Nat.or_lt_two_pow h1 h2
 have key : (c.pos ||| c.neg) / 2 ^ d.toNat = 0 ↔ Ty c d 24 = false := by
  rw [Nat.div_eq_zero_iff]
  unfold Ty
  rw [List.any_eq_false]
  constructor
  ·rintro (h | h) j hj
   ·exact absurd h (by have := Nat.two_pow_pos d.toNat; omega)
   ·intro ho
    unfold A4q at ho
    simp only [Bool.and_eq_true, decide_eq_true_eq, Bool.or_eq_true] at ho
    obtain ⟨a1, a2⟩ := ho
    have hb : (c.pos ||| c.neg).testBit j = true := by
     rw [Nat.testBit_or, Bool.or_eq_true]
     unfold Bu at a2
     simp only [Bool.and_eq_true, Int.toNat_natCast] at a2
     rcases a2 with a2 | a2
     ·exact .inl a2.2
     ·exact .inr a2.2
    have hlt : c.pos ||| c.neg < 2 ^ j := Nat.lt_of_lt_of_le h (Nat.pow_le_pow_right A2 A2)
    rw [Nat.testBit_lt_two_pow hlt] at hb
    cases hb
  ·intro h
   refine .inr (Nat.lt_pow_two_of_testBit _ fun j hj => ?_)
   by_cases h24 : j < 24
   ·have h4 := h j (List.mem_range.mpr h24)
    unfold A4q Bu at h4
    rw [Nat.testBit_or]
    have e1 : decide (d ≤ (j : Int)) = true := decide_eq_true A2
    have e2 : decide (0 ≤ (j : Int)) = true := decide_eq_true A2
    have e3 : decide ((j : Int) < 24) = true := decide_eq_true A2
    rw [e1, e2, e3] at h4
    simpa using h4
   ·exact Nat.testBit_lt_two_pow (Nat.lt_of_lt_of_le h3 (Nat.pow_le_pow_right A2 A2))
 unfold Sx
 cases ho : Ty c d 24 with
 | true => exact decide_eq_false (fun h => by rw [key.mp h] at ho; cases ho)
 | false => exact decide_eq_true (key.mpr ho)
def uZ (ts : List T) (d : Int) (c : Cl) : Int := if Ag ts d ≠ 0 then Ag ts d else if single c = false then 2 else 0
def uI (ts : List T) (d : Int) (c : Cl) (i : Nat) : Int := if uZ ts d c ≠ 0 then uZ ts d c else if Ty c d i = true then 2 else 0
theorem D4h (ts : List T) (d : Int) (c : Cl) : uI ts d c 0 = uZ ts d c := by
 unfold uI
 by_cases h : uZ ts d c ≠ 0
 ·rw [if_pos h]
 ·rw [if_neg h, show Ty c d 0 = false from rfl]
  simp only [Bool.false_eq_true, if_false]
  omega
theorem C8d {ts : List T} {d : Int} {c : Cl} {i : Nat} (h0 : uI ts d c i = 0) (h : A4q c d i = true) : uI ts d c (i + 1) = 2 := by
 unfold uI at h0 ⊢
 rw [Yk, h, Bool.or_true]
 split at h0
 ·rename_i h1; exact absurd h0 h1
 ·rename_i h1; rw [if_neg h1]; rfl
theorem D7f {ts : List T} {d : Int} {c : Cl} {i : Nat} (h : A4q c d i = false) : uI ts d c (i + 1) = uI ts d c i := by
 unfold uI
 rw [Yk, h, Bool.or_false]
theorem C0i {ts : List T} {d : Int} {c : Cl} {i : Nat} (h : uI ts d c i ≠ 0) : ∀ n, uI ts d c (i + n) = uI ts d c i
 | 0 => rfl
 | n + 1 => by
  have ih := C0i h n
  unfold uI at h ih ⊢
  by_cases h1 : uZ ts d c ≠ 0
  ·rw [if_pos h1, if_pos h1]
  ·rw [if_neg h1] at h ih
   rw [if_neg h1] at ih
   rw [if_neg h1, if_neg h1]
   by_cases h2 : Ty c d i = true
   ·rw [if_pos h2] at ih
    have h3 : Ty c d (i + n) = true := by
     by_cases h4 : Ty c d (i + n) = true
     ·exact h4
     ·rw [if_neg h4] at ih; cases ih
    rw [← Nat.add_assoc, Yk, h3, Bool.true_or, if_pos rfl, if_pos h2]
   ·rw [if_neg h2] at h; exact absurd rfl h
theorem D8s {ts : List T} {d : Int} {c : Cl} {i : Nat} (hi : i ≤ 24) (h : (decide ((i : Int) < 24) && decide (uI ts d c i = 0)) = false) : uI ts d c i = uI ts d c 24 := by
 by_cases h1 : uI ts d c i = 0
 ·rw [h1, decide_eq_true rfl, Bool.and_true] at h
  have : i = 24 := by have := of_decide_eq_false h; omega
  rw [this]
 ·have := C0i h1 (24 - i)
  rw [show i + (24 - i) = 24 by omega] at this
  exact this.symm
theorem D8t {ts : List T} {d : Int} {c : Cl} (h : uI ts d c 24 ≠ 0) : F2 ts d c = (uI ts d c 24, [], 0) := by
 unfold F2
 by_cases h1 : Ag ts d ≠ 0
 ·have hz : uZ ts d c = Ag ts d := by unfold uZ; rw [if_pos h1]
  have : uI ts d c 24 = Ag ts d := by unfold uI; rw [hz, if_pos h1]
  rw [if_pos h1, this]
 ·rw [if_neg h1]
  have hd := (Ek.mp (Decidable.not_not.mp h1))
  by_cases h2 : single c = false
  ·have hz : uZ ts d c = 2 := by unfold uZ; rw [if_neg h1, if_pos h2]
   have : uI ts d c 24 = 2 := by unfold uI; rw [hz, if_pos Jp]
   rw [this, h2, Bool.false_and, if_pos rfl]
  ·have h3 : single c = true := by simpa using h2
   have hz : uZ ts d c = 0 := by unfold uZ; rw [if_neg h1, if_neg h2]
   have hu : uI ts d c 24 = if Ty c d 24 = true then 2 else 0 := by unfold uI; rw [hz, if_neg E5]
   rw [hu] at h ⊢
   by_cases h4 : Ty c d 24 = true
   ·rw [if_pos h4, h3, Bool.true_and, A3e ⟨hd.1, hd.2.1⟩ (Bool.and_eq_true_iff.mp h3).1, h4, if_pos Jp]
   ·rw [if_neg h4] at h; exact absurd rfl h
theorem E3s {ts : List T} {d : Int} {c : Cl} (h : uI ts d c 24 = 0) : Ag ts d = 0 ∧ single c = true ∧ F2 ts d c = Kf (ts.map (Lz c)) d := by
 have hz : uZ ts d c = 0 := by
  unfold uI at h
  split at h
  ·rename_i h1; exact absurd h h1
  ·rename_i h1; exact Decidable.not_not.mp h1
 have h1 : Ag ts d = 0 := by
  unfold uZ at hz
  split at hz
  ·rename_i h2; exact absurd hz h2
  ·rename_i h2; exact Decidable.not_not.mp h2
 have h3 : single c = true := by
  unfold uZ at hz
  rw [if_neg (by simp [h1])] at hz
  split at hz
  ·cases hz
  ·rename_i h2; simpa using h2
 have hd := Ek.mp h1
 refine ⟨h1, h3, ?_⟩
 have h4 : ¬ Ty c d 24 = true := by
  intro h4
  unfold uI at h
  rw [hz, if_neg E5, if_pos h4] at h
  cases h
 unfold F2
 rw [if_neg (by simp [h1]), h3, Bool.true_and, A3e ⟨hd.1, hd.2.1⟩ (Bool.and_eq_true_iff.mp h3).1, show Ty c d 24 = false by simpa using h4, if_neg E5]
 rw [C6x (r := fun t => Bh t c) (fun t ht => ?_) d]
 ·rfl
 ·obtain ⟨j, hj, rfl⟩ := Qo (d := t0) ht
  exact C3s (V3 A2 (Yz h1 j hj)).2.2.2 h3
theorem B1u {ts : List T} {d : Int} {c : Cl} (hz : ∀ t, t ∈ ts → size t ≤ 20000) (h : Ag ts d = 0) : ∀ u, u ∈ ts.map (Lz c) → size u ≤ 1000000 ∧ -1000000 ≤ u.kind := fun u hu => by
 obtain ⟨t, ht, rfl⟩ := List.mem_map.mp hu
 obtain ⟨j, hj, rfl⟩ := Qo (d := t0) ht
 obtain ⟨c1, c2, c3, c4⟩ := Ek.mp h
 have hf := (V3 A2 (Yz h j hj)).1
 have hg : P7 1000000 (ts.getD j t0) := .inr ⟨hf, by have := hz _ ht; omega⟩
 refine ⟨?_, C6q (B5b (c := c) hg)⟩
 exact B6k hf (by have := hz _ ht; omega)
end Go.Hy
namespace Go.Hy
open Go.RowKit Go.Shelf
theorem C4u {F : Fence} {n : Nat} {P : Program} {α : Type} {g : Operand} {ps : Array Tmp} {assign body : Code} {Q : Exit → Act → World → Prop} {a : Act} {w : World}
  (hro : F.round = none) (h1 : 1 ≤ n) {gf : Nat} {lb : Array Value} (hg : a.eval g = .func (.func gf) #[] lb) (hFg : F.fn gf) (eg : ∀ args w, (callFunc gf args).run P w = .ok (.enter gf args) w)
  {encs : α → Array Value} (hps : ∀ x, (encs x).size = ps.size) (I : List α → World → Prop) (Px : List α → α → Prop) (Kp : World → World → Prop)
  (hIp : ∀ (pre : List α) (A : World) (l : Nat) (o o0 : Obj), I pre A → A.heap[l]? = some o0 → o0.isCells = false → w.heap.size ≤ l → I pre (A.putObj l o)) (hIa : ∀ (pre : List α) (A : World) (o : Obj), I pre A → w.heap.size ≤ A.heap.size → I pre (A.alloc o)) (h0 : I [] w)
  (hKt : ∀ {A B C : World}, Kp A B → Kp B C → Kp A C) (hKp : ∀ (A : World) (l : Nat) (o o0 : Obj), A.heap[l]? = some o0 → o0.isCells = false → w.heap.size ≤ l → Kp A (A.putObj l o))
  (xs : List α)
  (hit : ∀ (l : Nat) (J : List α → World → Prop) (W1 : World), (∀ pre W, J pre W → I pre W) →
   (∀ pre A B, J pre A → I pre B → (∀ (k : Nat) (o : Obj), A.heap[k]? = some o → o.isCells = false → B.heap[k]? = some o) → J pre B) →
   (∀ pre x W, J pre W → Px pre x → YieldAt F (n - 1 - 1) P l (encs x) W fun e W' => e = .returned (.bool true) ∧ J (pre ++ [x]) W' ∧ Kp W W') → J [] W1 → (∀ (k : Nat), k < w.heap.size → W1.heap[k]? = w.heap[k]?) →
   CallsIn F (n - 1) P gf (#[.func (.yield l) #[] #[]] ++ lb) W1 fun e W' => (∃ v, e = .returned v) ∧ J xs W')
  (a₁ : α → Act)
  (hassign : ∀ (l : Nat) (x : α) (W : World) (K : Act → World → Prop), K (a₁ x) W →
   assign.wpIn (F.inRound l) (n - 1 - 1) P (Exit.then K (fun _ _ _ => False)) { tmps := (ps.zip (encs x)).foldl (fun t (p, v) => t.setIfInBounds p v) a.tmps, defers := [] } W)
  (hbody : ∀ (l : Nat) (pre : List α) (x : α) (W : World), I pre W → Px pre x →
   body.wpIn (F.inRound l) (n - 1 - 1) P (fun e _ W' => e = .normal ∧ KeepsOthers W W' ∧ Kp W W' ∧ I (pre ++ [x]) W') (a₁ x) W)
  (hdone : ∀ (D : Nat) (W : World), w.heap.size ≤ D → I xs W → W.heap[D]? = some (.deferred (some [])) → Q .normal { a with defers := { target := .collected D, args := #[] } :: a.defers } W) :
  (Code.rangeFunc g ps assign body).wpIn F n P Q a w := by
 refine wpIn_rangeFunc ?_
 intro fn hfn
 rw [hro]
 obtain ⟨rec, hrec⟩ : ∃ rec : LoopState → Option Code → Loop, rec = fun st pe => { state := st, pending := pe, fn, tmps := a.tmps, params := ps, assign, body, defers := w.heap.size } := ⟨_, rfl⟩
 obtain ⟨W1, hW1⟩ : ∃ W1, (w.alloc (.deferred (some []))).alloc (.loop (rec .ready none)) = W1 := ⟨_, rfl⟩
 have hL1 : W1.heap[w.heap.size + 1]? = some (.loop (rec .ready none)) := by
  rw [← hW1]; have := World.alloc_heap_new (w.alloc (.deferred (some []))) (.loop (rec .ready none)); rwa [World.size_alloc] at this
 have hK1 : W1.heap[w.heap.size]? = some (.deferred (some [])) := by
  rw [← hW1]; exact (Below.heap_alloc _ _ _ E5).trans (World.alloc_heap_new w _)
 have hI1 : I [] W1 := by rw [← hW1]; exact hIa _ _ _ (hIa _ _ _ h0 (Nat.le_refl _)) E5
 refine ⟨w.heap.size + 1, [{ target := .collected w.heap.size, args := #[] }], W1, { target := .fn (.func gf) lb, args := #[.func (.yield (w.heap.size + 1)) #[] #[]] }, W1, gf,
  #[.func (.yield (w.heap.size + 1)) #[] #[]] ++ lb, W1, ?_, ?_, ?_, ?_, fun _ => h1, ?_⟩
 ·rw [← hW1, hrec]; exact run_enterLoop_outer _ _ _ _ _
 ·simp only [resolve, hg]
  simp [go_sem]
 ·intro f' hf'; simp [Target.leads] at hf'; subst hf'; exact hFg
 ·simp [invoke, go_sem, eg]
 ·refine (hit (w.heap.size + 1) (fun pre W => I pre W ∧ W.heap[w.heap.size + 1]? = some (.loop (rec .ready none)) ∧ W.heap[w.heap.size]? = some (.deferred (some []))) W1
   (fun pre W h => h.1) (fun pre A B hA hB hk => ⟨hB, hk _ _ hA.2.1 rfl, hk _ _ hA.2.2 rfl⟩) ?_ ⟨hI1, hL1, hK1⟩ (fun k hk => by rw [← hW1]; exact (Below.heap_alloc _ _ _ (by simp; omega)).trans (Below.heap_alloc _ _ _ hk))).mono ?_
  ·rintro pre x W ⟨hi, hl, hk⟩ hpx
   have hlt : w.heap.size + 1 < W.heap.size := (Array.getElem?_eq_some_iff.1 hl).1
   have hy := run_yield (P := P) (args := encs x) hl (by rw [hrec]; exact hps x)
   rw [hrec] at hy
   refine ⟨fn, _, assign, body, hy, roundIn_of_wpIn hfn (hassign _ x W _ ⟨_, run_beginRound hl (by rw [hrec]), ?_⟩)⟩
   have hl2 : (W.putObj (w.heap.size + 1) (.loop { rec .ready none with state := .busy })).heap[w.heap.size + 1]? = some (.loop { rec .ready none with state := .busy }) := World.putObj_heap_same hlt
   have hk2 : (W.putObj (w.heap.size + 1) (.loop { rec .ready none with state := .busy })).heap[w.heap.size]? = some (.deferred (some [])) := (World.putObj_heap_other A2).trans hk
   refine wpIn_mono (hbody _ pre x _ (hIp _ _ _ _ _ hi hl rfl A2) hpx) ?_
   rintro e a3 W3 ⟨rfl, hk3, hkp3, hi3⟩
   have hl3 := hk3.same _ _ hl2 rfl
   have hend := run_endRound (P := P) none hl3
   rw [hrec] at hl3 hend
   refine ⟨_, _, hend, rfl, ⟨hIp _ _ _ _ _ hi3 hl3 rfl A2, ?_, ?_⟩, hKt (hKt (hKp _ _ _ _ hl rfl A2) hkp3) (hKp _ _ _ _ hl3 rfl A2)⟩
   ·rw [hrec]; exact World.putObj_heap_same (Array.getElem?_eq_some_iff.1 hl3).1
   ·exact (World.putObj_heap_other A2).trans (hk3.same _ _ hk2 rfl)
  ·rintro e W2 ⟨⟨v, rfl⟩, hi, hl, hk⟩
   exact ⟨none, _, by have := run_endLoop (P := P) hl (by rw [hrec]; simp); rw [hrec] at this; exact this, hdone _ _ (Nat.le_refl _) (hIp _ _ _ _ _ hi hl rfl A2) ((World.putObj_heap_other A2).trans hk)⟩
end Go.Hy
namespace Go.Hy
open Go.Proofs Go.Proofs.Tryz
set_option maxRecDepth 100000
theorem B7d (n : Int) (h0 : 0 ≤ n) (hn : n ≤ 40) : Spec prog 187 #[iv (n)] [] [] (fun _ : Unit => iv (((2 ^ n.toNat : Nat) : Int))) (fun _ => []) (fun _ => []) := by
 refine D1 ntmps187 fun B hB => ?_
 refine Bw ?_; refine L3 ?_; refine Ar (X := Nat) (fun s_ => (s_ : Int) ≤ n) (fun s_ => [(0, iv (n)), (3, iv (((2 ^ s_ : Nat) : Int))), (4, iv ((s_ : Int)))]) (fun s_ G_ => G_) (fun s_ => []) (fun s_ => n.toNat - s_) (0) (by simpa using h0) (by exact Cb) ?_ ?_
 ·exact fun w hs => hs
 ·intro i base0 hi0 next0; have hpw : 2 ^ i ≤ 2 ^ 40 := Nat.pow_le_pow_right A2 A2; have hpz : (0 : Int) ≤ ((2 ^ i : Nat) : Int) := Int.natCast_nonneg _; refine C0a ?_; refine Pd ?_; refine B7 (decide ((i : Int) < n)) (fun h7 c7 => ?_) (fun h7 c7 => ?_)
  ·refine Jr ?_; refine Ds ?_; refine q0 rfl (E4o ?_); refine Oj ?_; refine A0 (fun w hs => ?_) (next0 (i + 1) _ A2 A2 ⟨rfl, (by (conv => lhs; whnf); rw [Nat.pow_succ]; push_cast; rfl), rfl, trivial⟩); exact (hs.l9)
  ·have he : n.toNat = i := by omega
   refine Vv ?_; refine As f_ rfl A5 () (by rw [he]) (fun w hs => hs.none)
theorem S1 (s : Nat) (i : Int) (hs : s < 4294967296) : Spec prog 116 #[.int .u32 ((s : Nat) : Int), iv (i)] [] [] (fun _ : Unit => .bool ((Bu s i))) (fun _ => []) (fun _ => []) := by
 refine D1 ntmps116 fun B hB => ?_
 refine Bw ?_; refine Kl ?_; refine Al ([(4, .bool (((decide (0 ≤ i)) && (decide (i < 24))) && (decide (((s / 2 ^ i.toNat % 2 : Nat) : Int) = 1))))]) (fun hK => ?_) (fun base => ?_)
 ·refine Ds ?_; refine A4j ?_; refine F5 ?_; refine Ht rfl (decide (0 ≤ i)) (fun hg7 g7 => ?_) (fun hg7 g7 => ?_)
  ·refine Rr ?_; refine Hl ?_; refine Ht rfl (decide (i < 24)) (fun hg11 g11 => ?_) (fun hg11 g11 => ?_)
   ·refine Ij ?_; refine qT rfl rfl rfl (B4c ?_); refine D2 ?_; refine qT rfl rfl rfl (A1 call187 (B7d i Dh Dh) (fun x15 => ?_)); refine qT rfl rfl rfl (E0h ?_ (a := s) (b := 2 ^ i.toNat)); refine qT rfl rfl rfl (E0g ?_ (a := s / 2 ^ i.toNat) (b := 2)); refine qT rfl rfl rfl (Zm ?_ (a := ((s / 2 ^ i.toNat % 2 : Nat) : Int)) (b := 1)); refine Fj ?_; exact hK _ ⟨(by first | rfl | ((conv => lhs; whnf); first | (simp_all [P6]; done) | (simp_all [P6]; omega))), trivial⟩
   ·refine Ga ?_; refine Q1 ?_; exact hK _ ⟨(by first | rfl | ((conv => lhs; whnf); first | (simp_all [P6]; done) | (simp_all [P6]; omega))), trivial⟩
  ·refine Mw ?_; refine Hz ?_; refine Ga ?_; refine H9 ?_; refine Ji ?_; exact hK _ ⟨(by first | rfl | ((conv => lhs; whnf); first | (simp_all [P6]; done) | (simp_all [P6]; omega))), trivial⟩
 ·refine As f_ rfl A5 () (congrArg Value.bool (by rw [P6, show decide (((s / 2 ^ i.toNat % 2 : Nat) : Int) = 1) = decide (s / 2 ^ i.toNat % 2 = 1) from decide_eq_decide.mpr A2])) (fun w hs => hs.none)
theorem p24 : (2 ^ (24 : Int).toNat : Nat) = 16777216 := by decide +kernel
theorem C0v (s : Nat) (hs : s < 4294967296) : Spec prog 214 #[.int .u32 ((s : Nat) : Int)] [] [] (fun _ : Unit => .bool ((decide (s < 16777216)))) (fun _ => []) (fun _ => []) := by
 refine D1 ntmps214 fun B hB => ?_
 refine L4 ?_; refine q0 rfl (B4c ?_); refine q0 rfl (A1 call187 (B7d 24 Dh Dh) (fun x5 => ?_)); refine D8l ?_; refine C9 ?_; refine As f_ rfl A5 () (congrArg Value.bool (decide_eq_decide.mpr (by rw [p24]; omega))) (fun w hs => hs.none)
theorem C9h (s : Nat) (hs : s < 4294967296) : Spec prog 161 #[.int .u32 ((s : Nat) : Int)] [] [] (fun x : SH => sl x (A3 s).length) (fun x : SH => [IL (A3 s) x]) (fun x : SH => []) := by
 refine D1 ntmps161 fun B hB => ?_
 refine Bw ?_; refine L3 ?_; refine Ar (X := Nat × SH) (fun s_ => s_.1 ≤ 24) (fun s_ => [(0, .int .u32 ((s : Nat) : Int)), (3, sl s_.2 ((Bv s s_.1).length)), (4, iv ((s_.1 : Int)))]) (fun s_ G_ => G_) (fun s_ => [Av 1 3 s_.2 ((Bv s s_.1).length) (Dz (Bv s s_.1))]) (fun s_ => 24 - s_.1) (0, (none, 0)) A2 (by exact Cb) ?_ ?_
 ·exact fun w hs => (hs.Bs 1 3)
 ·intro ⟨i, a⟩ base0 hi0 next0; dsimp only at hi0 next0 ⊢; have hln := H0 s i; refine Gx ?_; refine Pd ?_; refine B7 (decide ((i : Int) < 24)) (fun h6 c6 => ?_) (fun h6 c6 => ?_)
  ·refine Vu ?_; refine q0 rfl (A1 call116 (S1 s (i : Int) Dh) (fun x11 => ?_)); refine Ly ?_; refine B7 ((Bu s (i : Int))) (fun h11 c11 => ?_) (fun h11 c11 => ?_)
   ·refine D9 ?_; refine q0 rfl (Dd fun b14 => ?_); refine q0 rfl (Dj (fun a15 => ?_) (a := a) (n' := (Bv s i).length)); refine Am (fun w hs => ((hs.perm Ah).drop).B2g) ?_; refine Oj ?_; have hnx : Bv s (i + 1) = Bv s i ++ [(i : Int)] := by rw [Gs, if_pos]; simp [Bu] at c11; exact c11.2
    refine A0 (fun w hs => ?_) (next0 (i + 1, a15) _ A2 (by (try simp only); omega) ⟨rfl, (by (conv => lhs; whnf); simp [sl, hnx]), rfl, trivial⟩); rw [hnx]; simpa using (hs.l9)
   ·refine D7 ?_; have hnx : Bv s (i + 1) = Bv s i := by rw [Gs, if_neg]; simp [Bu] at c11; simp [c11 A2]
    refine A0 (fun w hs => ?_) (next0 (i + 1, a) _ A2 (by (try simp only); omega) ⟨rfl, (by (conv => lhs; whnf); simp [sl, hnx]), rfl, trivial⟩); rw [hnx]; exact (hs.l9)
  ·refine Vv ?_; have he : i = 24 := by omega
   subst he; refine As f_ rfl A5 a rfl (fun w hs => (hs.Mp hB rfl rfl (by unfold reach; omega) (fun c hc => by have := Mb hc; unfold Ak; omega)).l8)
theorem C8z (l : List Int) (a_l : SH) (hl : l.length ≤ 64) (hx : ∀ x, x ∈ l → 0 ≤ x ∧ x < 24) : Spec prog 249 #[sl a_l (l.length)] [IL l a_l] [] (fun _ : Unit => .int .u32 (((Hs l) : Nat) : Int)) (fun _ => []) (fun _ => []) := by
 refine D1 ntmps249 fun B hB => ?_
 refine Ku (l := l) (a := a_l) (fun hl1 hA1 hU1 => ?_); refine Bw ?_; refine L3 ?_; refine Ar (X := Nat) (fun s_ => s_ ≤ l.length) (fun s_ => [(0, sl a_l (l.length)), (3, iv (((Wj l s_ : Nat) : Int))), (4, iv ((s_ : Int)))]) (fun s_ G_ => G_) (fun s_ => []) (fun s_ => l.length - s_) (0) A2 (by exact ⟨rfl, (by rw [B6u]; rfl), rfl, trivial⟩) ?_ ?_
 ·exact fun w hs => hs
 ·intro i base0 hi0 next0; have hst := C8p hx i; refine Jv ?_; refine B7 (decide ((i : Int) < (l.length : Int))) (fun h8 c8 => ?_) (fun h8 c8 => ?_)
  ·have hgx := hx _ (Ac (d := 0) (show i < l.length by omega)); have hg2 : 2 ^ (l.getD i 0).toNat ≤ 2 ^ 24 := Nat.pow_le_pow_right A2 A2; have hpz : (0 : Int) ≤ ((2 ^ (l.getD i 0).toNat : Nat) : Int) := Int.natCast_nonneg _; refine Jr ?_; refine D9 ?_; refine F5 ?_; obtain ⟨bk2, o2, hav2⟩ := hA1 A2; refine q0 rfl (Cj ?_ (j := i)); refine q0 rfl (A6u ?_); refine q0 rfl (A1 call187 (B7d (l.getD i 0) Dh Dh) (fun x16 => ?_)); refine A0x ?_; refine Lx ?_; refine A0 (fun w hs => ?_) (next0 (i + 1) _ A2 A2 ⟨rfl, (by (conv => lhs; whnf); rw [B6v A2]; push_cast; rfl), rfl, trivial⟩); exact (hs.l9)
  ·have he : i = l.length := by omega
   subst he; rw [C4k] at hst ⊢; refine Dt ?_; refine Ex ?_; refine q0 rfl (D1d ?_ (a := Hs l)); refine C9 ?_; refine As f_ rfl A5 () (by first | rfl | (simp_all; done) | (simp_all; omega)) (fun w hs => hs.none)
theorem A9r (c : Cl) (hc : u32 c) : Spec prog 159 #[En c] [] [] (fun _ : Unit => .bool ((Ao c))) (fun _ => []) (fun _ => []) := by
 refine D1 ntmps159 fun B hB => ?_
 have hc1 := hc.1; have hc2 := hc.2; refine B8 ?_; refine q0 rfl (B3 fun b1 => ?_); refine J1 ?_; refine Al ([(2, .bool ((decide (((c).pos) < 16777216)) && (decide (((c).neg) < 16777216))))]) (fun hK => ?_) (fun base => ?_)
 ·refine Ey ?_; refine q0 rfl (A1 call214 (C0v ((c).pos) Dh) (fun x5 => ?_)); refine F5 ?_; refine Ht rfl ((decide (((c).pos) < 16777216))) (fun hg6 g6 => ?_) (fun hg6 g6 => ?_)
  ·refine Jh ?_; refine qT rfl rfl rfl (A1 call214 (C0v ((c).neg) Dh) (fun x9 => ?_)); refine Fj ?_; exact hK _ ⟨(by first | rfl | ((conv => lhs; whnf); first | (simp_all [Ao]; done) | (simp_all [Ao]; omega))), trivial⟩
  ·refine Q1 ?_; exact hK _ ⟨(by first | rfl | ((conv => lhs; whnf); first | (simp_all [Ao]; done) | (simp_all [Ao]; omega))), trivial⟩
 ·refine As f_ rfl A5 () (by first | rfl | (simp_all [Ao]; done) | (simp_all [Ao]; omega)) (fun w hs => hs.none)
theorem D9p (c : Cl) (d : Cl) (hc : u32 c) (hd : u32 d) : Spec prog 248 #[En c, En d] [] [] (fun _ : Unit => .bool ((below c d))) (fun _ => []) (fun _ => []) := by
 refine D1 ntmps248 fun B hB => ?_
 have hc1 := hc.1; have hc2 := hc.2; have hd1 := hd.1; have hd2 := hd.2; refine B8 ?_; refine q0 rfl (B3 fun b2 => ?_); refine q0 rfl (B3 fun b3 => ?_); refine J1 ?_; refine Al ([(4, .bool ((decide ((((c).pos) ||| ((d).pos)) = ((c).pos))) && (decide ((((c).neg) ||| ((d).neg)) = ((c).neg)))))]) (fun hK => ?_) (fun base => ?_)
 ·refine Ey ?_; refine Jl ?_; refine q0 rfl (N7 ?_ (a := ((c).pos)) (b := ((d).pos))); refine Jl ?_; refine q0 rfl (D1b ?_ (a := (((c).pos) ||| ((d).pos))) (b := ((c).pos))); refine F5 ?_; refine Ht rfl (decide ((((c).pos) ||| ((d).pos)) = ((c).pos))) (fun hg13 g13 => ?_) (fun hg13 g13 => ?_)
  ·refine Jh ?_; refine Ju ?_; refine qT rfl rfl rfl (N7 ?_ (a := ((c).neg)) (b := ((d).neg))); refine Ju ?_; refine qT rfl rfl rfl (D1b ?_ (a := (((c).neg) ||| ((d).neg))) (b := ((c).neg))); refine Fj ?_; exact hK _ ⟨(by first | rfl | ((conv => lhs; whnf); first | (simp_all [below]; done) | (simp_all [below]; omega))), trivial⟩
  ·refine Ga ?_; refine H9 ?_; refine Ji ?_; exact hK _ ⟨(by first | rfl | ((conv => lhs; whnf); first | (simp_all [below]; done) | (simp_all [below]; omega))), trivial⟩
 ·refine As f_ rfl A5 () (by first | rfl | (simp_all [below]; done) | (simp_all [below]; omega)) (fun w hs => hs.none)
theorem E3z (c : Cl) (d : Cl) (hc : u32 c) (hd : u32 d) : Spec prog 226 #[En c, En d] [] [] (fun _ : Unit => .bool ((Ck c d))) (fun _ => []) (fun _ => []) := by
 refine D1 ntmps226 fun B hB => ?_
 have hc1 := hc.1; have hc2 := hc.2; have hd1 := hd.1; have hd2 := hd.2; refine B8 ?_; refine q0 rfl (B3 fun b2 => ?_); refine q0 rfl (B3 fun b3 => ?_); refine J1 ?_; refine Al ([(4, .bool ((decide (((c).pos) < ((d).pos))) || ((decide (((c).pos) = ((d).pos))) && (decide (((c).neg) < ((d).neg))))))]) (fun hK => ?_) (fun base => ?_)
 ·refine Ey ?_; refine Jl ?_; refine q0 rfl (D0x ?_ (a := ((c).pos)) (b := ((d).pos))); refine F5 ?_; refine Ht rfl (decide (((c).pos) < ((d).pos))) (fun hg10 g10 => ?_) (fun hg10 g10 => ?_)
  ·refine Jh ?_; refine Ju ?_; refine qT rfl rfl rfl (D1b ?_ (a := ((c).pos)) (b := ((d).pos))); refine D2 ?_; refine Ht rfl (decide (((c).pos) = ((d).pos))) (fun hg16 g16 => ?_) (fun hg16 g16 => ?_)
   ·refine Jh ?_; refine Ju ?_; refine qT rfl rfl rfl (D0x ?_ (a := ((c).neg)) (b := ((d).neg))); refine Tv ?_; refine Ji ?_; exact hK _ ⟨(by first | rfl | ((conv => lhs; whnf); first | (simp_all [Ck]; done) | (simp_all [Ck]; omega))), trivial⟩
   ·refine Ga ?_; refine Tu ?_; refine Ji ?_; exact hK _ ⟨(by first | rfl | ((conv => lhs; whnf); first | (simp_all [Ck]; done) | (simp_all [Ck]; omega))), trivial⟩
  ·refine Ga ?_; refine Mw ?_; refine Q6 ?_; refine Q6 ?_; refine C3q ?_; refine Mw ?_; refine Fj ?_; exact hK _ ⟨(by first | rfl | ((conv => lhs; whnf); first | (simp_all [Ck]; done) | (simp_all [Ck]; omega))), trivial⟩
 ·refine As f_ rfl A5 () (by first | rfl | (simp_all [Ck]; done) | (simp_all [Ck]; omega)) (fun w hs => hs.none)
theorem Sg (c : Cl) (hc : u32 c) : Spec prog 160 #[En c] [] [] (fun _ : Unit => .bool ((Lg c))) (fun _ => []) (fun _ => []) := by
 refine D1 ntmps160 fun B hB => ?_
 have hc1 := hc.1; have hc2 := hc.2; refine B8 ?_; refine q0 rfl (B3 fun b1 => ?_); refine J1 ?_; refine Lu ?_; refine Ar (X := Nat) (fun s_ => s_ ≤ 24 ∧ ∀ j, j < s_ → (Bu c.pos (j : Int) && Bu c.neg (j : Int)) = false) (fun s_ => [(1, pz b1), (3, iv ((s_ : Int)))]) (fun s_ G_ => G_) (fun s_ => [Ae b1 (Aq c) 45]) (fun s_ => 24 - s_) (0) (⟨by omega, fun j hj => by omega⟩) (by exact Cb) ?_ ?_
 ·exact fun w hs => hs
 ·intro i base0 ⟨hi, hok⟩ next0; refine Gx ?_; refine Pd ?_; refine B7 (decide ((i : Int) < 24)) (fun h5 c5 => ?_) (fun h5 c5 => ?_)
  ·refine H8 ?_; refine Al ([(1, pz b1), (3, iv ((i : Int))), (17, .bool ((Bu ((c).pos) (i : Int)) && (Bu ((c).neg) (i : Int))))]) (fun hK => ?_) (fun base => ?_)
   ·refine Ey ?_; refine F5 ?_; refine q0 rfl (A1 call116 (S1 ((c).pos) (i : Int) Dh) (fun x11 => ?_)); refine F5 ?_; refine Ht rfl ((Bu ((c).pos) (i : Int))) (fun hg12 g12 => ?_) (fun hg12 g12 => ?_)
    ·refine Jh ?_; refine D2 ?_; refine qT rfl rfl rfl (A1 call116 (S1 ((c).neg) (i : Int) Dh) (fun x16 => ?_)); refine Js ?_; exact hK _ ⟨rfl, rfl, Dn, trivial⟩
    ·refine H9 ?_; refine Ge ?_; exact hK _ ⟨rfl, rfl, Dn, trivial⟩
   ·refine B7 ((Bu ((c).pos) (i : Int)) && (Bu ((c).neg) (i : Int))) (fun h17 c17 => ?_) (fun h17 c17 => ?_)
    ·refine Bw ?_; have hb : (Bu c.pos (i : Int) && Bu c.neg (i : Int)) = true := by simpa using h17
     refine As f_ rfl A5 () (by rw [Lg, List.any_eq_true.mpr ⟨i, List.mem_range.mpr A2, hb⟩]) (fun w hs => hs.none)
    ·refine D7 ?_; have hb : (Bu c.pos (i : Int) && Bu c.neg (i : Int)) = false := by simpa using h17
     refine A0 (fun w hs => ?_) (next0 (i + 1) _ (⟨by omega, Ip hok hb⟩) A2 Cb); exact (hs.l9)
  ·refine Nk ?_; refine As f_ rfl A5 () (by rw [Lg, List.any_eq_false.mpr (fun j hj => by rw [hok j (by have := List.mem_range.mp hj; omega)]; decide)]) (fun w hs => hs.none)
theorem Zn (l : List Cl) (c : Cl) : C4 l c = l.any fun d => !decide (d = c) && below c d := by
 unfold C4; congr 1; funext d; rw [show (decide (c = d)) = decide (d = c) from decide_eq_decide.mpr eq_comm]
theorem D4w (l : List Cl) (a_l : SH) (c : Cl) (hc : u32 c) : Spec prog 225 #[sl a_l (l.length), En c] [CL l a_l] [] (fun _ : Unit => .bool ((!C4 l c))) (fun _ => []) (fun _ => []) := by
 refine D1 ntmps225 fun B hB => ?_
 refine A7 (l := l) (a := a_l) (fun hl1 hA1 hU1 => ?_); have hc1 := hc.1; have hc2 := hc.2; refine B8 ?_; refine q0 rfl (B3 fun b3 => ?_); refine J1 ?_; refine Lu ?_; refine Ar (X := Nat) (fun s_ => s_ ≤ l.length ∧ ∀ j, j < s_ → (!decide (l.getD j A4 = c) && below c (l.getD j A4)) = false) (fun s_ => [(0, sl a_l (l.length)), (3, pz b3), (5, iv ((s_ : Int)))]) (fun s_ G_ => G_) (fun s_ => [Ae b3 (Aq c) 45]) (fun s_ => l.length - s_) (0) (⟨by omega, fun j hj => by omega⟩) (by exact Cb) ?_ ?_
 ·exact fun w hs => hs
 ·intro i base0 ⟨hi, hok⟩ next0; refine Jv ?_; refine B7 (decide ((i : Int) < (l.length : Int))) (fun h9 c9 => ?_) (fun h9 c9 => ?_)
  ·have hu := hU1 _ (Ac (d := A4) (show i < l.length by omega)); have hu1 := hu.1; have hu2 := hu.2; refine H8 ?_; refine Al ([(0, sl a_l (l.length)), (3, pz b3), (5, iv ((i : Int))), (25, .bool ((!decide ((l.getD i A4) = c)) && (below c (l.getD i A4))))]) (fun hK => ?_) (fun base => ?_)
   ·refine Bp (pn := 1000000) (tn := false) (A := [0, 0, 3, 7, 0, 31, 63, 127, 127, 127, 895, 1919, 4095, 8191]) (l := [0, 1, 2, 3, 4, 5, 6, 7, 8, 9, 10, 11, 12, 13]) (fin := []) Tab.mixed ⟨_, func225⟩ (by rfl) ?_; refine Gq ?_; obtain ⟨bk2, o2, hav2⟩ := hA1 A2; refine n0 rfl (G4 ?_ (j := i)); refine A8l ?_; refine Pf ?_; refine n0 rfl (C0h ?_ (c := (l.getD i A4)) (c' := c)); refine G9 ?_; refine nI rfl rfl rfl Hk (fun hg18 => ?_) (fun hg18 => ?_)
    ·have g18 := sm_ (p := (!decide ((l.getD i A4) = c)) = true) hg18; refine D7c ?_; refine Pg ?_; refine Pg ?_; refine nT rfl rfl rfl (G4 ?_ (j := i)); refine nT rfl rfl rfl (A5m ?_); refine nT rfl rfl rfl (Bk call248 (D9p c (l.getD i A4) Dh Dh) (fun x24 => ?_)); refine B1r ?_; refine Ou ?_; exact hK _ ⟨rfl, rfl, rfl, Dn, trivial⟩
    ·have g18 := sm_ (p := (!decide ((l.getD i A4) = c)) = false) hg18; refine Jw ?_; refine Tw ?_; refine Lt ?_; exact hK _ ⟨rfl, rfl, rfl, Dn, trivial⟩
   ·refine B7 ((!decide ((l.getD i A4) = c)) && (below c (l.getD i A4))) (fun h25 c25 => ?_) (fun h25 c25 => ?_)
    ·refine Bw ?_; have hb : (!decide (l.getD i A4 = c) && below c (l.getD i A4)) = true := by simpa using h25
     refine As f_ rfl A5 () (by rw [Zn, A0e (d := A4) (i := i) A2 hb]; rfl) (fun w hs => hs.none)
    ·refine D7 ?_; have hb : (!decide (l.getD i A4 = c) && below c (l.getD i A4)) = false := by simpa using h25
     refine A0 (fun w hs => ?_) (next0 (i + 1) _ (⟨by omega, Ip hok hb⟩) A2 Cb); exact (hs.l9)
  ·refine Nk ?_; refine As f_ rfl A5 () (by rw [Zn, Xq (d := A4) (fun j hj => hok j A2)]; rfl) (fun w hs => hs.none)
theorem B7c (l : List Cl) (a_l : SH) (m : List Cl) (a_m : SH)  : Spec prog 21 #[sl a_l (l.length), sl a_m (m.length)] [CL l a_l, CL m a_m] [] (fun _ : Unit => .bool ((decide (l = m)))) (fun _ => []) (fun _ => []) := by
 refine D1 ntmps21 fun B hB => ?_
 refine A7 (l := l) (a := a_l) (fun hl1 hA1 hU1 => ?_); refine A7 (l := m) (a := a_m) (fun hl2 hA2 hU2 => ?_); refine W4 ?_; refine L1 ?_; refine F5 ?_; refine L1 ?_; refine B6g ?_; refine B7 (decide ((l.length : Int) ≠ (m.length : Int))) (fun h10 c10 => ?_) (fun h10 c10 => ?_)
 ·have hne : ¬ l = m := fun e => by subst e; simp at h10
  refine Bw ?_; refine As f_ rfl A5 () (by rw [decide_eq_false hne]) (fun w hs => hs.none)
 ·have hlen : l.length = m.length := by simp at h10; omega
  refine Hp ?_; refine Lu ?_; refine Ar (X := Nat) (fun s_ => s_ ≤ l.length ∧ ∀ j, j < s_ → l.getD j A4 = m.getD j A4) (fun s_ => [(0, sl a_l (l.length)), (1, sl a_m (m.length)), (5, iv ((s_ : Int)))]) (fun s_ G_ => G_) (fun s_ => []) (fun s_ => l.length - s_) (0) (⟨by omega, fun j hj => by omega⟩) (by exact Cb) ?_ ?_
  ·exact fun w hs => hs
  ·intro i base0 ⟨hi, hok⟩ next0; refine Jv ?_; refine B7 (decide ((i : Int) < (l.length : Int))) (fun h14 c14 => ?_) (fun h14 c14 => ?_)
   ·refine H8 ?_; refine Bp (pn := 1000000) (tn := false) (A := [0, 0, 3, 7, 0, 0, 48, 112, 255]) (l := [0, 1, 2, 3, 4, 5, 6, 7, 8]) (fin := []) Tab.mixed ⟨_, func21⟩ (by rfl) ?_; refine Gq ?_; obtain ⟨bk3, o3, hav3⟩ := hA1 A2; refine n0 rfl (G4 ?_ (j := i)); refine A8l ?_; refine Gq ?_; obtain ⟨bk4, o4, hav4⟩ := hA2 A2; refine n0 rfl (G4 ?_ (j := i)); refine A8l ?_; refine n0 rfl (C0h ?_ (c := (l.getD i A4)) (c' := (m.getD i A4))); refine Ou ?_; refine B7 (!decide ((l.getD i A4) = (m.getD i A4))) (fun h25 c25 => ?_) (fun h25 c25 => ?_)
    ·refine Bw ?_; refine As f_ rfl A5 () (by rw [decide_eq_false (fun e => by subst e; simp at h25)]) (fun w hs => hs.none)
    ·refine D7 ?_; have hb : l.getD i A4 = m.getD i A4 := by simpa using h25
     refine A0 (fun w hs => ?_) (next0 (i + 1) _ (⟨by omega, Ip hok hb⟩) A2 Cb); exact (hs.l9)
   ·refine Nk ?_; refine As f_ rfl A5 () (by rw [decide_eq_true (R9 hlen (fun j hj => hok j A2))]) (fun w hs => hs.none)
theorem Yb (l : List Cl) (a_l : SH)  : Spec prog 193 #[sl a_l (l.length)] [CL l a_l] [] (fun x : SH => .tuple #[sl x (Ax l).2.length, iv (Ax l).1]) (fun x : SH => [CL (Ax l).2 x]) (fun x : SH => []) := by
 refine D1 ntmps193 fun B hB => ?_
 refine A7 (l := l) (a := a_l) (fun hl1 hA1 hU1 => ?_); refine Et ?_; refine Ot ?_; refine Ar (X := Nat) (fun s_ => s_ ≤ l.length ∧ ∀ j, j < s_ → Ao (l.getD j A4) = true) (fun s_ => [(0, sl a_l (l.length)), (4, iv ((s_ : Int)))]) (fun s_ G_ => G_) (fun s_ => []) (fun s_ => l.length - s_) (0) (⟨by omega, fun j hj => by omega⟩) (by exact Cb) ?_ ?_
 ·exact fun w hs => hs
 ·intro i base0 ⟨hi, hok⟩ next0; refine Jv ?_; refine B7 (decide ((i : Int) < (l.length : Int))) (fun h11 c11 => ?_) (fun h11 c11 => ?_)
  ·have hu := hU1 _ (Ac (d := A4) (show i < l.length by omega)); have hu1 := hu.1; have hu2 := hu.2; refine Vu ?_; obtain ⟨bk2, o2, hav2⟩ := hA1 A2; refine q0 rfl (Cj ?_ (j := i)); refine Oe ?_; refine q0 rfl (A1 call159 (A9r (l.getD i A4) Dh) (fun x18 => ?_)); refine H4 ?_; refine B7 (!(Ao (l.getD i A4))) (fun h19 c19 => ?_) (fun h19 c19 => ?_)
   ·have hlf : Ax l = (2, []) := by rw [Ax, if_pos (Nb (d := A4) (i := i) A2 (by simpa using h19))]
    refine Et ?_; refine Az f_ rfl A5 A5 (none, 0) (by rw [hlf]; rfl) (fun w hs => by rw [hlf]; exact (hs.D3 0).bare.l8)
   ·refine D7 ?_; have hb : Ao (l.getD i A4) = true := by simpa using h19
    refine A0 (fun w hs => ?_) (next0 (i + 1) _ (⟨by omega, Ip hok hb⟩) A2 Cb); exact (hs.l9)
  ·have hall : l.all Ao = true := Pc (d := A4) (fun j hj => hok j A2); refine Dt ?_; refine L3 ?_; refine Ar (X := Nat × SH) (fun s_ => s_.1 ≤ l.length) (fun s_ => [(0, sl a_l (l.length)), (5, sl s_.2 (((Dv l s_.1)).length)), (6, iv ((s_.1 : Int)))]) (fun s_ G_ => CL (Dv l s_.1) s_.2 :: G_) (fun s_ => []) (fun s_ => l.length - s_.1) (0, (none, 0)) A2 (by exact ⟨rfl, (by rw [A6i]; rfl), rfl, trivial⟩) ?_ ?_
   ·exact fun w hs => by rw [A6i]; exact hs.D3 0
   ·intro ⟨i, a⟩ base1 hi1 next1; dsimp only at hi1 next1 ⊢; refine A7 (l := (Dv l i)) (a := a) (fun hl3 hA3 hU3 => ?_); have hrl := A1t l i; refine Jv ?_; refine B7 (decide ((i : Int) < (l.length : Int))) (fun h23 c23 => ?_) (fun h23 c23 => ?_)
    ·have hu := hU1 _ (Ac (d := A4) (show i < l.length by omega)); have hu1 := hu.1; have hu2 := hu.2; refine Jr ?_; refine Gx ?_; refine Ha ?_; obtain ⟨bk4, o4, hav4⟩ := hA1 A2; refine q0 rfl (Cj ?_ (j := i)); refine Oe ?_; refine q0 rfl (A1 call225 (D4w l a_l (l.getD i A4) Dh) (fun x31 => ?_)); refine H4 ?_; refine B7 (!(!C4 l (l.getD i A4))) (fun h32 c32 => ?_) (fun h32 c32 => ?_)
     ·refine Dt ?_; refine C3i ?_; have hnx : Dv l (i + 1) = Dv l i := by rw [Yc A2, if_pos (by simpa using h32)]
      refine A0 (fun w hs => ?_) (next1 (i + 1, a) _ A2 (by (try simp only); omega) ⟨rfl, (by (conv => lhs; whnf); simp [sl, hnx]), rfl, trivial⟩); rw [hnx]; exact (hs.l9)
     ·refine H7 ?_; refine Bw ?_; refine Kl ?_; refine zq8 ?_; refine Ar (X := Nat) (fun s_ => s_ ≤ (Dv l i).length ∧ ∀ j, j < s_ → Ck ((Dv l i).getD j A4) (l.getD i A4) = true) (fun s_ => [(0, sl a_l (l.length)), (5, sl a (((Dv l i)).length)), (6, iv ((i : Int))), (7, iv ((s_ : Int)))]) (fun s_ G_ => G_) (fun s_ => []) (fun s_ => (Dv l i).length - s_) (0) (⟨by omega, fun j hj => by omega⟩) (by exact Cb) ?_ ?_
      ·exact fun w hs => hs
      ·intro k base2 ⟨hk, hk2⟩ next2; have hvo : k < (Dv l i).length → u32 ((Dv l i).getD k A4) := fun h => hU1 _ (C0w (Ac h))
       refine Il ?_; refine Al ([(0, sl a_l (l.length)), (5, sl a (((Dv l i)).length)), (6, iv ((i : Int))), (7, iv ((k : Int))), (47, .bool ((decide ((k : Int) < (((Dv l i)).length : Int))) && (Ck (((Dv l i)).getD k A4) (l.getD i A4))))]) (fun hK => ?_) (fun base => ?_)
       ·refine Bp (pn := 1000000) (tn := false) (A := [0, 0, 2, 7, 15, 31, 31, 127, 255, 31, 31, 1567, 3615, 8191, 16383]) (l := [0, 1, 2, 3, 4, 5, 6, 7, 8, 9, 10, 11, 12, 13, 14]) (fin := []) Tab.mixed ⟨_, func193⟩ (by rfl) ?_; refine Gq ?_; refine n0 rfl (A5l ?_); refine n0 rfl (E3m ?_); refine G9 ?_; refine nI rfl rfl rfl Hk (fun hg37 => ?_) (fun hg37 => ?_)
        ·have g37 := sm_ (p := (decide ((k : Int) < (((Dv l i)).length : Int))) = true) hg37; refine A1d ?_; refine Pg ?_; obtain ⟨bk5, o5, hav5⟩ := hA3 A2; refine nT rfl rfl rfl (G4 ?_ (j := k)); refine nT rfl rfl rfl (A5m ?_); refine Pg ?_; refine Pg ?_; refine nT rfl rfl rfl (G4 ?_ (j := i)); refine nT rfl rfl rfl (A5m ?_); refine nT rfl rfl rfl (Bk call226 (E3z (((Dv l i)).getD k A4) (l.getD i A4) Dh Dh) (fun x46 => ?_)); refine B1r ?_; refine Ou ?_; exact hK _ ⟨rfl, rfl, rfl, rfl, Dn, trivial⟩
        ·have g37 := sm_ (p := (decide ((k : Int) < (((Dv l i)).length : Int))) = false) hg37; refine Jw ?_; refine Jw ?_; refine Lt ?_; exact hK _ ⟨rfl, rfl, rfl, rfl, Dn, trivial⟩
       ·refine B7 ((decide ((k : Int) < (((Dv l i)).length : Int))) && (Ck (((Dv l i)).getD k A4) (l.getD i A4))) (fun h47 c47 => ?_) (fun h47 c47 => ?_)
        ·refine H7 ?_; refine zq8 ?_; refine C3i ?_; refine A8q ?_; refine A0 (fun w hs => ?_) (next2 (k + 1) _ (⟨by omega, Ip hk2 c47.2⟩) A2 Cb); exact (hs.l9)
        ·have hlast : k < (Dv l i).length → Ck ((Dv l i).getD k A4) (l.getD i A4) = false := fun hlt => by simpa [hlt] using h47
         refine Rq ?_; refine Al ([(0, sl a_l (l.length)), (5, sl a (((Dv l i)).length)), (6, iv ((i : Int))), (7, iv ((k : Int))), (64, .bool ((decide ((k : Int) = (((Dv l i)).length : Int))) || (!decide ((((Dv l i)).getD k A4) = (l.getD i A4)))))]) (fun hK => ?_) (fun base => ?_)
         ·refine Bp (pn := 1000000) (tn := false) (A := [0, 0, 2, 7, 15, 31, 31, 127, 255, 31, 31, 1567, 3615, 8191, 16383]) (l := [0, 1, 2, 3, 4, 5, 6, 7, 8, 9, 10, 11, 12, 13, 14]) (fin := []) Tab.mixed ⟨_, func193⟩ (by rfl) ?_; refine Gq ?_; refine n0 rfl (A5l ?_); refine n0 rfl (D7e ?_); refine G9 ?_; refine nI rfl rfl rfl Hk (fun hg54 => ?_) (fun hg54 => ?_)
          ·have g54 := sm_ (p := (decide ((k : Int) = (((Dv l i)).length : Int))) = false) hg54; refine A1d ?_; refine Pg ?_; obtain ⟨bk6, o6, hav6⟩ := hA3 A2; refine nT rfl rfl rfl (G4 ?_ (j := k)); refine nT rfl rfl rfl (A5m ?_); refine Pg ?_; refine Pg ?_; refine nT rfl rfl rfl (G4 ?_ (j := i)); refine nT rfl rfl rfl (A5m ?_); refine nT rfl rfl rfl (C0h ?_ (c := (((Dv l i)).getD k A4)) (c' := (l.getD i A4))); refine Lt ?_; exact hK _ ⟨rfl, rfl, rfl, rfl, Dn, trivial⟩
          ·have g54 := sm_ (p := (decide ((k : Int) = (((Dv l i)).length : Int))) = true) hg54; refine Jw ?_; refine Jw ?_; refine B1r ?_; refine Ou ?_; exact hK _ ⟨rfl, rfl, rfl, rfl, Dn, trivial⟩
         ·refine B7 ((decide ((k : Int) = (((Dv l i)).length : Int))) || (!decide ((((Dv l i)).getD k A4) = (l.getD i A4)))) (fun h64 c64 => ?_) (fun h64 c64 => ?_)
          ·have hcase : ¬ (k < (Dv l i).length ∧ (Dv l i).getD k A4 = l.getD i A4) := by rintro ⟨h1, h2⟩; rcases c64 with h3 | h3; omega; exact h3 h2
           refine A0 (fun w hs => (hs.D8u (l := Dv l i) (a := a) k E5 A2)) ?_; refine A0 (fun w hs => (hs.E2y (l := Dv l i) (a := a) k E5 A2)) ?_; refine Bz (p := (Dv l i).length ≤ a.2) (fun w hs => hs.E7a E5) (fun hcap => ?_); have htl : ((Dv l i).take k).length = k := by simp; omega
           have hdl : ((Dv l i).drop k).length = (Dv l i).length - k := by simp
           refine Bp (pn := 1000000) (tn := true) (A := [0, 0, 0, 6, 15, 0, 0, 96, 224, 480, 1023, 0, 0, 6144, 16383, 32767]) (l := [1, 2, 3, 5, 6, 7, 8, 11, 12, 13, 0, 4, 9, 10, 14, 15]) (fin := []) Tab.mixed ⟨_, func193⟩ (by rfl) ?_; refine Gq ?_; refine n0 rfl (C3w ?_ (k := k)); refine Gq ?_; refine n0 rfl (G4 ?_ (j := i)); refine n0 rfl (E6w ?_); refine Gq ?_; refine n0 rfl (C3v ?_ (k := k) (a := a)); refine n0 rfl (D8r fun b65 => ?_); refine A0q [_] [_] (fun _ _ _ hs => hs.Hw (sz := 2) (m := 0) rfl Jp) ?_; refine n0 rfl (C0m (fun a69 => ?_) E5 (a := (some ⟨b65, 0, none⟩, 0)) (n' := 0) (b := a) (ls := ((Dv l i).take k)) (hy := (by rw [List.length_take, Nat.min_eq_left A2]; rfl))); refine A0q [_] [_] (fun _ _ _ hs => hs.Gu (l := []) (m := ((Dv l i).take k))) ?_; refine n0 rfl (Nq fun b74 => ?_); refine n0 rfl (D8z (fun a75 => ?_) (a := a69) (n' := 0 + ((Dv l i).take k).length)); refine A0q [_, _] [_] (fun _ _ _ hs => ((hs.perm Ah).drop).P0 (c := (l.getD i A4))) ?_; refine n0 rfl (C0m (fun a79 => ?_) E5 (a := a75) (n' := 0 + ((Dv l i).take k).length + 1) (b := (Vj a 2 k)) (ls := ((Dv l i).drop k)) (hy := (by rw [List.length_drop]; rfl))); refine A0q [_] [_] (fun _ _ _ hs => hs.Gu (l := (([] ++ ((Dv l i).take k)) ++ [(l.getD i A4)])) (m := ((Dv l i).drop k))) ?_; refine Oi ?_; refine Lx ?_; have hnx : Dv l (i + 1) = (Dv l i).take k ++ [l.getD i A4] ++ (Dv l i).drop k := by rw [Yc A2, if_neg (by simpa using h32), B0k (k := k) A2 hk2 hlast, if_neg hcase]
           have hnl := A1t l (i + 1); have hll : (Dv l (i + 1)).length = 0 + ((Dv l i).take k).length + 1 + ((Dv l i).drop k).length := by rw [hnx]; simp; omega
           refine A0 (fun w hs => ?_) (next1 (i + 1, a79) _ A2 (by (try simp only); omega) ⟨rfl, (by (conv => lhs; whnf); rw [hll]; rfl), rfl, trivial⟩); refine ((hs.Bx (l := Dv l (i + 1)) hB (by rw [hnx]; simp) (by rw [hll]) (by unfold reach at *; omega) (fun c hc => hU1 c (C0w hc))).l9)
          ·have hcase : k < (Dv l i).length ∧ (Dv l i).getD k A4 = l.getD i A4 := by have h9 := h64; simp at h9; exact ⟨by omega, h9.2⟩
           refine D7 ?_; have hnx : Dv l (i + 1) = Dv l i := by rw [Yc A2, if_neg (by simpa using h32), B0k (k := k) A2 hk2 hlast, if_pos hcase]
           refine A0 (fun w hs => ?_) (next1 (i + 1, a) _ A2 (by (try simp only); omega) ⟨rfl, (by (conv => lhs; whnf); simp [sl, hnx]), rfl, trivial⟩); rw [hnx]; exact (hs.l9)
    ·have he : i = l.length := by omega
     have hrw : Dv l i = E2 l := by rw [he, B3a]
     refine Dt ?_; refine Gx ?_; refine L1 ?_; refine Rp ?_; refine B7 (decide (64 < (((Dv l i)).length : Int))) (fun h82 c82 => ?_) (fun h82 c82 => ?_)
     ·have hlf : Ax l = (3, []) := by rw [Ax, if_neg (by rw [hall]; decide), if_pos (by rw [← hrw]; omega)]
      refine Et ?_; refine Az f_ rfl A5 A5 (none, 0) (by rw [hlf]; rfl) (fun w hs => by rw [hlf]; exact (hs.D3 0).bare.l8)
     ·have hlf : Ax l = (0, E2 l) := by rw [Ax, if_neg (by rw [hall]; decide), if_neg (by rw [← hrw]; omega)]
      refine H7 ?_; refine Dx ?_; refine Az f_ rfl A5 A5 a (by rw [hlf, ← hrw]; rfl) (fun w hs => by rw [hlf, ← hrw]; exact hs.bare.l8)
theorem Ib (l : List Cl) (a_l : SH)  : Spec prog 149 #[sl a_l (l.length)] [CL l a_l] [] (fun _ : Unit => .bool ((Aa l))) (fun _ => []) (fun _ => []) := by
 refine D1 ntmps149 fun B hB => ?_
 refine A7 (l := l) (a := a_l) (fun hl1 hA1 hU1 => ?_); refine L4 ?_; refine q0 rfl (A1 call193 (Yb l a_l ) (fun x7 => ?_)); refine Lr ?_; refine Kl ?_; refine Al ([(2, .bool ((decide (((Ax l).1) = 0)) && (decide (((Ax l).2) = l))))]) (fun hK => ?_) (fun base => ?_)
 ·refine U3 ?_; refine Ht rfl (decide (((Ax l).1) = 0)) (fun hg12 g12 => ?_) (fun hg12 g12 => ?_)
  ·refine Ij ?_; refine D2 ?_; refine qT rfl rfl rfl (A1 call21 (B7c ((Ax l).2) x7 l a_l ) (fun x15 => ?_)); refine Fj ?_; exact hK _ ⟨Dn, trivial⟩
  ·refine Q1 ?_; exact hK _ ⟨Dn, trivial⟩
 ·refine As f_ rfl A5 () (by rw [← Rc]) (fun w hs => hs.none)
theorem Ke (l : List Cl) (a_l : SH)  : Spec prog 134 #[sl a_l (l.length)] [CL l a_l] [] (fun _ : Unit => .bool ((A8 l))) (fun _ => []) (fun _ => []) := by
 refine D1 ntmps134 fun B hB => ?_
 refine A7 (l := l) (a := a_l) (fun hl1 hA1 hU1 => ?_); refine W4 ?_; refine q0 rfl (A1 call149 (Ib l a_l ) (fun x5 => ?_)); refine H4 ?_; refine B7 (!(Aa l)) (fun h6 c6 => ?_) (fun h6 c6 => ?_)
 ·refine Bw ?_; refine As f_ rfl A5 () (by rw [A8, show Aa l = false by simpa using h6]; rfl) (fun w hs => hs.none)
 ·have hfr : Aa l = true := by simpa using h6
  have hal : l.all Ao = true := by unfold Aa at hfr; simp only [Bool.and_eq_true] at hfr; exact hfr.1.1.1
  refine Hp ?_; refine Lu ?_; refine Ar (X := Nat) (fun s_ => s_ ≤ l.length ∧ ∀ j, j < s_ → Eg (l.getD j A4) = false) (fun s_ => [(0, sl a_l (l.length)), (3, iv ((s_ : Int)))]) (fun s_ G_ => G_) (fun s_ => []) (fun s_ => l.length - s_) (0) (⟨by omega, fun j hj => by omega⟩) (by exact Cb) ?_ ?_
  ·exact fun w hs => hs
  ·intro i base0 ⟨hi, hok⟩ next0; refine Jv ?_; refine B7 (decide ((i : Int) < (l.length : Int))) (fun h10 c10 => ?_) (fun h10 c10 => ?_)
   ·have hu := hU1 _ (Ac (d := A4) (show i < l.length by omega)); have hu1 := hu.1; have hu2 := hu.2; have hr24 : Ao (l.getD i A4) = true := List.all_eq_true.mp hal _ (Ac A2); refine Vu ?_; obtain ⟨bk2, o2, hav2⟩ := hA1 A2; refine q0 rfl (Cj ?_ (j := i)); refine Oe ?_; refine q0 rfl (A1 call160 (Sg (l.getD i A4) Dh) (fun x17 => ?_)); refine Ly ?_; refine B7 ((Lg (l.getD i A4))) (fun h17 c17 => ?_) (fun h17 c17 => ?_)
    ·refine Bw ?_; have hb : Eg (l.getD i A4) = true := by rw [← Ti hr24]; simpa using h17
     refine As f_ rfl A5 () (by rw [A8, A0e (d := A4) (i := i) A2 hb]; simp) (fun w hs => hs.none)
    ·refine D7 ?_; have hb : Eg (l.getD i A4) = false := by rw [← Ti hr24]; simpa using h17
     refine A0 (fun w hs => ?_) (next0 (i + 1) _ (⟨by omega, Ip hok hb⟩) A2 Cb); exact (hs.l9)
   ·refine Nk ?_; refine As f_ rfl A5 () (by rw [A8, hfr, Xq (d := A4) (fun j hj => hok j A2)]; rfl) (fun w hs => hs.none)
def Xk (l : List Cl) (i k : Nat) : Bool := (F4 l k).testBit i
theorem B9f (l : List Cl) (i : Nat) : Xk l i 0 = false := by simp [Xk, F4]
theorem B9g {l : List Cl} {i k : Nat} (hi : i < 24) (h : k < l.length) : Xk l i (k + 1) = ((Xk l i k || Bu (l.getD k A4).pos (i : Int)) || Bu (l.getD k A4).neg (i : Int)) := by
 unfold Xk; rw [Zj h, Nat.testBit_or, Nat.testBit_or]; simp only [Bu]; rw [decide_eq_true (show (0 : Int) ≤ (i : Int) by omega), decide_eq_true (show (i : Int) < 24 by omega)]; simp [Bool.or_assoc]
theorem C9k (l : List Cl) (a_l : SH)  : Spec prog 232 #[sl a_l (l.length)] [CL l a_l] [] (fun _ : Unit => .int .u32 (((Dl l) : Nat) : Int)) (fun _ => []) (fun _ => []) := by
 refine D1 ntmps232 fun B hB => ?_
 refine A7 (l := l) (a := a_l) (fun hl1 hA1 hU1 => ?_); refine Bw ?_; refine L3 ?_; refine Ar (X := Nat × SH) (fun s_ => s_.1 ≤ 24) (fun s_ => [(0, sl a_l (l.length)), (3, sl s_.2 ((Bv (F4 l l.length) s_.1).length)), (4, iv ((s_.1 : Int)))]) (fun s_ G_ => G_) (fun s_ => [Av 1 3 s_.2 ((Bv (F4 l l.length) s_.1).length) (Dz (Bv (F4 l l.length) s_.1))]) (fun s_ => 24 - s_.1) (0, (none, 0)) A2 (by exact Cb) ?_ ?_
 ·exact fun w hs => (hs.Bs 1 3)
 ·intro ⟨i, a⟩ base0 hi0 next0; dsimp only at hi0 next0 ⊢; have hln := H0 (F4 l l.length) i; refine Gx ?_; refine Pd ?_; refine B7 (decide ((i : Int) < 24)) (fun h8 c8 => ?_) (fun h8 c8 => ?_)
  ·refine Jr ?_; refine L3 ?_; refine Ar (X := Nat) (fun s_ => s_ ≤ l.length) (fun s_ => [(0, sl a_l (l.length)), (3, sl a ((Bv (F4 l l.length) i).length)), (4, iv ((i : Int))), (5, .bool ((Xk l i s_))), (6, iv ((s_ : Int)))]) (fun s_ G_ => G_) (fun s_ => [Av 1 3 a ((Bv (F4 l l.length) i).length) (Dz (Bv (F4 l l.length) i))]) (fun s_ => l.length - s_) (0) A2 (by exact ⟨rfl, rfl, rfl, (by rw [B9f]; rfl), rfl, trivial⟩) ?_ ?_
   ·exact fun w hs => hs
   ·intro k base1 hi1 next1; refine Jv ?_; refine B7 (decide ((k : Int) < (l.length : Int))) (fun h14 c14 => ?_) (fun h14 c14 => ?_)
    ·have hu := hU1 _ (Ac (d := A4) (show k < l.length by omega)); have hu1 := hu.1; have hu2 := hu.2; refine Jr ?_; refine Al ([(0, sl a_l (l.length)), (3, sl a ((Bv (F4 l l.length) i).length)), (4, iv ((i : Int))), (5, .bool (((Xk l i k) || (Bu ((l.getD k A4).pos) (i : Int))) || (Bu ((l.getD k A4).neg) (i : Int)))), (6, iv ((k : Int)))]) (fun hK => ?_) (fun base => ?_)
     ·refine D9 ?_; refine Ht rfl ((Xk l i k)) (fun hg18 g18 => ?_) (fun hg18 g18 => ?_)
      ·refine Ij ?_; refine D2 ?_; obtain ⟨bk2, o2, hav2⟩ := hA1 A2; refine qT rfl rfl rfl (Cj ?_ (j := k)); refine D8j ?_; refine qT rfl rfl rfl (D0z ?_); refine D2 ?_; refine qT rfl rfl rfl (A1 call116 (S1 ((l.getD k A4).pos) (i : Int) Dh) (fun x25 => ?_)); refine Hz ?_; refine Ht rfl ((Bu ((l.getD k A4).pos) (i : Int))) (fun hg27 g27 => ?_) (fun hg27 g27 => ?_)
       ·refine Ij ?_; refine D2 ?_; refine qT rfl rfl rfl (Cj ?_ (j := k)); refine D8j ?_; refine qT rfl rfl rfl (D0z ?_); refine D2 ?_; refine qT rfl rfl rfl (A1 call116 (S1 ((l.getD k A4).neg) (i : Int) Dh) (fun x34 => ?_)); refine Ji ?_; exact hK _ ⟨rfl, rfl, rfl, Dn, rfl, trivial⟩
       ·refine Ga ?_; refine Ii ?_; refine Fj ?_; exact hK _ ⟨rfl, rfl, rfl, Dn, rfl, trivial⟩
      ·refine Ga ?_; refine Ii ?_; refine Ro ?_; refine H9 ?_; refine Fj ?_; exact hK _ ⟨rfl, rfl, rfl, Dn, rfl, trivial⟩
     ·refine Lx ?_; refine A0 (fun w hs => ?_) (next1 (k + 1) _ A2 A2 ⟨rfl, rfl, rfl, (by (conv => lhs; whnf); rw [B9g A2 A2]), rfl, trivial⟩); exact (hs.l9)
    ·have he : k = l.length := by omega
     refine Dt ?_; refine Ex ?_; refine Ly ?_; refine B7 ((Xk l i k)) (fun h36 c36 => ?_) (fun h36 c36 => ?_)
     ·refine D9 ?_; refine q0 rfl (Dd fun b39 => ?_); refine q0 rfl (Dj (fun a40 => ?_) (a := a) (n' := (Bv (F4 l l.length) i).length)); refine Am (fun w hs => ((hs.perm Ah).drop).B2g) ?_; refine Oj ?_; have hnx : Bv (F4 l l.length) (i + 1) = Bv (F4 l l.length) i ++ [(i : Int)] := by rw [Gs, if_pos (show (F4 l l.length).testBit i = true by rw [← he]; exact h36)]
      refine A0 (fun w hs => ?_) (next0 (i + 1, a40) _ A2 (by (try simp only); omega) ⟨rfl, (by (conv => lhs; whnf); simp [sl, hnx]), rfl, trivial⟩); rw [hnx]; simpa using (hs.l9)
     ·refine D7 ?_; have hnx : Bv (F4 l l.length) (i + 1) = Bv (F4 l l.length) i := by rw [Gs, if_neg]; rw [show (F4 l l.length).testBit i = false by rw [← he]; exact h36]; decide
      refine A0 (fun w hs => ?_) (next0 (i + 1, a) _ A2 (by (try simp only); omega) ⟨rfl, (by (conv => lhs; whnf); simp [sl, hnx]), rfl, trivial⟩); rw [hnx]; exact (hs.l9)
  ·have he : i = 24 := by omega
   subst he; refine A0 (fun w hs => (hs.Mp hB rfl rfl (by unfold reach; omega) (fun c hc => by have := Mb hc; unfold Ak; omega))) ?_; refine Dt ?_; refine Ex ?_; refine q0 rfl (A1 call249 (C8z (Bv (F4 l l.length) 24) a A2 (fun x hx => by have := Mb hx; omega)) (fun x42 => ?_)); refine C9 ?_; refine As f_ rfl A5 () (by rw [Uy, A3n]) (fun w hs => hs.none)
end Go.Hy
namespace Go.Hy
open Go.Proofs Go.Proofs.Tryz
set_option maxRecDepth 100000
attribute [local go_sem] Oper.semAt_some
open Go.RowKit Go.Shelf
set_option maxHeartbeats 1000000
theorem E7r (F : Fence) (n : Nat) (hF : F.fn 209) (hro : F.round = none) (r : Nat) (k idx : Nat) (hk : k < 24) (h0 : ((r : Int) == 0) = false)
  (key : bits BinOp.and IntKind.u32 (r : Int) (-(r : Int) % 4294967296) * 125613361 % 4294967296 / 134217728 = (idx : Int)) (hi : idx < 32) (W : World) (hc : W.cell? ⟨0, idx, none⟩ = some (.int .u8 (k : Int))) :
  CallsIn F n prog 209 #[.int .u32 (r : Int)] W fun e w' => e = .returned (iv (k : Int)) ∧ w' = W := by
 refine callsIn_of_wp func209 rfl hF ?_ hro; simp only [ntmps209, List.size_toArray, List.length_cons, List.length_nil, Nat.reduceAdd, Nat.reduceSub, Array.replicate_succ, Array.replicate_zero, List.push_toArray, List.append_toArray, List.nil_append, List.cons_append]
 gi_wp2_with (simp only [key])
 go_ret
 exact ⟨rfl, rfl⟩
theorem tz32' (F : Fence) (n : Nat) (hF : F.fn 209) (hro : F.round = none) (r : Nat) (h0 : ¬ r = 0) (hr : r < 16777216) (W : World) (hT : TabAt 0 Lib.deBruijn32tab W) :
  CallsIn F n prog 209 #[.int .u32 (r : Int)] W fun e w' => e = .returned (iv (Lib.ctz 32 r : Int)) ∧ w' = W := by
 obtain ⟨hlow, hk⟩ := Lib.lowest_bit 32 r h0 A2; obtain ⟨hi, htab⟩ := Lib.deBruijn32_at _ hk; have hcell := hT _ hi; rw [htab] at hcell; exact E7r F n hF hro r _ _ (A6z h0 hr).1 (by simp; omega) (tz32_key r _ A2 h0 hlow) hi W hcell
theorem in1 (F : Fence) (n : Nat) (h208 : F.fn 208) (h209 : F.fn 209) (hro : F.round = none) (hn : 1 ≤ n) (l g : Nat) (s : Nat) (J : List Int → World → Prop)
  (hY : ∀ pre x W, J pre W → pre.length < 24 → (0 ≤ x ∧ x < 24) → YieldAt F (n - 1) prog l #[iv x] W fun e W' => e = .returned (.bool true) ∧ J (pre ++ [x]) W' ∧ W'.heap[g]? = W.heap[g]?)
  (hT : ∀ pre W, J pre W → TabAt 0 Lib.deBruijn32tab W)
  (hJ : ∀ pre W v, J pre W → J pre (W.setCell ⟨g, 0, none⟩ v))
  (hs : s < 4294967296) (W : World) (hg : Boxed W g 43 (.int .u32 (s : Int))) (h0 : J [] W) :
  CallsIn F n prog 208 #[.func (.yield l) #[] #[], pz g] W fun e W' => (∃ v, e = .returned v) ∧ J (A3 s) W' := by
 refine callsIn_of_wp func208 rfl h208 ?_ hro; simp only [ntmps208, List.size_toArray, List.length_cons, List.length_nil, Nat.reduceAdd, Nat.reduceSub, Array.replicate_succ, Array.replicate_zero, List.push_toArray, List.append_toArray, List.nil_append, List.cons_append]; have hc := hg.cell; have hf := hg.frozen
 gi_wp2
 gi_loopw [] (fun wr => ∃ (pre : List Int) (r : Nat), A3 s = pre ++ A3 r ∧ r < 16777216 ∧ Boxed wr g 43 (.int .u32 (r : Int)) ∧ J pre wr)
  (fun wr => match wr.cell? ⟨g, 0, none⟩ with | some (.int _ v) => v.toNat | _ => 0)
 case atStart =>
  refine ⟨[], s &&& 16777215, by rw [List.nil_append, C6e], by rw [A0f]; exact Nat.mod_lt _ Jp, ?_, hJ _ _ _ h0⟩; rw [← bits_and_u32_nat s 16777215 hs Jp]; exact hg.set _
 case round =>
  obtain ⟨pre, r, hx, hr, hb, hj⟩ := hrel; have hc2 := hb.cell; have hf2 := hb.frozen; by_cases hr0 : r = 0
  ·subst hr0
   gi_wp2
   go_end0
   exact ⟨⟨_, rfl⟩, by rw [hx, show A3 0 = [] from by decide, List.append_nil]; exact hj⟩
  ·obtain ⟨hk, hlist⟩ := A6z hr0 hr
   have hlen : pre.length < 24 := by
    have h1 := congrArg List.length hx; have h2 : (A3 s).length ≤ 24 := H0 s 24; rw [List.length_append, hlist, List.length_cons] at h1; omega
   obtain ⟨fn, tmps, assign, body, hy, hR⟩ := hY pre (Lib.ctz 32 r : Int) wr hj hlen A2; have hbe : ((r : Int) != 0) = true := by simp; omega
   gi_wp2_with (gi_at_call 209; refine (tz32' F (n - 1) h209 hro r hr0 hr wr (hT _ _ hj)).mono ?_; rintro e w' ⟨rfl, rfl⟩)
   refine hR.mono ?_; rintro e W3 ⟨rfl, hJ3, hg3⟩; have hb3 : Boxed W3 g 43 (.int .u32 (r : Int)) := hg3.trans hb; have hc3 := hb3.cell; have hf3 := hb3.frozen
   gi_wp2
   have e1 : bits BinOp.and IntKind.u32 (r : Int) ((r : Int) - 1) = ((r &&& (r - 1) : Nat) : Int) := by
    rw [show (r : Int) - 1 = ((r - 1 : Nat) : Int) by omega]; exact bits_and_u32_nat r (r - 1) A2 A2
   rw [e1]; have hb4 := hb3.set (.int .u32 ((r &&& (r - 1) : Nat) : Int)); have hlt := E0v hr0
   go_roundw
   case rel => exact ⟨pre ++ [(Lib.ctz 32 r : Int)], r &&& (r - 1), by rw [hx, hlist, List.append_assoc]; rfl, by omega, hb4, hJ _ _ _ hJ3⟩
   case measure =>
    rw [hb4.cell, hc2]; simp only [Int.toNat_natCast]; exact hlt
theorem E5b (F : Fence) (n : Nat) (h : F.fn 156) (hro : F.round = none) (s : Nat) (w : World) :
  CallsIn F n prog 156 #[.int .u32 (s : Int)] w fun e w' => e = .returned (.func (.func 208) #[] #[.pointer (some ⟨w.heap.size, 0, none⟩)]) ∧ w' = w.alloc (.cells #[.int .u32 (s : Int)] 43) := by
 refine callsIn_of_wp func156 rfl h ?_ hro; simp only [ntmps156, List.size_toArray, List.length_cons, List.length_nil, Nat.reduceAdd, Nat.reduceSub, Array.replicate_succ, Array.replicate_zero, List.push_toArray, List.append_toArray, List.nil_append, List.cons_append]
 gi_wp2
 go_ret
 exact ⟨rfl, rfl⟩
theorem D6g : (prog.info? 3).map (fun i => (i.zero, i.size, i.bytes)) = some (some (iv 0), 1, 8) := by kernel_rfl
theorem D6a (F : Fence) (n : Nat) (h81 : F.fn 81) (h156 : F.fn 156) (h208 : F.fn 208) (h209 : F.fn 209) (hro : F.round = none) (hn : 3 ≤ n) (s : Nat) (hs : s < 4294967296) (w : World) (hw : 0 < w.heap.size) (hT : TabAt 0 Lib.deBruijn32tab w) :
  CallsIn F n prog 81 #[.int .u32 (s : Int)] w fun e W' => ∃ v, e = .returned v ∧ W'.ownsRow w.heap.size 3 1 v (A3 s).length ((A3 s).map (Value.int .i64)) ∧ Below w.heap.size w W' := by
 have h1 : 1 ≤ n := by omega
 obtain ⟨i0, hi, hz0, hz1, hz2⟩ := info_parts D6g; refine callsIn_of_wp_marks func81 rfl h81 ?_ hro; simp only [ntmps81, List.size_toArray, List.length_cons, List.length_nil, Nat.reduceAdd, Nat.reduceSub, Array.replicate_succ, Array.replicate_zero, List.push_toArray, List.append_toArray, List.nil_append, List.cons_append]
 gi_wp2_with (gi_at_call 156; refine (E5b F (n - 1) h156 hro _ _).mono ?_; rintro e w' ⟨rfl, rfl⟩)
 obtain ⟨w2, hw2⟩ : ∃ w2, (w.alloc (.cells #[.slice none 0 0] 117)).alloc (.cells #[.int .u32 (s : Int)] 43) = w2 := ⟨_, rfl⟩; have bO : Boxed w2 w.heap.size 117 (.slice none 0 0) := by rw [← hw2]; exact (Boxed.new w 117 (.slice none 0 0)).alloc _
 have bS : Boxed w2 (w.heap.size + 1) 43 (.int .u32 (s : Int)) := by rw [← hw2]; have := Boxed.new (w.alloc (.cells #[.slice none 0 0] 117)) 43 (.int .u32 (s : Int)); rwa [World.size_alloc] at this
 have hsz2 : w2.heap.size = w.heap.size + 2 := by rw [← hw2]; simp
 have hB2 : Below w.heap.size w w2 := by rw [← hw2]; exact ((Below.refl _ w).alloc (Nat.le_refl _) _).alloc E5 _
 have hrw : ∀ {A B : World}, B.heap[w.heap.size + 1]? = A.heap[w.heap.size + 1]? → ∀ u, Boxed A (w.heap.size + 1) 43 u → Boxed B (w.heap.size + 1) 43 u := fun h u hu => h.trans hu
 simp only [World.size_alloc, hw2]
 refine C4u hro h1 (gf := 208) (lb := #[.pointer (some ⟨w.heap.size + 1, 0, none⟩)]) rfl h208 (enters_of func208 (by kernel_rfl) rfl) (encs := fun x : Int => #[iv x]) (fun _ => rfl)
  (fun pre W => (∃ v, Boxed W w.heap.size 117 v ∧ W.ownsRow w.heap.size 3 1 v pre.length (pre.map (Value.int .i64))) ∧ (∃ u, Boxed W (w.heap.size + 1) 43 u) ∧ Below w.heap.size w W)
  (fun pre x => pre.length < 24 ∧ (0 ≤ x ∧ x < 24)) (fun W W' => W'.heap[w.heap.size + 1]? = W.heap[w.heap.size + 1]?)
  ?ip ?ia ⟨⟨_, bO, World.ownsRow_nil _ _ _ _⟩, ⟨_, bS⟩, hB2⟩ (fun h k => k.trans h) ?kp (A3 s) ?it
  (fun x => { tmps := #[.int .u32 (s : Int), undef, .slice none 0 0, .pointer (some ⟨w.heap.size, 0, none⟩), iv x, .int .u32 (s : Int), .func (.func 208) #[] #[.pointer (some ⟨w.heap.size + 1, 0, none⟩)], iv x, undef, undef, undef, undef, undef], defers := [] }) ?assign ?body ?done
 case ip =>
  rintro pre A l o o0 ⟨⟨v, hv, hr⟩, ⟨u, hu⟩, hB⟩ hl hc hle; refine ⟨⟨v, (World.putObj_heap_other A2).trans hv, ownsRow_putObj hr o hl hc⟩, ⟨u, (World.putObj_heap_other A2).trans hu⟩, hB.trans ⟨rfl, rfl, rfl, by simp, fun k hk => World.putObj_heap_other A2⟩⟩
 case ia =>
  rintro pre A o ⟨⟨v, hv, hr⟩, ⟨u, hu⟩, hB⟩ hle; exact ⟨⟨v, hv.alloc o, hr.kept (World.grownBy_alloc A o none) (by rcases hr.2 with ⟨rfl, _⟩ | ⟨g, cap, cur, rfl, _⟩; exact .inl rfl; exact .inr (by simp [Value.ownBlock]))⟩, ⟨u, hu.alloc o⟩, hB.alloc A2 o⟩
 case kp =>
  intro A l o o0 hl hc hle; exact World.putObj_heap_other A2
 case it =>
  intro l J W1 hJI hJk hY h0 hk1; refine in1 F (n - 1) h208 h209 hro A2 l (w.heap.size + 1) s J (fun pre x W hj hl hx => hY pre x W hj ⟨hl, hx⟩) (fun pre W hj => ?_) (fun pre W v hj => ?_) hs W1 ?_ h0
  ·intro i hi; exact ((hJI _ _ hj).2.2.cell (p := ⟨0, i, none⟩) hw).trans (hT i hi)
  ·obtain ⟨⟨v0, hv0, hr⟩, ⟨u, hu⟩, hB⟩ := hJI _ _ hj; refine hJk pre W _ hj ⟨⟨v0, hv0.other A2 v, hr.kept (grownBy_setCell' W (w.heap.size + 1) v) (.inr (hu.not_row Jp hr).symm)⟩, ⟨_, hu.set v⟩, hB.setCell (p := ⟨w.heap.size + 1, 0, none⟩) E5 v⟩ (fun k o hk ho => (KeepsOthers.setCell W _ v).same k o hk ho)
  ·exact (hk1 _ A2).trans bS
 case assign =>
  intro l x W K hK
  gi_wp2
  exact hK
 case body =>
  rintro l pre x W ⟨⟨v, hv, hrow⟩, ⟨u, hu⟩, hB⟩ ⟨hlt, hx⟩; have hc := hv.cell
  gi_wp2_with (gi_at_builtin; refine wpListIn_append_own _ rfl _ _ 117 rfl w.heap.size 3 i0 (iv 0) 1 8 Tryz.underlying117 hi hz0 hz1 hz2 rfl Jp _ _ _ rfl (hrow.alloc _) ⟨W.heap.size, 0, none⟩ 1 1 [iv x] rfl rfl (cell_one_new _ _ _) (by simp [Value.oneCell']) (by unfold maxLen; omega) A2 (by have := hB.size; simp; omega) ?_; intro v' w1 hown' hgrow _; obtain ⟨g', cap', rfl⟩ := ownsRow_succ hown'; obtain ⟨hv1, hv2, hr2, hk2, hb2⟩ := hv.appended Jp hrow hB.size (Nat.le_refl _) hown' hgrow; have hc1 := hv1.cell; have hf1 := hv1.frozen)
  have hu1 := ((hu.alloc (.cells #[iv x] 3)).kept hgrow (hu.not_row Jp hrow)).other (B' := w.heap.size) A2 (.slice (some ⟨g', 0, none⟩) (pre.length + 1) cap'); exact ⟨hu1.trans hu.symm, ⟨_, hv2, by simpa using hr2⟩, ⟨u, hu1⟩, hB.trans hb2⟩
 case done =>
  rintro D W hD ⟨⟨v, hv, hrow⟩, _, hB⟩ hK; have hc := hv.cell
  gi_wp2
  refine ⟨by simp, .inl ⟨_, _, rfl, run_takeDeferred hK, ?_⟩⟩; exact ⟨_, results_tmp rfl _ _ _, v, rfl, ownsRow_putObj hrow _ hK rfl, hB.trans ⟨rfl, rfl, rfl, by simp, fun k hk => World.putObj_heap_other A2⟩⟩
abbrev Z6 : Fact := At 0 0 (Lib.deBruijn32tab.map fun (v : Nat) => Value.int .u8 (v : Int))
theorem D8v {ok : Nat → Prop} {w : World} (h : Z6.f ok w) (hk : ∀ b, ok b → b < w.heap.size) : TabAt 0 Lib.deBruijn32tab w ∧ 0 < w.heap.size := by
 refine ⟨fun j hj => ?_, hk _ h.1⟩; have h1 := h.2 j (.int .u8 (Lib.deBruijn32tab.getD j 0 : Nat)) (by rw [List.getElem?_map, List.getD_eq_getElem?_getD, List.getElem?_eq_getElem hj]; rfl)
 rwa [Nat.zero_add] at h1
theorem C6c (s : Nat) (hs : s < 4294967296) : Spec prog 81 #[.int .u32 (s : Int)] [Z6] [] (fun x : SH => sl x (A3 s).length) (fun _ => []) (fun x => [Av 1 3 x (A3 s).length (Dz (A3 s))]) := fun ok w hok hst => by
 obtain ⟨hT, hw⟩ := D8v (hst.facts Z6 List.mem_cons_self) (fun b hb => hb.2.1); refine (callsIn_wide.mp (D6a Fence.wide 3 trivial trivial trivial trivial rfl (Nat.le_refl _) s hs w hw hT)).mono fun e w' hh => ?_
 obtain ⟨v, rfl, hrow, hB⟩ := hh; obtain ⟨a, rfl⟩ := C1m hrow
 have hrow0 : w'.ownsRow 0 3 1 (sl a (A3 s).length) (A3 s).length (Dz (A3 s)) := by
  have h1 : w'.ownsRow 0 3 1 (sl a (A3 s).length) (A3 s).length ((A3 s).map (Value.int .i64)) := ⟨hrow.1, hrow.2.imp id (fun ⟨g, cap, cur, q1, q2, q3⟩ => ⟨g, cap, cur, q1, Nat.zero_le _, q3⟩)⟩
  rwa [show (A3 s).map (Value.int .i64) = Dz (A3 s) from by induction (A3 s) with | nil => rfl | cons y ys ih => (simp only [List.map_cons, Dz, List.flatMap_cons, Lk, List.singleton_append] at ih ⊢; rw [ih])] at h1
 refine ⟨a, rfl, ⟨hB.os, hB.tape, hB.output, hB.size, fun b hb _ => hB.block b hb⟩, fun _ hF => (by cases hF), ?_, ?_, List.pairwise_singleton _ _⟩
 ·intro m hm w2 hw2; rw [List.mem_singleton] at hm; subst hm; exact A1r hrow0 (fun b hb => hw2 b hb)
 ·intro m hm b hb; rw [List.mem_singleton] at hm; subst hm; have := hrow.lt b hb; exact ⟨this.2, .inr this.1⟩
theorem Yp (s : Nat) (hs : s < 4294967296) : Spec prog 81 #[.int .u32 (s : Int)] [Z6] [] (fun x : SH => sl x (A3 s).length) (fun x => [IL (A3 s) x]) (fun _ => []) := fun ok w hok hst => (C6c s hs ok w hok hst).mono fun e w' hh => by
 obtain ⟨x, he, h⟩ := hh; have hl : (A3 s).length ≤ 24 := H0 s 24; exact ⟨x, he, h.Mp trivial rfl rfl (by unfold reach; omega) (fun c hc => by have := Mb hc; unfold Ak; omega)⟩
end Go.Hy
namespace Go.Hy
open Go.Proofs Go.Proofs.Tryz
set_option maxRecDepth 100000
theorem Lm (i : Int) : Spec prog 176 #[iv i] [] [] (fun _ : Unit => .bool (decide (0 ≤ i) && decide (i < 24))) (fun _ => []) (fun _ => []) := by
 refine D1 ntmps176 fun B hB => ?_
 refine L4 ?_; refine A4j ?_; refine F5 ?_; refine qI rfl rfl rfl Hk (fun hg5 => Cf ?_) (fun hg5 => ?_)
 ·refine B1q ?_; refine Fj ?_; refine As f_ rfl A5 () (by first | (simp_all; done) | (simp_all; omega)) (fun w hs => hs.none)
 ·refine Mw ?_; refine Ji ?_; refine As f_ rfl A5 () (by first | (simp_all; done) | (simp_all; omega)) (fun w hs => hs.none)
theorem Sr (s : Nat) (hs : s < 4294967296) : Spec prog 87 #[.int .u32 (s : Int)] [] [] (fun _ : Unit => .bool (decide (s < 16777216))) (fun _ => []) (fun _ => []) := by
 refine D1 ntmps87 fun B hB => ?_
 refine L4 ?_; refine q0 rfl (Sq ?_ (b := 16777215)); refine q0 rfl (Zm ?_ (b := 0)); refine C9 ?_; refine As f_ rfl A5 () (by rw [B6c hs]) (fun w hs => hs.none)
theorem Xt (s : Nat) (hs : s < 4294967296) : Spec prog 175 #[.int .u32 (s : Int), iv (-1)] [] [] (fun _ : Unit => .int .u32 ((s &&& 16777215 : Nat) : Int)) (fun _ => []) (fun _ => []) := by
 refine D1 ntmps175 fun B hB => ?_
 refine L4 ?_; refine q0 rfl (Mr ?_ (b := 16777215)); refine C9 ?_; refine Gx ?_; refine q0 rfl (A1 call176 (Lm (-1)) (fun x8 => ?_)); refine H4 ?_; refine A6 (fun h9 => ?_) (fun h9 => ?_)
 ·refine Mn ?_; refine As f_ rfl A5 () rfl (fun w hs => hs.none)
 ·exact absurd h9 Jp
theorem Vf : D3v := by
 intro l a; refine D1 ntmps97 fun B hB => ?_
 refine A7 (l := l) (a := a) (fun hl1 hA1 hU1 => ?_); refine Bw ?_; refine U2 ?_; refine Ef (X := Nat) (fun i => i ≤ l.length) (fun i => [(3, .int .u32 (F4 l i : Int)), (6, sl a l.length), (7, iv (l.length : Int)), (8, iv (i : Int))]) (fun i => [CL l a]) (fun i => []) (fun i => l.length - i) (0) (Nat.zero_le _) (by exact Cb) ?_ ?_
 ·exact fun w hs => hs.l8
 ·intro i base0 hi next0; refine Fk ?_; refine A6 (fun h9 => ?_) (fun h9 => ?_)
  ·have hlt : i < l.length := by have := of_decide_eq_true h9; omega
   obtain ⟨bk, o, hav⟩ := hA1 A2; have hu := hU1 _ (Ac (d := A4) hlt); have hup := A6r hU1 i; have hor : (l.getD i A4).pos ||| (l.getD i A4).neg < 4294967296 := Nat.or_lt_two_pow (n := 32) hu.1 hu.2; refine Jx ?_; refine Of ?_; refine Oe ?_; refine q0 rfl (Bf fun b5 => ?_); refine Ei ?_; refine Ds ?_; refine Jl ?_; refine Jl ?_; refine q0 rfl (N7 ?_ (a := (l.getD i A4).pos) (b := (l.getD i A4).neg) (ha := hu.1) (hb := hu.2)); refine q0 rfl (N7 ?_ (a := F4 l i) (b := (l.getD i A4).pos ||| (l.getD i A4).neg)); refine Q0 ?_; refine A0 (fun w hs => ?_) (next0 (i + 1) _ hlt A2 ⟨by rw [Zj hlt]; rfl, rfl, rfl, rfl, trivial⟩); exact (hs.l8).bare
  ·have hge : i = l.length := by have := of_decide_eq_false h9; omega
   refine Dt ?_; refine Ex ?_; refine q0 rfl (A1 call175 (Xt (F4 l i) (A6r hU1 i)) (fun x21 => ?_)); refine C9 ?_; refine As f_ rfl A5 () (by rw [A3n, ← hge]) (fun w hs => hs.none)
theorem Jf (c : Cl) (hc : u32 c) : Spec prog 33 #[.agg (Aq c).toArray] [] [] (fun _ : Unit => .bool (Ao c)) (fun _ => []) (fun _ => []) := by
 refine D1 ntmps33 fun B hB => ?_
 refine B8 ?_; refine q0 rfl (B3 fun b1 => ?_); refine C9 ?_; refine Jq ?_; refine q0 rfl (A1 call87 (Sr c.pos hc.1) (fun x5 => ?_)); refine F5 ?_; refine qI rfl rfl rfl Hk (fun hg6 => V8 ?_) (fun hg6 => ?_)
 ·refine Uq ?_; refine qT rfl rfl rfl (A1 call87 (Sr c.neg hc.2) (fun x9 => ?_)); refine Fj ?_; refine As f_ rfl A5 () (by first | (simp_all [Ao]; done) | (simp_all [Ao]; intros; omega)) (fun w hs => hs.none)
 ·refine Q1 ?_; refine As f_ rfl A5 () (by first | (simp_all [Ao]; done) | (simp_all [Ao]; intros; omega)) (fun w hs => hs.none)
theorem Rf (c : Cl) (hc : u32 c) : Spec prog 34 #[.agg (Aq c).toArray] [] [] (fun _ : Unit => .bool (Eg c)) (fun _ => []) (fun _ => []) := by
 refine D1 ntmps34 fun B hB => ?_
 refine B8 ?_; refine q0 rfl (B3 fun b1 => ?_); refine C9 ?_; refine Jq ?_; refine Jl ?_; refine q0 rfl (Mr ?_ (a := c.pos) (b := c.neg) (ha := hc.1) (hb := hc.2)); refine q0 rfl (A6t ?_ (b := 0)); refine C9 ?_; refine As f_ rfl A5 () (by simp only [Eg]; congr 1; apply decide_eq_decide.mpr; omega) (fun w hs => hs.none)
theorem Yo (c d : Cl) (hc : u32 c) (hd : u32 d) : Spec prog 93 #[.agg (Aq c).toArray, .agg (Aq d).toArray] [] [] (fun _ : Unit => .agg (Aq (Db c d)).toArray) (fun _ => []) (fun _ => []) := by
 refine D1 ntmps93 fun B hB => ?_
 refine B8 ?_; refine q0 rfl (B3 fun b2 => ?_); refine q0 rfl (B3 fun b3 => ?_); refine q0 rfl (Bf fun b4 => ?_); refine Ly ?_; refine Jq ?_; refine Jl ?_; refine q0 rfl (N7 ?_ (a := c.pos) (b := d.pos) (ha := hc.1) (hb := hd.1)); refine Jl ?_; refine Jl ?_; refine q0 rfl (N7 ?_ (a := c.neg) (b := d.neg) (ha := hc.2) (hb := hd.2)); refine q0 rfl (B2 (cs := Aq (Db c d)) ?_); refine Ei ?_; refine Pn f_ rfl () rfl Eu rfl rfl rfl rfl (fun w hs => hs.none)
theorem B9r (c d : Cl) (hc : u32 c) (hd : u32 d) : Spec prog 169 #[.agg (Aq c).toArray, .agg (Aq d).toArray] [] [] (fun _ : Unit => .bool (below c d)) (fun _ => []) (fun _ => []) := by
 refine D1 ntmps169 fun B hB => ?_
 refine B8 ?_; refine q0 rfl (B3 fun b2 => ?_); refine q0 rfl (B3 fun b3 => ?_); refine J1 ?_; refine Bp (pn := 1000000) (tn := false) (A := [0, 0, 3, 0, 15, 31]) (l := [0, 1, 3, 2, 4, 5]) (fin := []) Tab.mixed ⟨_, func169⟩ (by rfl) ?_; refine Pf ?_; refine Pf ?_; refine Pf ?_; refine n0 rfl (Bk call93 (Yo c d hc hd) (fun x7 => ?_)); refine n0 rfl (E3q ?_ (c := Db c d) (c' := c)); refine Oi ?_; refine As f_ rfl A5 () (by rw [B9t]) (fun w hs => hs.none)
end Go.Hy
namespace Go.Hy
open Go.Proofs Go.Proofs.Tryz
set_option maxRecDepth 100000
open Go.Shelf Go.RowKit Go.Lib Go.Sort
theorem D6f (a : Int) (W : World) : Calls prog 247 #[.int .u32 a] W fun e w' => e = .returned (.bool false) ∧ w' = W := by
 go_enter func247, ntmps247
 go_wp2
 go_ret
 exact ⟨by simp, rfl⟩
theorem C7f (a b : Int) (W : World) : Calls prog 223 #[.int .u32 a, .int .u32 b] W fun e w' => e = .returned (iv (compareInt a b)) ∧ w' = W := by
 go_enter func223, ntmps223
 go_wp2_with (go_at_call 247; refine (D6f _ _).mono ?_; rintro e w' ⟨rfl, rfl⟩)
 all_goals (go_ret; refine ⟨?_, rfl⟩; unfold Lib.compareInt; (repeat' split) <;> first | rfl | (exfalso; omega))
def B5r (c d : Cl) : Int := if c.pos = d.pos then compareInt c.neg d.neg else compareInt c.pos d.pos
set_option maxHeartbeats 1000000 in
theorem E6z (c d : Cl) (W : World) : Calls prog 171 #[.agg #[.int .u32 c.pos, .int .u32 c.neg], .agg #[.int .u32 d.pos, .int .u32 d.neg]] W fun e w' => e = .returned (iv (B5r c d)) ∧ ∃ q os', w' = grow (W.drewN q) os' := by
 have hcon := fun a b W' => C7f a b W'
 have e1 : B5r c d = if (c.pos : Int) = d.pos then compareInt c.neg d.neg else compareInt c.pos d.pos := by unfold B5r; simp only [Int.ofNat_inj]
 generalize hr : B5r c d = r at e1 ⊢
 go_enter func171, ntmps171
 go_wp2_with (go_at_call 223; refine (hcon _ _ _).mono ?_; rintro e w' ⟨rfl, rfl⟩)
 all_goals (go_ret; refine ⟨?_, 0, _, by rw [alloc_eq_grow, alloc_eq_grow, grow_grow]; rfl⟩)
 all_goals (rw [e1]; simp_all)
instance : Inhabited Cl := ⟨A4⟩
theorem B1b (c d : Cl) : ltOf B5r c d = Ck c d := by
 unfold ltOf B5r Ck compareInt; by_cases h : c.pos = d.pos
 ·simp only [h, if_true]; by_cases h2 : c.neg < d.neg
  ·rw [if_pos A2]; simp [h2]
  ·rw [if_neg A2]; split <;> simp [h2]
 ·simp only [h, if_false]; by_cases h2 : c.pos < d.pos
  ·rw [if_pos A2]; simp [h2]
  ·rw [if_neg A2, if_pos A2]; simp [h2]
theorem D6n : SWO (ltOf B5r) where
 irrefl x := by rw [B1b]; simp [Ck]
 trans x y z h1 h2 := by
  rw [B1b] at *; simp only [Ck, Bool.or_eq_true, Bool.and_eq_true, decide_eq_true_eq] at *; omega
 ntrans x y z h1 h2 := by
  rw [B1b] at *; simp only [Ck, Bool.or_eq_false_iff, Bool.and_eq_false_iff, decide_eq_false_iff_not] at *; omega
theorem Xf (d : Array Cl) : (flatK Aq 2 d).toList = Ab d.toList := by
 apply List.ext_getElem?; intro t; have hl : (Ab d.toList).length = d.size * 2 := by rw [Oa Fi]; simp
 by_cases ht : t < d.size * 2
 ·have h1 : (flatK Aq 2 d).toList[t]? = some (Aq d[t / 2]!)[t % 2]! := by
   have hs : t < (flatK Aq 2 d).size := by rw [size_flatK]; exact ht
   rw [Array.getElem?_toList, Array.getElem?_eq_getElem hs]; have := get_flatK Aq 2 d t ht; rw [getElem!_pos _ t hs] at this; rw [this]
  rw [h1]; have hd : t / 2 < d.toList.length := by simp; omega
  have e : d.toList.getD (t / 2) A4 = d[t / 2]! := by
   have : t / 2 < d.size := by simpa using hd
   rw [getElem!_pos d (t / 2) this, List.getD_eq_getElem?_getD, List.getElem?_eq_getElem hd]; simp
  have h2 : (Aq (d.toList.getD (t / 2) A4))[t % 2]? = some (Aq d[t / 2]!)[t % 2]! := by
   rw [e]; have : t % 2 < (Aq d[t / 2]!).length := by rw [Fi]; omega
   rw [List.getElem?_eq_getElem this, getElem!_pos (Aq d[t / 2]!) (t % 2) this]
  have := A0t Fi A4 d.toList (t / 2) (t % 2) _ hd h2; rw [show t / 2 * 2 + t % 2 = t by omega] at this; exact this.symm
 ·rw [List.getElem?_eq_none (by simp; omega), List.getElem?_eq_none A2]
theorem C4w (d : Array Cl) (l : List Cl) (rest : List Value) (hs : d.size = l.length) : putCells id 0 (flatK Aq 2 d) (Ab l ++ rest).toArray = (Ab d.toList ++ rest).toArray := by
 apply Array.ext_getElem?; intro t; have hl : (Ab l).length = d.size * 2 := by rw [Oa Fi, hs]
 have hl2 : (Ab d.toList).length = d.size * 2 := by rw [Oa Fi]; simp
 simp only [putCells, Array.getElem?_mapIdx, List.getElem?_toArray, size_flatK, Nat.zero_add, Nat.zero_le, true_and, Nat.sub_zero, id]; by_cases ht : t < d.size * 2
 ·rw [List.getElem?_append_left A2, List.getElem?_append_left A2]
  have h1 : (Ab d.toList)[t]? = some (flatK Aq 2 d)[t]! := by
   rw [← Xf, Array.getElem?_toList]; have hsz : t < (flatK Aq 2 d).size := by rw [size_flatK]; exact ht
   rw [Array.getElem?_eq_getElem hsz, getElem!_pos _ t hsz]
  rw [h1]; obtain ⟨v, hv⟩ : ∃ v, (Ab l)[t]? = some v := ⟨_, List.getElem?_eq_getElem A2⟩; rw [hv, Option.map_some, if_pos ht]
 ·rw [List.getElem?_append_right A2, List.getElem?_append_right A2, hl, hl2]; cases rest[t - d.size * 2]? with
  | none => rfl
  | some v => rw [Option.map_some, if_neg ht]
theorem C4g (l : List Cl) (g cap : Nat) (rest : List Value) (hn : l.length < 4611686018427387904) :
  Spec prog 170 #[.slice (some ⟨g, 0, none⟩) l.length cap, .func (.func 171) #[] #[]] [] [Ae g (Ab l ++ rest) 45] (fun _ : {l' : List Cl // l'.Perm l ∧ l'.Pairwise fun a b => Ck b a = false} => .tuple #[]) (fun _ => []) (fun x => [Ae g (Ab x.1 ++ rest) 45]) := by
 intro ok w hok hs; have hg : w.heap[g]? = some (.cells (Ab l ++ rest).toArray 45 (0, 0)) := hs.res _ List.mem_cons_self w (fun _ _ => rfl); have hlt : g < w.heap.size := (Array.getElem?_eq_some_iff.mp hg).1; have hu : prog.underlying 45 = some (.struct (TyF.fC prog)) := TyF.uC
 have aE : ∀ w, (isAgg (Tryz.Y7.t 24)).run prog w = .ok true w := fun w => by
  show (isAgg 45).run prog w = _; simp [isAgg, run_underlying hu]
 have zE : ∀ w, (Go.sizeOf (Tryz.Y7.t 24)).run prog w = .ok 2 w := fun w => Gi (P := prog) (t := 45) rfl w
 have hH : HoldsK Aq 2 w g 0 l.toArray := by
  intro j hj; rw [size_flatK] at hj; have e : (flatK Aq 2 l.toArray).toList = Ab l := by rw [Xf]
  have hsz : j < (flatK Aq 2 l.toArray).size := by rw [size_flatK]; exact hj
  have h1 : (Ab l)[j]? = some (flatK Aq 2 l.toArray)[j]! := by
   rw [← e, Array.getElem?_toList, Array.getElem?_eq_getElem hsz, getElem!_pos _ j hsz]
  refine ⟨?_, by simp [World.frozen?, hg]⟩; have hlen : j < (Ab l).length := (List.getElem?_eq_some_iff.mp h1).1; simp only [World.cell?, hg, Nat.zero_add, Option.isSome_none, Bool.false_eq_true, if_false, List.getElem?_toArray, id]; rw [List.getElem?_append_left hlen]; exact h1
 have hc := AnyQ.slices_SortFunc (P := prog) Tryz.D7k 2 aE zE Aq Fi (fun x v hv => by
   simp only [Aq, List.mem_cons, List.not_mem_nil, or_false] at hv; rcases hv with rfl | rfl <;> rfl) B5r D6n 171 #[] g 0 cap l.toArray w call171
  (fun m os dk hsz x y => E6z x y _) hH hlt (by simpa using hn)
 have hc2 : Calls prog 170 #[.slice (some ⟨g, 0, none⟩) l.length cap, .func (.func 171) #[] #[]] w _ := hc; refine hc2.mono ?_; rintro e w' ⟨he, d', n, os, hp, hsd, hw⟩; have hsize : d'.size = l.length := by simpa using hp.1
 have hperm : d'.toList.Perm l := by
  have := hp.2.2; have e1 : d'.extract 0 l.toArray.size = d' := by rw [show l.toArray.size = d'.size by simp [hsize]]; simp
  have e2 : l.toArray.extract 0 l.toArray.size = l.toArray := by simp
  rw [e1, e2] at this; exact this
 have hsorted : d'.toList.Pairwise fun a b => Ck b a = false := by
  rw [List.pairwise_iff_getElem]; intro i j hi hj hij; have hi' : i < d'.size := by simpa using hi
  have hj' : j < d'.size := by simpa using hj
  have := hsd i j (Nat.zero_le _) hij (by simp; omega); rw [B1b, getElem!_pos d' j hj', getElem!_pos d' i hi'] at this; simpa using this
 have hg' : w'.heap[g]? = some (.cells (Ab d'.toList ++ rest).toArray 45 (0, 0)) := by
  rw [hw]; show ((mapBlock (Go.Sort.ahead w n) g (putCells id 0 (flatK Aq 2 d'))).heap ++ os)[g]? = _; rw [Array.getElem?_append_left (by simp [mapBlock, Go.Sort.ahead]; exact hlt)]; simp only [mapBlock, Go.Sort.ahead, Array.getElem?_modify, if_true, hg, Option.map_some, onCells]; rw [C4w d' l rest hsize]
 have hold : ∀ b, b < w.heap.size → b ≠ g → w'.heap[b]? = w.heap[b]? := by
  intro b hb hne; rw [hw]; show ((mapBlock (Go.Sort.ahead w n) g (putCells id 0 (flatK Aq 2 d'))).heap ++ os)[b]? = _; rw [Array.getElem?_append_left (by simp [mapBlock, Go.Sort.ahead]; exact hb)]; simp only [mapBlock, Go.Sort.ahead, Array.getElem?_modify, if_neg (Ne.symm hne)]
 have hsz' : w.heap.size ≤ w'.heap.size := by rw [hw]; simp [sortWorldK, putRowK, Go.Sort.ahead]
 refine ⟨⟨d'.toList, hperm, hsorted⟩, he, ?_⟩; have h0 : St ⟨ok, Bo [Ae g (Ab l ++ rest) 45], w⟩ [] ([Ae g (Ab l ++ rest) 45]) w := hs
 refine h0.F7 (m' := Ae g (Ab d'.toList ++ rest) 45) ⟨by rw [hw]; rfl, by rw [hw]; rfl, by rw [hw]; rfl, hsz', fun b hb hn => hold b hb hn⟩ (fun w2 hw2 => by
  show w2.heap[g]? = _; rw [hw2 g rfl]; exact hg') (fun b hb => ?_)
 have hb : b = g := hb; subst hb; exact ⟨by omega, .inl rfl⟩
end Go.Hy
namespace Go.Hy
open Go.Proofs Go.Proofs.Tryz
set_option maxRecDepth 100000
theorem C1g {M : List Bj} : M.Perm (M ++ []) := by rw [List.append_nil]
theorem B8p (l : List Cl) (a : SH) (c : FuncId) (cap : List Value) (FΓ : List Fact) (M : List Bj) (g : Cl → Bool) (hc : ∀ (args : Array Value) (w : World), (callFunc c args).run prog w = .ok (.enter c args) w) (hcl : ∀ x, x ∈ l → Spec prog c (En x :: cap).toArray FΓ M (fun _ : Unit => .bool (g x)) (fun _ => []) (fun _ => M)) : Spec prog 220 #[sl a l.length, .func (.func c) #[] cap.toArray] (CL l a :: FΓ) M (fun _ : Unit => iv (B8q g l)) (fun _ => []) (fun _ => M) := by
 refine D1 ntmps220 fun B hB => ?_
 refine A7 (l := l) (a := a) (fun hl1 hA1 hU1 => ?_); refine U2 ?_; refine Ef (X := Nat) (fun i => i ≤ l.length ∧ ∀ j, j < i → g (l.getD j A4) = false) (fun i => [(0, sl a l.length), (1, .func (.func c) #[] cap.toArray), (7, iv (l.length : Int)), (8, iv (i : Int))]) (fun i => CL l a :: FΓ) (fun i => M) (fun i => l.length - i) (0) (⟨Nat.zero_le _, fun j hj => by omega⟩) (by exact Cb) ?_ ?_
 ·exact fun w hs => hs
 ·intro i base0 ⟨hi, hok⟩ next0; refine Fk ?_; refine A6 (fun h9 => ?_) (fun h9 => ?_)
  ·have hlt : i < l.length := by have := of_decide_eq_true h9; omega
   obtain ⟨bk, o, hav⟩ := hA1 A2; refine Jr ?_; refine Mn ?_; refine Nn ?_; refine F5 ?_; refine Of ?_; refine Oe ?_; refine q0 rfl (Fo hc (hcl _ (Ac hlt)) (cap := cap) (fun x16 => ?_) (hm := C1g)); refine Ly ?_; refine A6 (fun h16 => ?_) (fun h16 => ?_)
   ·refine Mn ?_; refine As f_ rfl A5 () (by rw [D6h hlt h16 hok]) (fun w hs => (hs.l8).Bt)
   ·refine Ik ?_; refine A0 (fun w hs => ?_) (next0 (i + 1) _ ⟨hlt, fun j hj => (by rcases Nat.lt_succ_iff_lt_or_eq.mp hj with h | h; exact hok j h; subst h; exact h16)⟩ A2 Cb); exact (hs.l9).Bt
  ·have hge : i = l.length := by have := of_decide_eq_false h9; omega
   refine Nk ?_; refine As f_ rfl A5 () (by rw [C6o (by rw [← hge]; exact hok)]) (fun w hs => hs.l8)
theorem Un (l : List Cl) (a : SH) (c : FuncId) (cap : List Value) (FΓ : List Fact) (M : List Bj) (g : Cl → Bool) (hc : ∀ (args : Array Value) (w : World), (callFunc c args).run prog w = .ok (.enter c args) w) (hcl : ∀ x, x ∈ l → Spec prog c (En x :: cap).toArray FΓ M (fun _ : Unit => .bool (g x)) (fun _ => []) (fun _ => M)) : Spec prog 166 #[sl a l.length, .func (.func c) #[] cap.toArray] (CL l a :: FΓ) M (fun _ : Unit => .bool (l.any g)) (fun _ => []) (fun _ => M) := by
 refine D1 ntmps166 fun B hB => ?_
 refine Bw ?_; refine Nn ?_; refine q0 rfl (A1 call220 (B8p l a c cap FΓ M g hc hcl) (fun x7 => ?_) (hm := C1g)); refine A4j ?_; refine C9 ?_; refine As f_ rfl A5 () (by rw [B4z]) (fun w hs => (hs.l8).Bt)
theorem B0h (c d : Cl) (hc : u32 c) (hd : u32 d) (b : Nat) : Spec prog 168 #[En d, pz b] [] [Ae b (Aq c) 45] (fun _ : Unit => .bool (!decide (c = d) && below c d)) (fun _ => []) (fun _ => [Ae b (Aq c) 45]) := by
 refine D1 ntmps168 fun B hB => ?_
 refine B8 ?_; refine q0 rfl (B3 fun b2 => ?_); refine C9 ?_; refine F9 ?_; refine I7 ?_; refine q0 rfl (E4n ?_ (c := c) (c' := d)); refine F5 ?_; refine qI rfl rfl rfl Hk (fun hg7 => Qn ?_) (fun hg7 => ?_)
 ·refine qT rfl rfl rfl (Qn ?_); refine qT rfl rfl rfl (A1 call169 (B9r c d hc hd) (fun x10 => ?_)); refine Fj ?_; refine As f_ rfl A5 () (by simp_all) (fun w hs => (hs.l8).drop)
 ·refine Q1 ?_; refine As f_ rfl A5 () (by simp_all) (fun w hs => (hs.l8).drop)
theorem B4t (l : List Cl) (a : SH) (c : Cl) (hc : u32 c) (b : Nat) : Spec prog 167 #[En c, pz b] [CL l a] [Ae b [sl a l.length] 25] (fun _ : Unit => .bool (C4 l c)) (fun _ => []) (fun _ => [Ae b [sl a l.length] 25]) := by
 refine D1 ntmps167 fun B hB => ?_
 refine A7 (l := l) (a := a) (fun hl1 hA1 hU1 => ?_); refine B8 ?_; refine q0 rfl (B3 fun b2 => ?_); refine C9 ?_; refine Vx ?_; refine Up ?_; refine q0 rfl (A1 call166 (Un l a 168 [pz b2] [] [Ae b2 (Aq c) 45] (fun d => !decide (c = d) && below c d) call168 (fun d hd => B0h c d hc (hU1 d hd) b2)) (fun x6 => ?_)); refine C9 ?_; refine As f_ rfl A5 () rfl (fun w hs => (hs.l8).drop)
theorem A0b (l : List Cl) (c : Cl) : Ab (l ++ [c]) = Ab l ++ Aq c := by simp [Ab]
theorem A8y (l : List Cl) (a : SH) (n : Nat) (hn : n = l.length) (hb : n * 8 ≤ reach) :
  Spec prog 170 #[sl a n, .func (.func 171) #[] #[]] [] [Av 2 45 a n (Ab l)] (fun _ : {l' : List Cl // B1l l l'} => .tuple #[]) (fun _ => []) (fun x => [Av 2 45 a n (Ab x.1)]) := by
 subst hn; intro ok w hok hs; have hown : w.ownsRow 0 45 2 (sl a l.length) l.length (Ab l) := hs.res _ List.mem_cons_self w (fun _ _ => rfl); rcases hown.2 with ⟨h1, h2⟩ | ⟨g, cap, cur, h1, h2, h3, h4, h5, h6, h7⟩
 ·have hl : l = [] := List.eq_nil_of_length_eq_zero h2; subst hl; have hc := AnyF.slices_SortFunc_none (P := prog) Tryz.D7k a.1 a.2 (.func (.func 171) #[] #[]) w; have hc2 : Calls prog 170 #[sl a 0, .func (.func 171) #[] #[]] w _ := hc; refine hc2.mono ?_; rintro e w' ⟨he, hw⟩; subst hw; exact ⟨⟨[], List.Perm.refl _, List.Pairwise.nil⟩, he, hs⟩
 ·obtain ⟨ao, ac⟩ := a; have e1 : ao = some ⟨g, 0, none⟩ := by injection h1
  have e2 : ac = cap := by injection h1
  subst e1; subst e2
  have hfl : cur.toList = Ab l ++ cur.toList.drop (l.length * 2) := by
   have := List.take_append_drop (l.length * 2) cur.toList; rw [h7] at this; exact this.symm
  have hbox : St ⟨ok, Bo [Av 2 45 (some ⟨g, 0, none⟩, ac) l.length (Ab l)], w⟩ [] [Ae g (Ab l ++ cur.toList.drop (l.length * 2)) 45] w := by
   refine hs.F7 (m' := Ae g (Ab l ++ cur.toList.drop (l.length * 2)) 45) (Tz.refl _ _) (fun w2 hw2 => ?_) (fun b hb => ?_)
   ·show w2.heap[g]? = _; rw [hw2 g rfl, ← hfl, Array.toArray_toList]; exact h3
   ·have hb : b = g := hb; subst hb; exact ⟨(Array.getElem?_eq_some_iff.mp h3).1, .inl rfl⟩
  have hdom : ∀ b, Bo [Av 2 45 (some ⟨g, 0, none⟩, ac) l.length (Ab l)] b ↔ Bo [Ae g (Ab l ++ cur.toList.drop (l.length * 2)) 45] b := by
   intro b; rw [Gt, Gt]
   have : (Av 2 45 (some ⟨g, 0, none⟩, ac) l.length (Ab l)).dom b ↔ b = g := by
    show (sl (some ⟨g, 0, none⟩, ac) l.length).ownBlock = some b ↔ b = g; simp only [sl, Value.ownBlock, Option.some.injEq]; exact eq_comm
   rw [this]; rfl
  have hd2 : Bo [Av 2 45 (some ⟨g, 0, none⟩, ac) l.length (Ab l)] = Bo [Ae g (Ab l ++ cur.toList.drop (l.length * 2)) 45] := funext fun b => propext (hdom b)
  rw [hd2] at hbox; refine (C4g l g ac (cur.toList.drop (l.length * 2)) (by unfold reach at hb; omega) ok w (fun b hb => ⟨(hok b hb).1, by rw [← hd2]; exact (hok b hb).2⟩) hbox).mono ?_; rintro e w' ⟨x, he, hs'⟩; refine ⟨⟨x.1, x.2.1, x.2.2⟩, he, ?_⟩; rw [hd2]; have hlen : x.1.length = l.length := x.2.1.length_eq; have hg : w'.heap[g]? = some (.cells (Ab x.1 ++ cur.toList.drop (l.length * 2)).toArray 45 (0, 0)) := hs'.res _ List.mem_cons_self w' (fun _ _ => rfl); have hfl2 : (Ab x.1).length = l.length * 2 := by rw [Oa Fi, hlen]
  refine hs'.F7 (m' := Av 2 45 (some ⟨g, 0, none⟩, ac) l.length (Ab x.1)) (Tz.refl _ _) (fun w2 hw2 => ⟨hfl2, .inr ⟨g, ac, (Ab x.1 ++ cur.toList.drop (l.length * 2)).toArray, rfl, Nat.zero_le _, ?_, h4, h5, ?_, ?_⟩⟩) (fun b hb => ?_)
  ·rw [hw2 g rfl]; exact hg
  ·have h8 : cur.toList.length = ac * 2 := by simpa using h6
   simp only [List.size_toArray, List.length_append, List.length_drop, hfl2, h8]; omega
  ·rw [← hfl2, List.take_left]
  ·have hb : (sl (some ⟨g, 0, none⟩, ac) l.length).ownBlock = some b := hb; simp only [sl, Value.ownBlock, Option.some.injEq] at hb; subst hb; exact ⟨(Array.getElem?_eq_some_iff.mp hg).1, .inl rfl⟩
theorem A7c (l : List Cl) (a : SH) : Spec prog 90 #[sl a l.length] [CL l a] [] (fun x : {x : SH × Int × List Cl // Kb l x.2} => .tuple #[sl x.1.1 x.1.2.2.length, iv x.1.2.1]) (fun _ => []) (fun x => [Av 2 45 x.1.1 x.1.2.2.length (Ab x.1.2.2)]) := by
 refine D1 ntmps90 fun B hB => ?_
 refine A7 (l := l) (a := a) (fun hl1 hA1 hU1 => ?_); refine Et ?_; refine B8 ?_; refine q0 rfl (C5p fun b12 => ?_); refine C9 ?_; refine B8 ?_; refine q0 rfl (Bf fun b5 => ?_); refine Ly ?_; refine Gx ?_; refine Jy ?_; refine Ef (X := Nat × SH) (fun s => s.1 ≤ l.length ∧ ∀ j, j < s.1 → Ao (l.getD j A4) = true) (fun s => [(4, .map (some b12)), (5, pz b5), (13, sl a l.length), (14, iv (l.length : Int)), (15, iv (s.1 : Int))]) (fun s => [CL l a]) (fun s => [A2u b12 (once (l.take s.1)), Ae b5 [sl s.2 (once (l.take s.1)).length] 25, Av 2 45 s.2 (once (l.take s.1)).length (Ab (once (l.take s.1)))]) (fun s => l.length - s.1) ((0, (none, 0))) (⟨Nat.zero_le _, fun j hj => absurd hj (Nat.not_lt_zero _)⟩) (by exact Cb) ?_ ?_
 ·exact fun w hs => ((hs.l8).Bs 2 45).perm (C3.trans ((List.Perm.swap _ _ _).cons _))
 ·intro ⟨i, aO⟩ base0 ⟨hi, hok⟩ next0; dsimp only at hi hok next0 ⊢; refine Fk ?_; refine A6 (fun h16 => ?_) (fun h16 => ?_)
  ·have hlt : i < l.length := by have := of_decide_eq_true h16; omega
   obtain ⟨bk, o, hav⟩ := hA1 A2; have hu := hU1 _ (Ac (d := A4) hlt); have hol := A4r l i; refine Jx ?_; refine Of ?_; refine Oe ?_; refine q0 rfl (Bf fun b7 => ?_); refine Rs ?_; refine F9 ?_; refine q0 rfl (A1 call33 (Jf (l.getD i A4) hu) (fun x20 => ?_)); refine H4 ?_; refine A6 (fun h21 => ?_) (fun h21 => ?_)
   ·have hr : Ao (l.getD i A4) = false := by simpa using h21
    refine Et ?_; refine Az f_ rfl A5 A5 ⟨((none, 0), 2, []), by (unfold Kb; rw [D6t hlt hr]; rfl)⟩ rfl (fun w hs => (hs.l7).bare.Bs 2 45)
   ·have hr : Ao (l.getD i A4) = true := by simpa using h21
    refine N1 ?_; refine I7 ?_; refine q0 rfl (C5q ?_); refine H4 ?_; refine A6 (fun h25 => ?_) (fun h25 => ?_)
    ·have hnin : l.getD i A4 ∉ once (l.take i) := by simpa using h25
     refine Ex ?_; refine I7 ?_; refine q0 rfl (D0w ?_); refine Ly ?_; refine O8 ?_; refine A8r ?_; refine I7 ?_; refine q0 rfl (Dd fun b30 => ?_); refine q0 rfl (Dj (fun a31 => ?_)  ); refine Ei ?_; refine Q8 ?_; have hst := Sm hlt; rw [if_neg hnin] at hst; have hlen' : (once (l.take (i + 1))).length = (once (l.take i)).length + 1 := by rw [hst]; simp
     refine A0 (fun w hs => ?_) (next0 (i + 1, a31) _ ⟨hlt, fun j hj => (by rcases Nat.lt_succ_iff_lt_or_eq.mp hj with h | h; exact hok j h; subst h; exact hr)⟩ (by simp only; omega) Cb); dsimp only; rw [hlen', hst, A0b]; exact ((hs.l8).perm Eb).Bt (A := [_, _, _])
    ·refine Ik ?_; have hin : l.getD i A4 ∈ once (l.take i) := by simpa using h25
     have hst := Sm hlt; rw [if_pos hin] at hst; refine A0 (fun w hs => ?_) (next0 (i + 1, aO) _ ⟨hlt, fun j hj => (by rcases Nat.lt_succ_iff_lt_or_eq.mp hj with h | h; exact hok j h; subst h; exact hr)⟩ (by simp only; omega) Cb); dsimp only; rw [hst]; exact (hs.l8).drop
  ·have hge : i = l.length := by have := of_decide_eq_false h16; omega
   have hall : l.all Ao = true := E3c (by rw [← hge]; exact hok); subst hge; rw [List.take_length]; have hUo : ∀ c, c ∈ once l → u32 c := fun c hc => hU1 c ((Ql c l).mp hc)
   have hol := Wv l; refine A0 (fun w hs => ((hs.perm C3).Bx hB rfl rfl A2 hUo)) ?_; refine Dt ?_; refine B8 ?_; refine Up ?_; refine C9 ?_; refine Bw ?_; refine Kl ?_; refine Vx ?_; refine Jy ?_; refine Ef (X := Nat × SH) (fun s => s.1 ≤ (once l).length) (fun s => [(8, .func (.func 167) #[] [pz b5].toArray), (9, sl s.2 (Hg l s.1).length), (34, sl aO (once l).length), (35, iv ((once l).length : Int)), (36, iv (s.1 : Int))]) (fun s => [CL (once l) aO]) (fun s => [Ae b5 [sl aO (once l).length] 25, Av 2 45 s.2 (Hg l s.1).length (Ab (Hg l s.1))]) (fun s => (once l).length - s.1) ((0, (none, 0))) (Nat.zero_le _) (by exact Cb) ?_ ?_
   ·exact fun w hs => (((hs.l9).Bs 2 45).perm C3).Bt (A := [_, _])
   ·intro ⟨i, aK⟩ base1 hi next1; dsimp only at hi next1 ⊢; refine Fk ?_; refine A6 (fun h37 => ?_) (fun h37 => ?_)
    ·have hlt : i < (once l).length := by have := of_decide_eq_true h37; omega
     refine A7 (l := once l) (a := aO) (fun _ hA2 _ => ?_); obtain ⟨bk, o, hav⟩ := hA2 A2; have hu := hUo _ (Ac (d := A4) hlt); have hkl := B0i l i; refine Jx ?_; refine Of ?_; refine Oe ?_; refine q0 rfl (Bf fun b11 => ?_); refine Ei ?_; refine Ex ?_; refine I7 ?_; refine q0 rfl (Fo call167 (B4t (once l) aO ((once l).getD i A4) hu b5) (cap := [pz b5]) (fun x42 => ?_)); refine H4 ?_; refine A6 (fun h43 => ?_) (fun h43 => ?_)
     ·refine Ds ?_; refine I7 ?_; refine q0 rfl (Dd fun b46 => ?_); refine q0 rfl (Dj (fun a47 => ?_)  ); refine Q0 ?_; have hnd : C4 (once l) ((once l).getD i A4) = false := by simpa using h43
      have hst := Uk hlt; rw [hnd, if_neg Jp] at hst; have hlen' : (Hg l (i + 1)).length = (Hg l i).length + 1 := by rw [hst]; simp
      refine A0 (fun w hs => ?_) (next1 (i + 1, a47) _ hlt (by simp only; omega) ⟨rfl, by rw [hlen']; rfl, rfl, rfl, rfl, trivial⟩); dsimp only; rw [hlen', hst, A0b]; exact ((hs.l8).perm C3).Bt (A := [_, _])
     ·refine Ik ?_; have hnd : C4 (once l) ((once l).getD i A4) = true := by simpa using h43
      have hst := Uk hlt; rw [hnd, if_pos rfl] at hst; refine A0 (fun w hs => ?_) (next1 (i + 1, aK) _ hlt (by simp only; omega) ⟨rfl, by rw [hst]; rfl, rfl, rfl, rfl, trivial⟩); dsimp only; rw [hst]; exact (hs.l8).Bt (A := [_, _])
    ·have hge2 : i = (once l).length := by have := of_decide_eq_false h37; omega
     subst hge2; rw [B0j]; refine Dt ?_; refine Gx ?_; refine L1 ?_; refine Rp ?_; refine A6 (fun h51 => ?_) (fun h51 => ?_)
     ·have h64 : 64 < (kept l).length := by have := of_decide_eq_true h51; omega
      refine Et ?_; refine Az f_ rfl A5 A5 ⟨((none, 0), 3, []), by (unfold Kb; rw [hall, if_neg Jp, if_pos h64])⟩ rfl (fun w hs => (hs.l7).bare.Bs 2 45)
     ·have h64 : ¬ 64 < (kept l).length := by have := of_decide_eq_false h51; omega
      refine N1 ?_; refine q0 rfl (A1 call170 (A8y (kept l) aK (kept l).length rfl (by unfold reach; omega)) (fun x53 => ?_)); refine Ly ?_; refine Dx ?_; have hpl : x53.1.length = (kept l).length := x53.2.1.length_eq; refine Az f_ rfl A5 A5 ⟨(aK, 0, x53.1), by (unfold Kb; rw [hall, if_neg Jp, if_neg h64]; exact ⟨rfl, x53.2⟩)⟩ (by rw [hpl]; rfl) (fun w hs => ?_); have h := (hs.l7).Bt (A := [_]); rw [← hpl] at h; exact h
theorem B8l (l : List Cl) (a : SH) : Spec prog 90 #[sl a l.length] [CL l a] [] (fun x : {x : SH × Int × List Cl // Kb l x.2} => .tuple #[sl x.1.1 x.1.2.2.length, iv x.1.2.1]) (fun x => [CL x.1.2.2 x.1.1]) (fun _ => []) := fun ok w hok hs => (A7c l a ok w hok hs).mono fun e w' h => by
 obtain ⟨x, he, hs'⟩ := h; have hu := (hs.facts _ List.mem_cons_self).2
 have hx : x.1.2.2.length ≤ 64 ∧ ∀ c, c ∈ x.1.2.2 → u32 c := by
  have h := x.2; unfold Kb at h; split at h
  ·rw [h]; exact ⟨Nat.zero_le _, fun c hc => by cases hc⟩
  ·split at h
   ·rw [h]; exact ⟨Nat.zero_le _, fun c hc => by cases hc⟩
   ·rename_i h64; exact ⟨by rw [h.2.1.length_eq]; omega, fun c hc => hu c (D2e (h.2.1.mem_iff.mp hc))⟩
 exact ⟨x, he, (hs'.Bx trivial rfl rfl (by unfold reach; omega) hx.2).l8⟩
theorem B8y (l m : List Cl) (a b : SH) : Spec prog 194 #[sl a l.length, sl b m.length] [CL l a, CL m b] [] (fun _ : Unit => .bool (decide (l = m))) (fun _ => []) (fun _ => []) := by
 refine D1 ntmps194 fun B hB => ?_
 refine A7 (l := l) (a := a) (fun hl1 hA1 hU1 => ?_); refine A7 (l := m) (a := b) (fun hl2 hA2 hU2 => ?_); refine W4 ?_; refine L1 ?_; refine F5 ?_; refine L1 ?_; refine B6g ?_; refine A6 (fun h10 => ?_) (fun h10 => ?_)
 ·have hne : ¬ l = m := fun e => by subst e; simp at h10
  refine Bw ?_; refine As f_ rfl A5 () (by rw [decide_eq_false hne]) (fun w hs => hs.none)
 ·have hlen : l.length = m.length := by simp at h10; omega
  refine Oo ?_; refine Jy ?_; refine Ef (X := Nat) (fun i => i ≤ l.length ∧ ∀ j, j < i → l.getD j A4 = m.getD j A4) (fun i => [(0, sl a l.length), (1, sl b m.length), (12, iv (l.length : Int)), (13, iv (i : Int))]) (fun i => [CL l a, CL m b]) (fun i => []) (fun i => l.length - i) (0) (⟨Nat.zero_le _, fun j hj => by omega⟩) (by exact Cb) ?_ ?_
  ·exact fun w hs => hs.l9
  ·intro i base0 ⟨hi, hok⟩ next0; refine Fk ?_; refine A6 (fun h14 => ?_) (fun h14 => ?_)
   ·have hlt : i < l.length := by have := of_decide_eq_true h14; omega
    have hlt2 : i < m.length := by omega
    obtain ⟨bk, o, hav⟩ := hA1 A2; obtain ⟨bk2, o2, hav2⟩ := hA2 A2; refine Jr ?_; refine Ex ?_; refine J1 ?_; refine Bp (pn := 1000000) (tn := false) (A := [0, 0, 3, 7, 0, 0, 48, 112, 255]) (l := [0, 1, 2, 3, 4, 5, 6, 7, 8]) (fin := []) Tab.mixed ⟨_, func194⟩ (by rfl) ?_; refine Gq ?_; refine n0 rfl (G4 ?_); refine A8l ?_; refine Gq ?_; refine n0 rfl (G4 ?_); refine A8l ?_; refine n0 rfl (C0h ?_); refine Ou ?_; refine A6 (fun h24 => ?_) (fun h24 => ?_)
    ·refine Bw ?_; refine As f_ rfl A5 () (by rw [decide_eq_false (fun e => by subst e; simp at h24)]) (fun w hs => hs.none)
    ·refine Ik ?_; have hb : l.getD i A4 = m.getD i A4 := by simpa using h24
     refine A0 (fun w hs => ?_) (next0 (i + 1) _ ⟨hlt, fun j hj => (by rcases Nat.lt_succ_iff_lt_or_eq.mp hj with h | h; exact hok j h; subst h; exact hb)⟩ A2 Cb); exact hs
   ·have hge : i = l.length := by have := of_decide_eq_false h14; omega
    refine Nk ?_; refine As f_ rfl A5 () (by rw [decide_eq_true (R9 hlen (by rw [← hge]; exact hok))]) (fun w hs => hs.none)
end Go.Hy
