/- Contracts of this program's functions and the laws that they need: a separation logic over the machine's rules, one theorem each (partly printed by a program of this repository). -/
import Derived.RangeFuncNested
import Derived.RangeFuncBound
import Derived.RangeFuncCalls
import Derived.RangeFuncLeaves
import Derived.RangeFuncBox
import Derived.Shelf.Abstract
import Derived.Shelf.RegionOpen
import Derived.WalkKit
import Derived.OwnWalkIn
import Derived.TacticsInMore
import Derived.LoopNIn
import Derived.LoopIn
import Derived.Maps.AppendAt
import Derived.Shelf.Spec.TrailingZeros
import Derived.Shelf.SlSortCmp.WholeK
import Derived.Tactics2
import Derived.Shelf.SlSortCmp.NoneTotal
import Derived.Test.YtpfjlbopkhdebaaGreatDoorP2
import Derived.Test.YtpfjlbopkhdebaaGreatDoorP3
import Derived.Test.YtpfjlbopkhdebaaGreatDoorP4
import Derived.Test.YtpfjlbopkhdebaaGreatDoorP6
import Derived.Test.YtpfjlbopkhdebaaGreatDoorP7
set_option linter.unusedVariables false
set_option linter.unusedSimpArgs false
set_option linter.unusedSectionVars false
namespace Go.Hy
/-! ### The document's formulas -/
def B0z (c : Cl) (i : Nat) : List Cl := (if c.pos.testBit i then [⟨0, A7i i⟩] else []) ++ if c.neg.testBit i then [⟨A7i i, 0⟩] else []
def A5v (c : Cl) (n : Nat) : List Cl := (List.range n).flatMap (B0z c)
theorem B2z (c : Cl) (n : Nat) : A5v c (n + 1) = A5v c n ++ B0z c n := by
 unfold A5v
 rw [List.range_succ, List.flatMap_append]
 simp
theorem D7k (c : Cl) (i : Nat) : (B0z c i).length ≤ 2 := by
 unfold B0z
 split <;> split <;> simp
theorem B9s (c : Cl) : ∀ n, (A5v c n).length ≤ 2 * n
 | 0 => by simp [A5v]
 | n + 1 => by
  rw [B2z, List.length_append]
  have := B9s c n
  have := D7k c n
  omega
theorem D6b {c d : Cl} {n : Nat} : d ∈ A5v c n ↔ ∃ i, i < n ∧ (c.pos.testBit i = true ∧ d = ⟨0, A7i i⟩ ∨ c.neg.testBit i = true ∧ d = ⟨A7i i, 0⟩) := by
 unfold A5v
 rw [List.mem_flatMap]
 constructor
 ·rintro ⟨i, hi, hd⟩
  refine ⟨i, List.mem_range.mp hi, ?_⟩
  unfold B0z at hd
  rcases List.mem_append.mp hd with hd | hd
  ·split at hd
   ·rename_i h; exact .inl ⟨h, by simpa using hd⟩
   ·cases hd
  ·split at hd
   ·rename_i h; exact .inr ⟨h, by simpa using hd⟩
   ·cases hd
 ·rintro ⟨i, hi, h⟩
  refine ⟨i, List.mem_range.mpr hi, ?_⟩
  unfold B0z
  rcases h with ⟨h1, rfl⟩ | ⟨h1, rfl⟩
  ·rw [if_pos h1]; exact List.mem_append_left _ List.mem_cons_self
  ·rw [if_pos h1]; exact List.mem_append_right _ List.mem_cons_self
theorem B7k (c : Cl) (n : Nat) : (A5v c n).all A0q = true := List.all_eq_true.mpr fun d hd => by
 obtain ⟨i, _, h⟩ := D6b.mp hd
 have := A9y (i : Int)
 rcases h with ⟨_, rfl⟩ | ⟨_, rfl⟩
 ·exact A2z.mpr ⟨by show (0 : Nat) < _; omega, this⟩
 ·exact A2z.mpr ⟨this, by show (0 : Nat) < _; omega⟩
theorem E3i (c : Cl) : (E0c c).all A0q = true := List.all_eq_true.mpr fun d hd => by
 unfold E0c at hd
 rcases List.mem_append.mp hd with hd | hd
 ·obtain ⟨x, _, rfl⟩ := List.mem_map.mp hd
  exact A2z.mpr ⟨by show (0 : Nat) < _; omega, A9y _⟩
 ·obtain ⟨x, _, rfl⟩ := List.mem_map.mp hd
  exact A2z.mpr ⟨A9y _, by show (0 : Nat) < _; omega⟩
theorem F3z {c d : Cl} : d ∈ E0c c ↔ d ∈ A5v c 24 := by
 rw [D6b]
 unfold E0c
 rw [List.mem_append, List.mem_map, List.mem_map]
 constructor
 ·rintro (⟨x, hx, rfl⟩ | ⟨x, hx, rfl⟩)
  ·obtain ⟨h1, h2, h3⟩ := A6z.mp hx
   exact ⟨x.toNat, by omega, .inl ⟨h3, by rw [Int.toNat_of_nonneg h1]⟩⟩
  ·obtain ⟨h1, h2, h3⟩ := A6z.mp hx
   exact ⟨x.toNat, by omega, .inr ⟨h3, by rw [Int.toNat_of_nonneg h1]⟩⟩
 ·rintro ⟨i, hi, ⟨h, rfl⟩ | ⟨h, rfl⟩⟩
  ·exact .inl ⟨i, A6z.mpr ⟨by omega, by omega, by rw [Int.toNat_natCast]; exact h⟩, rfl⟩
  ·exact .inr ⟨i, A6z.mpr ⟨by omega, by omega, by rw [Int.toNat_natCast]; exact h⟩, rfl⟩
theorem C5q (c : Cl) : A0w (A5v c 24) = C4e c :=
 D8v (fun _ _ => True) (B7k c 24) (E3i c) (fun _ _ => trivial) (fun _ _ => trivial) fun P N _ => by
  unfold sat
  exact exists_congr fun d => and_congr_left fun _ => F3z.symm
theorem B9v (c : Cl) : (C4e c).1 = 0 := by
 rw [← C5q]
 exact C1u (B7k c 24) (by have := B9s c 24; omega)
theorem F2p {i : Nat} (h : i < 24) : B2d [(i : Int)] = A7i i := by
 unfold A7i
 rw [if_pos (by omega)]
 simp [B2d]
/-- Meets. -/
def A5l (f g : List Cl) (i : Nat) : List Cl := A9w (f.take i) g
theorem C9w {f g : List Cl} {i : Nat} (h : i < f.length) : A5l f g (i + 1) = A5l f g i ++ g.map (A4d (f.getD i cl0)) := by
 unfold A5l A9w
 rw [A0i (d := cl0) h, List.flatMap_append]
 simp
theorem D6c {f g : List Cl} : ∀ i, (A5l f g i).length ≤ i * g.length
 | 0 => by simp [A5l, A9w]
 | i + 1 => by
  have := D6c (f := f) (g := g) i
  by_cases h : i < f.length
  ·rw [C9w h, List.length_append, List.length_map, Nat.add_mul, Nat.one_mul]; omega
  ·have e : A5l f g (i + 1) = A5l f g i := by unfold A5l; rw [List.take_of_length_le (by omega), List.take_of_length_le (by omega)]
   rw [e, Nat.add_mul]; omega
def A1s (f g : List Cl) : EL := if (A0h f && A0h g) = false then (2, []) else A9m f g
def B2m (f g : List Cl) (i k : Nat) : List Cl := A5l f g i ++ (g.take k).map (A4d (f.getD i cl0))
theorem B0j (f g : List Cl) (i : Nat) : B2m f g i 0 = A5l f g i := by simp [B2m]
theorem C4o {f g : List Cl} {i k : Nat} (h : k < g.length) : B2m f g i (k + 1) = B2m f g i k ++ [A4d (f.getD i cl0) (g.getD k cl0)] := by
 unfold B2m
 rw [A0i (d := cl0) h, List.map_append, List.append_assoc]
 rfl
theorem C9y {f g : List Cl} {i : Nat} (h : i < f.length) : A5l f g (i + 1) = B2m f g i g.length := by
 rw [C9w h]; unfold B2m; rw [List.take_length]
theorem B6r {f g : List Cl} {i k : Nat} (hi : i ≤ f.length) (hf : f.length ≤ 64) (hg : g.length ≤ 64) : (B2m f g i k).length ≤ 5000 := by
 have h1 := D6c (f := f) (g := g) i
 have h2 : i * g.length ≤ 64 * 64 := Nat.mul_le_mul (by omega) hg
 unfold B2m
 rw [List.length_append, List.length_map, List.length_take]
 omega
theorem C4m (f g : List Cl) : A5l f g f.length = A9w f g := by unfold A5l; rw [List.take_length]
theorem B9d {f g : List Cl} {i : Nat} (hf : f.all A0q = true) (hg : g.all A0q = true) : (A5l f g i).all A0q = true :=
 D1m (List.all_eq_true.mpr fun c hc => List.all_eq_true.mp hf c (List.mem_of_mem_take hc)) hg
def A3t (f g : List Cl) : EL := if (A0h f && A0h g) = false then (2, []) else A7b f g
theorem F7e (c : Cl) : A0h (C4e c).2 = true := A6a (B9v c)
theorem E8q {h : List Cl} {c : Cl} (hr : A0h h = true) : A1s h (C4e c).2 = A3d h c := by
 unfold A1s A3d
 rw [if_neg (by simp [hr, F7e]), A2k (B9v c)]
theorem D8r {f g : List Cl} (h : (A9m f g).1 ≠ 0) : (A9m f g).2 = [] := B2p h
/-- How far a row of opposites has come. -/
def C4i (f : List Cl) (i : Nat) (h : List Cl) (e : Int) : Prop := (e = 0 ∧ B4y f = A3u A3d h (f.drop i) ∧ A0h h = true) ∨ (e ≠ 0 ∧ B4y f = (e, h))
theorem E8n (f : List Cl) : C4i f 0 [⟨0, 0⟩] 0 := .inl ⟨rfl, rfl, by decide⟩
theorem E8m {f h : List Cl} {i : Nat} (hi : i < f.length) (hv : C4i f i h 0) : C4i f (i + 1) (A1s h (C4e (f.getD i cl0)).2).2 (A1s h (C4e (f.getD i cl0)).2).1 := by
 rcases hv with ⟨_, h1, h2⟩ | ⟨h1, _⟩
 ·rw [E8q h2]
  rw [B0t cl0 hi, A3u] at h1
  by_cases h0 : (A3d h (f.getD i cl0)).1 = 0
  ·rw [A2k h0] at h1
   refine .inl ⟨h0, h1, ?_⟩
   unfold A3d at h0 ⊢
   rw [A2k (B9v _)] at h0 ⊢
   exact A6a h0
  ·rw [A2g h0] at h1
   refine .inr ⟨h0, ?_⟩
   have : (A3d h (f.getD i cl0)).2 = [] := by
    unfold A3d at h0 ⊢
    rw [A2k (B9v _)] at h0 ⊢
    exact D8r h0
   rw [h1, this]
 ·exact absurd rfl h1
theorem F3w {f h : List Cl} {i : Nat} {e : Int} (hv : C4i f i h e) (hi : e = 0 → f.length ≤ i) : B4y f = (e, h) := by
 rcases hv with ⟨h0, h1, _⟩ | ⟨_, h1⟩
 ·rw [h1, List.drop_eq_nil_of_le (hi h0), h0]; rfl
 ·exact h1
/-! ### The document's faces -/
theorem E3p {f : List Cl} (h : A0h f = true) : ofF f = A0w (A5y f) := by
 unfold ofF
 rw [if_pos h, C0z (A8k h)]
theorem E8e {f : List Cl} (h : A0h f = false) : ofF f = (2, []) := by
 unfold ofF
 rw [if_neg (by simp [h])]
theorem D8p {f : List Cl} (h : (A4v f).1 = 0) : A0h (A4v f).2 = true := by
 unfold A4v at h ⊢
 split at h
 ·rename_i h1
  rw [if_pos h1]
  exact C4j h
 ·cases h
theorem E0g {f : List Cl} (h : (A4v f).1 = 0) : A1b f = A0w (A5y (A4v f).2) := by
 unfold A1b
 rw [A2k h, E3p (D8p h)]
theorem E6m {f : List Cl} (h : (A4v f).1 ≠ 0) : A1b f = ((A4v f).1, []) := A2g h
theorem E7a {c : Cl} : (A0q c && !B0b c) = single c := by
 unfold single
 cases h : A0q c with
 | false => rfl
 | true => rw [B6n h]
def A0p (f g : List Cl) : EL := if (A0d f && A0d g) = false then (2, []) else A0w (A5y (A9w f g))
end Go.Hy
namespace Go.Hy
/-! ### The document's formulas with another one in a dimension's place -/
def A5d (i : Int) (r : List Cl) (c : Cl) : EL := if A3e c.pos i = true then A1s [A0j c i] r else (0, [A0j c i])
def A4l (i : Int) (r : List Cl) (c : Cl) : EL := if (A5d i r c).1 = 0 ∧ A3e c.neg i = true then (if (A4v r).1 = 0 then A1s (A5d i r c).2 (A4v r).2 else ((A4v r).1, (A5d i r c).2)) else A5d i r c
def A2e (i : Int) (r h : List Cl) (c : Cl) : EL := if (A4l i r c).1 = 0 then A3t h (A4l i r c).2 else ((A4l i r c).1, h)
theorem C4n {f g : List Cl} (h : A0h f = true) (h2 : A0h g = true) : A1s f g = A9m f g := by unfold A1s; rw [if_neg (by simp [h, h2])]
theorem C4t {f g : List Cl} (h : A0h f = true) (h2 : A0h g = true) : A3t f g = A7b f g := by unfold A3t; rw [if_neg (by simp [h, h2])]
theorem D2b {c : Cl} (i : Int) : A0h [A0j c i] = true := F9w (C9d c i)
theorem E7j {i : Int} {r : List Cl} {c : Cl} (hr : A0h r = true) : A5d i r c = A3x i r c ∧ ((A3x i r c).1 = 0 → A0h (A3x i r c).2 = true) := by
 unfold A5d A3x
 split
 ·rw [C4n (D2b i) hr]
  exact ⟨rfl, fun h => A6a h⟩
 ·exact ⟨rfl, fun _ => D2b i⟩
/-- The document's step is the program's. -/
theorem E1o {i : Int} {r h : List Cl} {c : Cl} (hr : A0h r = true) (hh : A0h h = true) : (A2e i r h c).1 = (A2i i r h c).1 ∧ ((A2i i r h c).1 = 0 → (A2e i r h c).2 = (A2i i r h c).2 ∧ A0h (A2i i r h c).2 = true) ∧ ((A2i i r h c).1 ≠ 0 → (A2i i r h c).2 = []) := by
 obtain ⟨p1, p2⟩ := E7j (i := i) (c := c) hr
 have hn : A4v r = B4y r := by unfold A4v; rw [if_pos hr]
 have q1 : ∀ (x : EL), A4l i r c = x → A2e i r h c = if x.1 = 0 then A3t h x.2 else (x.1, h) := fun x hx => by unfold A2e; rw [hx]
 by_cases a1 : (A3x i r c).1 = 0
 ·by_cases a2 : A3e c.neg i = true
  ·by_cases a3 : (B4y r).1 = 0
   ·have e2 : A4l i r c = A9m (A3x i r c).2 (B4y r).2 := by
     unfold A4l
     rw [p1, hn, if_pos ⟨a1, a2⟩, if_pos a3, C4n (p2 a1) (C4j a3)]
    have e3 : A7v i r c (A3x i r c).2 = A9m (A3x i r c).2 (B4y r).2 := by
     unfold A7v
     rw [if_pos a2, A2k a3]
    rw [q1 _ e2]
    by_cases a4 : (A9m (A3x i r c).2 (B4y r).2).1 = 0
    ·rw [if_pos a4, C4t hh (show A0h (A9m (A3x i r c).2 (B4y r).2).2 = true from A6a a4), A8u rfl a1 e3 a4]
     exact ⟨rfl, fun h0 => ⟨rfl, A6a h0⟩, fun h0 => B2p h0⟩
    ·rw [if_neg a4, A7u rfl a1 e3 a4]
     exact ⟨rfl, fun h0 => absurd h0 a4, fun _ => rfl⟩
   ·have e2 : A4l i r c = ((B4y r).1, (A3x i r c).2) := by
     unfold A4l
     rw [p1, hn, if_pos ⟨a1, a2⟩, if_neg a3]
    have e3 : A7v i r c (A3x i r c).2 = ((B4y r).1, []) := by
     unfold A7v
     rw [if_pos a2, A2g a3]
    rw [q1 _ e2, if_neg a3, A7u rfl a1 e3 a3]
    exact ⟨rfl, fun h0 => absurd h0 a3, fun _ => rfl⟩
  ·have e2 : A4l i r c = A3x i r c := by
    unfold A4l
    rw [p1, if_neg (fun h => a2 h.2)]
   have e3 : A7v i r c (A3x i r c).2 = (0, (A3x i r c).2) := by
    unfold A7v
    rw [if_neg a2]
   rw [q1 _ e2, if_pos a1, C4t hh (p2 a1), A8u rfl a1 e3 rfl]
   exact ⟨rfl, fun h0 => ⟨rfl, A6a h0⟩, fun h0 => B2p h0⟩
 ·have e2 : A4l i r c = A3x i r c := by
   unfold A4l
   rw [p1, if_neg (fun h => a1 h.1)]
  rw [q1 _ e2, if_neg a1, B8z rfl a1]
  exact ⟨rfl, fun h0 => absurd h0 a1, fun _ => rfl⟩
def C3v (f : List Cl) (i : Int) (r : List Cl) (k : Nat) (h : List Cl) : Prop := A1a f i r = A3u (A2i i r) h (f.drop k) ∧ A0h h = true ∧ A0h r = true
theorem A5x {f r h : List Cl} {i : Int} {k : Nat} (hk : k < f.length) (hv : C3v f i r k h) (h0 : (A2e i r h (f.getD k cl0)).1 = 0) : C3v f i r (k + 1) (A2e i r h (f.getD k cl0)).2 := by
 obtain ⟨v1, v2, v3⟩ := hv
 obtain ⟨e1, e2, _⟩ := E1o (i := i) (c := f.getD k cl0) v3 v2
 rw [e1] at h0
 obtain ⟨e4, e5⟩ := e2 h0
 rw [B0t cl0 hk, A3u, A2k h0] at v1
 rw [e4]
 exact ⟨v1, e5, v3⟩
theorem A7p {f r h : List Cl} {i : Int} {k : Nat} (hk : k < f.length) (hv : C3v f i r k h) (h0 : (A2e i r h (f.getD k cl0)).1 ≠ 0) : A1a f i r = ((A2e i r h (f.getD k cl0)).1, []) := by
 obtain ⟨v1, v2, v3⟩ := hv
 obtain ⟨e1, _, _⟩ := E1o (i := i) (c := f.getD k cl0) v3 v2
 rw [e1] at h0 ⊢
 rw [v1, B0t cl0 hk, A3u, A2g h0]
theorem E7i {f r h : List Cl} {i : Int} {k : Nat} (hk : f.length ≤ k) (hv : C3v f i r k h) : A1a f i r = (0, h) := by
 rw [hv.1, List.drop_eq_nil_of_le hk]; rfl
theorem E1n {f r : List Cl} {i : Int} (hf : A0h f = true) (hr : A0h r = true) (hi : A5e i = true) : C3v f i r 0 [] := by
 refine ⟨?_, by decide, hr⟩
 unfold A1a
 rw [if_neg (by simp [hf, hr]), if_neg (by simp [hi])]
 rfl
end Go.Hy
namespace Go.Hy
/-! ### The document's faces with a formula in a dimension's place -/
def A3k (i : Int) (r : List Cl) (c : Cl) : EL := if A3e c.neg i = true then A1b r else if A3e c.pos i = true then ofF r else (0, [cl0])
def A3m (i : Int) (r : List Cl) (c : Cl) : EL := if (A3k i r c).1 = 0 then A0p [A0j c i] (A3k i r c).2 else ((A3k i r c).1, [A0j c i])
def A1i (i : Int) (r h : List Cl) (c : Cl) : EL := if (A3m i r c).1 = 0 then A2o h (A3m i r c).2 else ((A3m i r c).1, h)
theorem E0y {c : Cl} {i : Int} (h : A5s c = false) : A0d [A0j c i] = true := B3r (D2b i) fun d hd => by
 rw [List.mem_singleton] at hd
 subst hd
 exact C5c h
theorem D5t {r : List Cl} (h : (ofF r).1 = 0) : A0d (ofF r).2 = true := by
 unfold ofF at h ⊢
 split at h
 ·rename_i h1
  rw [if_pos h1]
  exact B3r (A6a h) fun c hc => by
   have := B1t h hc
   have := (List.mem_filter.mp this).2
   simpa using this
 ·cases h
theorem D3h {r : List Cl} (h : (A1b r).1 = 0) : A0d (A1b r).2 = true := by
 unfold A1b at h ⊢
 obtain ⟨a1, a2, a3⟩ := A3h h
 rw [a3]
 exact D5t a2
theorem D9p {f g : List Cl} : A5t (A9w f g) = f.flatMap fun a => A5t (g.map fun b => A4d a b) := by
 unfold A5t A9w
 rw [List.filter_flatMap]
theorem B2n {f g : List Cl} (h : A0d f = true) (h2 : A0d g = true) : A0p f g = B0w f g := by
 unfold A0p B0w
 rw [if_neg (by simp [h, h2]), C0z (D1m (A8k (A3b h).1) (A8k (A3b h2).1)), D9p]
theorem C4p {f g : List Cl} (h : (B0w f g).1 = 0) : A0d (B0w f g).2 = true := by
 unfold B0w at h ⊢
 exact B3r (A6a h) fun c hc => by
  obtain ⟨a, _, h2⟩ := List.mem_flatMap.mp (B1t h hc)
  have := (List.mem_filter.mp h2).2
  simpa using this
theorem E4g {d : Cl} (h : A0d [d] = true) : B0w [d] [cl0] = (0, [d]) := by
 rw [B6s]
 have e : A4d d cl0 = d := by unfold A4d cl0; simp
 have e2 : A5t ([cl0].map fun b => A4d d b) = [d] := by
  rw [List.map_cons, List.map_nil, e]
  exact C5e fun c hc => (A3b h).2 c hc
 rw [e2]
 exact C6r.mp (A3b h).1
theorem E7o {i : Int} {r : List Cl} {c : Cl} (hcl : A5s c = false) : (A3m i r c).1 = (A2l i r c).1 ∧ ((A2l i r c).1 = 0 → A3m i r c = A2l i r c ∧ A0d (A2l i r c).2 = true) := by
 have ht := E0y (i := i) hcl
 by_cases hp : A3e c.pos i = true
 ·have hn := has_both hcl hp
  have e1 : A3k i r c = ofF r := by unfold A3k; rw [if_neg (by simp [hn]), if_pos hp]
  unfold A2l A3m
  rw [if_pos hp, e1]
  by_cases h0 : (ofF r).1 = 0
  ·rw [if_pos h0, A2k h0, B2n ht (D5t h0)]
   exact ⟨rfl, fun h => ⟨rfl, C4p h⟩⟩
  ·rw [if_neg h0, A2g h0]
   exact ⟨rfl, fun h => absurd h h0⟩
 ·by_cases hn : A3e c.neg i = true
  ·have e1 : A3k i r c = A1b r := by unfold A3k; rw [if_pos hn]
   unfold A2l A3m
   rw [if_neg hp, if_pos hn, e1]
   by_cases h0 : (A1b r).1 = 0
   ·rw [if_pos h0, A2k h0, B2n ht (D3h h0)]
    exact ⟨rfl, fun h => ⟨rfl, C4p h⟩⟩
   ·rw [if_neg h0, A2g h0]
    exact ⟨rfl, fun h => absurd h h0⟩
  ·have e1 : A3k i r c = (0, [cl0]) := by unfold A3k; rw [if_neg hn, if_neg hp]
   unfold A2l A3m
   rw [if_neg hp, if_neg hn, e1, if_pos rfl, B2n ht (by decide), E4g ht]
   exact ⟨rfl, fun _ => ⟨rfl, ht⟩⟩
theorem D8x {f g : List Cl} (h : A0d f = true) (h2 : A0d g = true) : A2o f g = A7b f g := by unfold A2o; rw [if_neg (by simp [h, h2])]
theorem E1y {i : Int} {r h : List Cl} {c : Cl} (hcl : A5s c = false) (hh : A0d h = true) : (A1i i r h c).1 = (A2d i r h c).1 ∧ ((A2d i r h c).1 = 0 → (A1i i r h c).2 = (A2d i r h c).2 ∧ A0d (A2d i r h c).2 = true) ∧ ((A2d i r h c).1 ≠ 0 → (A2d i r h c).2 = []) := by
 obtain ⟨p1, p2⟩ := E7o (i := i) (r := r) hcl
 unfold A1i
 by_cases a1 : (A2l i r c).1 = 0
 ·obtain ⟨p3, p4⟩ := p2 a1
  rw [p3, if_pos a1, A8z rfl a1, ← D8x hh p4]
  exact ⟨rfl, fun h0 => ⟨rfl, (E4t h0).2⟩, fun h0 => E4u h0⟩
 ·rw [if_neg (by rw [p1]; exact a1), A4x rfl a1]
  exact ⟨p1, fun h0 => absurd h0 a1, fun _ => rfl⟩
def C4z (f : List Cl) (i : Int) (r : List Cl) (k : Nat) (h : List Cl) : Prop := A0v f i r = A3u (A2d i r) h (f.drop k) ∧ A0d h = true ∧ A0d f = true
theorem A4c {f r h : List Cl} {i : Int} {k : Nat} (hk : k < f.length) (hv : C4z f i r k h) (h0 : (A1i i r h (f.getD k cl0)).1 = 0) : C4z f i r (k + 1) (A1i i r h (f.getD k cl0)).2 := by
 obtain ⟨v1, v2, v3⟩ := hv
 obtain ⟨e1, e2, _⟩ := E1y (i := i) (r := r) ((A3b v3).2 _ (A0n (d := cl0) hk)) v2
 rw [e1] at h0
 obtain ⟨e4, e5⟩ := e2 h0
 rw [B0t cl0 hk, A3u, A2k h0] at v1
 rw [e4]
 exact ⟨v1, e5, v3⟩
theorem A5f {f r h : List Cl} {i : Int} {k : Nat} (hk : k < f.length) (hv : C4z f i r k h) (h0 : (A1i i r h (f.getD k cl0)).1 ≠ 0) : A0v f i r = ((A1i i r h (f.getD k cl0)).1, []) := by
 obtain ⟨v1, v2, v3⟩ := hv
 obtain ⟨e1, _, _⟩ := E1y (i := i) (r := r) ((A3b v3).2 _ (A0n (d := cl0) hk)) v2
 rw [e1] at h0 ⊢
 rw [v1, B0t cl0 hk, A3u, A2g h0]
theorem E7n {f r h : List Cl} {i : Int} {k : Nat} (hk : f.length ≤ k) (hv : C4z f i r k h) : A0v f i r = (0, h) := by
 rw [hv.1, List.drop_eq_nil_of_le hk]; rfl
theorem E1x {f r : List Cl} {i : Int} (hf : A0d f = true) (hr : A0h r = true) (hi : A5e i = true) : C4z f i r 0 [] := by
 refine ⟨?_, by decide, hf⟩
 unfold A0v
 rw [if_neg (by simp [hf, hr, hi])]
 rfl
def F5o (f : List Cl) (j : Int) : List Cl := f.map fun c => ⟨A9a c.pos j, A9a c.neg j⟩
def B7u (p : Bool) (i : Int) (r : List Cl) (d : Int) (f : List Cl) : EL := if p = true then A2y A0v i r d f else A2y A1a i r d f
end Go.Hy
namespace Go.Hy
/-! ### The document's way through a term: a formula put in, and the dimension taken out behind it -/
def E6k (i : Int) (x : EL) (d : Int) : EL := B0u x fun f => A0w (F5o f (i + d))
def B7i (i : Int) (r : List Cl) (b : Bool) : A4y := if b = true then ⟨fun d f => E6k i (A2y A1a i r d f) d, fun d f => E6k i (A2y A0v i r d f) d⟩ else B2w i r
def C2w (i : Int) (r : List Cl) (b : Bool) (t : T) (d : Int) : T := match A7h (A1k (B7i i r b)) t d with
 | .ok u => u
 | .bad e => C3t e
theorem E2f {i : Int} {r : List Cl} {b : Bool} {t u : T} {d : Int} (h : A7h (A1k (B7i i r b)) t d = .ok u) : C2w i r b t d = u := by unfold C2w; rw [h]
theorem B6o {i : Int} {r : List Cl} {b : Bool} {t : T} {d e : Int} (h : A7h (A1k (B7i i r b)) t d = .bad e) : C2w i r b t d = C3t e := by unfold C2w; rw [h]
theorem E5m (f : List Cl) (j : Int) : (F5o f j).all A0q = true := List.all_eq_true.mpr fun c hc => by
 obtain ⟨e, _, rfl⟩ := List.mem_map.mp hc
 exact A2z.mpr ⟨B4l _ _, B4l _ _⟩
theorem E9v {f : List Cl} {j : Int} (h : f.length ≤ 64) : (A0w (F5o f j)).1 = 0 := C1u (E5m f j) (by unfold F5o; rw [List.length_map]; exact h)
theorem F4v (j : Int) : A0w (F5o [] j) = (0, []) := rfl
theorem F2h (i : Int) (r : List Cl) : B7i i r false = B2w i r := rfl
theorem D4l {i : Int} {r : List Cl} {d : Int} {f : List Cl} : (B7i i r true).form d f = E6k i (A2y A1a i r d f) d := rfl
theorem D4m {i : Int} {r : List Cl} {d : Int} {f : List Cl} : (B7i i r true).A1z d f = E6k i (A2y A0v i r d f) d := rfl
theorem C0c {i d : Int} {x : EL} (h : x.1 ≠ 0) : E6k i x d = (x.1, []) := A2g h
theorem F4w {i d : Int} {x : EL} (h : x.1 = 0) (h2 : x.2.length ≤ 64) : E6k i x d = (0, (A0w (F5o x.2 (i + d))).2) := by
 unfold E6k
 rw [A2k h]
 exact Prod.ext (E9v h2) rfl
/-! ### Ways that keep what they tell right -/
structure E0b (W : A4y) : Prop where
 form : ∀ d f, 0 ≤ d → A0h f = true → (W.form d f).1 = 0 → A0h (W.form d f).2 = true
 A1z : ∀ d f, 0 ≤ d → A0d f = true → (W.A1z d f).1 = 0 → A0d (W.A1z d f).2 = true
 nil : ∀ d, W.form d [] = (0, [])
theorem D6i (i : Int) (r : List Cl) : E0b (B2w i r) where
 form := fun d f hd hf h0 => (D2j (P := fun _ => True) (N := fun _ => True) hf (Prod.ext h0 rfl)).1
 A1z := fun d f hd hf h0 => (D2k hf (Prod.ext h0 rfl)).1
 nil := fun d => E7r (by unfold A3e A4e; simp)
theorem E7k {W : A4y} (hW : E0b W) {k n d : Int} {nm : ByteArray} {r : List Cl} (hd : 0 ≤ d) (h : B5a k n nm r) (h0 : (W.row k d r).1 = 0) : B5a k n nm (W.row k d r).2 := by
 have h9 := h
 obtain ⟨h1, h2, h3, h4, h5, h6, h7⟩ := h
 obtain ⟨q1, q2⟩ := D8z h9
 unfold A4y.row at h0 ⊢
 by_cases e : k = 14
 ·rw [if_pos e] at h0 ⊢
  exact ⟨h1, h2, fun h => by omega, fun h => by omega, fun h => by omega, fun _ => hW.A1z d r hd (h6 e) h0, fun h => by omega⟩
 ·rw [if_neg e] at h0 ⊢
  refine ⟨h1, h2, fun h => ⟨?_, (h3 h).2⟩, fun h => ⟨?_, (h4 h).2⟩, fun h => hW.form d r hd q2 h0, fun h => absurd h e, fun h => ?_⟩
  ·rw [(h3 h).1, hW.nil]
  ·rw [(h4 h).1, hW.nil]
  ·rw [h7 h, hW.nil]
section
variable {W : A4y}
mutual
theorem B4i (hW : E0b W) : ∀ {t u : T} {d : Int}, 0 ≤ d → A9p t → A7h (A1k W) t d = .ok u → A9p u
 | .mk k n nm r ks ss, u, d, hd, h, hu => by
  simp only [A9p] at h
  obtain ⟨h1, h2, h3, h4, h5⟩ := h
  rw [A9s] at hu
  simp only [T.kind, T.n, T.name, T.r, T.kids, T.sys] at hu
  obtain ⟨o, h9, hu⟩ := A2m.A0m hu
  cases o with
  | inl v => exact absurd h9 B1d
  | inr p =>
   obtain ⟨a1, a2⟩ := B8x.mp h9
   obtain ⟨ks', h10, hu⟩ := A2m.A0m hu
   obtain ⟨ss', h11, hu⟩ := A2m.A0m hu
   injection hu with hu
   subst hu
   simp only [A9p]
   have hr := E7k hW hd h1 (by rw [a1])
   rw [a1] at hr
   refine ⟨by rw [a2]; exact hr, by rw [B6g h10]; exact h2, fun h => ?_, C1x hW hd h4 h10, B5q hW hd h5 h11⟩
   have h12 := B0n h11
   rw [h3 h] at h12
   exact List.eq_nil_of_length_eq_zero (Nat.le_zero.mp h12)
theorem C1x (hW : E0b W) {kd : Int} : ∀ {ts : List T} {i : Nat} {d : Int} {us : List T}, 0 ≤ d → B0x ts → A6t (A1k W) kd i ts d = .ok us → B0x us
 | [], i, d, us, hd, h, hu => by rw [A6s] at hu; injection hu with hu; subst hu; simp only [B0x]
 | t :: ts, i, d, us, hd, h, hu => by
  simp only [B0x] at h
  rw [A4k] at hu
  obtain ⟨c', h1, hu⟩ := A2m.A0m hu
  obtain ⟨t', h2, hu⟩ := A2m.A0m hu
  obtain ⟨ts', h3, hu⟩ := A2m.A0m hu
  injection hu with hu
  subst hu
  injection h1 with h1
  subst h1
  have hb := (B7c kd i).2.2.1
  simp only [B0x]
  exact ⟨B4i hW (by omega) h.1 h2, C1x hW hd h.2 h3⟩
theorem C1w (hW : E0b W) {kd : Int} : ∀ {ts : List T} {d : Int} {us : List T}, 0 ≤ d → B0x ts → A5h (A1k W) kd ts d = .ok us → B0x us
 | [], d, us, hd, h, hu => by rw [A6r] at hu; injection hu with hu; subst hu; simp only [B0x]
 | t :: ts, d, us, hd, h, hu => by
  simp only [B0x] at h
  rw [A4j] at hu
  obtain ⟨c', h1, hu⟩ := A2m.A0m hu
  obtain ⟨t', h2, hu⟩ := A2m.A0m hu
  obtain ⟨ts', h3, hu⟩ := A2m.A0m hu
  injection hu with hu
  subst hu
  injection h1 with h1
  subst h1
  have hb := (D3k kd).1
  simp only [B0x]
  exact ⟨B4i hW (by dsimp only; omega) h.1 h2, C1w hW hd h.2 h3⟩
theorem B5q (hW : E0b W) {kd : Int} : ∀ {bs : List Br} {d : Int} {us : List Br}, 0 ≤ d → B8e kd bs → A6v (A1k W) kd bs d = .ok us → B8e kd us
 | [], d, us, hd, h, hu => by rw [A6u] at hu; injection hu with hu; subst hu; simp only [B8e]
 | .mk f ks :: bs, d, us, hd, h, hu => by
  simp only [B8e] at h
  obtain ⟨h1, h2, h3, h4⟩ := h
  rw [A4s] at hu
  simp only [Br.A1z, Br.kids] at hu
  obtain ⟨o, h5, hu⟩ := A2m.A0m hu
  cases o with
  | none => exact B5q hW hd h4 hu
  | some f' =>
   obtain ⟨e1, _⟩ := A8d.mp h5
   obtain ⟨ks', h6, hu⟩ := A2m.A0m hu
   obtain ⟨bs', h7, hu⟩ := A2m.A0m hu
   injection hu with hu
   subst hu
   simp only [B8e]
   have hf := hW.A1z d f hd h2 (by rw [e1])
   rw [e1] at hf
   exact ⟨by rw [B6f h6]; exact h1, hf, C1w hW hd h3 h6, B5q hW hd h4 h7⟩
end
end
end Go.Hy
namespace Go.Hy
/-! ### One way or two -/
section
variable {i : Int} {r : List Cl}
theorem F2g {k d : Int} {rr : List Cl} : (B7i i r true).row k d rr = E6k i ((B2w i r).row k d rr) d := by
 unfold A4y.row
 split
 ·exact D4m
 ·exact D4l
end
end Go.Hy
namespace Go.Hy
/-! ### What is refused has a number above 0 -/
def pE (x : EL) : Prop := 0 ≤ x.1 ∧ x.1 ≤ 10
theorem E3d (l : List Cl) : pE ((0, l) : EL) := ⟨Int.le_refl 0, by show (0 : Int) ≤ 10; omega⟩
theorem C9o (l : List Cl) : pE ((2, l) : EL) := ⟨by show (0 : Int) ≤ 2; omega, by show (2 : Int) ≤ 10; omega⟩
theorem A8h (l : List Cl) : pE (A0w l) := by rcases A7a l with h | h | h <;> exact ⟨by omega, by omega⟩
theorem A9u {x : EL} {k : List Cl → EL} (hx : pE x) (hk : ∀ g, pE (k g)) : pE (B0u x k) := by
 unfold B0u
 split
 ·exact ⟨hx.1, hx.2⟩
 ·exact hk _
theorem C6f {g : List Cl → Cl → EL} (hg : ∀ h c, pE (g h c)) : ∀ {l h : List Cl}, pE (A3u g h l)
 | [], h => E3d h
 | c :: cs, h => by rw [A3u]; exact A9u (hg h c) fun h' => C6f hg
theorem F3l (f : List Cl) (a b : Int) : pE (A0t f a b) := ⟨E9h, F4r⟩
theorem E3f (f : List Cl) : pE (B4y f) := C6f fun h c => A9u (A8h _) fun o => A8h _
theorem F1k (f : List Cl) : pE (ofF f) := by
 unfold ofF
 split
 ·exact A8h _
 ·exact C9o _
theorem E3e (f : List Cl) : pE (A1b f) := A9u (by
 unfold A4v
 split
 ·exact E3f _
 ·exact C9o _) F1k
theorem B7x (f : List Cl) (i : Int) (r : List Cl) : pE (A1a f i r) := by
 unfold A1a
 split
 ·exact C9o _
 ·split
  ·exact C9o _
  ·refine C6f fun h c => A9u ?_ fun g => A9u ?_ fun g => A8h _
   ·unfold A3x
    split
    ·exact A8h _
    ·exact E3d _
   ·unfold A7v
    split
    ·exact A9u (E3f _) fun s => A8h _
    ·exact E3d _
theorem B7y (f : List Cl) (i : Int) (r : List Cl) : pE (A0v f i r) := by
 unfold A0v
 split
 ·exact C9o _
 ·refine C6f fun h c => A9u ?_ fun g => A8h _
  unfold A2l
  split
  ·exact A9u (F1k _) fun x => A8h _
  ·split
   ·exact A9u (E3e _) fun x => A8h _
   ·exact E3d _
theorem C4d {P : List Cl → Int → List Cl → EL} (hP : ∀ f i r, pE (P f i r)) {i d : Int} {r f : List Cl} : pE (A2y P i r d f) := by
 unfold A2y
 split
 ·exact E3d _
 ·exact A9u (F3l _ _ _) fun s => hP _ _ _
def G0n (W : A4y) : Prop := ∀ d f, pE (W.form d f) ∧ pE (W.A1z d f)
theorem E2j (i : Int) (r : List Cl) : G0n (B2w i r) := fun d f => ⟨C4d B7x, C4d B7y⟩
theorem E2i (i : Int) (r : List Cl) (b : Bool) : G0n (B7i i r b) := by
 cases b
 ·exact E2j i r
 ·exact fun d f => ⟨by rw [D4l]; exact A9u (C4d B7x) fun f => A8h _, by rw [D4m]; exact A9u (C4d B7y) fun f => A8h _⟩
theorem E7u {W : A4y} (h : G0n W) (k d : Int) (f : List Cl) : pE (W.row k d f) := by
 unfold A4y.row
 split
 ·exact (h d f).2
 ·exact (h d f).1
theorem D2w {W : A4y} (hW : G0n W) : ∀ (t : T) {d e : Int}, A7h (A1k W) t d = .bad e → 0 < e ∧ e ≤ 10 := T.ind fun t ih d e h => by
 rcases D4p h with h1 | ⟨b, _, h1⟩ | ⟨p, hp, h1 | ⟨c', _, h2⟩⟩
 ·have := B2v.mp h1
  have h2 := E7u hW t.kind d t.r
  unfold pE at h2
  omega
 ·have := B1o.mp h1
  have h2 := (hW d b.A1z).2
  unfold pE at h2
  omega
 ·cases h1
 ·exact ih p hp h2
theorem E1q {W : A4y} {t u : T} {d : Int} (h : A7h (A1k W) t d = .ok u) : u.kind = t.kind := by
 rcases E6t h with h1 | ⟨p, _, h1, _⟩
 ·exact absurd h1 B1d
 ·exact h1.1
theorem B6p {i : Int} {r : List Cl} {b : Bool} {t : T} {d : Int} (hf : A9p t) : (A7h (A1k (B7i i r b)) t d = .ok (C2w i r b t d) ∧ 0 ≤ (C2w i r b t d).kind) ∨ ∃ e, 0 < e ∧ e ≤ 10 ∧ A7h (A1k (B7i i r b)) t d = .bad e ∧ C2w i r b t d = C3t e := by
 cases h : A7h (A1k (B7i i r b)) t d with
 | ok u =>
  rw [E2f h]
  exact .inl ⟨rfl, by rw [E1q h]; exact B3m hf⟩
 | bad e => exact .inr ⟨e, (D2w (E2i i r b) t h).1, (D2w (E2i i r b) t h).2, rfl, B6o h⟩
/-! ### The rows of the document's way -/
theorem D5a (i : Int) (r : List Cl) (k d : Int) (f : List Cl) : B7u (decide (k = 14)) i r d f = (B2w i r).row k d f := by
 unfold B7u A4y.row B2w
 by_cases h : k = 14
 ·simp [h]
 ·simp [h]
theorem B9r {i : Int} {r : List Cl} {k d : Int} {f : List Cl} : (B7i i r false).row k d f = B7u (decide (k = 14)) i r d f := (D5a i r k d f).symm
theorem B6a {i : Int} {r : List Cl} {d : Int} {f : List Cl} : (B7i i r false).A1z d f = B7u true i r d f := rfl
theorem D4n {i : Int} {r : List Cl} {k d : Int} {f : List Cl} : (B7i i r true).row k d f = E6k i (B7u (decide (k = 14)) i r d f) d := by rw [F2g, D5a]
theorem C0e {i : Int} {r : List Cl} {d : Int} {f : List Cl} : (B7i i r true).A1z d f = E6k i (B7u true i r d f) d := rfl
theorem E1s {p : Bool} {i d : Int} {r f : List Cl} : pE (B7u p i r d f) := by
 unfold B7u
 split
 ·exact C4d B7y
 ·exact C4d B7x
section
variable {i d k n : Int} {nm : ByteArray} {r f : List Cl} {x : EL}
theorem E7y {b : Bool} (h : x = B7u (decide (k = 14)) i r d f) (h0 : x.1 ≠ 0) : (A1k (B7i i r b)).own d k n nm f = .bad x.1 := by
 subst h
 cases b
 ·rw [B3c (by rw [B9r]; exact h0), B9r]
 ·rw [B3c (by rw [D4n, C0c h0]; exact h0), D4n, C0c h0]
theorem F3m (h : x = B7u (decide (k = 14)) i r d f) (h0 : x.1 = 0) : (A1k (B7i i r false)).own d k n nm f = .ok (.inr (n, x.2)) := by
 subst h
 rw [B5h (by rw [B9r]; exact h0), B9r]
theorem E5c {b : Bool} (h : x = B7u true i r d f) (h0 : x.1 ≠ 0) : (A1k (B7i i r b)).A1z d f = .bad x.1 := by
 subst h
 cases b
 ·rw [B2e (by rw [B6a]; exact h0), B6a]
 ·rw [B2e (by rw [C0e, C0c h0]; exact h0), C0e, C0c h0]
theorem D9e {b : Bool} (h : x = B7u true i r d f) (h0 : x.1 = 0) (hn : x.2.length = 0) : (A1k (B7i i r b)).A1z d f = .ok none := by
 subst h
 have e : B7u true i r d f = (0, []) := Prod.ext h0 (List.eq_nil_of_length_eq_zero hn)
 cases b
 ·exact B1e.mpr (by rw [B6a, e])
 ·exact B1e.mpr (by rw [C0e, e]; exact (F4w rfl (Nat.zero_le _)).trans (by rw [F4v]))
theorem E9o (h : x = B7u true i r d f) (h0 : x.1 = 0) (hn : ¬ x.2.length = 0) : (A1k (B7i i r false)).A1z d f = .ok (some x.2) := by
 subst h
 exact A8d.mpr ⟨by rw [B6a]; exact Prod.ext h0 rfl, fun e => hn (by rw [e]; rfl)⟩
end
/-! ### What is told, as one term -/
def E5f (x : Int × T) : T := if x.1 = 0 then x.2 else C3t x.1
theorem E2g (i : Int) (r : List Cl) (b : Bool) (t : T) (d : Int) : C2w i r b t d = E5f (B7e (A7h (A1k (B7i i r b)) t d)) := by
 unfold C2w E5f
 cases h : A7h (A1k (B7i i r b)) t d with
 | ok u => simp [B7e]
 | bad e =>
  have := B5i t h
  simp [B7e, this]
theorem E7t (i : Int) (r : List Cl) (t : T) (d : Int) : C2w i r false t d = E5f (A3c (B2w i r) t d) := E2g i r false t d
def swapT (i : Int) (r : List Cl) (t : T) : T := if t.kind < 0 then t else C2w i r false t 0
def B0o (r : List Cl) (l : List Int) (t : T) : T := l.foldl (fun u i => swapT i r u) t
theorem D2d {r : List Cl} {l : List Int} {t : T} {k : Nat} (h : k < l.length) : B0o r (l.take (k + 1)) t = swapT (l.getD k 0) r (B0o r (l.take k) t) := by
 unfold B0o
 rw [A0i (d := 0) h, List.foldl_append]
 rfl
theorem C0q {r : List Cl} {l : List Int} {t u y : T} {k : Nat} (h : k < l.length) (hu : u = B0o r (l.take k) t) (hy : y = swapT (l.getD k 0) r u) : y = B0o r (l.take (k + 1)) t := by
 rw [hy, hu, D2d h]
/-- What a way may go on from: what was refused, or a term that is fine. -/
def B8c (n : Nat) (t : T) : Prop := (-1000000 ≤ t.kind ∧ t.kind < 0) ∨ (A9p t ∧ size t ≤ n)
theorem D9a {n : Nat} {i : Int} {r : List Cl} {t : T} (h : B8c n t) : B8c n (swapT i r t) := by
 rcases h with h | ⟨h, h2⟩
 ·unfold swapT
  rw [if_pos h.2]
  exact .inl h
 ·unfold swapT
  have hk := B3m h
  rw [if_neg (by omega)]
  rcases B6p (i := i) (r := r) (b := false) (d := 0) h with ⟨h3, h4⟩ | ⟨e, h3, h4, h5, h6⟩
  ·rw [F2h] at h3
   exact .inr ⟨B4i (D6i i r) (by omega) h h3, Nat.le_trans (B6c h3) h2⟩
  ·rw [h6]
   exact .inl ⟨by show -1000000 ≤ -e; omega, B3d h3⟩
theorem A8y {n : Nat} {r : List Cl} : ∀ {l : List Int} {t : T}, B8c n t → B8c n (B0o r l t)
 | [], t, h => h
 | i :: l, t, h => A8y (l := l) (D9a (i := i) h)
theorem E4w {n : Nat} {t : T} (h : B8c n t) : -1000000 ≤ t.kind := by
 rcases h with h | ⟨h, _⟩
 ·exact h.1
 ·have := B3m h
  omega
def B8q (c : Cl) (t : T) : T := B0o [] (A0g c.neg) (B0o [cl0] (A0g c.pos) t)
theorem D3s {n : Nat} {c : Cl} {t : T} (h : B8c n t) : B8c n (B8q c t) := A8y (A8y h)
def B2y (t : T) (c : Cl) : Int := if A2p t ≠ 0 then A2p t else if single c = false then 2 else 0
theorem D7j {t : T} {c : Cl} (h : B2y t c ≠ 0) : A0y t c = (B2y t c, t0) := by
 unfold B2y at h ⊢
 unfold A0y
 by_cases h1 : A2p t ≠ 0
 ·rw [if_pos h1, if_pos h1]
 ·rw [if_neg h1] at h ⊢
  rw [if_neg h1]
  by_cases h2 : single c = false
  ·rw [if_pos h2, if_pos h2]
  ·rw [if_neg h2] at h
   exact absurd rfl h
theorem E0r {t : T} {c : Cl} (h : B2y t c = 0) : A2p t = 0 ∧ single c = true := by
 unfold B2y at h
 split at h
 ·rename_i h1; exact absurd h h1
 ·rename_i h1
  split at h
  ·cases h
  ·rename_i h2
   exact ⟨Decidable.not_not.mp h1, by simpa using h2⟩
theorem C0p {r : List Cl} {e : Int} (he : 0 < e) : ∀ {l : List Int}, B0o r l (C3t e) = C3t e
 | [] => rfl
 | i :: l => by
  show B0o r l (swapT i r (C3t e)) = _
  rw [show swapT i r (C3t e) = C3t e from if_pos (B3d he)]
  exact C0p he
theorem E6y {i : Int} {r : List Cl} {t : T} (h : A9p t) : swapT i r t = E5f (A3c (B2w i r) t 0) := by
 have hk := B3m h
 unfold swapT
 rw [if_neg (by omega), E7t]
theorem E0k {W : A4y} {t : T} {d : Int} : (∃ u, A7h (A1k W) t d = .ok u ∧ A3c W t d = (0, u)) ∨ ∃ e, A7h (A1k W) t d = .bad e ∧ A3c W t d = (e, t0) := by
 unfold A3c
 cases h : A7h (A1k W) t d with
 | ok u => exact .inl ⟨u, rfl, rfl⟩
 | bad e => exact .inr ⟨e, rfl, rfl⟩
theorem D3y (u : T) : E5f (0, u) = u := if_pos rfl
theorem C7c {e : Int} {u : T} (h : 0 < e) : E5f (e, u) = C3t e := if_neg (by show ¬ e = 0; omega)
theorem D8a (r : List Cl) (i : Int) (l : List Int) (t : T) : A6q r (i :: l) t = C0n (A3c (B2w i r) t 0) (A6q r l) := rfl
theorem C0o {r : List Cl} : ∀ {l : List Int} {t : T}, A9p t → B0o r l t = E5f (A6q r l t) ∧ ((A6q r l t).1 = 0 → A9p (A6q r l t).2) ∧ 0 ≤ (A6q r l t).1
 | [], t, h => ⟨(D3y t).symm, fun _ => h, Int.le_refl 0⟩
 | i :: l, t, h => by
  have h1 : B0o r (i :: l) t = B0o r l (swapT i r t) := rfl
  rw [h1, E6y h, D8a]
  rcases E0k (W := B2w i r) (t := t) (d := 0) with ⟨u, h2, h3⟩ | ⟨e, h2, h3⟩
  ·rw [h3, D3y, A9c rfl]
   exact C0o (B4i (D6i i r) (Int.le_refl 0) h h2)
  ·have h4 := (D2w (E2j i r) t h2).1
   rw [h3, C7c h4, A7z (by show e ≠ 0; omega), C0p h4]
   exact ⟨(C7c h4).symm, fun h5 => by omega, by show 0 ≤ e; omega⟩
theorem D6r {x : Int × T} (h0 : 0 ≤ x.1) (h : x.1 = 0 → A9p x.2) (h2 : x.1 ≠ 0 → x.2 = t0) : B8j (E5f x) = x := by
 obtain ⟨e, u⟩ := x
 simp only at h0 h h2
 by_cases he : e = 0
 ·subst he
  rw [D3y]
  have := B3m (h rfl)
  unfold B8j
  rw [if_neg (by omega)]
 ·rw [C7c (by omega), h2 he]
  unfold B8j
  rw [if_pos (B3d (by omega))]
  exact Prod.ext (by show - -e = e; omega) rfl
theorem E0j {c : Cl} {t : T} (h : A2p t = 0) (hc : single c = true) : B8j (B8q c t) = A0y t c := by
 have hf := (C2c.mp h).2
 unfold A0y B8q
 rw [if_neg (by simp [h]), if_neg (by simp [hc])]
 obtain ⟨a1, a2, a3⟩ := C0o (r := [cl0]) (l := A0g c.pos) hf
 rw [a1]
 by_cases h0 : (A6q [cl0] (A0g c.pos) t).1 = 0
 ·rw [A9c h0, show E5f (A6q [cl0] (A0g c.pos) t) = (A6q [cl0] (A0g c.pos) t).2 from if_pos h0]
  obtain ⟨b1, b2, b3⟩ := C0o (r := []) (l := A0g c.neg) (a2 h0)
  rw [b1]
  exact D6r b3 b2 (fun h9 => C0b h9)
 ·rw [A7z h0, show E5f (A6q [cl0] (A0g c.pos) t) = C3t (A6q [cl0] (A0g c.pos) t).1 from if_neg h0, C0p (by omega)]
  have h9 := C0b (g := fun i u => A3c (B2w i [cl0]) u 0) (l := A0g c.pos) (t := t) h0
  exact (D6r (x := ((A6q [cl0] (A0g c.pos) t).1, t0)) a3 (fun h8 => absurd h8 h0) (fun _ => rfl)).symm ▸ (by rw [show E5f ((A6q [cl0] (A0g c.pos) t).1, t0) = C3t (A6q [cl0] (A0g c.pos) t).1 from if_neg h0])
end Go.Hy
namespace Go.Hy
open Go.RowKit Go.Shelf
/-! ### A range over a function whose body never leaves the loop, and whose iterator may write what it has captured -/
theorem E2b {F : Fence} {n : Nat} {P : Program} {α : Type} {g : Operand} {ps : Array Tmp} {assign body : Code} {Q : Exit → Act → World → Prop} {a : Act} {w : World}
  (hro : F.round = none) (h1 : 1 ≤ n) {gf : Nat} {lb : Array Value} (hg : a.eval g = .func (.func gf) #[] lb) (hFg : F.fn gf) (eg : ∀ args w, (callFunc gf args).run P w = .ok (.enter gf args) w)
  {encs : α → Array Value} (hps : ∀ x, (encs x).size = ps.size) (I : List α → World → Prop) (Px : List α → α → Prop) (Kp : World → World → Prop)
  (hIp : ∀ (pre : List α) (A : World) (l : Nat) (o o0 : Obj), I pre A → A.heap[l]? = some o0 → o0.isCells = false → w.heap.size ≤ l → I pre (A.putObj l o)) (hIa : ∀ (pre : List α) (A : World) (o : Obj), I pre A → w.heap.size ≤ A.heap.size → I pre (A.alloc o)) (h0 : I [] w)
  (hKt : ∀ {A B C : World}, Kp A B → Kp B C → Kp A C) (hKp : ∀ (A : World) (l : Nat) (o o0 : Obj), A.heap[l]? = some o0 → o0.isCells = false → w.heap.size ≤ l → Kp A (A.putObj l o))
  (xs : List α)
  (hit : ∀ (l : Nat) (J : List α → World → Prop) (W1 : World), (∀ pre W, J pre W → I pre W) →
   (∀ pre A B, J pre A → I pre B → (∀ (k : Nat) (o : Obj), A.heap[k]? = some o → o.isCells = false → B.heap[k]? = some o) → J pre B) →
   (∀ pre x W, J pre W → Px pre x → YieldAt F (n - 1 - 1) P l (encs x) W fun e W' => e = .returned (.bool true) ∧ J (pre ++ [x]) W' ∧ Kp W W') → J [] W1 → (∀ (k : Nat), k < w.heap.size → W1.heap[k]? = w.heap[k]?) →
   CallsIn F (n - 1) P gf (#[.func (.yield l) #[] #[]] ++ lb) W1 fun e W' => (∃ v, e = .returned v) ∧ J xs W')
  (a₁ : α → Act)
  (hassign : ∀ (l : Nat) (x : α) (W : World) (K : Act → World → Prop), K (a₁ x) W →
   assign.wpIn (F.inRound l) (n - 1 - 1) P (Exit.then K (fun _ _ _ => False)) { tmps := (ps.zip (encs x)).foldl (fun t (p, v) => t.setIfInBounds p v) a.tmps, defers := [] } W)
  (hbody : ∀ (l : Nat) (pre : List α) (x : α) (W : World), I pre W → Px pre x →
   body.wpIn (F.inRound l) (n - 1 - 1) P (fun e _ W' => e = .normal ∧ KeepsOthers W W' ∧ Kp W W' ∧ I (pre ++ [x]) W') (a₁ x) W)
  (hdone : ∀ (D : Nat) (W : World), w.heap.size ≤ D → I xs W → W.heap[D]? = some (.deferred (some [])) → Q .normal { a with defers := { target := .collected D, args := #[] } :: a.defers } W) :
  (Code.rangeFunc g ps assign body).wpIn F n P Q a w := by
 refine wpIn_rangeFunc ?_
 intro fn hfn
 rw [hro]
 obtain ⟨rec, hrec⟩ : ∃ rec : LoopState → Option Code → Loop, rec = fun st pe => { state := st, pending := pe, fn, tmps := a.tmps, params := ps, assign, body, defers := w.heap.size } := ⟨_, rfl⟩
 obtain ⟨W1, hW1⟩ : ∃ W1, (w.alloc (.deferred (some []))).alloc (.loop (rec .ready none)) = W1 := ⟨_, rfl⟩
 have hL1 : W1.heap[w.heap.size + 1]? = some (.loop (rec .ready none)) := by
  rw [← hW1]; have := World.alloc_heap_new (w.alloc (.deferred (some []))) (.loop (rec .ready none)); rwa [World.size_alloc] at this
 have hK1 : W1.heap[w.heap.size]? = some (.deferred (some [])) := by
  rw [← hW1]; exact (Below.heap_alloc _ _ _ (by simp)).trans (World.alloc_heap_new w _)
 have hI1 : I [] W1 := by rw [← hW1]; exact hIa _ _ _ (hIa _ _ _ h0 (Nat.le_refl _)) (by simp)
 refine ⟨w.heap.size + 1, [{ target := .collected w.heap.size, args := #[] }], W1, { target := .fn (.func gf) lb, args := #[.func (.yield (w.heap.size + 1)) #[] #[]] }, W1, gf,
  #[.func (.yield (w.heap.size + 1)) #[] #[]] ++ lb, W1, ?_, ?_, ?_, ?_, fun _ => h1, ?_⟩
 ·rw [← hW1, hrec]; exact run_enterLoop_outer _ _ _ _ _
 ·simp only [resolve, hg]
  simp [go_sem]
 ·intro f' hf'; simp [Target.leads] at hf'; subst hf'; exact hFg
 ·simp [invoke, go_sem, eg]
 ·refine (hit (w.heap.size + 1) (fun pre W => I pre W ∧ W.heap[w.heap.size + 1]? = some (.loop (rec .ready none)) ∧ W.heap[w.heap.size]? = some (.deferred (some []))) W1
   (fun pre W h => h.1) (fun pre A B hA hB hk => ⟨hB, hk _ _ hA.2.1 rfl, hk _ _ hA.2.2 rfl⟩) ?_ ⟨hI1, hL1, hK1⟩ (fun k hk => by rw [← hW1]; exact (Below.heap_alloc _ _ _ (by simp; omega)).trans (Below.heap_alloc _ _ _ hk))).mono ?_
  ·rintro pre x W ⟨hi, hl, hk⟩ hpx
   have hlt : w.heap.size + 1 < W.heap.size := (Array.getElem?_eq_some_iff.1 hl).1
   have hy := run_yield (P := P) (args := encs x) hl (by rw [hrec]; exact hps x)
   rw [hrec] at hy
   refine ⟨fn, _, assign, body, hy, roundIn_of_wpIn hfn (hassign _ x W _ ⟨_, run_beginRound hl (by rw [hrec]), ?_⟩)⟩
   have hl2 : (W.putObj (w.heap.size + 1) (.loop { rec .ready none with state := .busy })).heap[w.heap.size + 1]? = some (.loop { rec .ready none with state := .busy }) := World.putObj_heap_same hlt
   have hk2 : (W.putObj (w.heap.size + 1) (.loop { rec .ready none with state := .busy })).heap[w.heap.size]? = some (.deferred (some [])) := (World.putObj_heap_other (by omega)).trans hk
   refine wpIn_mono (hbody _ pre x _ (hIp _ _ _ _ _ hi hl rfl (by omega)) hpx) ?_
   rintro e a3 W3 ⟨rfl, hk3, hkp3, hi3⟩
   have hl3 := hk3.same _ _ hl2 rfl
   have hend := run_endRound (P := P) none hl3
   rw [hrec] at hl3 hend
   refine ⟨_, _, hend, rfl, ⟨hIp _ _ _ _ _ hi3 hl3 rfl (by omega), ?_, ?_⟩, hKt (hKt (hKp _ _ _ _ hl rfl (by omega)) hkp3) (hKp _ _ _ _ hl3 rfl (by omega))⟩
   ·rw [hrec]; exact World.putObj_heap_same (Array.getElem?_eq_some_iff.1 hl3).1
   ·exact (World.putObj_heap_other (by omega)).trans (hk3.same _ _ hk2 rfl)
  ·rintro e W2 ⟨⟨v, rfl⟩, hi, hl, hk⟩
   exact ⟨none, _, by have := run_endLoop (P := P) hl (by rw [hrec]; simp); rw [hrec] at this; exact this, hdone _ _ (Nat.le_refl _) (hIp _ _ _ _ _ hi hl rfl (by omega)) ((World.putObj_heap_other (by omega)).trans hk)⟩
end Go.Hy
namespace Go.Hy
open Go.Proofs
set_option maxRecDepth 100000
theorem E1p (n : Int) (h0 : 0 ≤ n) (hn : n ≤ 40) : Spec Tryz.prog 187 #[.int .i64 (n)] [] [] (fun _ : Unit => .int .i64 (((2 ^ n.toNat : Nat) : Int))) (fun _ : Unit => []) (fun _ : Unit => []) := by
 refine A0e (args := [.int .i64 (n)]) Tryz.func187 Tryz.ntmps187 rfl lb_ fun B hB => ?_
 refine z72 ?_; refine z141 ?_; refine A0u (X := Nat) (fun s_ => (s_ : Int) ≤ n) (fun s_ => [(0, .int .i64 (n)), (3, .int .i64 (((2 ^ s_ : Nat) : Int))), (4, .int .i64 ((s_ : Int)))]) (fun s_ G_ => G_) (fun s_ => []) (fun s_ => n.toNat - s_) (0) (by simpa using h0) (by exact ⟨rfl, rfl, rfl, trivial⟩) ?_ ?_
 ·exact fun w hs => hs
 ·intro i base0 hi0 next0; have hpw : 2 ^ i ≤ 2 ^ 40 := Nat.pow_le_pow_right (by omega) (by omega); have hpz : (0 : Int) ≤ ((2 ^ i : Nat) : Int) := Int.natCast_nonneg _; refine z125 ?_; refine z85 ?_; refine A0a (fun h7 => ?_) (fun h7 => ?_)
  ·have c7 := sm_ (p := (decide ((i : Int) < n)) = true) h7; refine z86 ?_; refine z73 ?_; refine q0 rfl (G1q ?_); refine z152 ?_; refine A0b (fun w hs => ?_) (next0 (i + 1) _ (by omega) (by omega) ⟨rfl, (by (conv => lhs; whnf); rw [Nat.pow_succ]; push_cast; rfl), rfl, trivial⟩); exact (hs.less (by simp +contextual))
  ·have c7 := sm_ (p := (decide ((i : Int) < n)) = false) h7; have he : n.toNat = i := by omega
   refine z190 ?_; refine A1r Tryz.func187 Tryz.results187 wn_ () (by rw [he]) (fun w hs => hs.none)
theorem D1s (s : Nat) (i : Int) (hs : s < 4294967296) : Spec Tryz.prog 116 #[.int .u32 ((s : Nat) : Int), .int .i64 (i)] [] [] (fun _ : Unit => .bool ((A3e s i))) (fun _ : Unit => []) (fun _ : Unit => []) := by
 refine A0e (args := [.int .u32 ((s : Nat) : Int), .int .i64 (i)]) Tryz.func116 Tryz.ntmps116 rfl lb_ fun B hB => ?_
 refine z191 ?_; refine A0z ([(4, .bool (((decide (0 ≤ i)) && (decide (i < 24))) && (decide (((s / 2 ^ i.toNat % 2 : Nat) : Int) = 1))))]) (fun hK => ?_) (fun base => ?_)
 ·refine z73 ?_; refine z52 ?_; refine z3 ?_; refine qI rfl rfl rfl wl_ (fun hg7 => ?_) (fun hg7 => ?_)
  ·have g7 := sm_ (p := (decide (0 ≤ i)) = true) hg7; refine z30 ?_; refine z45 ?_; refine z110 ?_; refine qI rfl rfl rfl wl_ (fun hg11 => ?_) (fun hg11 => ?_)
   ·have g11 := sm_ (p := (decide (i < 24)) = true) hg11; refine z30 ?_; refine qT rfl rfl rfl (D5v ?_); refine z24 ?_; refine qT rfl rfl rfl (A0c Tryz.call187 (E1p i om_ om_) (fun x15 => ?_)); refine qT rfl rfl rfl (F7l ?_ (a := s) (b := 2 ^ i.toNat)); refine qT rfl rfl rfl (F7k ?_ (a := s / 2 ^ i.toNat) (b := 2)); refine qT rfl rfl rfl (C6l ?_ (a := ((s / 2 ^ i.toNat % 2 : Nat) : Int)) (b := 1)); refine z114 ?_; exact hK _ ⟨(by first | rfl | ((conv => lhs; whnf); first | (simp_all [B3l]; done) | (simp_all [B3l]; omega))), trivial⟩
   ·have g11 := sm_ (p := (decide (i < 24)) = false) hg11; refine z127 ?_; refine z169 ?_; exact hK _ ⟨(by first | rfl | ((conv => lhs; whnf); first | (simp_all [B3l]; done) | (simp_all [B3l]; omega))), trivial⟩
  ·have g7 := sm_ (p := (decide (0 ≤ i)) = false) hg7; refine z4 ?_; refine z129 ?_; refine z127 ?_; refine z117 ?_; refine z115 ?_; exact hK _ ⟨(by first | rfl | ((conv => lhs; whnf); first | (simp_all [B3l]; done) | (simp_all [B3l]; omega))), trivial⟩
 ·refine A1r Tryz.func116 Tryz.results116 wn_ () (congrArg Value.bool (by rw [B3l, show decide (((s / 2 ^ i.toNat % 2 : Nat) : Int) = 1) = decide (s / 2 ^ i.toNat % 2 = 1) from decide_eq_decide.mpr (by omega)])) (fun w hs => hs.none)
theorem p24 : (2 ^ (24 : Int).toNat : Nat) = 16777216 := by decide +kernel
theorem E1t (s : Nat) (hs : s < 4294967296) : Spec Tryz.prog 214 #[.int .u32 ((s : Nat) : Int)] [] [] (fun _ : Unit => .bool ((decide (s < 16777216)))) (fun _ : Unit => []) (fun _ : Unit => []) := by
 refine A0e (args := [.int .u32 ((s : Nat) : Int)]) Tryz.func214 Tryz.ntmps214 rfl lb_ fun B hB => ?_
 refine z136 ?_; refine q0 rfl (D5v ?_); refine q0 rfl (A0c Tryz.call187 (E1p 24 om_ om_) (fun x5 => ?_)); refine z19 ?_; refine z69 ?_; refine A1r Tryz.func214 Tryz.results214 wn_ () (congrArg Value.bool (decide_eq_decide.mpr (by rw [p24]; omega))) (fun w hs => hs.none)
theorem F3b (s : Nat) (hs : s < 4294967296) : Spec Tryz.prog 161 #[.int .u32 ((s : Nat) : Int)] [] [] (fun x : SH => sl x (A0g s).length) (fun x : SH => [IL (A0g s) x]) (fun x : SH => []) := by
 refine A0e (args := [.int .u32 ((s : Nat) : Int)]) Tryz.func161 Tryz.ntmps161 rfl lb_ fun B hB => ?_
 refine z72 ?_; refine z141 ?_; refine A0u (X := Nat × SH) (fun s_ => s_.1 ≤ 24) (fun s_ => [(0, .int .u32 ((s : Nat) : Int)), (3, sl s_.2 ((A2f s s_.1).length)), (4, .int .i64 ((s_.1 : Int)))]) (fun s_ G_ => G_) (fun s_ => [A1q 1 3 s_.2 ((A2f s s_.1).length) (A4a (A2f s s_.1))]) (fun s_ => 24 - s_.1) (0, (none, 0)) (by omega) (by exact ⟨rfl, rfl, rfl, trivial⟩) ?_ ?_
 ·exact fun w hs => (hs.A2r 1 3)
 ·intro ⟨i, a⟩ base0 hi0 next0; dsimp only at hi0 next0 ⊢; have hln := A6e s i; refine z74 ?_; refine z85 ?_; refine A0a (fun h6 => ?_) (fun h6 => ?_)
  ·have c6 := sm_ (p := (decide ((i : Int) < 24)) = true) h6; refine z192 ?_; refine q0 rfl (A0c Tryz.call116 (D1s s (i : Int) om_) (fun x11 => ?_)); refine z1 ?_; refine A0a (fun h11 => ?_) (fun h11 => ?_)
   ·have c11 := sm_ (p := ((A3e s (i : Int))) = true) h11; refine z97 ?_; refine q0 rfl (A3g fun b14 => ?_); refine q0 rfl (A4p (fun a15 => ?_) (a := a) (n' := (A2f s i).length)); refine A0o (fun w hs => ((hs.perm A0x).drop).E1d) ?_; refine z152 ?_; have hnx : A2f s (i + 1) = A2f s i ++ [(i : Int)] := by rw [A5n, if_pos]; simp [A3e] at c11; exact c11.2
    refine A0b (fun w hs => ?_) (next0 (i + 1, a15) _ (by omega) (by (try simp only); omega) ⟨rfl, (by (conv => lhs; whnf); simp [sl, hnx]), rfl, trivial⟩); rw [hnx]; simpa using (hs.less (by simp +contextual))
   ·have c11 := sm_ (p := ((A3e s (i : Int))) = false) h11; refine z99 ?_; have hnx : A2f s (i + 1) = A2f s i := by rw [A5n, if_neg]; simp [A3e] at c11; simp [c11 (by omega)]
    refine A0b (fun w hs => ?_) (next0 (i + 1, a) _ (by omega) (by (try simp only); omega) ⟨rfl, (by (conv => lhs; whnf); simp [sl, hnx]), rfl, trivial⟩); rw [hnx]; exact (hs.less (by simp +contextual))
  ·have c6 := sm_ (p := (decide ((i : Int) < 24)) = false) h6; refine z190 ?_; have he : i = 24 := by omega
   subst he; refine A1r Tryz.func161 Tryz.results161 wn_ a rfl (fun w hs => (hs.B2c hB rfl rfl (by unfold reach; omega) (fun c hc => by have := B0r hc; unfold A2j; omega)).less (by simp))
theorem F6k (l : List Int) (a_l : SH) (hl : l.length ≤ 64) (hx : ∀ x, x ∈ l → 0 ≤ x ∧ x < 24) : Spec Tryz.prog 249 #[sl a_l (l.length)] [IL l a_l] [] (fun _ : Unit => .int .u32 (((B2d l) : Nat) : Int)) (fun _ : Unit => []) (fun _ : Unit => []) := by
 refine A0e (args := [sl a_l (l.length)]) Tryz.func249 Tryz.ntmps249 rfl lb_ fun B hB => ?_
 refine B0s (l := l) (a := a_l) (fun hl1 hA1 hU1 => ?_); refine z72 ?_; refine z141 ?_; refine A0u (X := Nat) (fun s_ => s_ ≤ l.length) (fun s_ => [(0, sl a_l (l.length)), (3, .int .i64 (((C5y l s_ : Nat) : Int))), (4, .int .i64 ((s_ : Int)))]) (fun s_ G_ => G_) (fun s_ => []) (fun s_ => l.length - s_) (0) (by omega) (by exact ⟨rfl, (by rw [D7p]; rfl), rfl, trivial⟩) ?_ ?_
 ·exact fun w hs => hs
 ·intro i base0 hi0 next0; have hst := E7d hx i; refine z138 ?_; refine A0a (fun h8 => ?_) (fun h8 => ?_)
  ·have c8 := sm_ (p := (decide ((i : Int) < (l.length : Int))) = true) h8; have hgx := hx _ (A0n (d := 0) (show i < l.length by omega)); have hg2 : 2 ^ (l.getD i 0).toNat ≤ 2 ^ 24 := Nat.pow_le_pow_right (by omega) (by omega); have hpz : (0 : Int) ≤ ((2 ^ (l.getD i 0).toNat : Nat) : Int) := Int.natCast_nonneg _; refine z86 ?_; refine z97 ?_; refine z3 ?_; obtain ⟨bk2, o2, hav2⟩ := hA1 (by omega); refine q0 rfl (A4o ?_ (j := i)); refine q0 rfl (E3w ?_); refine q0 rfl (A0c Tryz.call187 (E1p (l.getD i 0) om_ om_) (fun x16 => ?_)); refine z79 ?_; refine z83 ?_; refine A0b (fun w hs => ?_) (next0 (i + 1) _ (by omega) (by omega) ⟨rfl, (by (conv => lhs; whnf); rw [D7q (by omega)]; push_cast; rfl), rfl, trivial⟩); exact (hs.less (by simp +contextual))
  ·have c8 := sm_ (p := (decide ((i : Int) < (l.length : Int))) = false) h8; have he : i = l.length := by omega
   subst he; rw [E1h] at hst ⊢; refine z16 ?_; refine z70 ?_; refine q0 rfl (E8i ?_ (a := B2d l)); refine z69 ?_; refine A1r Tryz.func249 Tryz.results249 wn_ () (by first | rfl | (simp_all; done) | (simp_all; omega)) (fun w hs => hs.none)
end Go.Hy
namespace Go.Hy
open Go.Proofs
set_option maxRecDepth 100000
theorem D2r (c : Cl) (hc : u32 c) : Spec Tryz.prog 159 #[A5k c] [] [] (fun _ : Unit => .bool ((A0q c))) (fun _ : Unit => []) (fun _ : Unit => []) := by
 refine A0e (args := [A5k c]) Tryz.func159 Tryz.ntmps159 rfl lb_ fun B hB => ?_
 have hc1 := hc.1; have hc2 := hc.2; refine z68 ?_; refine q0 rfl (A2c fun b1 => ?_); refine z101 ?_; refine A0z ([(2, .bool ((decide (((c).pos) < 16777216)) && (decide (((c).neg) < 16777216))))]) (fun hK => ?_) (fun base => ?_)
 ·refine z130 ?_; refine q0 rfl (A0c Tryz.call214 (E1t ((c).pos) om_) (fun x5 => ?_)); refine z3 ?_; refine qI rfl rfl rfl wl_ (fun hg6 => ?_) (fun hg6 => ?_)
  ·have g6 := sm_ (p := ((decide (((c).pos) < 16777216))) = true) hg6; refine z147 ?_; refine qT rfl rfl rfl (A0c Tryz.call214 (E1t ((c).neg) om_) (fun x9 => ?_)); refine z114 ?_; exact hK _ ⟨(by first | rfl | ((conv => lhs; whnf); first | (simp_all [A0q]; done) | (simp_all [A0q]; omega))), trivial⟩
  ·have g6 := sm_ (p := ((decide (((c).pos) < 16777216))) = false) hg6; refine z169 ?_; exact hK _ ⟨(by first | rfl | ((conv => lhs; whnf); first | (simp_all [A0q]; done) | (simp_all [A0q]; omega))), trivial⟩
 ·refine A1r Tryz.func159 Tryz.results159 wn_ () (by first | rfl | (simp_all [A0q]; done) | (simp_all [A0q]; omega)) (fun w hs => hs.none)
theorem F6v (c : Cl) (d : Cl) (hc : u32 c) (hd : u32 d) : Spec Tryz.prog 248 #[A5k c, A5k d] [] [] (fun _ : Unit => .bool ((below c d))) (fun _ : Unit => []) (fun _ : Unit => []) := by
 refine A0e (args := [A5k c, A5k d]) Tryz.func248 Tryz.ntmps248 rfl lb_ fun B hB => ?_
 have hc1 := hc.1; have hc2 := hc.2; have hd1 := hd.1; have hd2 := hd.2; refine z68 ?_; refine q0 rfl (A2c fun b2 => ?_); refine q0 rfl (A2c fun b3 => ?_); refine z101 ?_; refine A0z ([(4, .bool ((decide ((((c).pos) ||| ((d).pos)) = ((c).pos))) && (decide ((((c).neg) ||| ((d).neg)) = ((c).neg)))))]) (fun hK => ?_) (fun base => ?_)
 ·refine z130 ?_; refine z78 ?_; refine q0 rfl (B2k ?_ (a := ((c).pos)) (b := ((d).pos))); refine z78 ?_; refine q0 rfl (F3u ?_ (a := (((c).pos) ||| ((d).pos))) (b := ((c).pos))); refine z3 ?_; refine qI rfl rfl rfl wl_ (fun hg13 => ?_) (fun hg13 => ?_)
  ·have g13 := sm_ (p := (decide ((((c).pos) ||| ((d).pos)) = ((c).pos))) = true) hg13; refine z147 ?_; refine z153 ?_; refine qT rfl rfl rfl (B2k ?_ (a := ((c).neg)) (b := ((d).neg))); refine z153 ?_; refine qT rfl rfl rfl (F3u ?_ (a := (((c).neg) ||| ((d).neg))) (b := ((c).neg))); refine z114 ?_; exact hK _ ⟨(by first | rfl | ((conv => lhs; whnf); first | (simp_all [below]; done) | (simp_all [below]; omega))), trivial⟩
  ·have g13 := sm_ (p := (decide ((((c).pos) ||| ((d).pos)) = ((c).pos))) = false) hg13; refine z127 ?_; refine z117 ?_; refine z115 ?_; exact hK _ ⟨(by first | rfl | ((conv => lhs; whnf); first | (simp_all [below]; done) | (simp_all [below]; omega))), trivial⟩
 ·refine A1r Tryz.func248 Tryz.results248 wn_ () (by first | rfl | (simp_all [below]; done) | (simp_all [below]; omega)) (fun w hs => hs.none)
theorem G1d (c : Cl) (d : Cl) (hc : u32 c) (hd : u32 d) : Spec Tryz.prog 226 #[A5k c, A5k d] [] [] (fun _ : Unit => .bool ((A3i c d))) (fun _ : Unit => []) (fun _ : Unit => []) := by
 refine A0e (args := [A5k c, A5k d]) Tryz.func226 Tryz.ntmps226 rfl lb_ fun B hB => ?_
 have hc1 := hc.1; have hc2 := hc.2; have hd1 := hd.1; have hd2 := hd.2; refine z68 ?_; refine q0 rfl (A2c fun b2 => ?_); refine q0 rfl (A2c fun b3 => ?_); refine z101 ?_; refine A0z ([(4, .bool ((decide (((c).pos) < ((d).pos))) || ((decide (((c).pos) = ((d).pos))) && (decide (((c).neg) < ((d).neg))))))]) (fun hK => ?_) (fun base => ?_)
 ·refine z130 ?_; refine z78 ?_; refine q0 rfl (F1n ?_ (a := ((c).pos)) (b := ((d).pos))); refine z3 ?_; refine qI rfl rfl rfl wl_ (fun hg10 => ?_) (fun hg10 => ?_)
  ·have g10 := sm_ (p := (decide (((c).pos) < ((d).pos))) = false) hg10; refine z147 ?_; refine z153 ?_; refine qT rfl rfl rfl (F3u ?_ (a := ((c).pos)) (b := ((d).pos))); refine z24 ?_; refine qI rfl rfl rfl wl_ (fun hg16 => ?_) (fun hg16 => ?_)
   ·have g16 := sm_ (p := (decide (((c).pos) = ((d).pos))) = true) hg16; refine z147 ?_; refine z153 ?_; refine qT rfl rfl rfl (F1n ?_ (a := ((c).neg)) (b := ((d).neg))); refine z31 ?_; refine z115 ?_; exact hK _ ⟨(by first | rfl | ((conv => lhs; whnf); first | (simp_all [A3i]; done) | (simp_all [A3i]; omega))), trivial⟩
   ·have g16 := sm_ (p := (decide (((c).pos) = ((d).pos))) = false) hg16; refine z127 ?_; refine z35 ?_; refine z115 ?_; exact hK _ ⟨(by first | rfl | ((conv => lhs; whnf); first | (simp_all [A3i]; done) | (simp_all [A3i]; omega))), trivial⟩
  ·have g10 := sm_ (p := (decide (((c).pos) < ((d).pos))) = true) hg10; refine z75 ?_; refine z117 ?_; refine qU rfl rfl rfl ?_; refine qU rfl rfl rfl ?_; refine qU rfl rfl rfl ?_; refine qU rfl rfl rfl ?_; refine qU rfl rfl rfl ?_; refine z4 ?_; refine z114 ?_; exact hK _ ⟨(by first | rfl | ((conv => lhs; whnf); first | (simp_all [A3i]; done) | (simp_all [A3i]; omega))), trivial⟩
 ·refine A1r Tryz.func226 Tryz.results226 wn_ () (by first | rfl | (simp_all [A3i]; done) | (simp_all [A3i]; omega)) (fun w hs => hs.none)
theorem B5j (c : Cl) (hc : u32 c) : Spec Tryz.prog 160 #[A5k c] [] [] (fun _ : Unit => .bool ((B0b c))) (fun _ : Unit => []) (fun _ : Unit => []) := by
 refine A0e (args := [A5k c]) Tryz.func160 Tryz.ntmps160 rfl lb_ fun B hB => ?_
 have hc1 := hc.1; have hc2 := hc.2; refine z68 ?_; refine q0 rfl (A2c fun b1 => ?_); refine z101 ?_; refine z98 ?_; refine A0u (X := Nat) (fun s_ => s_ ≤ 24 ∧ ∀ j, j < s_ → (A3e c.pos (j : Int) && A3e c.neg (j : Int)) = false) (fun s_ => [(1, .pointer (some ⟨b1, 0, none⟩)), (3, .int .i64 ((s_ : Int)))]) (fun s_ G_ => G_) (fun s_ => [A1t b1 (A0r c) 45]) (fun s_ => 24 - s_) (0) (⟨by omega, fun j hj => by omega⟩) (by exact ⟨rfl, rfl, trivial⟩) ?_ ?_
 ·exact fun w hs => hs
 ·intro i base0 ⟨hi, hok⟩ next0; refine z74 ?_; refine z85 ?_; refine A0a (fun h5 => ?_) (fun h5 => ?_)
  ·have c5 := sm_ (p := (decide ((i : Int) < 24)) = true) h5; refine z146 ?_; refine A0z ([(1, .pointer (some ⟨b1, 0, none⟩)), (3, .int .i64 ((i : Int))), (17, .bool ((A3e ((c).pos) (i : Int)) && (A3e ((c).neg) (i : Int))))]) (fun hK => ?_) (fun base => ?_)
   ·refine z130 ?_; refine z3 ?_; refine q0 rfl (A0c Tryz.call116 (D1s ((c).pos) (i : Int) om_) (fun x11 => ?_)); refine z3 ?_; refine qI rfl rfl rfl wl_ (fun hg12 => ?_) (fun hg12 => ?_)
    ·have g12 := sm_ (p := ((A3e ((c).pos) (i : Int))) = true) hg12; refine z147 ?_; refine z24 ?_; refine qT rfl rfl rfl (A0c Tryz.call116 (D1s ((c).neg) (i : Int) om_) (fun x16 => ?_)); refine z89 ?_; exact hK _ ⟨rfl, rfl, dn_, trivial⟩
    ·have g12 := sm_ (p := ((A3e ((c).pos) (i : Int))) = false) hg12; refine z117 ?_; refine z100 ?_; exact hK _ ⟨rfl, rfl, dn_, trivial⟩
   ·refine A0a (fun h17 => ?_) (fun h17 => ?_)
    ·have c17 := sm_ (p := ((A3e ((c).pos) (i : Int)) && (A3e ((c).neg) (i : Int))) = true) h17; refine z72 ?_; have hb : (A3e c.pos (i : Int) && A3e c.neg (i : Int)) = true := by simpa using h17
     refine A1r Tryz.func160 Tryz.results160 wn_ () (by rw [B0b, List.any_eq_true.mpr ⟨i, List.mem_range.mpr (by omega), hb⟩]) (fun w hs => hs.none)
    ·have c17 := sm_ (p := ((A3e ((c).pos) (i : Int)) && (A3e ((c).neg) (i : Int))) = false) h17; refine z99 ?_; have hb : (A3e c.pos (i : Int) && A3e c.neg (i : Int)) = false := by simpa using h17
     refine A0b (fun w hs => ?_) (next0 (i + 1) _ (⟨by omega, A8a hok hb⟩) (by omega) ⟨rfl, rfl, trivial⟩); exact (hs.less (by simp +contextual))
  ·have c5 := sm_ (p := (decide ((i : Int) < 24)) = false) h5; refine z162 ?_; refine A1r Tryz.func160 Tryz.results160 wn_ () (by rw [B0b, List.any_eq_false.mpr (fun j hj => by rw [hok j (by have := List.mem_range.mp hj; omega)]; decide)]) (fun w hs => hs.none)
theorem C1m (l : List Cl) (c : Cl) : A1w l c = l.any fun d => !decide (d = c) && below c d := by
 unfold A1w; congr 1; funext d; rw [show (decide (c = d)) = decide (d = c) from decide_eq_decide.mpr eq_comm]
theorem F3a (l : List Cl) (a_l : SH) (c : Cl) (hc : u32 c) : Spec Tryz.prog 225 #[sl a_l (l.length), A5k c] [CL l a_l] [] (fun _ : Unit => .bool ((!A1w l c))) (fun _ : Unit => []) (fun _ : Unit => []) := by
 refine A0e (args := [sl a_l (l.length), A5k c]) Tryz.func225 Tryz.ntmps225 rfl lb_ fun B hB => ?_
 refine A0f (l := l) (a := a_l) (fun hl1 hA1 hU1 => ?_); have hc1 := hc.1; have hc2 := hc.2; refine z68 ?_; refine q0 rfl (A2c fun b3 => ?_); refine z101 ?_; refine z98 ?_; refine A0u (X := Nat) (fun s_ => s_ ≤ l.length ∧ ∀ j, j < s_ → (!decide (l.getD j cl0 = c) && below c (l.getD j cl0)) = false) (fun s_ => [(0, sl a_l (l.length)), (3, .pointer (some ⟨b3, 0, none⟩)), (5, .int .i64 ((s_ : Int)))]) (fun s_ G_ => G_) (fun s_ => [A1t b3 (A0r c) 45]) (fun s_ => l.length - s_) (0) (⟨by omega, fun j hj => by omega⟩) (by exact ⟨rfl, rfl, rfl, trivial⟩) ?_ ?_
 ·exact fun w hs => hs
 ·intro i base0 ⟨hi, hok⟩ next0; refine z138 ?_; refine A0a (fun h9 => ?_) (fun h9 => ?_)
  ·have c9 := sm_ (p := (decide ((i : Int) < (l.length : Int))) = true) h9; have hu := hU1 _ (A0n (d := cl0) (show i < l.length by omega)); have hu1 := hu.1; have hu2 := hu.2; refine z146 ?_; refine A0z ([(0, sl a_l (l.length)), (3, .pointer (some ⟨b3, 0, none⟩)), (5, .int .i64 ((i : Int))), (25, .bool ((!decide ((l.getD i cl0) = c)) && (below c (l.getD i cl0))))]) (fun hK => ?_) (fun base => ?_)
   ·refine A2a (pn := 1000000) (tn := false) (A := [0, 0, 3, 7, 0, 31, 63, 127, 127, 127, 895, 1919, 4095, 8191]) (l := [0, 1, 2, 3, 4, 5, 6, 7, 8, 9, 10, 11, 12, 13]) (fin := []) Tab.mixed ⟨_, Tryz.func225⟩ (by rfl) ?_; refine z126 ?_; obtain ⟨bk2, o2, hav2⟩ := hA1 (by omega); refine n0 rfl (A7x ?_ (j := i)); refine z57 ?_; refine z43 ?_; refine n0 rfl (E6q ?_ (c := (l.getD i cl0)) (c' := c)); refine z15 ?_; refine nI rfl rfl rfl wl_ (fun hg18 => ?_) (fun hg18 => ?_)
    ·have g18 := sm_ (p := (!decide ((l.getD i cl0) = c)) = true) hg18; refine F5v ?_; refine z39 ?_; refine z39 ?_; refine nT rfl rfl rfl (A7x ?_ (j := i)); refine nT rfl rfl rfl (D7i ?_); refine nT rfl rfl rfl (A1p Tryz.call248 (F6v c (l.getD i cl0) om_ om_) (fun x24 => ?_)); refine z38 ?_; refine z93 ?_; exact hK _ ⟨rfl, rfl, rfl, dn_, trivial⟩
    ·have g18 := sm_ (p := (!decide ((l.getD i cl0) = c)) = false) hg18; refine z137 ?_; refine z11 ?_; refine z145 ?_; exact hK _ ⟨rfl, rfl, rfl, dn_, trivial⟩
   ·refine A0a (fun h25 => ?_) (fun h25 => ?_)
    ·have c25 := sm_ (p := ((!decide ((l.getD i cl0) = c)) && (below c (l.getD i cl0))) = true) h25; refine z72 ?_; have hb : (!decide (l.getD i cl0 = c) && below c (l.getD i cl0)) = true := by simpa using h25
     refine A1r Tryz.func225 Tryz.results225 wn_ () (by rw [C1m, C2r (d := cl0) (i := i) (by omega) hb]; rfl) (fun w hs => hs.none)
    ·have c25 := sm_ (p := ((!decide ((l.getD i cl0) = c)) && (below c (l.getD i cl0))) = false) h25; refine z99 ?_; have hb : (!decide (l.getD i cl0 = c) && below c (l.getD i cl0)) = false := by simpa using h25
     refine A0b (fun w hs => ?_) (next0 (i + 1) _ (⟨by omega, A8a hok hb⟩) (by omega) ⟨rfl, rfl, rfl, trivial⟩); exact (hs.less (by simp +contextual))
  ·have c9 := sm_ (p := (decide ((i : Int) < (l.length : Int))) = false) h9; refine z162 ?_; refine A1r Tryz.func225 Tryz.results225 wn_ () (by rw [C1m, B9o (d := cl0) (fun j hj => hok j (by omega))]; rfl) (fun w hs => hs.none)
theorem C8y (l : List Cl) (a_l : SH) (m : List Cl) (a_m : SH)  : Spec Tryz.prog 21 #[sl a_l (l.length), sl a_m (m.length)] [CL l a_l, CL m a_m] [] (fun _ : Unit => .bool ((decide (l = m)))) (fun _ : Unit => []) (fun _ : Unit => []) := by
 refine A0e (args := [sl a_l (l.length), sl a_m (m.length)]) Tryz.func21 Tryz.ntmps21 rfl lb_ fun B hB => ?_
 refine A0f (l := l) (a := a_l) (fun hl1 hA1 hU1 => ?_); refine A0f (l := m) (a := a_m) (fun hl2 hA2 hU2 => ?_); refine z140 ?_; refine z20 ?_; refine z3 ?_; refine z20 ?_; refine z84 ?_; refine A0a (fun h10 => ?_) (fun h10 => ?_)
 ·have c10 := sm_ (p := (decide ((l.length : Int) ≠ (m.length : Int))) = true) h10; have hne : ¬ l = m := fun e => by subst e; simp at h10
  refine z72 ?_; refine A1r Tryz.func21 Tryz.results21 wn_ () (by rw [decide_eq_false hne]) (fun w hs => hs.none)
 ·have c10 := sm_ (p := (decide ((l.length : Int) ≠ (m.length : Int))) = false) h10; have hlen : l.length = m.length := by simp at h10; omega
  refine z77 ?_; refine z98 ?_; refine A0u (X := Nat) (fun s_ => s_ ≤ l.length ∧ ∀ j, j < s_ → l.getD j cl0 = m.getD j cl0) (fun s_ => [(0, sl a_l (l.length)), (1, sl a_m (m.length)), (5, .int .i64 ((s_ : Int)))]) (fun s_ G_ => G_) (fun s_ => []) (fun s_ => l.length - s_) (0) (⟨by omega, fun j hj => by omega⟩) (by exact ⟨rfl, rfl, rfl, trivial⟩) ?_ ?_
  ·exact fun w hs => hs
  ·intro i base0 ⟨hi, hok⟩ next0; refine z138 ?_; refine A0a (fun h14 => ?_) (fun h14 => ?_)
   ·have c14 := sm_ (p := (decide ((i : Int) < (l.length : Int))) = true) h14; refine z146 ?_; refine A2a (pn := 1000000) (tn := false) (A := [0, 0, 3, 7, 0, 0, 48, 112, 255]) (l := [0, 1, 2, 3, 4, 5, 6, 7, 8]) (fin := []) Tab.mixed ⟨_, Tryz.func21⟩ (by rfl) ?_; refine z126 ?_; obtain ⟨bk3, o3, hav3⟩ := hA1 (by omega); refine n0 rfl (A7x ?_ (j := i)); refine z57 ?_; refine z126 ?_; obtain ⟨bk4, o4, hav4⟩ := hA2 (by omega); refine n0 rfl (A7x ?_ (j := i)); refine z57 ?_; refine n0 rfl (E6q ?_ (c := (l.getD i cl0)) (c' := (m.getD i cl0))); refine z93 ?_; refine A0a (fun h25 => ?_) (fun h25 => ?_)
    ·have c25 := sm_ (p := (!decide ((l.getD i cl0) = (m.getD i cl0))) = true) h25; refine z72 ?_; refine A1r Tryz.func21 Tryz.results21 wn_ () (by rw [decide_eq_false (fun e => by subst e; simp at h25)]) (fun w hs => hs.none)
    ·have c25 := sm_ (p := (!decide ((l.getD i cl0) = (m.getD i cl0))) = false) h25; refine z99 ?_; have hb : l.getD i cl0 = m.getD i cl0 := by simpa using h25
     refine A0b (fun w hs => ?_) (next0 (i + 1) _ (⟨by omega, A8a hok hb⟩) (by omega) ⟨rfl, rfl, rfl, trivial⟩); exact (hs.less (by simp +contextual))
   ·have c14 := sm_ (p := (decide ((i : Int) < (l.length : Int))) = false) h14; refine z162 ?_; refine A1r Tryz.func21 Tryz.results21 wn_ () (by rw [decide_eq_true (B4f hlen (fun j hj => hok j (by omega)))]) (fun w hs => hs.none)
theorem C3q (l : List Cl) (a_l : SH)  : Spec Tryz.prog 193 #[sl a_l (l.length)] [CL l a_l] [] (fun x : SH => .tuple #[sl x (A0w l).2.length, .int .i64 (A0w l).1]) (fun x : SH => [CL (A0w l).2 x]) (fun x : SH => []) := by
 refine A0e (args := [sl a_l (l.length)]) Tryz.func193 Tryz.ntmps193 rfl lb_ fun B hB => ?_
 refine A0f (l := l) (a := a_l) (fun hl1 hA1 hU1 => ?_); refine z80 ?_; refine z116 ?_; refine A0u (X := Nat) (fun s_ => s_ ≤ l.length ∧ ∀ j, j < s_ → A0q (l.getD j cl0) = true) (fun s_ => [(0, sl a_l (l.length)), (4, .int .i64 ((s_ : Int)))]) (fun s_ G_ => G_) (fun s_ => []) (fun s_ => l.length - s_) (0) (⟨by omega, fun j hj => by omega⟩) (by exact ⟨rfl, rfl, trivial⟩) ?_ ?_
 ·exact fun w hs => hs
 ·intro i base0 ⟨hi, hok⟩ next0; refine z138 ?_; refine A0a (fun h11 => ?_) (fun h11 => ?_)
  ·have c11 := sm_ (p := (decide ((i : Int) < (l.length : Int))) = true) h11; have hu := hU1 _ (A0n (d := cl0) (show i < l.length by omega)); have hu1 := hu.1; have hu2 := hu.2; refine z192 ?_; obtain ⟨bk2, o2, hav2⟩ := hA1 (by omega); refine q0 rfl (A4o ?_ (j := i)); refine z36 ?_; refine q0 rfl (A0c Tryz.call159 (D2r (l.getD i cl0) om_) (fun x18 => ?_)); refine z121 ?_; refine A0a (fun h19 => ?_) (fun h19 => ?_)
   ·have c19 := sm_ (p := (!(A0q (l.getD i cl0))) = true) h19; have hlf : A0w l = (2, []) := by rw [A0w, if_pos (B3t (d := cl0) (i := i) (by omega) (by simpa using h19))]
    refine z80 ?_; refine A1x Tryz.func193 Tryz.results193 wn_ wn_ (none, 0) (by rw [hlf]; rfl) (fun w hs => by rw [hlf]; exact (hs.A3s 0).bare.less (by simp))
   ·have c19 := sm_ (p := (!(A0q (l.getD i cl0))) = false) h19; refine z99 ?_; have hb : A0q (l.getD i cl0) = true := by simpa using h19
    refine A0b (fun w hs => ?_) (next0 (i + 1) _ (⟨by omega, A8a hok hb⟩) (by omega) ⟨rfl, rfl, trivial⟩); exact (hs.less (by simp +contextual))
  ·have c11 := sm_ (p := (decide ((i : Int) < (l.length : Int))) = false) h11; have hall : l.all A0q = true := B5w (d := cl0) (fun j hj => hok j (by omega)); refine z16 ?_; refine z141 ?_; refine A0u (X := Nat × SH) (fun s_ => s_.1 ≤ l.length) (fun s_ => [(0, sl a_l (l.length)), (5, sl s_.2 (((A6p l s_.1)).length)), (6, .int .i64 ((s_.1 : Int)))]) (fun s_ G_ => CL (A6p l s_.1) s_.2 :: G_) (fun s_ => []) (fun s_ => l.length - s_.1) (0, (none, 0)) (by omega) (by exact ⟨rfl, (by rw [C9c]; rfl), rfl, trivial⟩) ?_ ?_
   ·exact fun w hs => by rw [C9c]; exact hs.A3s 0
   ·intro ⟨i, a⟩ base1 hi1 next1; dsimp only at hi1 next1 ⊢; refine A0f (l := (A6p l i)) (a := a) (fun hl3 hA3 hU3 => ?_); have hrl := C6c l i; refine z138 ?_; refine A0a (fun h23 => ?_) (fun h23 => ?_)
    ·have c23 := sm_ (p := (decide ((i : Int) < (l.length : Int))) = true) h23; have hu := hU1 _ (A0n (d := cl0) (show i < l.length by omega)); have hu1 := hu.1; have hu2 := hu.2; refine z86 ?_; refine z125 ?_; refine z3 ?_; obtain ⟨bk4, o4, hav4⟩ := hA1 (by omega); refine q0 rfl (A4o ?_ (j := i)); refine z36 ?_; refine q0 rfl (A0c Tryz.call225 (F3a l a_l (l.getD i cl0) om_) (fun x31 => ?_)); refine z121 ?_; refine A0a (fun h32 => ?_) (fun h32 => ?_)
     ·have c32 := sm_ (p := (!(!A1w l (l.getD i cl0))) = true) h32; refine z16 ?_; refine z82 ?_; have hnx : A6p l (i + 1) = A6p l i := by rw [C0y (by omega), if_pos (by simpa using h32)]
      refine A0b (fun w hs => ?_) (next1 (i + 1, a) _ (by omega) (by (try simp only); omega) ⟨rfl, (by (conv => lhs; whnf); simp [sl, hnx]), rfl, trivial⟩); rw [hnx]; exact (hs.less (by simp +contextual))
     ·have c32 := sm_ (p := (!(!A1w l (l.getD i cl0))) = false) h32; refine z5 ?_; refine z191 ?_; refine z7 ?_; refine A0u (X := Nat) (fun s_ => s_ ≤ (A6p l i).length ∧ ∀ j, j < s_ → A3i ((A6p l i).getD j cl0) (l.getD i cl0) = true) (fun s_ => [(0, sl a_l (l.length)), (5, sl a (((A6p l i)).length)), (6, .int .i64 ((i : Int))), (7, .int .i64 ((s_ : Int)))]) (fun s_ G_ => G_) (fun s_ => []) (fun s_ => (A6p l i).length - s_) (0) (⟨by omega, fun j hj => by omega⟩) (by exact ⟨rfl, rfl, rfl, rfl, trivial⟩) ?_ ?_
      ·exact fun w hs => hs
      ·intro k base2 ⟨hk, hk2⟩ next2; have hvo : k < (A6p l i).length → u32 ((A6p l i).getD k cl0) := fun h => hU1 _ (E1v (A0n h))
       refine z123 ?_; refine A0z ([(0, sl a_l (l.length)), (5, sl a (((A6p l i)).length)), (6, .int .i64 ((i : Int))), (7, .int .i64 ((k : Int))), (47, .bool ((decide ((k : Int) < (((A6p l i)).length : Int))) && (A3i (((A6p l i)).getD k cl0) (l.getD i cl0))))]) (fun hK => ?_) (fun base => ?_)
       ·refine A2a (pn := 1000000) (tn := false) (A := [0, 0, 2, 7, 15, 31, 31, 127, 255, 31, 31, 1567, 3615, 8191, 16383]) (l := [0, 1, 2, 3, 4, 5, 6, 7, 8, 9, 10, 11, 12, 13, 14]) (fin := []) Tab.mixed ⟨_, Tryz.func193⟩ (by rfl) ?_; refine z126 ?_; refine n0 rfl (D7h ?_); refine n0 rfl (G0q ?_); refine z15 ?_; refine nI rfl rfl rfl wl_ (fun hg37 => ?_) (fun hg37 => ?_)
        ·have g37 := sm_ (p := (decide ((k : Int) < (((A6p l i)).length : Int))) = true) hg37; refine C7r ?_; refine z39 ?_; obtain ⟨bk5, o5, hav5⟩ := hA3 (by omega); refine nT rfl rfl rfl (A7x ?_ (j := k)); refine nT rfl rfl rfl (D7i ?_); refine z39 ?_; refine z39 ?_; refine nT rfl rfl rfl (A7x ?_ (j := i)); refine nT rfl rfl rfl (D7i ?_); refine nT rfl rfl rfl (A1p Tryz.call226 (G1d (((A6p l i)).getD k cl0) (l.getD i cl0) om_ om_) (fun x46 => ?_)); refine z38 ?_; refine z93 ?_; exact hK _ ⟨rfl, rfl, rfl, rfl, dn_, trivial⟩
        ·have g37 := sm_ (p := (decide ((k : Int) < (((A6p l i)).length : Int))) = false) hg37; refine z137 ?_; refine z137 ?_; refine z145 ?_; exact hK _ ⟨rfl, rfl, rfl, rfl, dn_, trivial⟩
       ·refine A0a (fun h47 => ?_) (fun h47 => ?_)
        ·have c47 := sm_ (p := ((decide ((k : Int) < (((A6p l i)).length : Int))) && (A3i (((A6p l i)).getD k cl0) (l.getD i cl0))) = true) h47; refine z5 ?_; refine z7 ?_; refine z82 ?_; refine z10 ?_; refine A0b (fun w hs => ?_) (next2 (k + 1) _ (⟨by omega, A8a hk2 c47.2⟩) (by omega) ⟨rfl, rfl, rfl, rfl, trivial⟩); exact (hs.less (by simp +contextual))
        ·have c47 := sm_ (p := ((decide ((k : Int) < (((A6p l i)).length : Int))) && (A3i (((A6p l i)).getD k cl0) (l.getD i cl0))) = false) h47; have hlast : k < (A6p l i).length → A3i ((A6p l i).getD k cl0) (l.getD i cl0) = false := fun hlt => by simpa [hlt] using h47
         refine z157 ?_; refine A0z ([(0, sl a_l (l.length)), (5, sl a (((A6p l i)).length)), (6, .int .i64 ((i : Int))), (7, .int .i64 ((k : Int))), (64, .bool ((decide ((k : Int) = (((A6p l i)).length : Int))) || (!decide ((((A6p l i)).getD k cl0) = (l.getD i cl0)))))]) (fun hK => ?_) (fun base => ?_)
         ·refine A2a (pn := 1000000) (tn := false) (A := [0, 0, 2, 7, 15, 31, 31, 127, 255, 31, 31, 1567, 3615, 8191, 16383]) (l := [0, 1, 2, 3, 4, 5, 6, 7, 8, 9, 10, 11, 12, 13, 14]) (fin := []) Tab.mixed ⟨_, Tryz.func193⟩ (by rfl) ?_; refine z126 ?_; refine n0 rfl (D7h ?_); refine n0 rfl (F5x ?_); refine z15 ?_; refine nI rfl rfl rfl wl_ (fun hg54 => ?_) (fun hg54 => ?_)
          ·have g54 := sm_ (p := (decide ((k : Int) = (((A6p l i)).length : Int))) = false) hg54; refine C7r ?_; refine z39 ?_; obtain ⟨bk6, o6, hav6⟩ := hA3 (by omega); refine nT rfl rfl rfl (A7x ?_ (j := k)); refine nT rfl rfl rfl (D7i ?_); refine z39 ?_; refine z39 ?_; refine nT rfl rfl rfl (A7x ?_ (j := i)); refine nT rfl rfl rfl (D7i ?_); refine nT rfl rfl rfl (E6q ?_ (c := (((A6p l i)).getD k cl0)) (c' := (l.getD i cl0))); refine z145 ?_; exact hK _ ⟨rfl, rfl, rfl, rfl, dn_, trivial⟩
          ·have g54 := sm_ (p := (decide ((k : Int) = (((A6p l i)).length : Int))) = true) hg54; refine z137 ?_; refine z137 ?_; refine z38 ?_; refine z93 ?_; exact hK _ ⟨rfl, rfl, rfl, rfl, dn_, trivial⟩
         ·refine A0a (fun h64 => ?_) (fun h64 => ?_)
          ·have c64 := sm_ (p := ((decide ((k : Int) = (((A6p l i)).length : Int))) || (!decide ((((A6p l i)).getD k cl0) = (l.getD i cl0)))) = true) h64; have hcase : ¬ (k < (A6p l i).length ∧ (A6p l i).getD k cl0 = l.getD i cl0) := by rintro ⟨h1, h2⟩; rcases c64 with h3 | h3; omega; exact h3 h2
           refine A0b (fun w hs => (hs.F6d (l := A6p l i) (a := a) k (by simp) (by omega))) ?_; refine A0b (fun w hs => (hs.F9z (l := A6p l i) (a := a) k (by simp) (by omega))) ?_; refine A1y (p := (A6p l i).length ≤ a.2) (fun w hs => hs.G3z (by simp)) (fun hcap => ?_); have htl : ((A6p l i).take k).length = k := by simp; omega
           have hdl : ((A6p l i).drop k).length = (A6p l i).length - k := by simp
           refine A2a (pn := 1000000) (tn := true) (A := [0, 0, 0, 6, 15, 0, 0, 96, 224, 480, 1023, 0, 0, 6144, 16383, 32767]) (l := [1, 2, 3, 5, 6, 7, 8, 11, 12, 13, 0, 4, 9, 10, 14, 15]) (fin := []) Tab.mixed ⟨_, Tryz.func193⟩ (by rfl) ?_; refine z126 ?_; refine n0 rfl (E0m ?_ (k := k)); refine z126 ?_; refine n0 rfl (A7x ?_ (j := i)); refine n0 rfl (G3w ?_); refine z126 ?_; refine n0 rfl (E0l ?_ (k := k) (a := a)); refine n0 rfl (F0k fun b65 => ?_); refine B8b [_] [_] (fun _ _ _ hs => hs.A5c (sz := 2) (m := 0) rfl (by decide)) ?_; refine n0 rfl (D2c (fun a69 => ?_) (by simp) (a := (some ⟨b65, 0, none⟩, 0)) (n' := 0) (b := a) (ls := ((A6p l i).take k)) (hy := (by rw [List.length_take, Nat.min_eq_left (by omega)]; rfl))); refine B8b [_] [_] (fun _ _ _ hs => hs.A5u (l := []) (m := ((A6p l i).take k))) ?_; refine n0 rfl (B2x fun b74 => ?_); refine n0 rfl (F6f (fun a75 => ?_) (a := a69) (n' := 0 + ((A6p l i).take k).length)); refine B8b [_, _] [_] (fun _ _ _ hs => ((hs.perm A0x).drop).B5e (c := (l.getD i cl0))) ?_; refine n0 rfl (D2c (fun a79 => ?_) (by simp) (a := a75) (n' := 0 + ((A6p l i).take k).length + 1) (b := (C2h a 2 k)) (ls := ((A6p l i).drop k)) (hy := (by rw [List.length_drop]; rfl))); refine B8b [_] [_] (fun _ _ _ hs => hs.A5u (l := (([] ++ ((A6p l i).take k)) ++ [(l.getD i cl0)])) (m := ((A6p l i).drop k))) ?_; refine z158 ?_; refine z83 ?_; have hnx : A6p l (i + 1) = (A6p l i).take k ++ [l.getD i cl0] ++ (A6p l i).drop k := by rw [C0y (by omega), if_neg (by simpa using h32), D3q (k := k) (by omega) hk2 hlast, if_neg hcase]
           have hnl := C6c l (i + 1); have hll : (A6p l (i + 1)).length = 0 + ((A6p l i).take k).length + 1 + ((A6p l i).drop k).length := by rw [hnx]; simp; omega
           refine A0b (fun w hs => ?_) (next1 (i + 1, a79) _ (by omega) (by (try simp only); omega) ⟨rfl, (by (conv => lhs; whnf); rw [hll]; rfl), rfl, trivial⟩); refine ((hs.A1g (l := A6p l (i + 1)) hB (by rw [hnx]; simp) (by rw [hll]) (by unfold reach at *; omega) (fun c hc => hU1 c (E1v hc))).less (by simp +contextual))
          ·have c64 := sm_ (p := ((decide ((k : Int) = (((A6p l i)).length : Int))) || (!decide ((((A6p l i)).getD k cl0) = (l.getD i cl0)))) = false) h64; have hcase : k < (A6p l i).length ∧ (A6p l i).getD k cl0 = l.getD i cl0 := by have h9 := h64; simp at h9; exact ⟨by omega, h9.2⟩
           refine z99 ?_; have hnx : A6p l (i + 1) = A6p l i := by rw [C0y (by omega), if_neg (by simpa using h32), D3q (k := k) (by omega) hk2 hlast, if_pos hcase]
           refine A0b (fun w hs => ?_) (next1 (i + 1, a) _ (by omega) (by (try simp only); omega) ⟨rfl, (by (conv => lhs; whnf); simp [sl, hnx]), rfl, trivial⟩); rw [hnx]; exact (hs.less (by simp +contextual))
    ·have c23 := sm_ (p := (decide ((i : Int) < (l.length : Int))) = false) h23; have he : i = l.length := by omega
     have hrw : A6p l i = A3o l := by rw [he, D5f]
     refine z16 ?_; refine z74 ?_; refine z20 ?_; refine z48 ?_; refine z1 ?_; refine A0a (fun h82 => ?_) (fun h82 => ?_)
     ·have c82 := sm_ (p := (decide (64 < (((A6p l i)).length : Int))) = true) h82; have hlf : A0w l = (3, []) := by rw [A0w, if_neg (by rw [hall]; decide), if_pos (by rw [← hrw]; omega)]
      refine z80 ?_; refine A1x Tryz.func193 Tryz.results193 wn_ wn_ (none, 0) (by rw [hlf]; rfl) (fun w hs => by rw [hlf]; exact (hs.A3s 0).bare.less (by simp))
     ·have c82 := sm_ (p := (decide (64 < (((A6p l i)).length : Int))) = false) h82; have hlf : A0w l = (0, A3o l) := by rw [A0w, if_neg (by rw [hall]; decide), if_neg (by rw [← hrw]; omega)]
      refine z5 ?_; refine z90 ?_; refine A1x Tryz.func193 Tryz.results193 wn_ wn_ a (by rw [hlf, ← hrw]; rfl) (fun w hs => by rw [hlf, ← hrw]; exact hs.bare.less (by simp))
theorem A8e (l : List Cl) (a_l : SH)  : Spec Tryz.prog 149 #[sl a_l (l.length)] [CL l a_l] [] (fun _ : Unit => .bool ((A0h l))) (fun _ : Unit => []) (fun _ : Unit => []) := by
 refine A0e (args := [sl a_l (l.length)]) Tryz.func149 Tryz.ntmps149 rfl lb_ fun B hB => ?_
 refine A0f (l := l) (a := a_l) (fun hl1 hA1 hU1 => ?_); refine z136 ?_; refine q0 rfl (A0c Tryz.call193 (C3q l a_l ) (fun x7 => ?_)); refine z88 ?_; refine z0 ?_; refine A0z ([(2, .bool ((decide (((A0w l).1) = 0)) && (decide (((A0w l).2) = l))))]) (fun hK => ?_) (fun base => ?_)
 ·refine z73 ?_; refine z143 ?_; refine qI rfl rfl rfl wl_ (fun hg12 => ?_) (fun hg12 => ?_)
  ·have g12 := sm_ (p := (decide (((A0w l).1) = 0)) = true) hg12; refine z30 ?_; refine z24 ?_; refine qT rfl rfl rfl (A0c Tryz.call21 (C8y ((A0w l).2) x7 l a_l ) (fun x15 => ?_)); refine z114 ?_; exact hK _ ⟨dn_, trivial⟩
  ·have g12 := sm_ (p := (decide (((A0w l).1) = 0)) = false) hg12; refine z169 ?_; exact hK _ ⟨dn_, trivial⟩
 ·refine A1r Tryz.func149 Tryz.results149 wn_ () (by rw [← B9e]) (fun w hs => hs.none)
theorem A8t (l : List Cl) (a_l : SH)  : Spec Tryz.prog 134 #[sl a_l (l.length)] [CL l a_l] [] (fun _ : Unit => .bool ((A0d l))) (fun _ : Unit => []) (fun _ : Unit => []) := by
 refine A0e (args := [sl a_l (l.length)]) Tryz.func134 Tryz.ntmps134 rfl lb_ fun B hB => ?_
 refine A0f (l := l) (a := a_l) (fun hl1 hA1 hU1 => ?_); refine z140 ?_; refine q0 rfl (A0c Tryz.call149 (A8e l a_l ) (fun x5 => ?_)); refine z121 ?_; refine A0a (fun h6 => ?_) (fun h6 => ?_)
 ·have c6 := sm_ (p := (!(A0h l)) = true) h6; refine z72 ?_; refine A1r Tryz.func134 Tryz.results134 wn_ () (by rw [A0d, show A0h l = false by simpa using h6]; rfl) (fun w hs => hs.none)
 ·have c6 := sm_ (p := (!(A0h l)) = false) h6; have hfr : A0h l = true := by simpa using h6
  have hal : l.all A0q = true := by unfold A0h at hfr; simp only [Bool.and_eq_true] at hfr; exact hfr.1.1.1
  refine z77 ?_; refine z98 ?_; refine A0u (X := Nat) (fun s_ => s_ ≤ l.length ∧ ∀ j, j < s_ → A5s (l.getD j cl0) = false) (fun s_ => [(0, sl a_l (l.length)), (3, .int .i64 ((s_ : Int)))]) (fun s_ G_ => G_) (fun s_ => []) (fun s_ => l.length - s_) (0) (⟨by omega, fun j hj => by omega⟩) (by exact ⟨rfl, rfl, trivial⟩) ?_ ?_
  ·exact fun w hs => hs
  ·intro i base0 ⟨hi, hok⟩ next0; refine z138 ?_; refine A0a (fun h10 => ?_) (fun h10 => ?_)
   ·have c10 := sm_ (p := (decide ((i : Int) < (l.length : Int))) = true) h10; have hu := hU1 _ (A0n (d := cl0) (show i < l.length by omega)); have hu1 := hu.1; have hu2 := hu.2; have hr24 : A0q (l.getD i cl0) = true := List.all_eq_true.mp hal _ (A0n (by omega)); refine z192 ?_; obtain ⟨bk2, o2, hav2⟩ := hA1 (by omega); refine q0 rfl (A4o ?_ (j := i)); refine z36 ?_; refine q0 rfl (A0c Tryz.call160 (B5j (l.getD i cl0) om_) (fun x17 => ?_)); refine z1 ?_; refine A0a (fun h17 => ?_) (fun h17 => ?_)
    ·have c17 := sm_ (p := ((B0b (l.getD i cl0))) = true) h17; refine z72 ?_; have hb : A5s (l.getD i cl0) = true := by rw [← B6n hr24]; simpa using h17
     refine A1r Tryz.func134 Tryz.results134 wn_ () (by rw [A0d, C2r (d := cl0) (i := i) (by omega) hb]; simp) (fun w hs => hs.none)
    ·have c17 := sm_ (p := ((B0b (l.getD i cl0))) = false) h17; refine z99 ?_; have hb : A5s (l.getD i cl0) = false := by rw [← B6n hr24]; simpa using h17
     refine A0b (fun w hs => ?_) (next0 (i + 1) _ (⟨by omega, A8a hok hb⟩) (by omega) ⟨rfl, rfl, trivial⟩); exact (hs.less (by simp +contextual))
   ·have c10 := sm_ (p := (decide ((i : Int) < (l.length : Int))) = false) h10; refine z162 ?_; refine A1r Tryz.func134 Tryz.results134 wn_ () (by rw [A0d, hfr, B9o (d := cl0) (fun j hj => hok j (by omega))]; rfl) (fun w hs => hs.none)
def C2k (l : List Cl) (i k : Nat) : Bool := (A5i l k).testBit i
theorem D9i (l : List Cl) (i : Nat) : C2k l i 0 = false := by simp [C2k, A5i]
theorem D9j {l : List Cl} {i k : Nat} (hi : i < 24) (h : k < l.length) : C2k l i (k + 1) = ((C2k l i k || A3e (l.getD k cl0).pos (i : Int)) || A3e (l.getD k cl0).neg (i : Int)) := by
 unfold C2k; rw [C1h h, Nat.testBit_or, Nat.testBit_or]; simp only [A3e]; rw [decide_eq_true (show (0 : Int) ≤ (i : Int) by omega), decide_eq_true (show (i : Int) < 24 by omega)]; simp [Bool.or_assoc]
theorem F0v (l : List Cl) (a_l : SH)  : Spec Tryz.prog 232 #[sl a_l (l.length)] [CL l a_l] [] (fun _ : Unit => .int .u32 (((A4e l) : Nat) : Int)) (fun _ : Unit => []) (fun _ : Unit => []) := by
 refine A0e (args := [sl a_l (l.length)]) Tryz.func232 Tryz.ntmps232 rfl lb_ fun B hB => ?_
 refine A0f (l := l) (a := a_l) (fun hl1 hA1 hU1 => ?_); refine z72 ?_; refine z141 ?_; refine A0u (X := Nat × SH) (fun s_ => s_.1 ≤ 24) (fun s_ => [(0, sl a_l (l.length)), (3, sl s_.2 ((A2f (A5i l l.length) s_.1).length)), (4, .int .i64 ((s_.1 : Int)))]) (fun s_ G_ => G_) (fun s_ => [A1q 1 3 s_.2 ((A2f (A5i l l.length) s_.1).length) (A4a (A2f (A5i l l.length) s_.1))]) (fun s_ => 24 - s_.1) (0, (none, 0)) (by omega) (by exact ⟨rfl, rfl, rfl, trivial⟩) ?_ ?_
 ·exact fun w hs => (hs.A2r 1 3)
 ·intro ⟨i, a⟩ base0 hi0 next0; dsimp only at hi0 next0 ⊢; have hln := A6e (A5i l l.length) i; refine z74 ?_; refine z85 ?_; refine A0a (fun h8 => ?_) (fun h8 => ?_)
  ·have c8 := sm_ (p := (decide ((i : Int) < 24)) = true) h8; refine z86 ?_; refine z141 ?_; refine A0u (X := Nat) (fun s_ => s_ ≤ l.length) (fun s_ => [(0, sl a_l (l.length)), (3, sl a ((A2f (A5i l l.length) i).length)), (4, .int .i64 ((i : Int))), (5, .bool ((C2k l i s_))), (6, .int .i64 ((s_ : Int)))]) (fun s_ G_ => G_) (fun s_ => [A1q 1 3 a ((A2f (A5i l l.length) i).length) (A4a (A2f (A5i l l.length) i))]) (fun s_ => l.length - s_) (0) (by omega) (by exact ⟨rfl, rfl, rfl, (by rw [D9i]; rfl), rfl, trivial⟩) ?_ ?_
   ·exact fun w hs => hs
   ·intro k base1 hi1 next1; refine z138 ?_; refine A0a (fun h14 => ?_) (fun h14 => ?_)
    ·have c14 := sm_ (p := (decide ((k : Int) < (l.length : Int))) = true) h14; have hu := hU1 _ (A0n (d := cl0) (show k < l.length by omega)); have hu1 := hu.1; have hu2 := hu.2; refine z86 ?_; refine A0z ([(0, sl a_l (l.length)), (3, sl a ((A2f (A5i l l.length) i).length)), (4, .int .i64 ((i : Int))), (5, .bool (((C2k l i k) || (A3e ((l.getD k cl0).pos) (i : Int))) || (A3e ((l.getD k cl0).neg) (i : Int)))), (6, .int .i64 ((k : Int)))]) (fun hK => ?_) (fun base => ?_)
     ·refine z97 ?_; refine qI rfl rfl rfl wl_ (fun hg18 => ?_) (fun hg18 => ?_)
      ·have g18 := sm_ (p := ((C2k l i k)) = false) hg18; refine z30 ?_; refine z24 ?_; obtain ⟨bk2, o2, hav2⟩ := hA1 (by omega); refine qT rfl rfl rfl (A4o ?_ (j := k)); refine z41 ?_; refine qT rfl rfl rfl (F1o ?_); refine z24 ?_; refine qT rfl rfl rfl (A0c Tryz.call116 (D1s ((l.getD k cl0).pos) (i : Int) om_) (fun x25 => ?_)); refine z129 ?_; refine qI rfl rfl rfl wl_ (fun hg27 => ?_) (fun hg27 => ?_)
       ·have g27 := sm_ (p := ((A3e ((l.getD k cl0).pos) (i : Int))) = false) hg27; refine z30 ?_; refine z24 ?_; refine qT rfl rfl rfl (A4o ?_ (j := k)); refine z41 ?_; refine qT rfl rfl rfl (F1o ?_); refine z24 ?_; refine qT rfl rfl rfl (A0c Tryz.call116 (D1s ((l.getD k cl0).neg) (i : Int) om_) (fun x34 => ?_)); refine z115 ?_; exact hK _ ⟨rfl, rfl, rfl, dn_, rfl, trivial⟩
       ·have g27 := sm_ (p := ((A3e ((l.getD k cl0).pos) (i : Int))) = true) hg27; refine z127 ?_; refine z75 ?_; refine z114 ?_; exact hK _ ⟨rfl, rfl, rfl, dn_, rfl, trivial⟩
      ·have g18 := sm_ (p := ((C2k l i k)) = true) hg18; refine z127 ?_; refine z179 ?_; refine z127 ?_; refine z117 ?_; refine z114 ?_; exact hK _ ⟨rfl, rfl, rfl, dn_, rfl, trivial⟩
     ·refine z83 ?_; refine A0b (fun w hs => ?_) (next1 (k + 1) _ (by omega) (by omega) ⟨rfl, rfl, rfl, (by (conv => lhs; whnf); rw [D9j (by omega) (by omega)]), rfl, trivial⟩); exact (hs.less (by simp +contextual))
    ·have c14 := sm_ (p := (decide ((k : Int) < (l.length : Int))) = false) h14; have he : k = l.length := by omega
     refine z16 ?_; refine z70 ?_; refine z1 ?_; refine A0a (fun h36 => ?_) (fun h36 => ?_)
     ·have c36 := sm_ (p := ((C2k l i k)) = true) h36; refine z97 ?_; refine q0 rfl (A3g fun b39 => ?_); refine q0 rfl (A4p (fun a40 => ?_) (a := a) (n' := (A2f (A5i l l.length) i).length)); refine A0o (fun w hs => ((hs.perm A0x).drop).E1d) ?_; refine z152 ?_; have hnx : A2f (A5i l l.length) (i + 1) = A2f (A5i l l.length) i ++ [(i : Int)] := by rw [A5n, if_pos (show (A5i l l.length).testBit i = true by rw [← he]; exact h36)]
      refine A0b (fun w hs => ?_) (next0 (i + 1, a40) _ (by omega) (by (try simp only); omega) ⟨rfl, (by (conv => lhs; whnf); simp [sl, hnx]), rfl, trivial⟩); rw [hnx]; simpa using (hs.less (by simp +contextual))
     ·have c36 := sm_ (p := ((C2k l i k)) = false) h36; refine z99 ?_; have hnx : A2f (A5i l l.length) (i + 1) = A2f (A5i l l.length) i := by rw [A5n, if_neg]; rw [show (A5i l l.length).testBit i = false by rw [← he]; exact h36]; decide
      refine A0b (fun w hs => ?_) (next0 (i + 1, a) _ (by omega) (by (try simp only); omega) ⟨rfl, (by (conv => lhs; whnf); simp [sl, hnx]), rfl, trivial⟩); rw [hnx]; exact (hs.less (by simp +contextual))
  ·have c8 := sm_ (p := (decide ((i : Int) < 24)) = false) h8; have he : i = 24 := by omega
   subst he; refine A0b (fun w hs => (hs.B2c hB rfl rfl (by unfold reach; omega) (fun c hc => by have := B0r hc; unfold A2j; omega))) ?_; refine z16 ?_; refine z70 ?_; refine q0 rfl (A0c Tryz.call249 (F6k (A2f (A5i l l.length) 24) a (by omega) (fun x hx => by have := B0r hx; omega)) (fun x42 => ?_)); refine z69 ?_; refine A1r Tryz.func232 Tryz.results232 wn_ () (by rw [B7q, C7a]) (fun w hs => hs.none)
end Go.Hy
namespace Go.Hy
open Go.Proofs
set_option maxRecDepth 100000
attribute [local go_sem] Oper.semAt_some
open Go.RowKit Go.Shelf
set_option maxHeartbeats 1000000
theorem G4o (F : Fence) (n : Nat) (hF : F.fn 209) (hro : F.round = none) (r : Nat) (k idx : Nat) (hk : k < 24) (h0 : ((r : Int) == 0) = false)
  (key : bits BinOp.and IntKind.u32 (r : Int) (-(r : Int) % 4294967296) * 125613361 % 4294967296 / 134217728 = (idx : Int)) (hi : idx < 32) (W : World) (hc : W.cell? ⟨0, idx, none⟩ = some (.int .u8 (k : Int))) :
  CallsIn F n Tryz.prog 209 #[.int .u32 (r : Int)] W fun e w' => e = .returned (.int .i64 (k : Int)) ∧ w' = W := by
 refine callsIn_of_wp Tryz.func209 rfl hF ?_ hro; simp only [Tryz.ntmps209, List.size_toArray, List.length_cons, List.length_nil, Nat.reduceAdd, Nat.reduceSub, Array.replicate_succ, Array.replicate_zero, List.push_toArray, List.append_toArray, List.nil_append, List.cons_append]
 gi_wp2_with (simp only [key])
 go_ret
 exact ⟨rfl, rfl⟩
theorem tz32' (F : Fence) (n : Nat) (hF : F.fn 209) (hro : F.round = none) (r : Nat) (h0 : ¬ r = 0) (hr : r < 16777216) (W : World) (hT : TabAt 0 Lib.deBruijn32tab W) :
  CallsIn F n Tryz.prog 209 #[.int .u32 (r : Int)] W fun e w' => e = .returned (.int .i64 (Lib.ctz 32 r : Int)) ∧ w' = W := by
 obtain ⟨hlow, hk⟩ := Lib.lowest_bit 32 r h0 (by omega); obtain ⟨hi, htab⟩ := Lib.deBruijn32_at _ hk; have hcell := hT _ hi; rw [htab] at hcell; exact G4o F n hF hro r _ _ (C9z h0 hr).1 (by simp; omega) (tz32_key r _ (by omega) h0 hlow) hi W hcell
theorem in1 (F : Fence) (n : Nat) (h208 : F.fn 208) (h209 : F.fn 209) (hro : F.round = none) (hn : 1 ≤ n) (l g : Nat) (s : Nat) (J : List Int → World → Prop)
  (hY : ∀ pre x W, J pre W → pre.length < 24 → (0 ≤ x ∧ x < 24) → YieldAt F (n - 1) Tryz.prog l #[.int .i64 x] W fun e W' => e = .returned (.bool true) ∧ J (pre ++ [x]) W' ∧ W'.heap[g]? = W.heap[g]?)
  (hT : ∀ pre W, J pre W → TabAt 0 Lib.deBruijn32tab W)
  (hJ : ∀ pre W v, J pre W → J pre (W.setCell ⟨g, 0, none⟩ v))
  (hs : s < 4294967296) (W : World) (hg : Boxed W g 43 (.int .u32 (s : Int))) (h0 : J [] W) :
  CallsIn F n Tryz.prog 208 #[.func (.yield l) #[] #[], .pointer (some ⟨g, 0, none⟩)] W fun e W' => (∃ v, e = .returned v) ∧ J (A0g s) W' := by
 refine callsIn_of_wp Tryz.func208 rfl h208 ?_ hro; simp only [Tryz.ntmps208, List.size_toArray, List.length_cons, List.length_nil, Nat.reduceAdd, Nat.reduceSub, Array.replicate_succ, Array.replicate_zero, List.push_toArray, List.append_toArray, List.nil_append, List.cons_append]; have hc := hg.cell; have hf := hg.frozen
 gi_wp2
 gi_loopw [] (fun wr => ∃ (pre : List Int) (r : Nat), A0g s = pre ++ A0g r ∧ r < 16777216 ∧ Boxed wr g 43 (.int .u32 (r : Int)) ∧ J pre wr)
  (fun wr => match wr.cell? ⟨g, 0, none⟩ with | some (.int _ v) => v.toNat | _ => 0)
 case atStart =>
  refine ⟨[], s &&& 16777215, by rw [List.nil_append, E4l], by rw [D4h]; exact Nat.mod_lt _ (by decide), ?_, hJ _ _ _ h0⟩; rw [← bits_and_u32_nat s 16777215 hs (by decide)]; exact hg.set _
 case round =>
  obtain ⟨pre, r, hx, hr, hb, hj⟩ := hrel; have hc2 := hb.cell; have hf2 := hb.frozen; by_cases hr0 : r = 0
  ·subst hr0
   gi_wp2
   go_end0
   exact ⟨⟨_, rfl⟩, by rw [hx, show A0g 0 = [] from by decide, List.append_nil]; exact hj⟩
  ·obtain ⟨hk, hlist⟩ := C9z hr0 hr
   have hlen : pre.length < 24 := by
    have h1 := congrArg List.length hx; have h2 : (A0g s).length ≤ 24 := A6e s 24; rw [List.length_append, hlist, List.length_cons] at h1; omega
   obtain ⟨fn, tmps, assign, body, hy, hR⟩ := hY pre (Lib.ctz 32 r : Int) wr hj hlen (by omega); have hbe : ((r : Int) != 0) = true := by simp; omega
   gi_wp2_with (gi_at_call 209; refine (tz32' F (n - 1) h209 hro r hr0 hr wr (hT _ _ hj)).mono ?_; rintro e w' ⟨rfl, rfl⟩)
   refine hR.mono ?_; rintro e W3 ⟨rfl, hJ3, hg3⟩; have hb3 : Boxed W3 g 43 (.int .u32 (r : Int)) := hg3.trans hb; have hc3 := hb3.cell; have hf3 := hb3.frozen
   gi_wp2
   have e1 : bits BinOp.and IntKind.u32 (r : Int) ((r : Int) - 1) = ((r &&& (r - 1) : Nat) : Int) := by
    rw [show (r : Int) - 1 = ((r - 1 : Nat) : Int) by omega]; exact bits_and_u32_nat r (r - 1) (by omega) (by omega)
   rw [e1]; have hb4 := hb3.set (.int .u32 ((r &&& (r - 1) : Nat) : Int)); have hlt := F7z hr0
   go_roundw
   case rel => exact ⟨pre ++ [(Lib.ctz 32 r : Int)], r &&& (r - 1), by rw [hx, hlist, List.append_assoc]; rfl, by omega, hb4, hJ _ _ _ hJ3⟩
   case measure =>
    rw [hb4.cell, hc2]; simp only [Int.toNat_natCast]; exact hlt
theorem G2d (F : Fence) (n : Nat) (h : F.fn 156) (hro : F.round = none) (s : Nat) (w : World) :
  CallsIn F n Tryz.prog 156 #[.int .u32 (s : Int)] w fun e w' => e = .returned (.func (.func 208) #[] #[.pointer (some ⟨w.heap.size, 0, none⟩)]) ∧ w' = w.alloc (.cells #[.int .u32 (s : Int)] 43) := by
 refine callsIn_of_wp Tryz.func156 rfl h ?_ hro; simp only [Tryz.ntmps156, List.size_toArray, List.length_cons, List.length_nil, Nat.reduceAdd, Nat.reduceSub, Array.replicate_succ, Array.replicate_zero, List.push_toArray, List.append_toArray, List.nil_append, List.cons_append]
 gi_wp2
 go_ret
 exact ⟨rfl, rfl⟩
theorem F4l : (Tryz.prog.info? 3).map (fun i => (i.zero, i.size, i.bytes)) = some (some (.int .i64 0), 1, 8) := by kernel_rfl
theorem F4d (F : Fence) (n : Nat) (h81 : F.fn 81) (h156 : F.fn 156) (h208 : F.fn 208) (h209 : F.fn 209) (hro : F.round = none) (hn : 3 ≤ n) (s : Nat) (hs : s < 4294967296) (w : World) (hw : 0 < w.heap.size) (hT : TabAt 0 Lib.deBruijn32tab w) :
  CallsIn F n Tryz.prog 81 #[.int .u32 (s : Int)] w fun e W' => ∃ v, e = .returned v ∧ W'.ownsRow w.heap.size 3 1 v (A0g s).length ((A0g s).map (Value.int .i64)) ∧ Below w.heap.size w W' := by
 have h1 : 1 ≤ n := by omega
 obtain ⟨i0, hi, hz0, hz1, hz2⟩ := info_parts F4l; refine callsIn_of_wp_marks Tryz.func81 rfl h81 ?_ hro; simp only [Tryz.ntmps81, List.size_toArray, List.length_cons, List.length_nil, Nat.reduceAdd, Nat.reduceSub, Array.replicate_succ, Array.replicate_zero, List.push_toArray, List.append_toArray, List.nil_append, List.cons_append]
 gi_wp2_with (gi_at_call 156; refine (G2d F (n - 1) h156 hro _ _).mono ?_; rintro e w' ⟨rfl, rfl⟩)
 obtain ⟨w2, hw2⟩ : ∃ w2, (w.alloc (.cells #[.slice none 0 0] 117)).alloc (.cells #[.int .u32 (s : Int)] 43) = w2 := ⟨_, rfl⟩; have bO : Boxed w2 w.heap.size 117 (.slice none 0 0) := by rw [← hw2]; exact (Boxed.new w 117 (.slice none 0 0)).alloc _
 have bS : Boxed w2 (w.heap.size + 1) 43 (.int .u32 (s : Int)) := by rw [← hw2]; have := Boxed.new (w.alloc (.cells #[.slice none 0 0] 117)) 43 (.int .u32 (s : Int)); rwa [World.size_alloc] at this
 have hsz2 : w2.heap.size = w.heap.size + 2 := by rw [← hw2]; simp
 have hB2 : Below w.heap.size w w2 := by rw [← hw2]; exact ((Below.refl _ w).alloc (Nat.le_refl _) _).alloc (by simp) _
 have hrw : ∀ {A B : World}, B.heap[w.heap.size + 1]? = A.heap[w.heap.size + 1]? → ∀ u, Boxed A (w.heap.size + 1) 43 u → Boxed B (w.heap.size + 1) 43 u := fun h u hu => h.trans hu
 simp only [World.size_alloc, hw2]
 refine E2b hro h1 (gf := 208) (lb := #[.pointer (some ⟨w.heap.size + 1, 0, none⟩)]) rfl h208 (enters_of Tryz.func208 (by kernel_rfl) rfl) (encs := fun x : Int => #[Value.int .i64 x]) (fun _ => rfl)
  (fun pre W => (∃ v, Boxed W w.heap.size 117 v ∧ W.ownsRow w.heap.size 3 1 v pre.length (pre.map (Value.int .i64))) ∧ (∃ u, Boxed W (w.heap.size + 1) 43 u) ∧ Below w.heap.size w W)
  (fun pre x => pre.length < 24 ∧ (0 ≤ x ∧ x < 24)) (fun W W' => W'.heap[w.heap.size + 1]? = W.heap[w.heap.size + 1]?)
  ?ip ?ia ⟨⟨_, bO, World.ownsRow_nil _ _ _ _⟩, ⟨_, bS⟩, hB2⟩ (fun h k => k.trans h) ?kp (A0g s) ?it
  (fun x => { tmps := #[.int .u32 (s : Int), undef, .slice none 0 0, .pointer (some ⟨w.heap.size, 0, none⟩), .int .i64 x, .int .u32 (s : Int), .func (.func 208) #[] #[.pointer (some ⟨w.heap.size + 1, 0, none⟩)], .int .i64 x, undef, undef, undef, undef, undef], defers := [] }) ?assign ?body ?done
 case ip =>
  rintro pre A l o o0 ⟨⟨v, hv, hr⟩, ⟨u, hu⟩, hB⟩ hl hc hle; refine ⟨⟨v, (World.putObj_heap_other (by omega)).trans hv, ownsRow_putObj hr o hl hc⟩, ⟨u, (World.putObj_heap_other (by omega)).trans hu⟩, hB.trans ⟨rfl, rfl, rfl, by simp, fun k hk => World.putObj_heap_other (by omega)⟩⟩
 case ia =>
  rintro pre A o ⟨⟨v, hv, hr⟩, ⟨u, hu⟩, hB⟩ hle; exact ⟨⟨v, hv.alloc o, hr.kept (World.grownBy_alloc A o none) (by rcases hr.2 with ⟨rfl, _⟩ | ⟨g, cap, cur, rfl, _⟩; exact .inl rfl; exact .inr (by simp [Value.ownBlock]))⟩, ⟨u, hu.alloc o⟩, hB.alloc (by omega) o⟩
 case kp =>
  intro A l o o0 hl hc hle; exact World.putObj_heap_other (by omega)
 case it =>
  intro l J W1 hJI hJk hY h0 hk1; refine in1 F (n - 1) h208 h209 hro (by omega) l (w.heap.size + 1) s J (fun pre x W hj hl hx => hY pre x W hj ⟨hl, hx⟩) (fun pre W hj => ?_) (fun pre W v hj => ?_) hs W1 ?_ h0
  ·intro i hi; exact ((hJI _ _ hj).2.2.cell (p := ⟨0, i, none⟩) hw).trans (hT i hi)
  ·obtain ⟨⟨v0, hv0, hr⟩, ⟨u, hu⟩, hB⟩ := hJI _ _ hj; refine hJk pre W _ hj ⟨⟨v0, hv0.other (by omega) v, hr.kept (grownBy_setCell' W (w.heap.size + 1) v) (.inr (hu.not_row (by decide) hr).symm)⟩, ⟨_, hu.set v⟩, hB.setCell (p := ⟨w.heap.size + 1, 0, none⟩) (by simp) v⟩ (fun k o hk ho => (KeepsOthers.setCell W _ v).same k o hk ho)
  ·exact (hk1 _ (by omega)).trans bS
 case assign =>
  intro l x W K hK
  gi_wp2
  exact hK
 case body =>
  rintro l pre x W ⟨⟨v, hv, hrow⟩, ⟨u, hu⟩, hB⟩ ⟨hlt, hx⟩; have hc := hv.cell
  gi_wp2_with (gi_at_builtin; refine wpListIn_append_own _ rfl _ _ 117 rfl w.heap.size 3 i0 (.int .i64 0) 1 8 Tryz.underlying117 hi hz0 hz1 hz2 rfl (by decide) _ _ _ rfl (hrow.alloc _) ⟨W.heap.size, 0, none⟩ 1 1 [.int .i64 x] rfl rfl (cell_one_new _ _ _) (by simp [Value.oneCell']) (by unfold maxLen; omega) (by omega) (by have := hB.size; simp; omega) ?_; intro v' w1 hown' hgrow _; obtain ⟨g', cap', rfl⟩ := ownsRow_succ hown'; obtain ⟨hv1, hv2, hr2, hk2, hb2⟩ := hv.appended (by decide) hrow hB.size (Nat.le_refl _) hown' hgrow; have hc1 := hv1.cell; have hf1 := hv1.frozen)
  have hu1 := ((hu.alloc (.cells #[.int .i64 x] 3)).kept hgrow (hu.not_row (by decide) hrow)).other (B' := w.heap.size) (by omega) (.slice (some ⟨g', 0, none⟩) (pre.length + 1) cap'); exact ⟨hu1.trans hu.symm, ⟨_, hv2, by simpa using hr2⟩, ⟨u, hu1⟩, hB.trans hb2⟩
 case done =>
  rintro D W hD ⟨⟨v, hv, hrow⟩, _, hB⟩ hK; have hc := hv.cell
  gi_wp2
  refine ⟨by simp, .inl ⟨_, _, rfl, run_takeDeferred hK, ?_⟩⟩; exact ⟨_, results_tmp rfl _ _ _, v, rfl, ownsRow_putObj hrow _ hK rfl, hB.trans ⟨rfl, rfl, rfl, by simp, fun k hk => World.putObj_heap_other (by omega)⟩⟩
abbrev DBF : Fact := At 0 0 (Lib.deBruijn32tab.map fun (v : Nat) => Value.int .u8 (v : Int))
theorem F6e {ok : Nat → Prop} {w : World} (h : DBF.f ok w) (hk : ∀ b, ok b → b < w.heap.size) : TabAt 0 Lib.deBruijn32tab w ∧ 0 < w.heap.size := by
 refine ⟨fun j hj => ?_, hk _ h.1⟩; have h1 := h.2 j (.int .u8 (Lib.deBruijn32tab.getD j 0 : Nat)) (by rw [List.getElem?_map, List.getD_eq_getElem?_getD, List.getElem?_eq_getElem hj]; rfl)
 rwa [Nat.zero_add] at h1
theorem E4i (s : Nat) (hs : s < 4294967296) : Spec Tryz.prog 81 #[.int .u32 (s : Int)] [DBF] [] (fun x : SH => sl x (A0g s).length) (fun _ => []) (fun x => [A1q 1 3 x (A0g s).length (A4a (A0g s))]) := fun ok w hok hst => by
 obtain ⟨hT, hw⟩ := F6e (hst.facts DBF List.mem_cons_self) (fun b hb => hb.2.1); refine (callsIn_wide.mp (F4d Fence.wide 3 trivial trivial trivial trivial rfl (Nat.le_refl _) s hs w hw hT)).mono fun e w' hh => ?_
 obtain ⟨v, rfl, hrow, hB⟩ := hh; obtain ⟨a, rfl⟩ := E3g hrow
 have hrow0 : w'.ownsRow 0 3 1 (sl a (A0g s).length) (A0g s).length (A4a (A0g s)) := by
  have h1 : w'.ownsRow 0 3 1 (sl a (A0g s).length) (A0g s).length ((A0g s).map (Value.int .i64)) := ⟨hrow.1, hrow.2.imp id (fun ⟨g, cap, cur, q1, q2, q3⟩ => ⟨g, cap, cur, q1, Nat.zero_le _, q3⟩)⟩
  rwa [show (A0g s).map (Value.int .i64) = A4a (A0g s) from by induction (A0g s) with | nil => rfl | cons y ys ih => (simp only [List.map_cons, A4a, List.flatMap_cons, B0f, List.singleton_append] at ih ⊢; rw [ih])] at h1
 refine ⟨a, rfl, ⟨hB.os, hB.tape, hB.output, hB.size, fun b hb _ => hB.block b hb⟩, fun _ hF => (by cases hF), ?_, ?_, List.pairwise_singleton _ _⟩
 ·intro m hm w2 hw2; rw [List.mem_singleton] at hm; subst hm; exact C3o hrow0 (fun b hb => hw2 b hb)
 ·intro m hm b hb; rw [List.mem_singleton] at hm; subst hm; have := hrow.lt b hb; exact ⟨this.2, .inr this.1⟩
theorem C1o (s : Nat) (hs : s < 4294967296) : Spec Tryz.prog 81 #[.int .u32 (s : Int)] [DBF] [] (fun x : SH => sl x (A0g s).length) (fun x => [IL (A0g s) x]) (fun _ => []) := fun ok w hok hst => (E4i s hs ok w hok hst).mono fun e w' hh => by
 obtain ⟨x, he, h⟩ := hh; have hl : (A0g s).length ≤ 24 := A6e s 24; exact ⟨x, he, h.B2c trivial rfl rfl (by unfold reach; omega) (fun c hc => by have := B0r hc; unfold A2j; omega)⟩
end Go.Hy
namespace Go.Hy
open Go.Proofs
set_option maxRecDepth 100000
theorem A7n (i : Int) : Spec Tryz.prog 176 #[.int .i64 i] [] [] (fun _ : Unit => .bool (decide (0 ≤ i) && decide (i < 24))) (fun _ => []) (fun _ => []) := by
 refine A0e (args := [.int .i64 i]) Tryz.func176 Tryz.ntmps176 rfl lb_ fun B hB => ?_
 refine z136 ?_; refine z52 ?_; refine z3 ?_; refine qI rfl rfl rfl wl_ (fun hg5 => A2u ?_) (fun hg5 => ?_)
 ·refine z45 ?_; refine z114 ?_; refine A1r Tryz.func176 Tryz.results176 wn_ () (by first | (simp_all; done) | (simp_all; omega)) (fun w hs => hs.none)
 ·refine z4 ?_; refine z115 ?_; refine A1r Tryz.func176 Tryz.results176 wn_ () (by first | (simp_all; done) | (simp_all; omega)) (fun w hs => hs.none)
theorem B4z (s : Nat) (hs : s < 4294967296) : Spec Tryz.prog 87 #[.int .u32 (s : Int)] [] [] (fun _ : Unit => .bool (decide (s < 16777216))) (fun _ => []) (fun _ => []) := by
 refine A0e (args := [.int .u32 (s : Int)]) Tryz.func87 Tryz.ntmps87 rfl lb_ fun B hB => ?_
 refine z136 ?_; refine q0 rfl (B5m ?_ (b := 16777215)); refine q0 rfl (C6l ?_ (b := 0)); refine z69 ?_; refine A1r Tryz.func87 Tryz.results87 wn_ () (by rw [D4f hs]) (fun w hs => hs.none)
theorem B9p (s : Nat) (hs : s < 4294967296) : Spec Tryz.prog 175 #[.int .u32 (s : Int), .int .i64 (-1)] [] [] (fun _ : Unit => .int .u32 ((s &&& 16777215 : Nat) : Int)) (fun _ => []) (fun _ => []) := by
 refine A0e (args := [.int .u32 (s : Int), .int .i64 (-1)]) Tryz.func175 Tryz.ntmps175 rfl lb_ fun B hB => ?_
 refine z136 ?_; refine q0 rfl (A9f ?_ (b := 16777215)); refine z69 ?_; refine z74 ?_; refine q0 rfl (A0c Tryz.call176 (A7n (-1)) (fun x8 => ?_)); refine z121 ?_; refine A0a (fun h9 => ?_) (fun h9 => ?_)
 ·refine z135 ?_; refine A1r Tryz.func175 Tryz.results175 wn_ () rfl (fun w hs => hs.none)
 ·exact absurd h9 (by decide)
theorem B8g : F5i := by
 intro l a; refine A0e (args := [sl a l.length]) Tryz.func97 Tryz.ntmps97 rfl lb_ fun B hB => ?_
 refine A0f (l := l) (a := a) (fun hl1 hA1 hU1 => ?_); refine z72 ?_; refine z171 ?_; refine A3z (X := Nat) (fun i => i ≤ l.length) (fun i => [(3, .int .u32 (A5i l i : Int)), (6, sl a l.length), (7, .int .i64 (l.length : Int)), (8, .int .i64 (i : Int))]) (fun i => [CL l a]) (fun i => []) (fun i => l.length - i) (0) (Nat.zero_le _) (by exact ⟨rfl, rfl, rfl, rfl, trivial⟩) ?_ ?_
 ·exact fun w hs => hs.less (by simp)
 ·intro i base0 hi next0; refine z119 ?_; refine A0a (fun h9 => ?_) (fun h9 => ?_)
  ·have hlt : i < l.length := by have := of_decide_eq_true h9; omega
   obtain ⟨bk, o, hav⟩ := hA1 (by omega); have hu := hU1 _ (A0n (d := cl0) hlt); have hup := C9q hU1 i; have hor : (l.getD i cl0).pos ||| (l.getD i cl0).neg < 4294967296 := Nat.or_lt_two_pow (n := 32) hu.1 hu.2; refine z139 ?_; refine z37 ?_; refine z36 ?_; refine q0 rfl (A2s fun b5 => ?_); refine z91 ?_; refine z73 ?_; refine z78 ?_; refine z78 ?_; refine q0 rfl (B2k ?_ (a := (l.getD i cl0).pos) (b := (l.getD i cl0).neg) (ha := hu.1) (hb := hu.2)); refine q0 rfl (B2k ?_ (a := A5i l i) (b := (l.getD i cl0).pos ||| (l.getD i cl0).neg)); refine z154 ?_; refine A0b (fun w hs => ?_) (next0 (i + 1) _ hlt (by omega) ⟨by rw [C1h hlt]; rfl, rfl, rfl, rfl, trivial⟩); exact (hs.less (by simp)).bare
  ·have hge : i = l.length := by have := of_decide_eq_false h9; omega
   refine z16 ?_; refine z70 ?_; refine q0 rfl (A0c Tryz.call175 (B9p (A5i l i) (C9q hU1 i)) (fun x21 => ?_)); refine z69 ?_; refine A1r Tryz.func97 Tryz.results97 wn_ () (by rw [C7a, ← hge]) (fun w hs => hs.none)
theorem A9x (c : Cl) (hc : u32 c) : Spec Tryz.prog 33 #[.agg (A0r c).toArray] [] [] (fun _ : Unit => .bool (A0q c)) (fun _ => []) (fun _ => []) := by
 refine A0e (args := [.agg (A0r c).toArray]) Tryz.func33 Tryz.ntmps33 rfl lb_ fun B hB => ?_
 refine z68 ?_; refine q0 rfl (A2c fun b1 => ?_); refine z69 ?_; refine z95 ?_; refine q0 rfl (A0c Tryz.call87 (B4z c.pos hc.1) (fun x5 => ?_)); refine z3 ?_; refine qI rfl rfl rfl wl_ (fun hg6 => E0d ?_) (fun hg6 => ?_)
 ·refine z26 ?_; refine qT rfl rfl rfl (A0c Tryz.call87 (B4z c.neg hc.2) (fun x9 => ?_)); refine z114 ?_; refine A1r Tryz.func33 Tryz.results33 wn_ () (by first | (simp_all [A0q]; done) | (simp_all [A0q]; intros; omega)) (fun w hs => hs.none)
 ·refine z169 ?_; refine A1r Tryz.func33 Tryz.results33 wn_ () (by first | (simp_all [A0q]; done) | (simp_all [A0q]; intros; omega)) (fun w hs => hs.none)
theorem B8l (c : Cl) (hc : u32 c) : Spec Tryz.prog 34 #[.agg (A0r c).toArray] [] [] (fun _ : Unit => .bool (A5s c)) (fun _ => []) (fun _ => []) := by
 refine A0e (args := [.agg (A0r c).toArray]) Tryz.func34 Tryz.ntmps34 rfl lb_ fun B hB => ?_
 refine z68 ?_; refine q0 rfl (A2c fun b1 => ?_); refine z69 ?_; refine z95 ?_; refine z78 ?_; refine q0 rfl (A9f ?_ (a := c.pos) (b := c.neg) (ha := hc.1) (hb := hc.2)); refine q0 rfl (D8n ?_ (b := 0)); refine z69 ?_; refine A1r Tryz.func34 Tryz.results34 wn_ () (by simp only [A5s]; congr 1; apply decide_eq_decide.mpr; omega) (fun w hs => hs.none)
theorem C1n (c d : Cl) (hc : u32 c) (hd : u32 d) : Spec Tryz.prog 93 #[.agg (A0r c).toArray, .agg (A0r d).toArray] [] [] (fun _ : Unit => .agg (A0r (A4d c d)).toArray) (fun _ => []) (fun _ => []) := by
 refine A0e (args := [.agg (A0r c).toArray, .agg (A0r d).toArray]) Tryz.func93 Tryz.ntmps93 rfl lb_ fun B hB => ?_
 refine z68 ?_; refine q0 rfl (A2c fun b2 => ?_); refine q0 rfl (A2c fun b3 => ?_); refine q0 rfl (A2s fun b4 => ?_); refine z1 ?_; refine z95 ?_; refine z78 ?_; refine q0 rfl (B2k ?_ (a := c.pos) (b := d.pos) (ha := hc.1) (hb := hd.1)); refine z78 ?_; refine z78 ?_; refine q0 rfl (B2k ?_ (a := c.neg) (b := d.neg) (ha := hc.2) (hb := hd.2)); refine q0 rfl (A1l (cs := A0r (A4d c d)) ?_); refine z91 ?_; refine D1t Tryz.func93 Tryz.results93 () rfl mm_ rfl rfl rfl rfl (fun w hs => hs.none)
theorem D9s (c d : Cl) (hc : u32 c) (hd : u32 d) : Spec Tryz.prog 169 #[.agg (A0r c).toArray, .agg (A0r d).toArray] [] [] (fun _ : Unit => .bool (below c d)) (fun _ => []) (fun _ => []) := by
 refine A0e (args := [.agg (A0r c).toArray, .agg (A0r d).toArray]) Tryz.func169 Tryz.ntmps169 rfl lb_ fun B hB => ?_
 refine z68 ?_; refine q0 rfl (A2c fun b2 => ?_); refine q0 rfl (A2c fun b3 => ?_); refine z101 ?_; refine A2a (pn := 1000000) (tn := false) (A := [0, 0, 3, 0, 15, 31]) (l := [0, 1, 3, 2, 4, 5]) (fin := []) Tab.mixed ⟨_, Tryz.func169⟩ (by rfl) ?_; refine z43 ?_; refine z43 ?_; refine z43 ?_; refine n0 rfl (A1p Tryz.call93 (C1n c d hc hd) (fun x7 => ?_)); refine n0 rfl (G0t ?_ (c := A4d c d) (c' := c)); refine z158 ?_; refine A1r Tryz.func169 Tryz.results169 wn_ () (by rw [D9u]) (fun w hs => hs.none)
end Go.Hy
namespace Go.Hy
open Go.Proofs
set_option maxRecDepth 100000
open Go.Shelf Go.RowKit Go.Lib Go.Sort
theorem F4k (a : Int) (W : World) : Calls Tryz.prog 247 #[.int .u32 a] W fun e w' => e = .returned (.bool false) ∧ w' = W := by
 go_enter Tryz.func247, Tryz.ntmps247
 go_wp2
 go_ret
 exact ⟨by simp, rfl⟩
theorem E5o (a b : Int) (W : World) : Calls Tryz.prog 223 #[.int .u32 a, .int .u32 b] W fun e w' => e = .returned (.int .i64 (compareInt a b)) ∧ w' = W := by
 go_enter Tryz.func223, Tryz.ntmps223
 go_wp2_with (go_at_call 247; refine (F4k _ _).mono ?_; rintro e w' ⟨rfl, rfl⟩)
 all_goals (go_ret; refine ⟨?_, rfl⟩; unfold Lib.compareInt; (repeat' split) <;> first | rfl | (exfalso; omega))
def F1z (c d : Cl) : Int := if c.pos = d.pos then compareInt c.neg d.neg else compareInt c.pos d.pos
set_option maxHeartbeats 1000000 in
theorem G3y (c d : Cl) (W : World) : Calls Tryz.prog 171 #[.agg #[.int .u32 c.pos, .int .u32 c.neg], .agg #[.int .u32 d.pos, .int .u32 d.neg]] W fun e w' => e = .returned (.int .i64 (F1z c d)) ∧ ∃ q os', w' = grow (W.drewN q) os' := by
 have hcon := fun a b W' => E5o a b W'
 have e1 : F1z c d = if (c.pos : Int) = d.pos then compareInt c.neg d.neg else compareInt c.pos d.pos := by unfold F1z; simp only [Int.ofNat_inj]
 generalize hr : F1z c d = r at e1 ⊢
 go_enter Tryz.func171, Tryz.ntmps171
 go_wp2_with (go_at_call 223; refine (hcon _ _ _).mono ?_; rintro e w' ⟨rfl, rfl⟩)
 all_goals (go_ret; refine ⟨?_, 0, _, by rw [alloc_eq_grow, alloc_eq_grow, grow_grow]; rfl⟩)
 all_goals (rw [e1]; simp_all)
/-! ### The order of clauses -/
instance : Inhabited Cl := ⟨cl0⟩
theorem D6s (c d : Cl) : ltOf F1z c d = A3i c d := by
 unfold ltOf F1z A3i compareInt; by_cases h : c.pos = d.pos
 ·simp only [h, if_true]; by_cases h2 : c.neg < d.neg
  ·rw [if_pos (by omega)]; simp [h2]
  ·rw [if_neg (by omega)]; split <;> simp [h2]
 ·simp only [h, if_false]; by_cases h2 : c.pos < d.pos
  ·rw [if_pos (by omega)]; simp [h2]
  ·rw [if_neg (by omega), if_pos (by omega)]; simp [h2]
theorem F4x : SWO (ltOf F1z) where
 irrefl x := by rw [D6s]; simp [A3i]
 trans x y z h1 h2 := by
  rw [D6s] at *; simp only [A3i, Bool.or_eq_true, Bool.and_eq_true, decide_eq_true_eq] at *; omega
 ntrans x y z h1 h2 := by
  rw [D6s] at *; simp only [A3i, Bool.or_eq_false_iff, Bool.and_eq_false_iff, decide_eq_false_iff_not] at *; omega
theorem B9i (d : Array Cl) : (flatK A0r 2 d).toList = A0k d.toList := by
 apply List.ext_getElem?; intro t; have hl : (A0k d.toList).length = d.size * 2 := by rw [B4j A4q]; simp
 by_cases ht : t < d.size * 2
 ·have h1 : (flatK A0r 2 d).toList[t]? = some (A0r d[t / 2]!)[t % 2]! := by
   have hs : t < (flatK A0r 2 d).size := by rw [size_flatK]; exact ht
   rw [Array.getElem?_toList, Array.getElem?_eq_getElem hs]; have := get_flatK A0r 2 d t ht; rw [getElem!_pos _ t hs] at this; rw [this]
  rw [h1]; have hd : t / 2 < d.toList.length := by simp; omega
  have e : d.toList.getD (t / 2) cl0 = d[t / 2]! := by
   have : t / 2 < d.size := by simpa using hd
   rw [getElem!_pos d (t / 2) this, List.getD_eq_getElem?_getD, List.getElem?_eq_getElem hd]; simp
  have h2 : (A0r (d.toList.getD (t / 2) cl0))[t % 2]? = some (A0r d[t / 2]!)[t % 2]! := by
   rw [e]; have : t % 2 < (A0r d[t / 2]!).length := by rw [A4q]; omega
   rw [List.getElem?_eq_getElem this, getElem!_pos (A0r d[t / 2]!) (t % 2) this]
  have := C6x A4q cl0 d.toList (t / 2) (t % 2) _ hd h2; rw [show t / 2 * 2 + t % 2 = t by omega] at this; exact this.symm
 ·rw [List.getElem?_eq_none (by simp; omega), List.getElem?_eq_none (by omega)]
theorem E2e (d : Array Cl) (l : List Cl) (rest : List Value) (hs : d.size = l.length) : putCells id 0 (flatK A0r 2 d) (A0k l ++ rest).toArray = (A0k d.toList ++ rest).toArray := by
 apply Array.ext_getElem?; intro t; have hl : (A0k l).length = d.size * 2 := by rw [B4j A4q, hs]
 have hl2 : (A0k d.toList).length = d.size * 2 := by rw [B4j A4q]; simp
 simp only [putCells, Array.getElem?_mapIdx, List.getElem?_toArray, size_flatK, Nat.zero_add, Nat.zero_le, true_and, Nat.sub_zero, id]; by_cases ht : t < d.size * 2
 ·rw [List.getElem?_append_left (by omega), List.getElem?_append_left (by omega)]
  have h1 : (A0k d.toList)[t]? = some (flatK A0r 2 d)[t]! := by
   rw [← B9i, Array.getElem?_toList]; have hsz : t < (flatK A0r 2 d).size := by rw [size_flatK]; exact ht
   rw [Array.getElem?_eq_getElem hsz, getElem!_pos _ t hsz]
  rw [h1]; obtain ⟨v, hv⟩ : ∃ v, (A0k l)[t]? = some v := ⟨_, List.getElem?_eq_getElem (by omega)⟩; rw [hv, Option.map_some, if_pos ht]
 ·rw [List.getElem?_append_right (by omega), List.getElem?_append_right (by omega), hl, hl2]; cases rest[t - d.size * 2]? with
  | none => rfl
  | some v => rw [Option.map_some, if_neg ht]
/-- slices.SortFunc at clauses, by clause.Cmp: a row of the caller's own. -/
theorem E1c (l : List Cl) (g cap : Nat) (rest : List Value) (hn : l.length < 4611686018427387904) :
  Spec Tryz.prog 170 #[.slice (some ⟨g, 0, none⟩) l.length cap, .func (.func 171) #[] #[]] [] [A1t g (A0k l ++ rest) 45] (fun _ : {l' : List Cl // l'.Perm l ∧ l'.Pairwise fun a b => A3i b a = false} => .tuple #[]) (fun _ => []) (fun x => [A1t g (A0k x.1 ++ rest) 45]) := by
 intro ok w hok hs; have hg : w.heap[g]? = some (.cells (A0k l ++ rest).toArray 45 (0, 0)) := hs.res _ List.mem_cons_self w (fun _ _ => rfl); have hlt : g < w.heap.size := (Array.getElem?_eq_some_iff.mp hg).1; have hu : Tryz.prog.underlying 45 = some (.struct (TyF.fC Tryz.prog)) := TyF.uC
 have aE : ∀ w, (isAgg (Tryz.C0r.t 24)).run Tryz.prog w = .ok true w := fun w => by
  show (isAgg 45).run Tryz.prog w = _; simp [isAgg, run_underlying hu]
 have zE : ∀ w, (Go.sizeOf (Tryz.C0r.t 24)).run Tryz.prog w = .ok 2 w := fun w => A5w (P := Tryz.prog) (t := 45) rfl w
 have hH : HoldsK A0r 2 w g 0 l.toArray := by
  intro j hj; rw [size_flatK] at hj; have e : (flatK A0r 2 l.toArray).toList = A0k l := by rw [B9i]
  have hsz : j < (flatK A0r 2 l.toArray).size := by rw [size_flatK]; exact hj
  have h1 : (A0k l)[j]? = some (flatK A0r 2 l.toArray)[j]! := by
   rw [← e, Array.getElem?_toList, Array.getElem?_eq_getElem hsz, getElem!_pos _ j hsz]
  refine ⟨?_, by simp [World.frozen?, hg]⟩; have hlen : j < (A0k l).length := (List.getElem?_eq_some_iff.mp h1).1; simp only [World.cell?, hg, Nat.zero_add, Option.isSome_none, Bool.false_eq_true, if_false, List.getElem?_toArray, id]; rw [List.getElem?_append_left hlen]; exact h1
 have hc := AnyQ.slices_SortFunc (P := Tryz.prog) Tryz.F6h 2 aE zE A0r A4q (fun x v hv => by
   simp only [A0r, List.mem_cons, List.not_mem_nil, or_false] at hv; rcases hv with rfl | rfl <;> rfl) F1z F4x 171 #[] g 0 cap l.toArray w Tryz.call171
  (fun m os dk hsz x y => G3y x y _) hH hlt (by simpa using hn)
 have hc2 : Calls Tryz.prog 170 #[.slice (some ⟨g, 0, none⟩) l.length cap, .func (.func 171) #[] #[]] w _ := hc; refine hc2.mono ?_; rintro e w' ⟨he, d', n, os, hp, hsd, hw⟩; have hsize : d'.size = l.length := by simpa using hp.1
 have hperm : d'.toList.Perm l := by
  have := hp.2.2; have e1 : d'.extract 0 l.toArray.size = d' := by rw [show l.toArray.size = d'.size by simp [hsize]]; simp
  have e2 : l.toArray.extract 0 l.toArray.size = l.toArray := by simp
  rw [e1, e2] at this; exact this
 have hsorted : d'.toList.Pairwise fun a b => A3i b a = false := by
  rw [List.pairwise_iff_getElem]; intro i j hi hj hij; have hi' : i < d'.size := by simpa using hi
  have hj' : j < d'.size := by simpa using hj
  have := hsd i j (Nat.zero_le _) hij (by simp; omega); rw [D6s, getElem!_pos d' j hj', getElem!_pos d' i hi'] at this; simpa using this
 have hg' : w'.heap[g]? = some (.cells (A0k d'.toList ++ rest).toArray 45 (0, 0)) := by
  rw [hw]; show ((mapBlock (Go.Sort.ahead w n) g (putCells id 0 (flatK A0r 2 d'))).heap ++ os)[g]? = _; rw [Array.getElem?_append_left (by simp [mapBlock, Go.Sort.ahead]; exact hlt)]; simp only [mapBlock, Go.Sort.ahead, Array.getElem?_modify, if_true, hg, Option.map_some, onCells]; rw [E2e d' l rest hsize]
 have hold : ∀ b, b < w.heap.size → b ≠ g → w'.heap[b]? = w.heap[b]? := by
  intro b hb hne; rw [hw]; show ((mapBlock (Go.Sort.ahead w n) g (putCells id 0 (flatK A0r 2 d'))).heap ++ os)[b]? = _; rw [Array.getElem?_append_left (by simp [mapBlock, Go.Sort.ahead]; exact hb)]; simp only [mapBlock, Go.Sort.ahead, Array.getElem?_modify, if_neg (Ne.symm hne)]
 have hsz' : w.heap.size ≤ w'.heap.size := by rw [hw]; simp [sortWorldK, putRowK, Go.Sort.ahead]
 refine ⟨⟨d'.toList, hperm, hsorted⟩, he, ?_⟩; have h0 : St ⟨ok, A2v [A1t g (A0k l ++ rest) 45], w⟩ [] ([A1t g (A0k l ++ rest) 45]) w := hs
 refine h0.A9b (m' := A1t g (A0k d'.toList ++ rest) 45) ⟨by rw [hw]; rfl, by rw [hw]; rfl, by rw [hw]; rfl, hsz', fun b hb hn => hold b hb hn⟩ (fun w2 hw2 => by
  show w2.heap[g]? = _; rw [hw2 g rfl]; exact hg') (fun b hb => ?_)
 have hb : b = g := hb; subst hb; exact ⟨by omega, .inl rfl⟩
end Go.Hy
namespace Go.Hy
open Go.Proofs
set_option maxRecDepth 100000
theorem E2n {M : List Res} : M.Perm (M ++ []) := by rw [List.append_nil]
theorem D8y (l : List Cl) (a : SH) (c : FuncId) (cap : List Value) (FΓ : List Fact) (M : List Res) (g : Cl → Bool) (hc : ∀ (args : Array Value) (w : World), (callFunc c args).run Tryz.prog w = .ok (.enter c args) w) (hcl : ∀ x, x ∈ l → Spec Tryz.prog c (A5k x :: cap).toArray FΓ M (fun _ : Unit => .bool (g x)) (fun _ => []) (fun _ => M)) : Spec Tryz.prog 220 #[sl a l.length, .func (.func c) #[] cap.toArray] (CL l a :: FΓ) M (fun _ : Unit => .int .i64 (F4n g l)) (fun _ => []) (fun _ => M) := by
 refine A0e (args := [sl a l.length, .func (.func c) #[] cap.toArray]) Tryz.func220 Tryz.ntmps220 rfl lb_ fun B hB => ?_
 refine A0f (l := l) (a := a) (fun hl1 hA1 hU1 => ?_); refine z171 ?_; refine A3z (X := Nat) (fun i => i ≤ l.length ∧ ∀ j, j < i → g (l.getD j cl0) = false) (fun i => [(0, sl a l.length), (1, .func (.func c) #[] cap.toArray), (7, .int .i64 (l.length : Int)), (8, .int .i64 (i : Int))]) (fun i => CL l a :: FΓ) (fun i => M) (fun i => l.length - i) (0) (⟨Nat.zero_le _, fun j hj => by omega⟩) (by exact ⟨rfl, rfl, rfl, rfl, trivial⟩) ?_ ?_
 ·exact fun w hs => hs
 ·intro i base0 ⟨hi, hok⟩ next0; refine z119 ?_; refine A0a (fun h9 => ?_) (fun h9 => ?_)
  ·have hlt : i < l.length := by have := of_decide_eq_true h9; omega
   obtain ⟨bk, o, hav⟩ := hA1 (by omega); refine z86 ?_; refine z135 ?_; refine z107 ?_; refine z151 ?_; refine z36 ?_; refine q0 rfl (A6j hc (hcl _ (A0n hlt)) (cap := cap) (fun x16 => ?_) (hm := E2n)); refine z1 ?_; refine A0a (fun h16 => ?_) (fun h16 => ?_)
   ·refine z135 ?_; refine A1r Tryz.func220 Tryz.results220 wn_ () (by rw [F4m hlt h16 hok]) (fun w hs => (hs.less (by simp)).A2x)
   ·refine z134 ?_; refine A0b (fun w hs => ?_) (next0 (i + 1) _ ⟨hlt, fun j hj => (by rcases Nat.lt_succ_iff_lt_or_eq.mp hj with h | h; exact hok j h; subst h; exact h16)⟩ (by omega) ⟨rfl, rfl, rfl, rfl, trivial⟩); exact (hs.less (by simp +contextual)).A2x
  ·have hge : i = l.length := by have := of_decide_eq_false h9; omega
   refine z162 ?_; refine A1r Tryz.func220 Tryz.results220 wn_ () (by rw [E4v (by rw [← hge]; exact hok)]) (fun w hs => hs.less (by simp))
theorem B6z (l : List Cl) (a : SH) (c : FuncId) (cap : List Value) (FΓ : List Fact) (M : List Res) (g : Cl → Bool) (hc : ∀ (args : Array Value) (w : World), (callFunc c args).run Tryz.prog w = .ok (.enter c args) w) (hcl : ∀ x, x ∈ l → Spec Tryz.prog c (A5k x :: cap).toArray FΓ M (fun _ : Unit => .bool (g x)) (fun _ => []) (fun _ => M)) : Spec Tryz.prog 166 #[sl a l.length, .func (.func c) #[] cap.toArray] (CL l a :: FΓ) M (fun _ : Unit => .bool (l.any g)) (fun _ => []) (fun _ => M) := by
 refine A0e (args := [sl a l.length, .func (.func c) #[] cap.toArray]) Tryz.func166 Tryz.ntmps166 rfl lb_ fun B hB => ?_
 refine z72 ?_; refine z107 ?_; refine q0 rfl (A0c Tryz.call220 (D8y l a c cap FΓ M g hc hcl) (fun x7 => ?_) (hm := E2n)); refine z52 ?_; refine z69 ?_; refine A1r Tryz.func166 Tryz.results166 wn_ () (by rw [D3r]) (fun w hs => (hs.less (by simp)).A2x)
theorem D0d (c d : Cl) (hc : u32 c) (hd : u32 d) (b : Nat) : Spec Tryz.prog 168 #[A5k d, .pointer (some ⟨b, 0, none⟩)] [] [A1t b (A0r c) 45] (fun _ : Unit => .bool (!decide (c = d) && below c d)) (fun _ => []) (fun _ => [A1t b (A0r c) 45]) := by
 refine A0e (args := [A5k d, .pointer (some ⟨b, 0, none⟩)]) Tryz.func168 Tryz.ntmps168 rfl lb_ fun B hB => ?_
 refine z68 ?_; refine q0 rfl (A2c fun b2 => ?_); refine z69 ?_; refine z113 ?_; refine z22 ?_; refine q0 rfl (G1p ?_ (c := c) (c' := d)); refine z3 ?_; refine qI rfl rfl rfl wl_ (fun hg7 => C2x ?_) (fun hg7 => ?_)
 ·refine qT rfl rfl rfl (C2x ?_); refine qT rfl rfl rfl (A0c Tryz.call169 (D9s c d hc hd) (fun x10 => ?_)); refine z114 ?_; refine A1r Tryz.func168 Tryz.results168 wn_ () (by simp_all) (fun w hs => (hs.less (by simp)).drop)
 ·refine z169 ?_; refine A1r Tryz.func168 Tryz.results168 wn_ () (by simp_all) (fun w hs => (hs.less (by simp)).drop)
theorem D3m (l : List Cl) (a : SH) (c : Cl) (hc : u32 c) (b : Nat) : Spec Tryz.prog 167 #[A5k c, .pointer (some ⟨b, 0, none⟩)] [CL l a] [A1t b [sl a l.length] 25] (fun _ : Unit => .bool (A1w l c)) (fun _ => []) (fun _ => [A1t b [sl a l.length] 25]) := by
 refine A0e (args := [A5k c, .pointer (some ⟨b, 0, none⟩)]) Tryz.func167 Tryz.ntmps167 rfl lb_ fun B hB => ?_
 refine A0f (l := l) (a := a) (fun hl1 hA1 hU1 => ?_); refine z68 ?_; refine q0 rfl (A2c fun b2 => ?_); refine z69 ?_; refine z187 ?_; refine z44 ?_; refine q0 rfl (A0c Tryz.call166 (B6z l a 168 [.pointer (some ⟨b2, 0, none⟩)] [] [A1t b2 (A0r c) 45] (fun d => !decide (c = d) && below c d) Tryz.call168 (fun d hd => D0d c d hc (hU1 d hd) b2)) (fun x6 => ?_)); refine z69 ?_; refine A1r Tryz.func167 Tryz.results167 wn_ () rfl (fun w hs => (hs.less (by simp)).drop)
end Go.Hy
namespace Go.Hy
open Go.Proofs
set_option maxRecDepth 100000
theorem C2n (l : List Cl) (c : Cl) : A0k (l ++ [c]) = A0k l ++ A0r c := by simp [A0k]
/-- slices.SortFunc at a row of the call's own. -/
theorem C8g (l : List Cl) (a : SH) (n : Nat) (hn : n = l.length) (hb : n * 8 ≤ reach) :
  Spec Tryz.prog 170 #[sl a n, .func (.func 171) #[] #[]] [] [A1q 2 45 a n (A0k l)] (fun _ : {l' : List Cl // D7c l l'} => .tuple #[]) (fun _ => []) (fun x => [A1q 2 45 a n (A0k x.1)]) := by
 subst hn; intro ok w hok hs; have hown : w.ownsRow 0 45 2 (sl a l.length) l.length (A0k l) := hs.res _ List.mem_cons_self w (fun _ _ => rfl); rcases hown.2 with ⟨h1, h2⟩ | ⟨g, cap, cur, h1, h2, h3, h4, h5, h6, h7⟩
 ·have hl : l = [] := List.eq_nil_of_length_eq_zero h2; subst hl; have hc := AnyF.slices_SortFunc_none (P := Tryz.prog) Tryz.F6h a.1 a.2 (.func (.func 171) #[] #[]) w; have hc2 : Calls Tryz.prog 170 #[sl a 0, .func (.func 171) #[] #[]] w _ := hc; refine hc2.mono ?_; rintro e w' ⟨he, hw⟩; subst hw; exact ⟨⟨[], List.Perm.refl _, List.Pairwise.nil⟩, he, hs⟩
 ·obtain ⟨ao, ac⟩ := a; have e1 : ao = some ⟨g, 0, none⟩ := by injection h1
  have e2 : ac = cap := by injection h1
  subst e1; subst e2
  have hfl : cur.toList = A0k l ++ cur.toList.drop (l.length * 2) := by
   have := List.take_append_drop (l.length * 2) cur.toList; rw [h7] at this; exact this.symm
  have hbox : St ⟨ok, A2v [A1q 2 45 (some ⟨g, 0, none⟩, ac) l.length (A0k l)], w⟩ [] [A1t g (A0k l ++ cur.toList.drop (l.length * 2)) 45] w := by
   refine hs.A9b (m' := A1t g (A0k l ++ cur.toList.drop (l.length * 2)) 45) (Chg.refl _ _) (fun w2 hw2 => ?_) (fun b hb => ?_)
   ·show w2.heap[g]? = _; rw [hw2 g rfl, ← hfl, Array.toArray_toList]; exact h3
   ·have hb : b = g := hb; subst hb; exact ⟨(Array.getElem?_eq_some_iff.mp h3).1, .inl rfl⟩
  have hdom : ∀ b, A2v [A1q 2 45 (some ⟨g, 0, none⟩, ac) l.length (A0k l)] b ↔ A2v [A1t g (A0k l ++ cur.toList.drop (l.length * 2)) 45] b := by
   intro b; rw [A5q, A5q]
   have : (A1q 2 45 (some ⟨g, 0, none⟩, ac) l.length (A0k l)).dom b ↔ b = g := by
    show (sl (some ⟨g, 0, none⟩, ac) l.length).ownBlock = some b ↔ b = g; simp only [sl, Value.ownBlock, Option.some.injEq]; exact eq_comm
   rw [this]; rfl
  have hd2 : A2v [A1q 2 45 (some ⟨g, 0, none⟩, ac) l.length (A0k l)] = A2v [A1t g (A0k l ++ cur.toList.drop (l.length * 2)) 45] := funext fun b => propext (hdom b)
  rw [hd2] at hbox; refine (E1c l g ac (cur.toList.drop (l.length * 2)) (by unfold reach at hb; omega) ok w (fun b hb => ⟨(hok b hb).1, by rw [← hd2]; exact (hok b hb).2⟩) hbox).mono ?_; rintro e w' ⟨x, he, hs'⟩; refine ⟨⟨x.1, x.2.1, x.2.2⟩, he, ?_⟩; rw [hd2]; have hlen : x.1.length = l.length := x.2.1.length_eq; have hg : w'.heap[g]? = some (.cells (A0k x.1 ++ cur.toList.drop (l.length * 2)).toArray 45 (0, 0)) := hs'.res _ List.mem_cons_self w' (fun _ _ => rfl); have hfl2 : (A0k x.1).length = l.length * 2 := by rw [B4j A4q, hlen]
  refine hs'.A9b (m' := A1q 2 45 (some ⟨g, 0, none⟩, ac) l.length (A0k x.1)) (Chg.refl _ _) (fun w2 hw2 => ⟨hfl2, .inr ⟨g, ac, (A0k x.1 ++ cur.toList.drop (l.length * 2)).toArray, rfl, Nat.zero_le _, ?_, h4, h5, ?_, ?_⟩⟩) (fun b hb => ?_)
  ·rw [hw2 g rfl]; exact hg
  ·have h8 : cur.toList.length = ac * 2 := by simpa using h6
   simp only [List.size_toArray, List.length_append, List.length_drop, hfl2, h8]; omega
  ·rw [← hfl2, List.take_left]
  ·have hb : (sl (some ⟨g, 0, none⟩, ac) l.length).ownBlock = some b := hb; simp only [sl, Value.ownBlock, Option.some.injEq] at hb; subst hb; exact ⟨(Array.getElem?_eq_some_iff.mp hg).1, .inl rfl⟩
theorem D0b (l : List Cl) (a : SH) : Spec Tryz.prog 90 #[sl a l.length] [CL l a] [] (fun x : {x : SH × Int × List Cl // B0a l x.2} => .tuple #[sl x.1.1 x.1.2.2.length, .int .i64 x.1.2.1]) (fun _ => []) (fun x => [A1q 2 45 x.1.1 x.1.2.2.length (A0k x.1.2.2)]) := by
 refine A0e (args := [sl a l.length]) Tryz.func90 Tryz.ntmps90 rfl lb_ fun B hB => ?_
 refine A0f (l := l) (a := a) (fun hl1 hA1 hU1 => ?_); refine z80 ?_; refine z68 ?_; refine q0 rfl (E3t fun b12 => ?_); refine z69 ?_; refine z68 ?_; refine q0 rfl (A2s fun b5 => ?_); refine z1 ?_; refine z74 ?_; refine z124 ?_; refine A3z (X := Nat × SH) (fun s => s.1 ≤ l.length ∧ ∀ j, j < s.1 → A0q (l.getD j cl0) = true) (fun s => [(4, .map (some b12)), (5, .pointer (some ⟨b5, 0, none⟩)), (13, sl a l.length), (14, .int .i64 (l.length : Int)), (15, .int .i64 (s.1 : Int))]) (fun s => [CL l a]) (fun s => [E4j b12 (once (l.take s.1)), A1t b5 [sl s.2 (once (l.take s.1)).length] 25, A1q 2 45 s.2 (once (l.take s.1)).length (A0k (once (l.take s.1)))]) (fun s => l.length - s.1) ((0, (none, 0))) (⟨Nat.zero_le _, fun j hj => absurd hj (Nat.not_lt_zero _)⟩) (by exact ⟨rfl, rfl, rfl, rfl, rfl, trivial⟩) ?_ ?_
 ·exact fun w hs => ((hs.less (by simp)).A2r 2 45).perm (A4n.trans ((List.Perm.swap _ _ _).cons _))
 ·intro ⟨i, aO⟩ base0 ⟨hi, hok⟩ next0; dsimp only at hi hok next0 ⊢; refine z119 ?_; refine A0a (fun h16 => ?_) (fun h16 => ?_)
  ·have hlt : i < l.length := by have := of_decide_eq_true h16; omega
   obtain ⟨bk, o, hav⟩ := hA1 (by omega); have hu := hU1 _ (A0n (d := cl0) hlt); have hol := C6g l i; refine z139 ?_; refine z37 ?_; refine z36 ?_; refine q0 rfl (A2s fun b7 => ?_); refine z149 ?_; refine z113 ?_; refine q0 rfl (A0c Tryz.call33 (A9x (l.getD i cl0) hu) (fun x20 => ?_)); refine z121 ?_; refine A0a (fun h21 => ?_) (fun h21 => ?_)
   ·have hr : A0q (l.getD i cl0) = false := by simpa using h21
    refine z80 ?_; refine A1x Tryz.func90 Tryz.results90 wn_ wn_ ⟨((none, 0), 2, []), by (unfold B0a; rw [F5e hlt hr]; rfl)⟩ rfl (fun w hs => (hs.less (Γ' := []) (by simp)).bare.A2r 2 45)
   ·have hr : A0q (l.getD i cl0) = true := by simpa using h21
    refine z155 ?_; refine z22 ?_; refine q0 rfl (E3u ?_); refine z121 ?_; refine A0a (fun h25 => ?_) (fun h25 => ?_)
    ·have hnin : l.getD i cl0 ∉ once (l.take i) := by simpa using h25
     refine z70 ?_; refine z22 ?_; refine q0 rfl (E8g ?_); refine z1 ?_; refine gR_ ?_; refine z13 ?_; refine z22 ?_; refine q0 rfl (A3g fun b30 => ?_); refine q0 rfl (A4p (fun a31 => ?_)  ); refine z91 ?_; refine z105 ?_; have hst := B4x hlt; rw [if_neg hnin] at hst; have hlen' : (once (l.take (i + 1))).length = (once (l.take i)).length + 1 := by rw [hst]; simp
     refine A0b (fun w hs => ?_) (next0 (i + 1, a31) _ ⟨hlt, fun j hj => (by rcases Nat.lt_succ_iff_lt_or_eq.mp hj with h | h; exact hok j h; subst h; exact hr)⟩ (by simp only; omega) ⟨rfl, rfl, rfl, rfl, rfl, trivial⟩); dsimp only; rw [hlen', hst, C2n]; exact ((hs.less (by simp)).perm A6i).A2x (A := [_, _, _])
    ·refine z134 ?_; have hin : l.getD i cl0 ∈ once (l.take i) := by simpa using h25
     have hst := B4x hlt; rw [if_pos hin] at hst; refine A0b (fun w hs => ?_) (next0 (i + 1, aO) _ ⟨hlt, fun j hj => (by rcases Nat.lt_succ_iff_lt_or_eq.mp hj with h | h; exact hok j h; subst h; exact hr)⟩ (by simp only; omega) ⟨rfl, rfl, rfl, rfl, rfl, trivial⟩); dsimp only; rw [hst]; exact (hs.less (by simp)).drop
  ·have hge : i = l.length := by have := of_decide_eq_false h16; omega
   have hall : l.all A0q = true := G0h (by rw [← hge]; exact hok); subst hge; rw [List.take_length]; have hUo : ∀ c, c ∈ once l → u32 c := fun c hc => hU1 c ((B4b c l).mp hc)
   have hol := B9w l; refine A0b (fun w hs => ((hs.perm A4n).A1g hB rfl rfl (by omega) hUo)) ?_; refine z16 ?_; refine z68 ?_; refine z44 ?_; refine z69 ?_; refine z191 ?_; refine z187 ?_; refine z124 ?_; refine A3z (X := Nat × SH) (fun s => s.1 ≤ (once l).length) (fun s => [(8, .func (.func 167) #[] [.pointer (some ⟨b5, 0, none⟩)].toArray), (9, sl s.2 (A7f l s.1).length), (34, sl aO (once l).length), (35, .int .i64 ((once l).length : Int)), (36, .int .i64 (s.1 : Int))]) (fun s => [CL (once l) aO]) (fun s => [A1t b5 [sl aO (once l).length] 25, A1q 2 45 s.2 (A7f l s.1).length (A0k (A7f l s.1))]) (fun s => (once l).length - s.1) ((0, (none, 0))) (Nat.zero_le _) (by exact ⟨rfl, rfl, rfl, rfl, rfl, trivial⟩) ?_ ?_
   ·exact fun w hs => (((hs.less (by simp +contextual)).A2r 2 45).perm A4n).A2x (A := [_, _])
   ·intro ⟨i, aK⟩ base1 hi next1; dsimp only at hi next1 ⊢; refine z119 ?_; refine A0a (fun h37 => ?_) (fun h37 => ?_)
    ·have hlt : i < (once l).length := by have := of_decide_eq_true h37; omega
     refine A0f (l := once l) (a := aO) (fun _ hA2 _ => ?_); obtain ⟨bk, o, hav⟩ := hA2 (by omega); have hu := hUo _ (A0n (d := cl0) hlt); have hkl := D0e l i; refine z139 ?_; refine z37 ?_; refine z36 ?_; refine q0 rfl (A2s fun b11 => ?_); refine z91 ?_; refine z70 ?_; refine z22 ?_; refine q0 rfl (A6j Tryz.call167 (D3m (once l) aO ((once l).getD i cl0) hu b5) (cap := [.pointer (some ⟨b5, 0, none⟩)]) (fun x42 => ?_)); refine z121 ?_; refine A0a (fun h43 => ?_) (fun h43 => ?_)
     ·refine z73 ?_; refine z22 ?_; refine q0 rfl (A3g fun b46 => ?_); refine q0 rfl (A4p (fun a47 => ?_)  ); refine z154 ?_; have hnd : A1w (once l) ((once l).getD i cl0) = false := by simpa using h43
      have hst := B6w hlt; rw [hnd, if_neg (by decide)] at hst; have hlen' : (A7f l (i + 1)).length = (A7f l i).length + 1 := by rw [hst]; simp
      refine A0b (fun w hs => ?_) (next1 (i + 1, a47) _ hlt (by simp only; omega) ⟨rfl, by rw [hlen']; rfl, rfl, rfl, rfl, trivial⟩); dsimp only; rw [hlen', hst, C2n]; exact ((hs.less (by simp)).perm A4n).A2x (A := [_, _])
     ·refine z134 ?_; have hnd : A1w (once l) ((once l).getD i cl0) = true := by simpa using h43
      have hst := B6w hlt; rw [hnd, if_pos rfl] at hst; refine A0b (fun w hs => ?_) (next1 (i + 1, aK) _ hlt (by simp only; omega) ⟨rfl, by rw [hst]; rfl, rfl, rfl, rfl, trivial⟩); dsimp only; rw [hst]; exact (hs.less (by simp)).A2x (A := [_, _])
    ·have hge2 : i = (once l).length := by have := of_decide_eq_false h37; omega
     subst hge2; rw [D0f]; refine z16 ?_; refine z74 ?_; refine z20 ?_; refine z48 ?_; refine z1 ?_; refine A0a (fun h51 => ?_) (fun h51 => ?_)
     ·have h64 : 64 < (kept l).length := by have := of_decide_eq_true h51; omega
      refine z80 ?_; refine A1x Tryz.func90 Tryz.results90 wn_ wn_ ⟨((none, 0), 3, []), by (unfold B0a; rw [hall, if_neg (by decide), if_pos h64])⟩ rfl (fun w hs => (hs.less (Γ' := []) (by simp)).bare.A2r 2 45)
     ·have h64 : ¬ 64 < (kept l).length := by have := of_decide_eq_false h51; omega
      refine z155 ?_; refine q0 rfl (A0c Tryz.call170 (C8g (kept l) aK (kept l).length rfl (by unfold reach; omega)) (fun x53 => ?_)); refine z1 ?_; refine z90 ?_; have hpl : x53.1.length = (kept l).length := x53.2.1.length_eq; refine A1x Tryz.func90 Tryz.results90 wn_ wn_ ⟨(aK, 0, x53.1), by (unfold B0a; rw [hall, if_neg (by decide), if_neg h64]; exact ⟨rfl, x53.2⟩)⟩ (by rw [hpl]; rfl) (fun w hs => ?_); have h := (hs.less (Γ' := []) (by simp)).A2x (A := [_]); rw [← hpl] at h; exact h
theorem D8u (l : List Cl) (a : SH) : Spec Tryz.prog 90 #[sl a l.length] [CL l a] [] (fun x : {x : SH × Int × List Cl // B0a l x.2} => .tuple #[sl x.1.1 x.1.2.2.length, .int .i64 x.1.2.1]) (fun x => [CL x.1.2.2 x.1.1]) (fun _ => []) := fun ok w hok hs => (D0b l a ok w hok hs).mono fun e w' h => by
 obtain ⟨x, he, hs'⟩ := h; have hu := (hs.facts _ List.mem_cons_self).2
 have hx : x.1.2.2.length ≤ 64 ∧ ∀ c, c ∈ x.1.2.2 → u32 c := by
  have h := x.2; unfold B0a at h; split at h
  ·rw [h]; exact ⟨Nat.zero_le _, fun c hc => by cases hc⟩
  ·split at h
   ·rw [h]; exact ⟨Nat.zero_le _, fun c hc => by cases hc⟩
   ·rename_i h64; exact ⟨by rw [h.2.1.length_eq]; omega, fun c hc => hu c (E8x (h.2.1.mem_iff.mp hc))⟩
 exact ⟨x, he, (hs'.A1g trivial rfl rfl (by unfold reach; omega) hx.2).less (by simp)⟩
end Go.Hy
namespace Go.Hy
open Go.Proofs
set_option maxRecDepth 100000
theorem D9f (l m : List Cl) (a b : SH) : Spec Tryz.prog 194 #[sl a l.length, sl b m.length] [CL l a, CL m b] [] (fun _ : Unit => .bool (decide (l = m))) (fun _ => []) (fun _ => []) := by
 refine A0e (args := [sl a l.length, sl b m.length]) Tryz.func194 Tryz.ntmps194 rfl lb_ fun B hB => ?_
 refine A0f (l := l) (a := a) (fun hl1 hA1 hU1 => ?_); refine A0f (l := m) (a := b) (fun hl2 hA2 hU2 => ?_); refine z140 ?_; refine z20 ?_; refine z3 ?_; refine z20 ?_; refine z84 ?_; refine A0a (fun h10 => ?_) (fun h10 => ?_)
 ·have hne : ¬ l = m := fun e => by subst e; simp at h10
  refine z72 ?_; refine A1r Tryz.func194 Tryz.results194 wn_ () (by rw [decide_eq_false hne]) (fun w hs => hs.none)
 ·have hlen : l.length = m.length := by simp at h10; omega
  refine z167 ?_; refine z124 ?_; refine A3z (X := Nat) (fun i => i ≤ l.length ∧ ∀ j, j < i → l.getD j cl0 = m.getD j cl0) (fun i => [(0, sl a l.length), (1, sl b m.length), (12, .int .i64 (l.length : Int)), (13, .int .i64 (i : Int))]) (fun i => [CL l a, CL m b]) (fun i => []) (fun i => l.length - i) (0) (⟨Nat.zero_le _, fun j hj => by omega⟩) (by exact ⟨rfl, rfl, rfl, rfl, trivial⟩) ?_ ?_
  ·exact fun w hs => hs.less (by simp +contextual)
  ·intro i base0 ⟨hi, hok⟩ next0; refine z119 ?_; refine A0a (fun h14 => ?_) (fun h14 => ?_)
   ·have hlt : i < l.length := by have := of_decide_eq_true h14; omega
    have hlt2 : i < m.length := by omega
    obtain ⟨bk, o, hav⟩ := hA1 (by omega); obtain ⟨bk2, o2, hav2⟩ := hA2 (by omega); refine z86 ?_; refine z70 ?_; refine z101 ?_; refine A2a (pn := 1000000) (tn := false) (A := [0, 0, 3, 7, 0, 0, 48, 112, 255]) (l := [0, 1, 2, 3, 4, 5, 6, 7, 8]) (fin := []) Tab.mixed ⟨_, Tryz.func194⟩ (by rfl) ?_; refine z126 ?_; refine n0 rfl (A7x ?_); refine z57 ?_; refine z126 ?_; refine n0 rfl (A7x ?_); refine z57 ?_; refine n0 rfl (E6q ?_); refine z93 ?_; refine A0a (fun h24 => ?_) (fun h24 => ?_)
    ·refine z72 ?_; refine A1r Tryz.func194 Tryz.results194 wn_ () (by rw [decide_eq_false (fun e => by subst e; simp at h24)]) (fun w hs => hs.none)
    ·refine z134 ?_; have hb : l.getD i cl0 = m.getD i cl0 := by simpa using h24
     refine A0b (fun w hs => ?_) (next0 (i + 1) _ ⟨hlt, fun j hj => (by rcases Nat.lt_succ_iff_lt_or_eq.mp hj with h | h; exact hok j h; subst h; exact hb)⟩ (by omega) ⟨rfl, rfl, rfl, rfl, trivial⟩); exact hs
   ·have hge : i = l.length := by have := of_decide_eq_false h14; omega
    refine z162 ?_; refine A1r Tryz.func194 Tryz.results194 wn_ () (by rw [decide_eq_true (B4f hlen (by rw [← hge]; exact hok))]) (fun w hs => hs.none)
end Go.Hy
namespace Go.Hy
open Go.Proofs
set_option maxRecDepth 100000
theorem A6f : F2d := by
 intro l a; refine A0e (args := [sl a l.length]) Tryz.func137 Tryz.ntmps137 rfl lb_ fun B hB => ?_
 refine A1y (p := True) (fun _ _ => trivial) (fun _ => ?_); refine z136 ?_; refine q0 rfl (A0c Tryz.call90 (D8u l a) (fun x7 => ?_)); refine z88 ?_; refine z70 ?_; refine z143 ?_; refine qI rfl rfl rfl wl_ (fun hg12 => A2u ?_) (fun hg12 => ?_)
 ·refine z24 ?_; refine qT rfl rfl rfl (A0c Tryz.call194 (D9f x7.1.2.2 l x7.1.1 a) (fun x15 => ?_)); refine z114 ?_; have hlr := B5p x7.2; refine A1r Tryz.func137 Tryz.results137 wn_ () (by rw [← hlr]; simp_all) (fun w hs => hs.none)
 ·refine z169 ?_; have hlr := B5p x7.2; refine A1r Tryz.func137 Tryz.results137 wn_ () (by rw [← hlr]; simp_all) (fun w hs => hs.none)
theorem B5b : D1r := by
 intro l a; refine A0e (args := [sl a l.length]) Tryz.func88 Tryz.ntmps88 rfl lb_ fun B hB => ?_
 refine A0f (l := l) (a := a) (fun hl1 hA1 hU1 => ?_); refine z136 ?_; refine q0 rfl (A0c Tryz.call137 (A6f l a) (fun x4 => ?_)); refine z3 ?_; refine qI rfl rfl rfl wl_ (fun hg5 => A2u ?_) (fun hg5 => ?_)
 ·refine qT rfl rfl rfl (A0c Tryz.call166 (B6z l a 34 [] [] [] A5s Tryz.call34 (fun x hx => B8l x (hU1 x hx))) (fun x7 => ?_)); refine z40 ?_; refine z114 ?_; refine A1r Tryz.func88 Tryz.results88 wn_ () (by simp_all [A0d]) (fun w hs => hs.none)
 ·refine z169 ?_; refine A1r Tryz.func88 Tryz.results88 wn_ () (by simp_all [A0d]) (fun w hs => hs.none)
theorem D0h : F5p := ⟨A6f, B5b, B8g⟩
end Go.Hy
namespace Go.Hy
open Go.Proofs
set_option maxRecDepth 100000
theorem F9y {q i : Nat} (h : q < 16777216) : q / 2 ^ (i + 1) * 2 ^ i < 16777216 := by
 have h1 : q / 2 ^ (i + 1) * 2 ^ i ≤ q / 2 ^ i * 2 ^ i := Nat.mul_le_mul_right _ (Nat.div_le_div_left (Nat.pow_le_pow_right (by omega) (by omega)) (Nat.pow_pos (by omega))); have h2 := Nat.div_mul_le_self q (2 ^ i); omega
theorem D8d {m : Nat} (h : m ≤ 24) : 2 ^ m ≤ 16777216 := Nat.pow_le_pow_right (n := 2) (j := 24) (by omega) h
theorem D4c (i : Int) (h0 : 0 ≤ i) : Spec Tryz.prog 177 #[.int .i64 (i)] [] [] (fun _ : Unit => .int .u32 (((2 ^ (min i.toNat 24) - 1) : Nat) : Int)) (fun _ : Unit => []) (fun _ : Unit => []) := by
 refine A0e (args := [.int .i64 (i)]) Tryz.func177 Tryz.ntmps177 rfl lb_ fun B hB => ?_
 have hp := D8d (m := min i.toNat 24) (by omega); have hpos : 0 < 2 ^ (min i.toNat 24) := Nat.pow_pos (by omega); refine z136 ?_; refine q0 rfl (G1r ?_); refine q0 rfl (B1f ?_ (m := min i.toNat 24) (ha := by split <;> omega)); refine q0 rfl (E3q ?_ (a := 1) (m := min i.toNat 24) (hm := by omega) (hb := by omega)); refine q0 rfl (F7j ?_ (a := 1 * 2 ^ (min i.toNat 24)) (b := 1) (h := by omega) (ha := by omega)); refine q0 rfl (D5w ?_ (a := 1 * 2 ^ (min i.toNat 24) - 1) (ha := by omega)); refine z69 ?_; refine A1r Tryz.func177 Tryz.results177 wn_ () (by rw [Nat.one_mul]) (fun w hs => hs.none)
theorem D1d (s : Nat) (i : Int) (hs : s < 4294967296) (hi : A2j i) : Spec Tryz.prog 100 #[.int .u32 ((s : Nat) : Int), .int .i64 (i)] [] [] (fun _ : Unit => .int .u32 (((A9a s i) : Nat) : Int)) (fun _ : Unit => []) (fun _ : Unit => []) := by
 refine A0e (args := [.int .u32 ((s : Nat) : Int), .int .i64 (i)]) Tryz.func100 Tryz.ntmps100 rfl lb_ fun B hB => ?_
 have hs24 := A7q s; refine z136 ?_; refine q0 rfl (A9f ?_ (a := s) (b := 16777215)); refine z69 ?_; refine z74 ?_; refine q0 rfl (A0c Tryz.call176 (A7n i ) (fun x8 => ?_)); refine z121 ?_; refine A0a (fun h9 => ?_) (fun h9 => ?_)
 ·have c9 := sm_ (p := (!(decide (0 ≤ i) && decide (i < 24))) = true) h9; refine z135 ?_; refine A1r Tryz.func100 Tryz.results100 wn_ () (by rw [A9a, if_neg (by simp at h9; omega)]) (fun w hs => hs.none)
 ·have c9 := sm_ (p := (!(decide (0 ≤ i) && decide (i < 24))) = false) h9; have hp := D8d (m := min i.toNat 24) (by omega); have hpos : 0 < 2 ^ (min i.toNat 24) := Nat.pow_pos (by omega); have hmn : min i.toNat 24 = i.toNat := by omega
  have hlt32 : (s &&& 16777215) / 2 ^ (i.toNat + 1) * 2 ^ i.toNat < 16777216 := F9y (i := i.toNat) hs24; refine z148 ?_; refine q0 rfl (A0c Tryz.call177 (D4c i om_) (fun x13 => ?_)); refine q0 rfl (A9f ?_ (a := s &&& 16777215) (b := 2 ^ (min i.toNat 24) - 1) (ha := by omega) (hb := by omega)); refine z133 ?_; refine z8 ?_; refine q0 rfl (B1f ?_ (m := i.toNat + 1) (ha := by omega)); refine q0 rfl (C6j ?_ (a := s &&& 16777215) (m := i.toNat + 1)); refine z3 ?_; refine q0 rfl (B1f ?_ (m := i.toNat) (ha := by omega)); refine q0 rfl (C6k ?_ (a := (s &&& 16777215) / 2 ^ (min (i.toNat + 1) 32)) (m := i.toNat)); refine q0 rfl (B2k ?_ (ha := by exact Nat.lt_of_le_of_lt Nat.and_le_left (by omega)) (hb := by exact Nat.mod_lt _ (by omega))); refine z69 ?_; refine A1r Tryz.func100 Tryz.results100 wn_ () (by rw [A9a, if_pos (by omega), hmn, show min (i.toNat + 1) 32 = i.toNat + 1 by omega, show min i.toNat 32 = i.toNat by omega, Nat.mod_eq_of_lt (by omega)]) (fun w hs => hs.none)
end Go.Hy
