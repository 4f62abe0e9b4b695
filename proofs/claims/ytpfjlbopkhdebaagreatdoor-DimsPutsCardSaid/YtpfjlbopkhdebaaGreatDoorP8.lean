/- Contracts of this program's functions and the laws that they need: a separation logic over the machine's rules, one theorem each (partly printed by a program of this repository). -/
import Derived.RangeFuncNested
import Derived.RangeFuncBound
import Derived.RangeFuncCalls
import Derived.RangeFuncLeaves
import Derived.RangeFuncBox
import Derived.Shelf.Abstract
import Derived.Shelf.RegionOpen
import Derived.WalkKit
import Derived.OwnWalkIn
import Derived.TacticsInMore
import Derived.LoopNIn
import Derived.LoopIn
import Derived.Maps.AppendAt
import Derived.Shelf.Spec.TrailingZeros
import Derived.Shelf.SlSortCmp.WholeK
import Derived.Tactics2
import Derived.Shelf.SlSortCmp.NoneTotal
import Derived.Test.YtpfjlbopkhdebaaGreatDoorP1
import Derived.Test.YtpfjlbopkhdebaaGreatDoorP2
import Derived.Test.YtpfjlbopkhdebaaGreatDoorP3
import Derived.Test.YtpfjlbopkhdebaaGreatDoorP4
import Derived.Test.YtpfjlbopkhdebaaGreatDoorP6
import Derived.Test.YtpfjlbopkhdebaaGreatDoorP7
set_option linter.unusedVariables false
set_option linter.unusedSimpArgs false
set_option linter.unusedSectionVars false
namespace Go.Hy
def B1j (c : Cl) (i : Nat) : List Cl := (if c.pos.testBit i then [⟨0, A7p i⟩] else []) ++ if c.neg.testBit i then [⟨A7p i, 0⟩] else []
def A6m (c : Cl) (n : Nat) : List Cl := (List.range n).flatMap (B1j c)
theorem B3w (c : Cl) (n : Nat) : A6m c (n + 1) = A6m c n ++ B1j c n := by
 unfold A6m
 rw [List.range_succ, List.flatMap_append]
 simp
theorem D8p (c : Cl) (i : Nat) : (B1j c i).length ≤ 2 := by
 unfold B1j
 split <;> split <;> simp
theorem C0q (c : Cl) : ∀ n, (A6m c n).length ≤ 2 * n
 | 0 => by simp [A6m]
 | n + 1 => by
  rw [B3w, List.length_append]
  have := C0q c n
  have := D8p c n
  omega
theorem D7d {c d : Cl} {n : Nat} : d ∈ A6m c n ↔ ∃ i, i < n ∧ (c.pos.testBit i = true ∧ d = ⟨0, A7p i⟩ ∨ c.neg.testBit i = true ∧ d = ⟨A7p i, 0⟩) := by
 unfold A6m
 rw [List.mem_flatMap]
 constructor
 ·rintro ⟨i, hi, hd⟩
  refine ⟨i, List.mem_range.mp hi, ?_⟩
  unfold B1j at hd
  rcases List.mem_append.mp hd with hd | hd
  ·split at hd
   ·rename_i h; exact .inl ⟨h, by simpa using hd⟩
   ·cases hd
  ·split at hd
   ·rename_i h; exact .inr ⟨h, by simpa using hd⟩
   ·cases hd
 ·rintro ⟨i, hi, h⟩
  refine ⟨i, List.mem_range.mpr hi, ?_⟩
  unfold B1j
  rcases h with ⟨h1, rfl⟩ | ⟨h1, rfl⟩
  ·rw [if_pos h1]; exact List.mem_append_left _ List.mem_cons_self
  ·rw [if_pos h1]; exact List.mem_append_right _ List.mem_cons_self
theorem B8c (c : Cl) (n : Nat) : (A6m c n).all A0u = true := List.all_eq_true.mpr fun d hd => by
 obtain ⟨i, _, h⟩ := D7d.mp hd
 have := B0k (i : Int)
 rcases h with ⟨_, rfl⟩ | ⟨_, rfl⟩
 ·exact A2z.mpr ⟨by show (0 : Nat) < _; omega, this⟩
 ·exact A2z.mpr ⟨this, by show (0 : Nat) < _; omega⟩
theorem E4i (c : Cl) : (E1d c).all A0u = true := List.all_eq_true.mpr fun d hd => by
 unfold E1d at hd
 rcases List.mem_append.mp hd with hd | hd
 ·obtain ⟨x, _, rfl⟩ := List.mem_map.mp hd
  exact A2z.mpr ⟨by show (0 : Nat) < _; omega, B0k _⟩
 ·obtain ⟨x, _, rfl⟩ := List.mem_map.mp hd
  exact A2z.mpr ⟨B0k _, by show (0 : Nat) < _; omega⟩
theorem F5t {c d : Cl} : d ∈ E1d c ↔ d ∈ A6m c 24 := by
 rw [D7d]
 unfold E1d
 rw [List.mem_append, List.mem_map, List.mem_map]
 constructor
 ·rintro (⟨x, hx, rfl⟩ | ⟨x, hx, rfl⟩)
  ·obtain ⟨h1, h2, h3⟩ := A5w.mp hx
   exact ⟨x.toNat, by omega, .inl ⟨h3, by rw [Int.toNat_of_nonneg h1]⟩⟩
  ·obtain ⟨h1, h2, h3⟩ := A5w.mp hx
   exact ⟨x.toNat, by omega, .inr ⟨h3, by rw [Int.toNat_of_nonneg h1]⟩⟩
 ·rintro ⟨i, hi, ⟨h, rfl⟩ | ⟨h, rfl⟩⟩
  ·exact .inl ⟨i, A5w.mpr ⟨by omega, by omega, by rw [Int.toNat_natCast]; exact h⟩, rfl⟩
  ·exact .inr ⟨i, A5w.mpr ⟨by omega, by omega, by rw [Int.toNat_natCast]; exact h⟩, rfl⟩
theorem C6k (c : Cl) : A0p (A6m c 24) = C4x c :=
 D9y (fun _ _ => True) (B8c c 24) (E4i c) (fun _ _ => trivial) (fun _ _ => trivial) fun P N _ => by
  unfold sat
  exact exists_congr fun d => and_congr_left fun _ => F5t.symm
theorem C0t (c : Cl) : (C4x c).1 = 0 := by
 rw [← C6k]
 exact C2u (B8c c 24) (by have := C0q c 24; omega)
theorem F4e {i : Nat} (h : i < 24) : B2p [(i : Int)] = A7p i := by
 unfold A7p
 rw [if_pos oo_]
 simp [B2p]
def A6e (f g : List Cl) (i : Nat) : List Cl := B0h (f.take i) g
theorem D1b {f g : List Cl} {i : Nat} (h : i < f.length) : A6e f g (i + 1) = A6e f g i ++ g.map (A4q (f.getD i cl0)) := by
 unfold A6e B0h
 rw [A0f (d := cl0) h, List.flatMap_append]
 simp
theorem D7e {f g : List Cl} : ∀ i, (A6e f g i).length ≤ i * g.length
 | 0 => by simp [A6e, B0h]
 | i + 1 => by
  have := D7e (f := f) (g := g) i
  by_cases h : i < f.length
  ·rw [D1b h, List.length_append, List.length_map, Nat.add_mul, Nat.one_mul]; omega
  ·have e : A6e f g (i + 1) = A6e f g i := by unfold A6e; rw [List.take_of_length_le oo_, List.take_of_length_le oo_]
   rw [e, Nat.add_mul]; omega
def A2j (f g : List Cl) : EL := if (A0h f && A0h g) = false then (2, []) else A9w f g
def B3f (f g : List Cl) (i k : Nat) : List Cl := A6e f g i ++ (g.take k).map (A4q (f.getD i cl0))
theorem B0v (f g : List Cl) (i : Nat) : B3f f g i 0 = A6e f g i := by simp [B3f]
theorem C5g {f g : List Cl} {i k : Nat} (h : k < g.length) : B3f f g i (k + 1) = B3f f g i k ++ [A4q (f.getD i cl0) (g.getD k cl0)] := by
 unfold B3f
 rw [A0f (d := cl0) h, List.map_append, List.append_assoc]
 rfl
theorem D1d {f g : List Cl} {i : Nat} (h : i < f.length) : A6e f g (i + 1) = B3f f g i g.length := by
 rw [D1b h]; unfold B3f; rw [List.take_length]
theorem B7i {f g : List Cl} {i k : Nat} (hi : i ≤ f.length) (hf : f.length ≤ 64) (hg : g.length ≤ 64) : (B3f f g i k).length ≤ 5000 := by
 have h1 := D7e (f := f) (g := g) i
 have h2 : i * g.length ≤ 64 * 64 := Nat.mul_le_mul oo_ hg
 unfold B3f
 rw [List.length_append, List.length_map, List.length_take]
 omega
theorem C5e (f g : List Cl) : A6e f g f.length = B0h f g := by unfold A6e; rw [List.take_length]
theorem B9w {f g : List Cl} {i : Nat} (hf : f.all A0u = true) (hg : g.all A0u = true) : (A6e f g i).all A0u = true :=
 D2v (List.all_eq_true.mpr fun c hc => List.all_eq_true.mp hf c (List.mem_of_mem_take hc)) hg
def A5c (f g : List Cl) : EL := if (A0h f && A0h g) = false then (2, []) else A7h f g
theorem F8q (c : Cl) : A0h (C4x c).2 = true := A5m (C0t c)
theorem E9p {h : List Cl} {c : Cl} (hr : A0h h = true) : A2j h (C4x c).2 = A3c h c := by
 unfold A2j A3c
 rw [if_neg (by simp [hr, F8q]), A2k (C0t c)]
theorem D9u {f g : List Cl} (h : (A9w f g).1 ≠ 0) : (A9w f g).2 = [] := B3j h
def C5a (f : List Cl) (i : Nat) (h : List Cl) (e : Int) : Prop := (e = 0 ∧ B5s f = A4c A3c h (f.drop i) ∧ A0h h = true) ∨ (e ≠ 0 ∧ B5s f = (e, h))
theorem E9n (f : List Cl) : C5a f 0 [⟨0, 0⟩] 0 := .inl ⟨rfl, rfl, by decide⟩
theorem E9m {f h : List Cl} {i : Nat} (hi : i < f.length) (hv : C5a f i h 0) : C5a f (i + 1) (A2j h (C4x (f.getD i cl0)).2).2 (A2j h (C4x (f.getD i cl0)).2).1 := by
 rcases hv with ⟨_, h1, h2⟩ | ⟨h1, _⟩
 ·rw [E9p h2]
  rw [A8u cl0 hi, A4c] at h1
  by_cases h0 : (A3c h (f.getD i cl0)).1 = 0
  ·rw [A2k h0] at h1
   refine .inl ⟨h0, h1, ?_⟩
   unfold A3c at h0 ⊢
   rw [A2k (C0t _)] at h0 ⊢
   exact A5m h0
  ·rw [A2g h0] at h1
   refine .inr ⟨h0, ?_⟩
   have : (A3c h (f.getD i cl0)).2 = [] := by
    unfold A3c at h0 ⊢
    rw [A2k (C0t _)] at h0 ⊢
    exact D9u h0
   rw [h1, this]
 ·exact absurd rfl h1
theorem F5p {f h : List Cl} {i : Nat} {e : Int} (hv : C5a f i h e) (hi : e = 0 → f.length ≤ i) : B5s f = (e, h) := by
 rcases hv with ⟨h0, h1, _⟩ | ⟨_, h1⟩
 ·rw [h1, List.drop_eq_nil_of_le (hi h0), h0]; rfl
 ·exact h1
theorem E4n {f : List Cl} (h : A0h f = true) : ofF f = A0p (A6p f) := by
 unfold ofF
 rw [if_pos h, C2b (A8t h)]
theorem E9d {f : List Cl} (h : A0h f = false) : ofF f = (2, []) := by
 unfold ofF
 rw [if_neg (by simp [h])]
theorem D9s {f : List Cl} (h : (A6u f).1 = 0) : A0h (A6u f).2 = true := by
 unfold A6u at h ⊢
 split at h
 ·rename_i h1
  rw [if_pos h1]
  exact C5b h
 ·cases h
theorem E1h {f : List Cl} (h : (A6u f).1 = 0) : A1h f = A0p (A6p (A6u f).2) := by
 unfold A1h
 rw [A2k h, E4n (D9s h)]
theorem E7p {f : List Cl} (h : (A6u f).1 ≠ 0) : A1h f = ((A6u f).1, []) := A2g h
def A0x (f g : List Cl) : EL := if (A0d f && A0d g) = false then (2, []) else A0p (A6p (B0h f g))
def A5p (i : Int) (r : List Cl) (c : Cl) : EL := if A4l c.pos i = true then A2j [A0j c i] r else (0, [A0j c i])
def A4v (i : Int) (r : List Cl) (c : Cl) : EL := if (A5p i r c).1 = 0 ∧ A4l c.neg i = true then (if (A6u r).1 = 0 then A2j (A5p i r c).2 (A6u r).2 else ((A6u r).1, (A5p i r c).2)) else A5p i r c
def A2e (i : Int) (r h : List Cl) (c : Cl) : EL := if (A4v i r c).1 = 0 then A5c h (A4v i r c).2 else ((A4v i r c).1, h)
theorem C5f {f g : List Cl} (h : A0h f = true) (h2 : A0h g = true) : A2j f g = A9w f g := by unfold A2j; rw [if_neg (by simp [h, h2])]
theorem C5m {f g : List Cl} (h : A0h f = true) (h2 : A0h g = true) : A5c f g = A7h f g := by unfold A5c; rw [if_neg (by simp [h, h2])]
theorem D3i {c : Cl} (i : Int) : A0h [A0j c i] = true := G1m (D0f c i)
theorem E8k {i : Int} {r : List Cl} {c : Cl} (hr : A0h r = true) : A5p i r c = A4e i r c ∧ ((A4e i r c).1 = 0 → A0h (A4e i r c).2 = true) := by
 unfold A5p A4e
 split
 ·rw [C5f (D3i i) hr]
  exact ⟨rfl, fun h => A5m h⟩
 ·exact ⟨rfl, fun _ => D3i i⟩
theorem E2o {i : Int} {r h : List Cl} {c : Cl} (hr : A0h r = true) (hh : A0h h = true) : (A2e i r h c).1 = (A2i i r h c).1 ∧ ((A2i i r h c).1 = 0 → (A2e i r h c).2 = (A2i i r h c).2 ∧ A0h (A2i i r h c).2 = true) ∧ ((A2i i r h c).1 ≠ 0 → (A2i i r h c).2 = []) := by
 obtain ⟨p1, p2⟩ := E8k (i := i) (c := c) hr
 have hn : A6u r = B5s r := by unfold A6u; rw [if_pos hr]
 have q1 : ∀ (x : EL), A4v i r c = x → A2e i r h c = if x.1 = 0 then A5c h x.2 else (x.1, h) := fun x hx => by unfold A2e; rw [hx]
 by_cases a1 : (A4e i r c).1 = 0
 ·by_cases a2 : A4l c.neg i = true
  ·by_cases a3 : (B5s r).1 = 0
   ·have e2 : A4v i r c = A9w (A4e i r c).2 (B5s r).2 := by
     unfold A4v
     rw [p1, hn, if_pos ⟨a1, a2⟩, if_pos a3, C5f (p2 a1) (C5b a3)]
    have e3 : A8f i r c (A4e i r c).2 = A9w (A4e i r c).2 (B5s r).2 := by
     unfold A8f
     rw [if_pos a2, A2k a3]
    rw [q1 _ e2]
    by_cases a4 : (A9w (A4e i r c).2 (B5s r).2).1 = 0
    ·rw [if_pos a4, C5m hh (show A0h (A9w (A4e i r c).2 (B5s r).2).2 = true from A5m a4), A9e rfl a1 e3 a4]
     exact ⟨rfl, fun h0 => ⟨rfl, A5m h0⟩, fun h0 => B3j h0⟩
    ·rw [if_neg a4, A8e rfl a1 e3 a4]
     exact ⟨rfl, fun h0 => absurd h0 a4, fun _ => rfl⟩
   ·have e2 : A4v i r c = ((B5s r).1, (A4e i r c).2) := by
     unfold A4v
     rw [p1, hn, if_pos ⟨a1, a2⟩, if_neg a3]
    have e3 : A8f i r c (A4e i r c).2 = ((B5s r).1, []) := by
     unfold A8f
     rw [if_pos a2, A2g a3]
    rw [q1 _ e2, if_neg a3, A8e rfl a1 e3 a3]
    exact ⟨rfl, fun h0 => absurd h0 a3, fun _ => rfl⟩
  ·have e2 : A4v i r c = A4e i r c := by
    unfold A4v
    rw [p1, if_neg (fun h => a2 h.2)]
   have e3 : A8f i r c (A4e i r c).2 = (0, (A4e i r c).2) := by
    unfold A8f
    rw [if_neg a2]
   rw [q1 _ e2, if_pos a1, C5m hh (p2 a1), A9e rfl a1 e3 rfl]
   exact ⟨rfl, fun h0 => ⟨rfl, A5m h0⟩, fun h0 => B3j h0⟩
 ·have e2 : A4v i r c = A4e i r c := by
   unfold A4v
   rw [p1, if_neg (fun h => a1 h.1)]
  rw [q1 _ e2, if_neg a1, B9s rfl a1]
  exact ⟨rfl, fun h0 => absurd h0 a1, fun _ => rfl⟩
def C4o (f : List Cl) (i : Int) (r : List Cl) (k : Nat) (h : List Cl) : Prop := A1a f i r = A4c (A2i i r) h (f.drop k) ∧ A0h h = true ∧ A0h r = true
theorem A6o {f r h : List Cl} {i : Int} {k : Nat} (hk : k < f.length) (hv : C4o f i r k h) (h0 : (A2e i r h (f.getD k cl0)).1 = 0) : C4o f i r (k + 1) (A2e i r h (f.getD k cl0)).2 := by
 obtain ⟨v1, v2, v3⟩ := hv
 obtain ⟨e1, e2, _⟩ := E2o (i := i) (c := f.getD k cl0) v3 v2
 rw [e1] at h0
 obtain ⟨e4, e5⟩ := e2 h0
 rw [A8u cl0 hk, A4c, A2k h0] at v1
 rw [e4]
 exact ⟨v1, e5, v3⟩
theorem A7u {f r h : List Cl} {i : Int} {k : Nat} (hk : k < f.length) (hv : C4o f i r k h) (h0 : (A2e i r h (f.getD k cl0)).1 ≠ 0) : A1a f i r = ((A2e i r h (f.getD k cl0)).1, []) := by
 obtain ⟨v1, v2, v3⟩ := hv
 obtain ⟨e1, _, _⟩ := E2o (i := i) (c := f.getD k cl0) v3 v2
 rw [e1] at h0 ⊢
 rw [v1, A8u cl0 hk, A4c, A2g h0]
theorem E8j {f r h : List Cl} {i : Int} {k : Nat} (hk : f.length ≤ k) (hv : C4o f i r k h) : A1a f i r = (0, h) := by
 rw [hv.1, List.drop_eq_nil_of_le hk]; rfl
theorem E2n {f r : List Cl} {i : Int} (hf : A0h f = true) (hr : A0h r = true) (hi : A5q i = true) : C4o f i r 0 [] := by
 refine ⟨?_, by decide, hr⟩
 unfold A1a
 rw [if_neg (by simp [hf, hr]), if_neg (by simp [hi])]
 rfl
def A3n (i : Int) (r : List Cl) (c : Cl) : EL := if A4l c.neg i = true then A1h r else if A4l c.pos i = true then ofF r else (0, [cl0])
def A3s (i : Int) (r : List Cl) (c : Cl) : EL := if (A3n i r c).1 = 0 then A0x [A0j c i] (A3n i r c).2 else ((A3n i r c).1, [A0j c i])
def A1j (i : Int) (r h : List Cl) (c : Cl) : EL := if (A3s i r c).1 = 0 then A2w h (A3s i r c).2 else ((A3s i r c).1, h)
theorem E1x {c : Cl} {i : Int} (h : A6s c = false) : A0d [A0j c i] = true := B2n (D3i i) fun d hd => by
 rw [List.mem_singleton] at hd
 subst hd
 exact C5v h
theorem D6x {r : List Cl} (h : (ofF r).1 = 0) : A0d (ofF r).2 = true := by
 unfold ofF at h ⊢
 split at h
 ·rename_i h1
  rw [if_pos h1]
  exact B2n (A5m h) fun c hc => by
   have := B0w h hc
   have := (List.mem_filter.mp this).2
   simpa using this
 ·cases h
theorem D4k {r : List Cl} (h : (A1h r).1 = 0) : A0d (A1h r).2 = true := by
 unfold A1h at h ⊢
 obtain ⟨a1, a2, a3⟩ := A3l h
 rw [a3]
 exact D6x a2
theorem E0r {f g : List Cl} : A6k (B0h f g) = f.flatMap fun a => A6k (g.map fun b => A4q a b) := by
 unfold A6k B0h
 rw [List.filter_flatMap]
theorem B3g {f g : List Cl} (h : A0d f = true) (h2 : A0d g = true) : A0x f g = B1g f g := by
 unfold A0x B1g
 rw [if_neg (by simp [h, h2]), C2b (D2v (A8t (A2q h).1) (A8t (A2q h2).1)), E0r]
theorem C5h {f g : List Cl} (h : (B1g f g).1 = 0) : A0d (B1g f g).2 = true := by
 unfold B1g at h ⊢
 exact B2n (A5m h) fun c hc => by
  obtain ⟨a, _, h2⟩ := List.mem_flatMap.mp (B0w h hc)
  have := (List.mem_filter.mp h2).2
  simpa using this
theorem E5d {d : Cl} (h : A0d [d] = true) : B1g [d] [cl0] = (0, [d]) := by
 rw [B7j]
 have e : A4q d cl0 = d := by unfold A4q cl0; simp
 have e2 : A6k ([cl0].map fun b => A4q d b) = [d] := by
  rw [List.map_cons, List.map_nil, e]
  exact C5x fun c hc => (A2q h).2 c hc
 rw [e2]
 exact C7p.mp (A2q h).1
theorem E8p {i : Int} {r : List Cl} {c : Cl} (hcl : A6s c = false) : (A3s i r c).1 = (A2l i r c).1 ∧ ((A2l i r c).1 = 0 → A3s i r c = A2l i r c ∧ A0d (A2l i r c).2 = true) := by
 have ht := E1x (i := i) hcl
 by_cases hp : A4l c.pos i = true
 ·have hn := has_both hcl hp
  have e1 : A3n i r c = ofF r := by unfold A3n; rw [if_neg (by simp [hn]), if_pos hp]
  unfold A2l A3s
  rw [if_pos hp, e1]
  by_cases h0 : (ofF r).1 = 0
  ·rw [if_pos h0, A2k h0, B3g ht (D6x h0)]
   exact ⟨rfl, fun h => ⟨rfl, C5h h⟩⟩
  ·rw [if_neg h0, A2g h0]
   exact ⟨rfl, fun h => absurd h h0⟩
 ·by_cases hn : A4l c.neg i = true
  ·have e1 : A3n i r c = A1h r := by unfold A3n; rw [if_pos hn]
   unfold A2l A3s
   rw [if_neg hp, if_pos hn, e1]
   by_cases h0 : (A1h r).1 = 0
   ·rw [if_pos h0, A2k h0, B3g ht (D4k h0)]
    exact ⟨rfl, fun h => ⟨rfl, C5h h⟩⟩
   ·rw [if_neg h0, A2g h0]
    exact ⟨rfl, fun h => absurd h h0⟩
  ·have e1 : A3n i r c = (0, [cl0]) := by unfold A3n; rw [if_neg hn, if_neg hp]
   unfold A2l A3s
   rw [if_neg hp, if_neg hn, e1, if_pos rfl, B3g ht de_, E5d ht]
   exact ⟨rfl, fun _ => ⟨rfl, ht⟩⟩
theorem E0a {f g : List Cl} (h : A0d f = true) (h2 : A0d g = true) : A2w f g = A7h f g := by unfold A2w; rw [if_neg (by simp [h, h2])]
theorem E2x {i : Int} {r h : List Cl} {c : Cl} (hcl : A6s c = false) (hh : A0d h = true) : (A1j i r h c).1 = (A2c i r h c).1 ∧ ((A2c i r h c).1 = 0 → (A1j i r h c).2 = (A2c i r h c).2 ∧ A0d (A2c i r h c).2 = true) ∧ ((A2c i r h c).1 ≠ 0 → (A2c i r h c).2 = []) := by
 obtain ⟨p1, p2⟩ := E8p (i := i) (r := r) hcl
 unfold A1j
 by_cases a1 : (A2l i r c).1 = 0
 ·obtain ⟨p3, p4⟩ := p2 a1
  rw [p3, if_pos a1, A9j rfl a1, ← E0a hh p4]
  exact ⟨rfl, fun h0 => ⟨rfl, (E5r h0).2⟩, fun h0 => E5s h0⟩
 ·rw [if_neg (by rw [p1]; exact a1), A5n rfl a1]
  exact ⟨p1, fun h0 => absurd h0 a1, fun _ => rfl⟩
def C5t (f : List Cl) (i : Int) (r : List Cl) (k : Nat) (h : List Cl) : Prop := A0v f i r = A4c (A2c i r) h (f.drop k) ∧ A0d h = true ∧ A0d f = true
theorem A4o {f r h : List Cl} {i : Int} {k : Nat} (hk : k < f.length) (hv : C5t f i r k h) (h0 : (A1j i r h (f.getD k cl0)).1 = 0) : C5t f i r (k + 1) (A1j i r h (f.getD k cl0)).2 := by
 obtain ⟨v1, v2, v3⟩ := hv
 obtain ⟨e1, e2, _⟩ := E2x (i := i) (r := r) ((A2q v3).2 _ (A0l (d := cl0) hk)) v2
 rw [e1] at h0
 obtain ⟨e4, e5⟩ := e2 h0
 rw [A8u cl0 hk, A4c, A2k h0] at v1
 rw [e4]
 exact ⟨v1, e5, v3⟩
theorem A5r {f r h : List Cl} {i : Int} {k : Nat} (hk : k < f.length) (hv : C5t f i r k h) (h0 : (A1j i r h (f.getD k cl0)).1 ≠ 0) : A0v f i r = ((A1j i r h (f.getD k cl0)).1, []) := by
 obtain ⟨v1, v2, v3⟩ := hv
 obtain ⟨e1, _, _⟩ := E2x (i := i) (r := r) ((A2q v3).2 _ (A0l (d := cl0) hk)) v2
 rw [e1] at h0 ⊢
 rw [v1, A8u cl0 hk, A4c, A2g h0]
theorem E8o {f r h : List Cl} {i : Int} {k : Nat} (hk : f.length ≤ k) (hv : C5t f i r k h) : A0v f i r = (0, h) := by
 rw [hv.1, List.drop_eq_nil_of_le hk]; rfl
theorem E2w {f r : List Cl} {i : Int} (hf : A0d f = true) (hr : A0h r = true) (hi : A5q i = true) : C5t f i r 0 [] := by
 refine ⟨?_, by decide, hf⟩
 unfold A0v
 rw [if_neg (by simp [hf, hr, hi])]
 rfl
def B7r (i : Int) (l : List Int) (k : Nat) : List Int := (l.take k).map (B7q i) ++ l.drop k
theorem E6e (i : Int) (l : List Int) : B7r i l 0 = l := by simp [B7r]
theorem F0w (i : Int) (l : List Int) : B7r i l l.length = l.map (B7q i) := by simp [B7r]
theorem D7w (i : Int) (l : List Int) (k : Nat) : (B7r i l k).length = l.length := by simp [B7r]; omega
theorem F0v {i : Int} {l : List Int} {k : Nat} (h : k < l.length) : (B7r i l k).getD k 0 = l.getD k 0 := by
 unfold B7r
 rw [List.getD_eq_getElem?_getD, List.getElem?_append_right (by simp; omega), List.length_map, List.length_take, Nat.min_eq_left oo_, Nat.sub_self, List.getElem?_drop, Nat.add_zero, List.getD_eq_getElem?_getD]
theorem E6f {i : Int} {l : List Int} {k : Nat} (h : k < l.length) : B7r i l (k + 1) = (B7r i l k).set k (B7q i (l.getD k 0)) := by
 have h1 : ((l.take k).map (B7q i)).length = k := by simp; omega
 unfold B7r
 rw [A0f (d := 0) h, List.map_append, A8u (d := 0) h, List.set_append_right _ _ oo_, h1, Nat.sub_self]
 simp
theorem E6g {i : Int} {l : List Int} {k : Nat} (h : k < l.length) (h2 : ¬ (0 ≤ i ∧ i < l.getD k 0)) : B7r i l (k + 1) = B7r i l k := by
 unfold B7r
 rw [A0f (d := 0) h, List.map_append, A8u (d := 0) h]
 simp only [List.map_cons, List.map_nil, List.append_assoc, List.cons_append, List.nil_append]
 rw [show B7q i (l.getD k 0) = l.getD k 0 from if_neg h2]
theorem D5c {s : Nat} {i : Int} (hi : 0 ≤ i) {k : Nat} : ∀ x, x ∈ B7r i (A0g (A0m s i)) k → 0 ≤ x ∧ x < 24 := fun x hx => by
 unfold B7r at hx
 rcases List.mem_append.mp hx with hx | hx
 ·obtain ⟨y, hy, rfl⟩ := List.mem_map.mp hx
  have := F7a y (List.mem_of_mem_take hy)
  unfold B7q
  split <;> omega
 ·exact F7a x (List.mem_of_mem_drop hx)
def B2m (f : List Cl) (j : Int) : List Cl := f.map fun c => ⟨A6a c.pos j, A6a c.neg j⟩
theorem E6m {f : List Cl} {j : Int} {k : Nat} (h : k < f.length) : B2m (f.take (k + 1)) j = B2m (f.take k) j ++ [⟨A6a (f.getD k cl0).pos j, A6a (f.getD k cl0).neg j⟩] := by
 unfold B2m
 rw [A0f (d := cl0) h, List.map_append]; rfl
theorem D7y (f : List Cl) (j : Int) (k : Nat) : (B2m (f.take k) j).length = min k f.length := by
 unfold B2m
 rw [List.length_map, List.length_take]
theorem F0y {f : List Cl} {j : Int} {c : Cl} (h : c ∈ B2m f j) : u32 c := C6j h
def B4x (p : Bool) (i : Int) (r : List Cl) (d : Int) (f : List Cl) : EL := if p = true then A2u A0v i r d f else A2u A1a i r d f
def E6n (i : Int) (x : EL) (d : Int) : EL := B1d x fun f => A0p (B2m f (i + d))
def B1i (i : Int) (r : List Cl) (b : Bool) : A4s := if b = true then ⟨fun d f => E6n i (A2u A1a i r d f) d, fun d f => E6n i (A2u A0v i r d f) d⟩ else A8d i r
def B5n (i : Int) (r : List Cl) (b : Bool) (t : T) (d : Int) : T := match A6n (A0w (B1i i r b)) t d with
 | .ok u => u
 | .bad e => C3u e
theorem D3z {i : Int} {r : List Cl} {b : Bool} {t u : T} {d : Int} (h : A6n (A0w (B1i i r b)) t d = .ok u) : B5n i r b t d = u := by unfold B5n; rw [h]
theorem B0q {i : Int} {r : List Cl} {b : Bool} {t : T} {d e : Int} (h : A6n (A0w (B1i i r b)) t d = .bad e) : B5n i r b t d = C3u e := by unfold B5n; rw [h]
theorem E6k (f : List Cl) (j : Int) : (B2m f j).all A0u = true := List.all_eq_true.mpr fun c hc => by
 obtain ⟨e, _, rfl⟩ := List.mem_map.mp hc
 exact A2z.mpr ⟨B1s _ _, B1s _ _⟩
theorem B5g {f : List Cl} {j : Int} (h : f.length ≤ 64) : (A0p (B2m f j)).1 = 0 := C2u (E6k f j) (by unfold B2m; rw [List.length_map]; exact h)
theorem F3k {f : List Cl} {j : Int} (h : f ≠ []) (h64 : f.length ≤ 64) : (A0p (B2m f j)).2 ≠ [] := E9t (by unfold B2m; simpa using h) (B5g h64)
theorem E6l (j : Int) : A0p (B2m [] j) = (0, []) := rfl
theorem F3s (i : Int) (r : List Cl) : B1i i r false = A8d i r := rfl
theorem D5m {i : Int} {r : List Cl} {d : Int} {f : List Cl} : (B1i i r true).form d f = E6n i (A2u A1a i r d f) d := rfl
theorem C0o {i : Int} {r : List Cl} {d : Int} {f : List Cl} : (B1i i r true).A1s d f = E6n i (A2u A0v i r d f) d := rfl
theorem B5h {i d : Int} {x : EL} (h : x.1 ≠ 0) : E6n i x d = (x.1, []) := A2g h
theorem C3j {i d : Int} {x : EL} (h : x.1 = 0) (h2 : x.2.length ≤ 64) : E6n i x d = (0, (A0p (B2m x.2 (i + d))).2) := by
 unfold E6n
 rw [A2k h]
 exact Prod.ext (B5g h2) rfl
structure E1c (W : A4s) : Prop where
 form : ∀ d f, 0 ≤ d → A0h f = true → (W.form d f).1 = 0 → A0h (W.form d f).2 = true
 A1s : ∀ d f, 0 ≤ d → A0d f = true → (W.A1s d f).1 = 0 → A0d (W.A1s d f).2 = true
 nil : ∀ d, W.form d [] = (0, [])
theorem A8r (i : Int) (r : List Cl) : E1c (A8d i r) where
 form := fun d f hd hf h0 => (D3n (P := fun _ => True) (N := fun _ => True) hf (Prod.ext h0 rfl)).1
 A1s := fun d f hd hf h0 => (D3o hf (Prod.ext h0 rfl)).1
 nil := fun d => E8r (by unfold A4l A5d; simp)
theorem C6v {W : A4s} (hW : E1c W) {k n d : Int} {nm : ByteArray} {r : List Cl} (hd : 0 ≤ d) (h : B2k k n nm r) (h0 : (W.row k d r).1 = 0) : B2k k n nm (W.row k d r).2 := by
 have h9 := h
 obtain ⟨h1, h2, h3, h4, h5, h6, h7⟩ := h
 obtain ⟨q1, q2⟩ := B8x h9
 unfold A4s.row at h0 ⊢
 by_cases e : k = 14
 ·rw [if_pos e] at h0 ⊢
  exact ⟨h1, h2, fun h => by omega, fun h => by omega, fun h => by omega, fun _ => hW.A1s d r hd (h6 e) h0, fun h => by omega⟩
 ·rw [if_neg e] at h0 ⊢
  refine ⟨h1, h2, fun h => ⟨?_, (h3 h).2⟩, fun h => ⟨?_, (h4 h).2⟩, fun h => hW.form d r hd q2 h0, fun h => absurd h e, fun h => ?_⟩
  ·rw [(h3 h).1, hW.nil]
  ·rw [(h4 h).1, hW.nil]
  ·rw [h7 h, hW.nil]
section
variable {W : A4s}
mutual
theorem A9h (hW : E1c W) : ∀ {t u : T} {d : Int}, 0 ≤ d → A8s t → A6n (A0w W) t d = .ok u → A8s u
 | .mk k n nm r ks ss, u, d, hd, h, hu => by
  simp only [A8s] at h
  obtain ⟨h1, h2, h3, h4, h5⟩ := h
  rw [A8j] at hu
  simp only [T.kind, T.n, T.name, T.r, T.kids, T.sys] at hu
  obtain ⟨o, h9, hu⟩ := A2m.A0q hu
  cases o with
  | inl v => exact absurd h9 B1o
  | inr p =>
   obtain ⟨a1, a2⟩ := B9q.mp h9
   obtain ⟨ks', h10, hu⟩ := A2m.A0q hu
   obtain ⟨ss', h11, hu⟩ := A2m.A0q hu
   injection hu with hu
   subst hu
   simp only [A8s]
   have hr := C6v hW hd h1 (by rw [a1])
   rw [a1] at hr
   refine ⟨by rw [a2]; exact hr, by rw [B3z h10]; exact h2, fun h => ?_, B6n hW hd h4 h10, B6o hW hd h5 h11⟩
   have h12 := A8k h11
   rw [h3 h] at h12
   exact List.eq_nil_of_length_eq_zero (Nat.le_zero.mp h12)
theorem B6n (hW : E1c W) {kd : Int} : ∀ {ts : List T} {i : Nat} {d : Int} {us : List T}, 0 ≤ d → B0a ts → A5t (A0w W) kd i ts d = .ok us → B0a us
 | [], i, d, us, hd, h, hu => by rw [A4n] at hu; injection hu with hu; subst hu; simp only [B0a]
 | t :: ts, i, d, us, hd, h, hu => by
  simp only [B0a] at h
  rw [A3k] at hu
  obtain ⟨c', h1, hu⟩ := A2m.A0q hu
  obtain ⟨t', h2, hu⟩ := A2m.A0q hu
  obtain ⟨ts', h3, hu⟩ := A2m.A0q hu
  injection hu with hu
  subst hu
  injection h1 with h1
  subst h1
  have hb := (B1t kd i).2.2.1
  simp only [B0a]
  exact ⟨A9h hW oo_ h.1 h2, B6n hW hd h.2 h3⟩
theorem B6m (hW : E1c W) {kd : Int} : ∀ {ts : List T} {d : Int} {us : List T}, 0 ≤ d → B0a ts → A4u (A0w W) kd ts d = .ok us → B0a us
 | [], d, us, hd, h, hu => by rw [A4m] at hu; injection hu with hu; subst hu; simp only [B0a]
 | t :: ts, d, us, hd, h, hu => by
  simp only [B0a] at h
  rw [A3j] at hu
  obtain ⟨c', h1, hu⟩ := A2m.A0q hu
  obtain ⟨t', h2, hu⟩ := A2m.A0q hu
  obtain ⟨ts', h3, hu⟩ := A2m.A0q hu
  injection hu with hu
  subst hu
  injection h1 with h1
  subst h1
  have hb := (B8w kd).1
  simp only [B0a]
  exact ⟨A9h hW (by dsimp only; omega) h.1 h2, B6m hW hd h.2 h3⟩
theorem B6o (hW : E1c W) {kd : Int} : ∀ {bs : List Br} {d : Int} {us : List Br}, 0 ≤ d → B8z kd bs → A6b (A0w W) kd bs d = .ok us → B8z kd us
 | [], d, us, hd, h, hu => by rw [A4y] at hu; injection hu with hu; subst hu; simp only [B8z]
 | .mk f ks :: bs, d, us, hd, h, hu => by
  simp only [B8z] at h
  obtain ⟨h1, h2, h3, h4⟩ := h
  rw [A3u] at hu
  simp only [Br.A1s, Br.kids] at hu
  obtain ⟨o, h5, hu⟩ := A2m.A0q hu
  cases o with
  | none => exact B6o hW hd h4 hu
  | some f' =>
   obtain ⟨e1, _⟩ := A3h.mp h5
   obtain ⟨ks', h6, hu⟩ := A2m.A0q hu
   obtain ⟨bs', h7, hu⟩ := A2m.A0q hu
   injection hu with hu
   subst hu
   simp only [B8z]
   have hf := hW.A1s d f hd h2 (by rw [e1])
   rw [e1] at hf
   exact ⟨by rw [B3y h6]; exact h1, hf, B6m hW hd h3 h6, B6o hW hd h4 h7⟩
end
end
theorem E0p {c : Cl} {j : Int} (hj : 0 ≤ j) (h : A6s c = false) : A6s ⟨A6a c.pos j, A6a c.neg j⟩ = false := by
 rw [B7u] at h ⊢
 rintro k ⟨h1, h2⟩
 obtain ⟨a, _, a2, a3⟩ := (C3f hj).mp h1
 obtain ⟨b, _, b2, b3⟩ := (C3f hj).mp h2
 have e : a = b := by omega
 subst e
 exact h a ⟨a2, b2⟩
theorem B4k {i : Int} (hi : 0 ≤ i) : F6u (B1y i) where
 form := fun d f hd hf => by
  have h0 : (B1z i d f).1 = 0 := B5g (j := i + d) (A5b hf)
  exact ⟨h0, A5m h0⟩
 A1s := fun d f hd hf => by
  have h0 : (B1z i d f).1 = 0 := B5g (j := i + d) (A5b (A2q hf).1)
  refine ⟨h0, B2n (A5m h0) fun c hc => ?_⟩
  obtain ⟨e, he, rfl⟩ := List.mem_map.mp (B0w h0 hc)
  exact E0p oo_ ((A2q hf).2 e he)
 nil := fun d => rfl
theorem F3j {i kd : Int} (hi : 0 ≤ i) {d : Int} (hd : 0 ≤ d) : ∀ {ts : List T} {j : Nat}, B0a ts → ∃ us, A5t (A0w (B1y i)) kd j ts d = .ok us
 | [], j, _ => ⟨[], A4n _ _ _⟩
 | t :: ts, j, hf => by
  simp only [B0a] at hf
  have hb := (B1t kd j).2.2.1
  obtain ⟨u, hu⟩ := C1b (B4k hi) t hf.1 (d := d + (binds kd j).2) oo_
  obtain ⟨us, hus⟩ := F3j hi hd (ts := ts) (j := j + 1) hf.2
  exact ⟨u :: us, by rw [A3k, A5g]; simp only [A2m.bind]; rw [hu]; simp only; rw [hus]⟩
theorem F3i {i kd : Int} (hi : 0 ≤ i) {d : Int} (hd : 0 ≤ d) : ∀ {ts : List T}, B0a ts → ∃ us, A4u (A0w (B1y i)) kd ts d = .ok us
 | [], _ => ⟨[], A4m _ _⟩
 | t :: ts, hf => by
  simp only [B0a] at hf
  have hb := (B8w kd).1
  obtain ⟨u, hu⟩ := C1b (B4k hi) t hf.1 (d := d + more kd) oo_
  obtain ⟨us, hus⟩ := F3i hi hd (ts := ts) hf.2
  exact ⟨u :: us, by rw [A3j, A5g]; simp only [A2m.bind]; rw [hu]; simp only; rw [hus]⟩
section
variable {i : Int} {r : List Cl}
theorem D3d {k d : Int} {rr : List Cl} : (B1i i r true).row k d rr = E6n i ((A8d i r).row k d rr) d := by
 unfold A4s.row
 split
 ·exact C0o
 ·exact D5m
theorem F0t {k d : Int} {g : List Cl} : (B1y i).row k d g = A0p (B2m g (i + d)) := by
 unfold A4s.row
 split <;> rfl
theorem C7r {k n : Int} {nm : ByteArray} {g : List Cl} (h : B2k k n nm g) : g.length ≤ 64 := A5b (B8x h).2
mutual
theorem F3v (hi : 0 ≤ i) : ∀ {t : T} {d : Int}, 0 ≤ d → A8s t → A6n (A0w (B1i i r true)) t d = (A6n (A0w (A8d i r)) t d).bind fun u => A6n (A0w (B1y i)) u d
 | .mk k n nm rr ks ss, d, hd, hf => by
  have hf0 := hf
  simp only [A8s] at hf
  obtain ⟨h1, h2, h3, h4, h5⟩ := hf
  rw [A8j, A8j (A := A0w (A8d i r))]
  simp only [T.kind, T.n, T.name, T.r, T.kids, T.sys]
  by_cases h0 : ((A8d i r).row k d rr).1 = 0
  ·have hk := C6v (A8r i r) hd h1 h0
   have e1 : (B1i i r true).row k d rr = (0, (A0p (B2m ((A8d i r).row k d rr).2 (i + d))).2) := by rw [D3d, C3j h0 (C7r hk)]
   rw [A7f (by rw [e1]), e1, A7f h0]
   simp only [A2m.bind]
   rw [F7l hi hd h4]
   cases hW : A5t (A0w (A8d i r)) k 0 ks d with
   | bad e => rfl
   | ok k1 =>
    simp only [A2m.bind]
    have hfk := B6n (A8r i r) hd h4 hW
    obtain ⟨k2, hk2⟩ := F3j (i := i) (kd := k) (j := 0) hi hd hfk
    rw [hk2]
    simp only
    rw [F3w hi hd h5]
    cases hB : A6b (A0w (A8d i r)) k ss d with
    | bad e => rfl
    | ok s1 =>
     simp only [A2m.bind]
     conv => rhs; rw [A8j]
     simp only [T.kind, T.n, T.name, T.r, T.kids, T.sys]
     have e2 : (B1y i).row k d ((A8d i r).row k d rr).2 = (0, (A0p (B2m ((A8d i r).row k d rr).2 (i + d))).2) := by rw [F0t]; exact Prod.ext (B5g (C7r hk)) rfl
     rw [A7f (by rw [e2]), e2]
     simp only [A2m.bind]
     rw [hk2]
  ·have e1 : ((B1i i r true).row k d rr).1 = ((A8d i r).row k d rr).1 := by rw [D3d, B5h h0]
   rw [A9r (by rw [e1]; exact h0), A9r h0, e1]
   rfl
theorem F7l (hi : 0 ≤ i) {kd : Int} : ∀ {ts : List T} {j : Nat} {d : Int}, 0 ≤ d → B0a ts → A5t (A0w (B1i i r true)) kd j ts d = (A5t (A0w (A8d i r)) kd j ts d).bind fun us => A5t (A0w (B1y i)) kd j us d
 | [], j, d, hd, hf => by rw [A4n, A4n]; simp only [A2m.bind]; rw [A4n]
 | t :: ts, j, d, hd, hf => by
  simp only [B0a] at hf
  have hb := (B1t kd j).2.2.1
  rw [A3k, A3k, A5g, A5g]
  simp only [A2m.bind]
  rw [F3v hi oo_ hf.1]
  cases hW : A6n (A0w (A8d i r)) t (d + (binds kd j).2) with
  | bad e => rfl
  | ok u =>
   simp only [A2m.bind]
   obtain ⟨u2, hu2⟩ := C1b (B4k hi) u (A9h (A8r i r) oo_ hf.1 hW) (d := d + (binds kd j).2) oo_
   rw [hu2]
   simp only
   rw [F7l hi hd hf.2]
   cases hL : A5t (A0w (A8d i r)) kd (j + 1) ts d with
   | bad e => rfl
   | ok us =>
    simp only [A2m.bind]
    conv => rhs; rw [A3k, A5g]
    simp only [A2m.bind]
    rw [hu2]
theorem F7k (hi : 0 ≤ i) {kd : Int} : ∀ {ts : List T} {d : Int}, 0 ≤ d → B0a ts → A4u (A0w (B1i i r true)) kd ts d = (A4u (A0w (A8d i r)) kd ts d).bind fun us => A4u (A0w (B1y i)) kd us d
 | [], d, hd, hf => by rw [A4m, A4m]; simp only [A2m.bind]; rw [A4m]
 | t :: ts, d, hd, hf => by
  simp only [B0a] at hf
  have hb := (B8w kd).1
  rw [A3j, A3j, A5g, A5g]
  simp only [A2m.bind]
  rw [F3v hi oo_ hf.1]
  cases hW : A6n (A0w (A8d i r)) t (d + more kd) with
  | bad e => rfl
  | ok u =>
   simp only [A2m.bind]
   obtain ⟨u2, hu2⟩ := C1b (B4k hi) u (A9h (A8r i r) oo_ hf.1 hW) (d := d + more kd) oo_
   rw [hu2]
   simp only
   rw [F7k hi hd hf.2]
   cases hL : A4u (A0w (A8d i r)) kd ts d with
   | bad e => rfl
   | ok us =>
    simp only [A2m.bind]
    conv => rhs; rw [A3j, A5g]
    simp only [A2m.bind]
    rw [hu2]
theorem F3w (hi : 0 ≤ i) {kd : Int} : ∀ {bs : List Br} {d : Int}, 0 ≤ d → B8z kd bs → A6b (A0w (B1i i r true)) kd bs d = (A6b (A0w (A8d i r)) kd bs d).bind fun us => A6b (A0w (B1y i)) kd us d
 | [], d, hd, hf => by rw [A4y, A4y]; simp only [A2m.bind]; rw [A4y]
 | .mk f ks :: bs, d, hd, hf => by
  simp only [B8z] at hf
  obtain ⟨h1, h2, h3, h4⟩ := hf
  rw [A3u, A3u]
  simp only [Br.A1s, Br.kids]
  by_cases h0 : ((A8d i r).A1s d f).1 = 0
  ·have hfa := (A8r i r).A1s d f hd h2 h0
   have h64 := A5b (A2q hfa).1
   have e1 : (B1i i r true).A1s d f = (0, (A0p (B2m ((A8d i r).A1s d f).2 (i + d))).2) := by rw [C0o]; exact C3j h0 h64
   by_cases hn : ((A8d i r).A1s d f).2 = []
   ·have e0 : (A8d i r).A1s d f = (0, []) := Prod.ext h0 hn
    have e2 : (B1i i r true).A1s d f = (0, []) := by rw [e1, hn, E6l]
    rw [A7a.mpr e2, A7a.mpr e0]
    simp only [A2m.bind]
    exact F3w hi hd h4
   ·have hne := F3k (j := i + d) hn h64
    rw [A3h.mpr ⟨e1, hne⟩, A3h.mpr ⟨Prod.ext h0 rfl, hn⟩]
    simp only [A2m.bind]
    rw [F7k hi hd h3]
    cases hS : A4u (A0w (A8d i r)) kd ks d with
    | bad e => rfl
    | ok k1 =>
     simp only [A2m.bind]
     obtain ⟨k2, hk2⟩ := F3i (i := i) (kd := kd) hi hd (B6m (A8r i r) hd h3 hS)
     rw [hk2]
     simp only
     rw [F3w hi hd h4]
     cases hB : A6b (A0w (A8d i r)) kd bs d with
     | bad e => rfl
     | ok b1 =>
      simp only [A2m.bind]
      conv => rhs; rw [A3u]
      simp only [Br.A1s, Br.kids]
      rw [A3h.mpr ⟨show (B1y i).A1s d _ = (0, (A0p (B2m ((A8d i r).A1s d f).2 (i + d))).2) from Prod.ext (B5g h64) rfl, hne⟩]
      simp only [A2m.bind]
      rw [hk2]
  ·have e1 : ((B1i i r true).A1s d f).1 = ((A8d i r).A1s d f).1 := by rw [C0o, show E6n i (A2u A0v i r d f) d = (((A8d i r).A1s d f).1, []) from B5h h0]
   rw [A8n (by rw [e1]; exact h0), A8n h0, e1]
   rfl
end
end
def pE (x : EL) : Prop := 0 ≤ x.1 ∧ x.1 ≤ 10
theorem E4c (l : List Cl) : pE ((0, l) : EL) := ⟨Int.le_refl 0, by show (0 : Int) ≤ 10; omega⟩
theorem D0r (l : List Cl) : pE ((2, l) : EL) := ⟨by show (0 : Int) ≤ 2; omega, by show (2 : Int) ≤ 10; omega⟩
theorem A8p (l : List Cl) : pE (A0p l) := by rcases A6f l with h | h | h <;> exact ⟨by omega, by omega⟩
theorem B0f {x : EL} {k : List Cl → EL} (hx : pE x) (hk : ∀ g, pE (k g)) : pE (B1d x k) := by
 unfold B1d
 split
 ·exact ⟨hx.1, hx.2⟩
 ·exact hk _
theorem C7d {g : List Cl → Cl → EL} (hg : ∀ h c, pE (g h c)) : ∀ {l h : List Cl}, pE (A4c g h l)
 | [], h => E4c h
 | c :: cs, h => by rw [A4c]; exact B0f (hg h c) fun h' => C7d hg
theorem F5b (f : List Cl) (a b : Int) : pE (A0k f a b) := ⟨C7s, D4x⟩
theorem E4e (f : List Cl) : pE (B5s f) := C7d fun h c => B0f (A8p _) fun o => A8p _
theorem F2o (f : List Cl) : pE (ofF f) := by
 unfold ofF
 split
 ·exact A8p _
 ·exact D0r _
theorem E4d (f : List Cl) : pE (A1h f) := B0f (by
 unfold A6u
 split
 ·exact E4e _
 ·exact D0r _) F2o
theorem B8r (f : List Cl) (i : Int) (r : List Cl) : pE (A1a f i r) := by
 unfold A1a
 split
 ·exact D0r _
 ·split
  ·exact D0r _
  ·refine C7d fun h c => B0f ?_ fun g => B0f ?_ fun g => A8p _
   ·unfold A4e
    split
    ·exact A8p _
    ·exact E4c _
   ·unfold A8f
    split
    ·exact B0f (E4e _) fun s => A8p _
    ·exact E4c _
theorem B8s (f : List Cl) (i : Int) (r : List Cl) : pE (A0v f i r) := by
 unfold A0v
 split
 ·exact D0r _
 ·refine C7d fun h c => B0f ?_ fun g => A8p _
  unfold A2l
  split
  ·exact B0f (F2o _) fun x => A8p _
  ·split
   ·exact B0f (E4d _) fun x => A8p _
   ·exact E4c _
theorem C4w {P : List Cl → Int → List Cl → EL} (hP : ∀ f i r, pE (P f i r)) {i d : Int} {r f : List Cl} : pE (A2u P i r d f) := by
 unfold A2u
 split
 ·exact E4c _
 ·exact B0f (F5b _ _ _) fun s => hP _ _ _
def G2d (W : A4s) : Prop := ∀ d f, pE (W.form d f) ∧ pE (W.A1s d f)
theorem D4a (i : Int) (r : List Cl) : G2d (A8d i r) := fun d f => ⟨C4w B8r, C4w B8s⟩
theorem E3g (i : Int) (r : List Cl) (b : Bool) : G2d (B1i i r b) := by
 cases b
 ·exact D4a i r
 ·exact fun d f => ⟨by rw [D5m]; exact B0f (C4w B8r) fun f => A8p _, by rw [C0o]; exact B0f (C4w B8s) fun f => A8p _⟩
theorem E8u {W : A4s} (h : G2d W) (k d : Int) (f : List Cl) : pE (W.row k d f) := by
 unfold A4s.row
 split
 ·exact (h d f).2
 ·exact (h d f).1
theorem C7a {W : A4s} (hW : G2d W) : ∀ (t : T) {d e : Int}, A6n (A0w W) t d = .bad e → 0 < e ∧ e ≤ 10 := T.ind fun t ih d e h => by
 rcases D5n h with h1 | ⟨b, _, h1⟩ | ⟨p, hp, h1 | ⟨c', _, h2⟩⟩
 ·have := B3s.mp h1
  have h2 := E8u hW t.kind d t.r
  unfold pE at h2
  omega
 ·have := B2e.mp h1
  have h2 := (hW d b.A1s).2
  unfold pE at h2
  omega
 ·cases h1
 ·exact ih p hp h2
theorem D0a {W : A4s} {t u : T} {d : Int} (h : A6n (A0w W) t d = .ok u) : u.kind = t.kind := by
 rcases E7x h with h1 | ⟨p, _, h1, _⟩
 ·exact absurd h1 B1o
 ·exact h1.1
theorem A9l {i : Int} {r : List Cl} {b : Bool} {t : T} {d : Int} (hf : A8s t) : (A6n (A0w (B1i i r b)) t d = .ok (B5n i r b t d) ∧ 0 ≤ (B5n i r b t d).kind) ∨ ∃ e, 0 < e ∧ e ≤ 10 ∧ A6n (A0w (B1i i r b)) t d = .bad e ∧ B5n i r b t d = C3u e := by
 cases h : A6n (A0w (B1i i r b)) t d with
 | ok u =>
  rw [D3z h]
  exact .inl ⟨rfl, by rw [D0a h]; exact B1c hf⟩
 | bad e => exact .inr ⟨e, (C7a (E3g i r b) t h).1, (C7a (E3g i r b) t h).2, rfl, B0q h⟩
theorem C6x (i : Int) (r : List Cl) (k d : Int) (f : List Cl) : B4x (decide (k = 14)) i r d f = (A8d i r).row k d f := by
 unfold B4x A4s.row A8d
 by_cases h : k = 14
 ·simp [h]
 ·simp [h]
theorem C0p {i : Int} {r : List Cl} {k d : Int} {f : List Cl} : (B1i i r false).row k d f = B4x (decide (k = 14)) i r d f := (C6x i r k d f).symm
theorem B6y {i : Int} {r : List Cl} {d : Int} {f : List Cl} : (B1i i r false).A1s d f = B4x true i r d f := rfl
theorem C6d {i : Int} {r : List Cl} {k d : Int} {f : List Cl} : (B1i i r true).row k d f = E6n i (B4x (decide (k = 14)) i r d f) d := by rw [D3d, C6x]
theorem B6x {i : Int} {r : List Cl} {d : Int} {f : List Cl} : (B1i i r true).A1s d f = E6n i (B4x true i r d f) d := rfl
theorem E8m {i d : Int} {r f : List Cl} {k n : Int} {nm : ByteArray} (hd : 0 ≤ d) (h : B2k k n nm f) (h0 : (B4x (decide (k = 14)) i r d f).1 = 0) : (B4x (decide (k = 14)) i r d f).2.length ≤ 64 := by
 rw [C6x] at h0 ⊢
 exact C7r (C6v (A8r i r) hd h h0)
theorem D9b {i d : Int} {r f : List Cl} (hd : 0 ≤ d) (h : A0d f = true) (h0 : (B4x true i r d f).1 = 0) : A0d (B4x true i r d f).2 = true := (A8r i r).A1s d f hd h h0
theorem C6y {p : Bool} {i d : Int} {r f : List Cl} : pE (B4x p i r d f) := by
 unfold B4x
 split
 ·exact C4w B8s
 ·exact C4w B8r
section
variable {i d k n : Int} {nm : ByteArray} {r f : List Cl} {x : EL}
theorem D6r {b : Bool} (h : x = B4x (decide (k = 14)) i r d f) (h0 : x.1 ≠ 0) : (A0w (B1i i r b)).own d k n nm f = .bad x.1 := by
 subst h
 cases b
 ·rw [A9r (by rw [C0p]; exact h0), C0p]
 ·rw [A9r (by rw [C6d, B5h h0]; exact h0), C6d, B5h h0]
theorem F5d (h : x = B4x (decide (k = 14)) i r d f) (h0 : x.1 = 0) : (A0w (B1i i r false)).own d k n nm f = .ok (.inr (n, x.2)) := by
 subst h
 rw [A7f (by rw [C0p]; exact h0), C0p]
theorem F5c (hh : B2k k n nm f) (hd : 0 ≤ d) (h : x = B4x (decide (k = 14)) i r d f) (h0 : x.1 = 0) : (A0w (B1i i r true)).own d k n nm f = .ok (.inr (n, (A0p (B2m x.2 (i + d))).2)) := by
 subst h
 have e : (B1i i r true).row k d f = (0, (A0p (B2m (B4x (decide (k = 14)) i r d f).2 (i + d))).2) := by rw [C6d, C3j h0 (E8m hd hh h0)]
 rw [A7f (by rw [e]), e]
theorem D1y {b : Bool} (h : x = B4x true i r d f) (h0 : x.1 ≠ 0) : (A0w (B1i i r b)).A1s d f = .bad x.1 := by
 subst h
 cases b
 ·rw [A8n (by rw [B6y]; exact h0), B6y]
 ·rw [A8n (by rw [B6x, B5h h0]; exact h0), B6x, B5h h0]
theorem C5s {b : Bool} (h : x = B4x true i r d f) (h0 : x.1 = 0) (hn : x.2.length = 0) : (A0w (B1i i r b)).A1s d f = .ok none := by
 subst h
 have e : B4x true i r d f = (0, []) := Prod.ext h0 (List.eq_nil_of_length_eq_zero hn)
 cases b
 ·exact A7a.mpr (by rw [B6y, e])
 ·exact A7a.mpr (by rw [B6x, e]; exact (C3j rfl (Nat.zero_le _)).trans (by rw [E6l]))
theorem F0o (h : x = B4x true i r d f) (h0 : x.1 = 0) (hn : ¬ x.2.length = 0) : (A0w (B1i i r false)).A1s d f = .ok (some x.2) := by
 subst h
 exact A3h.mpr ⟨by rw [B6y]; exact Prod.ext h0 rfl, fun e => hn (by rw [e]; rfl)⟩
theorem F0n (hf : A0d f = true) (hd : 0 ≤ d) (h : x = B4x true i r d f) (h0 : x.1 = 0) (hn : ¬ x.2.length = 0) : (A0w (B1i i r true)).A1s d f = .ok (some (A0p (B2m x.2 (i + d))).2) := by
 subst h
 have h64 := A5b (A2q (D9b hd hf h0)).1
 exact A3h.mpr ⟨by rw [B6x, C3j h0 h64], F3k (fun e => hn (by rw [e]; rfl)) h64⟩
end
def E7n (x : Int × T) : T := if x.1 = 0 then x.2 else C3u x.1
theorem D0k (i : Int) (r : List Cl) (b : Bool) (t : T) (d : Int) : B5n i r b t d = E7n (B5l (A6n (A0w (B1i i r b)) t d)) := by
 unfold B5n E7n
 cases h : A6n (A0w (B1i i r b)) t d with
 | ok u => simp [B5l]
 | bad e =>
  have := B6c t h
  simp [B5l, this]
theorem E8t (i : Int) (r : List Cl) (t : T) (d : Int) : B5n i r false t d = E7n (A3b (A8d i r) t d) := D0k i r false t d
def swapT (i : Int) (r : List Cl) (t : T) : T := if t.kind < 0 then t else B5n i r false t 0
def C3x (n : Nat) (t : T) : Prop := (-1000000 ≤ t.kind ∧ t.kind < 0) ∨ (A8s t ∧ size t ≤ n)
theorem E0c {n : Nat} {i : Int} {r : List Cl} {t : T} (h : C3x n t) : C3x n (swapT i r t) := by
 rcases h with h | ⟨h, h2⟩
 ·unfold swapT
  rw [if_pos h.2]
  exact .inl h
 ·unfold swapT
  have hk := B1c h
  rw [if_neg oo_]
  rcases A9l (i := i) (r := r) (b := false) (d := 0) h with ⟨h3, h4⟩ | ⟨e, h3, h4, h5, h6⟩
  ·rw [F3s] at h3
   exact .inr ⟨A9h (A8r i r) oo_ h h3, Nat.le_trans (B7a h3) h2⟩
  ·rw [h6]
   exact .inl ⟨by show -1000000 ≤ -e; omega, B2f h3⟩
theorem D1m {n : Nat} {t : T} (h : C3x n t) : -1000000 ≤ t.kind := by
 rcases h with h | ⟨h, _⟩
 ·exact h.1
 ·have := B1c h
  omega
theorem E8c {i : Int} {r : List Cl} {t : T} (h : A8s t) : swapT i r t = E7n (A3b (A8d i r) t 0) := by
 have hk := B1c h
 unfold swapT
 rw [if_neg oo_, E8t]
theorem C8q {W : A4s} {t : T} {d : Int} : (∃ u, A6n (A0w W) t d = .ok u ∧ A3b W t d = (0, u)) ∨ ∃ e, A6n (A0w W) t d = .bad e ∧ A3b W t d = (e, t0) := by
 unfold A3b
 cases h : A6n (A0w W) t d with
 | ok u => exact .inl ⟨u, rfl, rfl⟩
 | bad e => exact .inr ⟨e, rfl, rfl⟩
theorem E6b (u : T) : E7n (0, u) = u := if_pos rfl
theorem F0s {e : Int} {u : T} (h : 0 < e) : E7n (e, u) = C3u e := if_neg (by show ¬ e = 0; omega)
theorem C0z {x : Int × T} (h0 : 0 ≤ x.1) (h : x.1 = 0 → A8s x.2) (h2 : x.1 ≠ 0 → x.2 = t0) : B4p (E7n x) = x := by
 obtain ⟨e, u⟩ := x
 simp only at h0 h h2
 by_cases he : e = 0
 ·subst he
  rw [E6b]
  have := B1c (h rfl)
  unfold B4p
  rw [if_neg oo_]
 ·rw [F0s oo_, h2 he]
  unfold B4p
  rw [if_pos (B2f oo_)]
  exact Prod.ext (by show - -e = e; omega) rfl
theorem F4u {i : Int} {r : List Cl} {t : T} (h : A1t t i r = 0) : B4p (swapT i r t) = A3d t i r := by
 have hf := (B3k.mp (B0t h).1).2
 unfold A3d
 rw [if_neg (by simp [h]), E8c hf]
 rcases C8q (W := A8d i r) (t := t) (d := 0) with ⟨u, h2, h3⟩ | ⟨e, h2, h3⟩
 ·rw [h3]
  exact C0z (Int.le_refl 0) (fun _ => A9h (A8r i r) (Int.le_refl 0) hf h2) (fun h9 => absurd rfl h9)
 ·have h4 := (C7a (D4a i r) t h2).1
  rw [h3]
  exact C0z (by show 0 ≤ e; omega) (fun h9 => by have h9 : e = 0 := h9; omega) (fun _ => rfl)
def B1u (i : Int) (r : List Cl) (t : T) : T := if t.kind < 0 then t else if (A0k r i 1).1 ≠ 0 then C3u (A0k r i 1).1 else B5n i (A0k r i 1).2 true t 0
theorem D4u {n : Nat} {i : Int} {r : List Cl} {t : T} (hi : 0 ≤ i) (h : C3x n t) : -1000000 ≤ (B1u i r t).kind := by
 unfold B1u
 split
 ·exact D1m h
 ·rename_i h1
  have hf : A8s t := by rcases h with h | h; omega; exact h.1
  split
  ·have := D4x (l := r) (f := i) (b := 1)
   show -1000000 ≤ - _
   omega
  ·rcases A9l (i := i) (r := (A0k r i 1).2) (b := true) (d := 0) hf with ⟨_, h4⟩ | ⟨e, h3, h4, h5, h6⟩
   ·omega
   ·rw [h6]
    show -1000000 ≤ -e
    omega
theorem E7y {i : Int} {r : List Cl} {t : T} (h : A1t t i r = 0) : B4p (B1u i r t) = A1p t i r := by
 have hw := B0t h
 have hf := (B3k.mp hw.1).2
 have hk := B1c hf
 have q1 : A1p t i r = if (A0k r i 1).1 ≠ 0 then ((A0k r i 1).1, t0) else C1m (A3b (A8d i (A0k r i 1).2) t 0) fun x => A3b (B1y i) x 0 := by
  unfold A1p
  rw [if_neg (by simp [h])]
 have q2 : B1u i r t = if (A0k r i 1).1 ≠ 0 then C3u (A0k r i 1).1 else B5n i (A0k r i 1).2 true t 0 := by
  unfold B1u
  rw [if_neg oo_]
 rw [q1, q2]
 by_cases h0 : (A0k r i 1).1 = 0
 ·rw [if_neg (by simp [h0]), if_neg (by simp [h0])]
  have h1 := F3v (i := i) (r := (A0k r i 1).2) hw.2.1.1 (Int.le_refl 0) hf
  rw [D0k, h1]
  rcases C8q (W := A8d i (A0k r i 1).2) (t := t) (d := 0) with ⟨u, h2, h3⟩ | ⟨e, h2, h3⟩
  ·have hfu := A9h (A8r i _) (Int.le_refl 0) hf h2
   rw [h2, h3, B0o rfl]
   simp only [A2m.bind]
   obtain ⟨v, hv⟩ := C1b (B4k hw.2.1.1) u hfu (d := 0) (Int.le_refl 0)
   show B4p (E7n (B5l _)) = B5l _
   rw [hv]
   show B4p (E7n (0, v)) = (0, v)
   rw [E6b]
   have h8 : v.kind = u.kind := D0a hv
   have := B1c hfu
   unfold B4p
   rw [if_neg oo_]
  ·have h4 := (C7a (D4a i _) t h2).1
   rw [h2, h3, A9p (by show e ≠ 0; omega)]
   exact C0z (x := (e, t0)) (by show 0 ≤ e; omega) (fun h9 => by have h9 : e = 0 := h9; omega) (fun _ => rfl)
 ·rw [if_pos h0, if_pos h0]
  have := C7s (l := r) (f := i) (b := 1)
  exact (C0z (x := ((A0k r i 1).1, t0)) this (fun h9 => absurd h9 h0) (fun _ => rfl)).symm ▸ (by rw [show E7n ((A0k r i 1).1, t0) = C3u (A0k r i 1).1 from if_neg h0])
theorem E5j {m1 m2 : Res} {L1 L2 : List Fact} (h1 : E7m m1 L1) (h2 : E7m m2 L2) : E7m (A4w [m1, m2]) (L1 ++ L2) := by
 intro w hh hlt F hF
 have hb := (hh w (fun _ _ => rfl)).1
 have e2 : m2 ∈ [m1, m2] := List.mem_cons_of_mem _ List.mem_cons_self
 rcases List.mem_append.mp hF with hF | hF
 ·exact F.mono _ _ _ (fun b hb => ⟨m1, List.mem_cons_self, hb⟩) (h1 w (fun w' hw => hb m1 List.mem_cons_self w' hw) (fun b hb => hlt b ⟨m1, List.mem_cons_self, hb⟩) F hF)
 ·exact F.mono _ _ _ (fun b hb => ⟨m2, e2, hb⟩) (h2 w (fun w' hw => hb m2 e2 w' hw) (fun b hb => hlt b ⟨m2, e2, hb⟩) F hF)
end Go.Hy
namespace Go.Hy
open Go.RowKit Go.Shelf
theorem E3b {F : Fence} {n : Nat} {P : Program} {α : Type} {g : Operand} {ps : Array Tmp} {assign body : Code} {Q : Exit → Act → World → Prop} {a : Act} {w : World}
  (hro : F.round = none) (h1 : 1 ≤ n) {gf : Nat} {lb : Array Value} (hg : a.eval g = .func (.func gf) #[] lb) (hFg : F.fn gf) (eg : ∀ args w, (callFunc gf args).run P w = .ok (.enter gf args) w)
  {encs : α → Array Value} (hps : ∀ x, (encs x).size = ps.size) (I : List α → World → Prop) (Px : List α → α → Prop) (Kp : World → World → Prop)
  (hIp : ∀ (pre : List α) (A : World) (l : Nat) (o o0 : Obj), I pre A → A.heap[l]? = some o0 → o0.isCells = false → w.heap.size ≤ l → I pre (A.putObj l o)) (hIa : ∀ (pre : List α) (A : World) (o : Obj), I pre A → w.heap.size ≤ A.heap.size → I pre (A.alloc o)) (h0 : I [] w)
  (hKt : ∀ {A B C : World}, Kp A B → Kp B C → Kp A C) (hKp : ∀ (A : World) (l : Nat) (o o0 : Obj), A.heap[l]? = some o0 → o0.isCells = false → w.heap.size ≤ l → Kp A (A.putObj l o))
  (xs : List α)
  (hit : ∀ (l : Nat) (J : List α → World → Prop) (W1 : World), (∀ pre W, J pre W → I pre W) →
   (∀ pre A B, J pre A → I pre B → (∀ (k : Nat) (o : Obj), A.heap[k]? = some o → o.isCells = false → B.heap[k]? = some o) → J pre B) →
   (∀ pre x W, J pre W → Px pre x → YieldAt F (n - 1 - 1) P l (encs x) W fun e W' => e = .returned (.bool true) ∧ J (pre ++ [x]) W' ∧ Kp W W') → J [] W1 → (∀ (k : Nat), k < w.heap.size → W1.heap[k]? = w.heap[k]?) →
   CallsIn F (n - 1) P gf (#[.func (.yield l) #[] #[]] ++ lb) W1 fun e W' => (∃ v, e = .returned v) ∧ J xs W')
  (a₁ : α → Act)
  (hassign : ∀ (l : Nat) (x : α) (W : World) (K : Act → World → Prop), K (a₁ x) W →
   assign.wpIn (F.inRound l) (n - 1 - 1) P (Exit.then K (fun _ _ _ => False)) { tmps := (ps.zip (encs x)).foldl (fun t (p, v) => t.setIfInBounds p v) a.tmps, defers := [] } W)
  (hbody : ∀ (l : Nat) (pre : List α) (x : α) (W : World), I pre W → Px pre x →
   body.wpIn (F.inRound l) (n - 1 - 1) P (fun e _ W' => e = .normal ∧ KeepsOthers W W' ∧ Kp W W' ∧ I (pre ++ [x]) W') (a₁ x) W)
  (hdone : ∀ (D : Nat) (W : World), w.heap.size ≤ D → I xs W → W.heap[D]? = some (.deferred (some [])) → Q .normal { a with defers := { target := .collected D, args := #[] } :: a.defers } W) :
  (Code.rangeFunc g ps assign body).wpIn F n P Q a w := by
 refine wpIn_rangeFunc ?_
 intro fn hfn
 rw [hro]
 obtain ⟨rec, hrec⟩ : ∃ rec : LoopState → Option Code → Loop, rec = fun st pe => { state := st, pending := pe, fn, tmps := a.tmps, params := ps, assign, body, defers := w.heap.size } := ⟨_, rfl⟩
 obtain ⟨W1, hW1⟩ : ∃ W1, (w.alloc (.deferred (some []))).alloc (.loop (rec .ready none)) = W1 := ⟨_, rfl⟩
 have hL1 : W1.heap[w.heap.size + 1]? = some (.loop (rec .ready none)) := by
  rw [← hW1]; have := World.alloc_heap_new (w.alloc (.deferred (some []))) (.loop (rec .ready none)); rwa [World.size_alloc] at this
 have hK1 : W1.heap[w.heap.size]? = some (.deferred (some [])) := by
  rw [← hW1]; exact (Below.heap_alloc _ _ _ sp_).trans (World.alloc_heap_new w _)
 have hI1 : I [] W1 := by rw [← hW1]; exact hIa _ _ _ (hIa _ _ _ h0 (Nat.le_refl _)) sp_
 refine ⟨w.heap.size + 1, [{ target := .collected w.heap.size, args := #[] }], W1, { target := .fn (.func gf) lb, args := #[.func (.yield (w.heap.size + 1)) #[] #[]] }, W1, gf,
  #[.func (.yield (w.heap.size + 1)) #[] #[]] ++ lb, W1, ?_, ?_, ?_, ?_, fun _ => h1, ?_⟩
 ·rw [← hW1, hrec]; exact run_enterLoop_outer _ _ _ _ _
 ·simp only [resolve, hg]
  simp [go_sem]
 ·intro f' hf'; simp [Target.leads] at hf'; subst hf'; exact hFg
 ·simp [invoke, go_sem, eg]
 ·refine (hit (w.heap.size + 1) (fun pre W => I pre W ∧ W.heap[w.heap.size + 1]? = some (.loop (rec .ready none)) ∧ W.heap[w.heap.size]? = some (.deferred (some []))) W1
   (fun pre W h => h.1) (fun pre A B hA hB hk => ⟨hB, hk _ _ hA.2.1 rfl, hk _ _ hA.2.2 rfl⟩) ?_ ⟨hI1, hL1, hK1⟩ (fun k hk => by rw [← hW1]; exact (Below.heap_alloc _ _ _ (by simp; omega)).trans (Below.heap_alloc _ _ _ hk))).mono ?_
  ·rintro pre x W ⟨hi, hl, hk⟩ hpx
   have hlt : w.heap.size + 1 < W.heap.size := (Array.getElem?_eq_some_iff.1 hl).1
   have hy := run_yield (P := P) (args := encs x) hl (by rw [hrec]; exact hps x)
   rw [hrec] at hy
   refine ⟨fn, _, assign, body, hy, roundIn_of_wpIn hfn (hassign _ x W _ ⟨_, run_beginRound hl (by rw [hrec]), ?_⟩)⟩
   have hl2 : (W.putObj (w.heap.size + 1) (.loop { rec .ready none with state := .busy })).heap[w.heap.size + 1]? = some (.loop { rec .ready none with state := .busy }) := World.putObj_heap_same hlt
   have hk2 : (W.putObj (w.heap.size + 1) (.loop { rec .ready none with state := .busy })).heap[w.heap.size]? = some (.deferred (some [])) := (World.putObj_heap_other oo_).trans hk
   refine wpIn_mono (hbody _ pre x _ (hIp _ _ _ _ _ hi hl rfl oo_) hpx) ?_
   rintro e a3 W3 ⟨rfl, hk3, hkp3, hi3⟩
   have hl3 := hk3.same _ _ hl2 rfl
   have hend := run_endRound (P := P) none hl3
   rw [hrec] at hl3 hend
   refine ⟨_, _, hend, rfl, ⟨hIp _ _ _ _ _ hi3 hl3 rfl oo_, ?_, ?_⟩, hKt (hKt (hKp _ _ _ _ hl rfl oo_) hkp3) (hKp _ _ _ _ hl3 rfl oo_)⟩
   ·rw [hrec]; exact World.putObj_heap_same (Array.getElem?_eq_some_iff.1 hl3).1
   ·exact (World.putObj_heap_other oo_).trans (hk3.same _ _ hk2 rfl)
  ·rintro e W2 ⟨⟨v, rfl⟩, hi, hl, hk⟩
   exact ⟨none, _, by have := run_endLoop (P := P) hl (by rw [hrec]; simp); rw [hrec] at this; exact this, hdone _ _ (Nat.le_refl _) (hIp _ _ _ _ _ hi hl rfl oo_) ((World.putObj_heap_other oo_).trans hk)⟩
end Go.Hy
namespace Go.Hy
open Go.Proofs
set_option maxRecDepth 100000
theorem E2p (n : Int) (h0 : 0 ≤ n) (hn : n ≤ 40) : Spec Tryz.prog 187 #[.int .i64 (n)] [] [] (fun _ : Unit => .int .i64 (((2 ^ n.toNat : Nat) : Int))) (fun _ : Unit => []) (fun _ : Unit => []) := by
 refine sg_ Tryz.ntmps187 fun B hB => ?_
 refine z77 ?_; refine z150 ?_; refine A0s (X := Nat) (fun s_ => (s_ : Int) ≤ n) (fun s_ => [(0, .int .i64 (n)), (3, .int .i64 (((2 ^ s_ : Nat) : Int))), (4, .int .i64 ((s_ : Int)))]) (fun s_ G_ => G_) (fun s_ => []) (fun s_ => n.toNat - s_) (0) (by simpa using h0) (by exact lr_) ?_ ?_
 ·exact fun w hs => hs
 ·intro i base0 hi0 next0; have hpw : 2 ^ i ≤ 2 ^ 40 := Nat.pow_le_pow_right oo_ oo_; have hpz : (0 : Int) ≤ ((2 ^ i : Nat) : Int) := Int.natCast_nonneg _; refine z142 ?_; refine z89 ?_; refine gc_ (decide ((i : Int) < n)) (fun h7 c7 => ?_) (fun h7 c7 => ?_)
  ·refine z91 ?_; refine z78 ?_; refine q0 rfl (G3g ?_); refine z165 ?_; refine A0a (fun w hs => ?_) (next0 (i + 1) _ oo_ oo_ ⟨rfl, (by (conv => lhs; whnf); rw [Nat.pow_succ]; push_cast; rfl), rfl, trivial⟩); exact (hs.l9)
  ·have he : n.toNat = i := by omega
   refine z203 ?_; refine A1r Tryz.func187 Tryz.results187 wn_ () (by rw [he]) (fun w hs => hs.none)
theorem D3b (s : Nat) (i : Int) (hs : s < 4294967296) : Spec Tryz.prog 116 #[.int .u32 ((s : Nat) : Int), .int .i64 (i)] [] [] (fun _ : Unit => .bool ((A4l s i))) (fun _ : Unit => []) (fun _ : Unit => []) := by
 refine sg_ Tryz.ntmps116 fun B hB => ?_
 refine z204 ?_; refine A0z ([(4, .bool (((decide (0 ≤ i)) && (decide (i < 24))) && (decide (((s / 2 ^ i.toNat % 2 : Nat) : Int) = 1))))]) (fun hK => ?_) (fun base => ?_)
 ·refine z78 ?_; refine z55 ?_; refine z3 ?_; refine qI rfl rfl rfl wl_ (fun hg7 => ?_) (fun hg7 => ?_)
  ·have g7 := sm_ (p := (decide (0 ≤ i)) = true) hg7; refine z31 ?_; refine z47 ?_; refine z118 ?_; refine qI rfl rfl rfl wl_ (fun hg11 => ?_) (fun hg11 => ?_)
   ·have g11 := sm_ (p := (decide (i < 24)) = true) hg11; refine z31 ?_; refine qT rfl rfl rfl (D6y ?_); refine z23 ?_; refine qT rfl rfl rfl (A0b Tryz.call187 (E2p i om_ om_) (fun x15 => ?_)); refine qT rfl rfl rfl (F9b ?_ (a := s) (b := 2 ^ i.toNat)); refine qT rfl rfl rfl (F9a ?_ (a := s / 2 ^ i.toNat) (b := 2)); refine qT rfl rfl rfl (C7j ?_ (a := ((s / 2 ^ i.toNat % 2 : Nat) : Int)) (b := 1)); refine z129 ?_; exact hK _ ⟨(by first | rfl | ((conv => lhs; whnf); first | (simp_all [B4j]; done) | (simp_all [B4j]; omega))), trivial⟩
   ·have g11 := sm_ (p := (decide (i < 24)) = false) hg11; refine z141 ?_; refine z188 ?_; exact hK _ ⟨(by first | rfl | ((conv => lhs; whnf); first | (simp_all [B4j]; done) | (simp_all [B4j]; omega))), trivial⟩
  ·have g7 := sm_ (p := (decide (0 ≤ i)) = false) hg7; refine z4 ?_; refine z140 ?_; refine z141 ?_; refine z121 ?_; refine z130 ?_; exact hK _ ⟨(by first | rfl | ((conv => lhs; whnf); first | (simp_all [B4j]; done) | (simp_all [B4j]; omega))), trivial⟩
 ·refine A1r Tryz.func116 Tryz.results116 wn_ () (congrArg Value.bool (by rw [B4j, show decide (((s / 2 ^ i.toNat % 2 : Nat) : Int) = 1) = decide (s / 2 ^ i.toNat % 2 = 1) from decide_eq_decide.mpr oo_])) (fun w hs => hs.none)
theorem p24 : (2 ^ (24 : Int).toNat : Nat) = 16777216 := by decide +kernel
theorem E2s (s : Nat) (hs : s < 4294967296) : Spec Tryz.prog 214 #[.int .u32 ((s : Nat) : Int)] [] [] (fun _ : Unit => .bool ((decide (s < 16777216)))) (fun _ : Unit => []) (fun _ : Unit => []) := by
 refine sg_ Tryz.ntmps214 fun B hB => ?_
 refine z134 ?_; refine q0 rfl (D6y ?_); refine q0 rfl (A0b Tryz.call187 (E2p 24 om_ om_) (fun x5 => ?_)); refine z19 ?_; refine z74 ?_; refine A1r Tryz.func214 Tryz.results214 wn_ () (congrArg Value.bool (decide_eq_decide.mpr (by rw [p24]; omega))) (fun w hs => hs.none)
theorem G2t (s : Nat) (hs : s < 4294967296) : Spec Tryz.prog 161 #[.int .u32 ((s : Nat) : Int)] [] [] (fun x : SH => sl x (A0g s).length) (fun x : SH => [IL (A0g s) x]) (fun x : SH => []) := by
 refine sg_ Tryz.ntmps161 fun B hB => ?_
 refine z77 ?_; refine z150 ?_; refine A0s (X := Nat × SH) (fun s_ => s_.1 ≤ 24) (fun s_ => [(0, .int .u32 ((s : Nat) : Int)), (3, sl s_.2 ((A2f s s_.1).length)), (4, .int .i64 ((s_.1 : Int)))]) (fun s_ G_ => G_) (fun s_ => [A1d 1 3 s_.2 ((A2f s s_.1).length) (A3q (A2f s s_.1))]) (fun s_ => 24 - s_.1) (0, (none, 0)) oo_ (by exact lr_) ?_ ?_
 ·exact fun w hs => (hs.A2r 1 3)
 ·intro ⟨i, a⟩ base0 hi0 next0; dsimp only at hi0 next0 ⊢; have hln := A6v s i; refine z79 ?_; refine z89 ?_; refine gc_ (decide ((i : Int) < 24)) (fun h6 c6 => ?_) (fun h6 c6 => ?_)
  ·refine z205 ?_; refine q0 rfl (A0b Tryz.call116 (D3b s (i : Int) om_) (fun x11 => ?_)); refine z1 ?_; refine gc_ ((A4l s (i : Int))) (fun h11 c11 => ?_) (fun h11 c11 => ?_)
   ·refine z98 ?_; refine q0 rfl (A2y fun b14 => ?_); refine q0 rfl (A4a (fun a15 => ?_) (a := a) (n' := (A2f s i).length)); refine A0n (fun w hs => ((hs.perm A0y).drop).E2c) ?_; refine z165 ?_; have hnx : A2f s (i + 1) = A2f s i ++ [(i : Int)] := by rw [A6h, if_pos]; simp [A4l] at c11; exact c11.2
    refine A0a (fun w hs => ?_) (next0 (i + 1, a15) _ oo_ (by (try simp only); omega) ⟨rfl, (by (conv => lhs; whnf); simp [sl, hnx]), rfl, trivial⟩); rw [hnx]; simpa using (hs.l9)
   ·refine z104 ?_; have hnx : A2f s (i + 1) = A2f s i := by rw [A6h, if_neg]; simp [A4l] at c11; simp [c11 oo_]
    refine A0a (fun w hs => ?_) (next0 (i + 1, a) _ oo_ (by (try simp only); omega) ⟨rfl, (by (conv => lhs; whnf); simp [sl, hnx]), rfl, trivial⟩); rw [hnx]; exact (hs.l9)
  ·refine z203 ?_; have he : i = 24 := by omega
   subst he; refine A1r Tryz.func161 Tryz.results161 wn_ a rfl (fun w hs => (hs.B1n hB rfl rfl (by unfold reach; omega) (fun c hc => by have := B1b hc; unfold A2a; omega)).l8)
theorem F6z (l : List Int) (a_l : SH) (hl : l.length ≤ 64) (hx : ∀ x, x ∈ l → 0 ≤ x ∧ x < 24) : Spec Tryz.prog 249 #[sl a_l (l.length)] [IL l a_l] [] (fun _ : Unit => .int .u32 (((B2p l) : Nat) : Int)) (fun _ : Unit => []) (fun _ : Unit => []) := by
 refine sg_ Tryz.ntmps249 fun B hB => ?_
 refine B4l (l := l) (a := a_l) (fun hl1 hA1 hU1 => ?_); refine z77 ?_; refine z150 ?_; refine A0s (X := Nat) (fun s_ => s_ ≤ l.length) (fun s_ => [(0, sl a_l (l.length)), (3, .int .i64 (((C6r l s_ : Nat) : Int))), (4, .int .i64 ((s_ : Int)))]) (fun s_ G_ => G_) (fun s_ => []) (fun s_ => l.length - s_) (0) oo_ (by exact ⟨rfl, (by rw [D8t]; rfl), rfl, trivial⟩) ?_ ?_
 ·exact fun w hs => hs
 ·intro i base0 hi0 next0; have hst := E8f hx i; refine z148 ?_; refine gc_ (decide ((i : Int) < (l.length : Int))) (fun h8 c8 => ?_) (fun h8 c8 => ?_)
  ·have hgx := hx _ (A0l (d := 0) (show i < l.length by omega)); have hg2 : 2 ^ (l.getD i 0).toNat ≤ 2 ^ 24 := Nat.pow_le_pow_right oo_ oo_; have hpz : (0 : Int) ≤ ((2 ^ (l.getD i 0).toNat : Nat) : Int) := Int.natCast_nonneg _; refine z91 ?_; refine z98 ?_; refine z3 ?_; obtain ⟨bk2, o2, hav2⟩ := hA1 oo_; refine q0 rfl (A3t ?_ (j := i)); refine q0 rfl (E4u ?_); refine q0 rfl (A0b Tryz.call187 (E2p (l.getD i 0) om_ om_) (fun x16 => ?_)); refine z84 ?_; refine z88 ?_; refine A0a (fun w hs => ?_) (next0 (i + 1) _ oo_ oo_ ⟨rfl, (by (conv => lhs; whnf); rw [D8u oo_]; push_cast; rfl), rfl, trivial⟩); exact (hs.l9)
  ·have he : i = l.length := by omega
   subst he; rw [E2h] at hst ⊢; refine z17 ?_; refine z75 ?_; refine q0 rfl (E9h ?_ (a := B2p l)); refine z74 ?_; refine A1r Tryz.func249 Tryz.results249 wn_ () (by first | rfl | (simp_all; done) | (simp_all; omega)) (fun w hs => hs.none)
theorem E2z (c : Cl) (hc : u32 c) : Spec Tryz.prog 159 #[B0i c] [] [] (fun _ : Unit => .bool ((A0u c))) (fun _ : Unit => []) (fun _ : Unit => []) := by
 refine sg_ Tryz.ntmps159 fun B hB => ?_
 have hc1 := hc.1; have hc2 := hc.2; refine z73 ?_; refine q0 rfl (A2d fun b1 => ?_); refine z106 ?_; refine A0z ([(2, .bool ((decide (((c).pos) < 16777216)) && (decide (((c).neg) < 16777216))))]) (fun hK => ?_) (fun base => ?_)
 ·refine z131 ?_; refine q0 rfl (A0b Tryz.call214 (E2s ((c).pos) om_) (fun x5 => ?_)); refine z3 ?_; refine qI rfl rfl rfl wl_ (fun hg6 => ?_) (fun hg6 => ?_)
  ·have g6 := sm_ (p := ((decide (((c).pos) < 16777216))) = true) hg6; refine z158 ?_; refine qT rfl rfl rfl (A0b Tryz.call214 (E2s ((c).neg) om_) (fun x9 => ?_)); refine z129 ?_; exact hK _ ⟨(by first | rfl | ((conv => lhs; whnf); first | (simp_all [A0u]; done) | (simp_all [A0u]; omega))), trivial⟩
  ·have g6 := sm_ (p := ((decide (((c).pos) < 16777216))) = false) hg6; refine z188 ?_; exact hK _ ⟨(by first | rfl | ((conv => lhs; whnf); first | (simp_all [A0u]; done) | (simp_all [A0u]; omega))), trivial⟩
 ·refine A1r Tryz.func159 Tryz.results159 wn_ () (by first | rfl | (simp_all [A0u]; done) | (simp_all [A0u]; omega)) (fun w hs => hs.none)
theorem F8f (c : Cl) (d : Cl) (hc : u32 c) (hd : u32 d) : Spec Tryz.prog 248 #[B0i c, B0i d] [] [] (fun _ : Unit => .bool ((below c d))) (fun _ : Unit => []) (fun _ : Unit => []) := by
 refine sg_ Tryz.ntmps248 fun B hB => ?_
 have hc1 := hc.1; have hc2 := hc.2; have hd1 := hd.1; have hd2 := hd.2; refine z73 ?_; refine q0 rfl (A2d fun b2 => ?_); refine q0 rfl (A2d fun b3 => ?_); refine z106 ?_; refine A0z ([(4, .bool ((decide ((((c).pos) ||| ((d).pos)) = ((c).pos))) && (decide ((((c).neg) ||| ((d).neg)) = ((c).neg)))))]) (fun hK => ?_) (fun base => ?_)
 ·refine z131 ?_; refine z82 ?_; refine q0 rfl (B3d ?_ (a := ((c).pos)) (b := ((d).pos))); refine z82 ?_; refine q0 rfl (F5n ?_ (a := (((c).pos) ||| ((d).pos))) (b := ((c).pos))); refine z3 ?_; refine qI rfl rfl rfl wl_ (fun hg13 => ?_) (fun hg13 => ?_)
  ·have g13 := sm_ (p := (decide ((((c).pos) ||| ((d).pos)) = ((c).pos))) = true) hg13; refine z158 ?_; refine z168 ?_; refine qT rfl rfl rfl (B3d ?_ (a := ((c).neg)) (b := ((d).neg))); refine z168 ?_; refine qT rfl rfl rfl (F5n ?_ (a := (((c).neg) ||| ((d).neg))) (b := ((c).neg))); refine z129 ?_; exact hK _ ⟨(by first | rfl | ((conv => lhs; whnf); first | (simp_all [below]; done) | (simp_all [below]; omega))), trivial⟩
  ·have g13 := sm_ (p := (decide ((((c).pos) ||| ((d).pos)) = ((c).pos))) = false) hg13; refine z141 ?_; refine z121 ?_; refine z130 ?_; exact hK _ ⟨(by first | rfl | ((conv => lhs; whnf); first | (simp_all [below]; done) | (simp_all [below]; omega))), trivial⟩
 ·refine A1r Tryz.func248 Tryz.results248 wn_ () (by first | rfl | (simp_all [below]; done) | (simp_all [below]; omega)) (fun w hs => hs.none)
theorem G2u (c : Cl) (d : Cl) (hc : u32 c) (hd : u32 d) : Spec Tryz.prog 226 #[B0i c, B0i d] [] [] (fun _ : Unit => .bool ((A3p c d))) (fun _ : Unit => []) (fun _ : Unit => []) := by
 refine sg_ Tryz.ntmps226 fun B hB => ?_
 have hc1 := hc.1; have hc2 := hc.2; have hd1 := hd.1; have hd2 := hd.2; refine z73 ?_; refine q0 rfl (A2d fun b2 => ?_); refine q0 rfl (A2d fun b3 => ?_); refine z106 ?_; refine A0z ([(4, .bool ((decide (((c).pos) < ((d).pos))) || ((decide (((c).pos) = ((d).pos))) && (decide (((c).neg) < ((d).neg))))))]) (fun hK => ?_) (fun base => ?_)
 ·refine z131 ?_; refine z82 ?_; refine q0 rfl (F2t ?_ (a := ((c).pos)) (b := ((d).pos))); refine z3 ?_; refine qI rfl rfl rfl wl_ (fun hg10 => ?_) (fun hg10 => ?_)
  ·have g10 := sm_ (p := (decide (((c).pos) < ((d).pos))) = false) hg10; refine z158 ?_; refine z168 ?_; refine qT rfl rfl rfl (F5n ?_ (a := ((c).pos)) (b := ((d).pos))); refine z23 ?_; refine qI rfl rfl rfl wl_ (fun hg16 => ?_) (fun hg16 => ?_)
   ·have g16 := sm_ (p := (decide (((c).pos) = ((d).pos))) = true) hg16; refine z158 ?_; refine z168 ?_; refine qT rfl rfl rfl (F2t ?_ (a := ((c).neg)) (b := ((d).neg))); refine z34 ?_; refine z130 ?_; exact hK _ ⟨(by first | rfl | ((conv => lhs; whnf); first | (simp_all [A3p]; done) | (simp_all [A3p]; omega))), trivial⟩
   ·have g16 := sm_ (p := (decide (((c).pos) = ((d).pos))) = false) hg16; refine z141 ?_; refine z38 ?_; refine z130 ?_; exact hK _ ⟨(by first | rfl | ((conv => lhs; whnf); first | (simp_all [A3p]; done) | (simp_all [A3p]; omega))), trivial⟩
  ·have g10 := sm_ (p := (decide (((c).pos) < ((d).pos))) = true) hg10; refine z80 ?_; refine z121 ?_; refine z128 ?_; refine z128 ?_; refine z25 ?_; refine z4 ?_; refine z129 ?_; exact hK _ ⟨(by first | rfl | ((conv => lhs; whnf); first | (simp_all [A3p]; done) | (simp_all [A3p]; omega))), trivial⟩
 ·refine A1r Tryz.func226 Tryz.results226 wn_ () (by first | rfl | (simp_all [A3p]; done) | (simp_all [A3p]; omega)) (fun w hs => hs.none)
theorem C1z (c : Cl) (hc : u32 c) : Spec Tryz.prog 160 #[B0i c] [] [] (fun _ : Unit => .bool ((B3t c))) (fun _ : Unit => []) (fun _ : Unit => []) := by
 refine sg_ Tryz.ntmps160 fun B hB => ?_
 have hc1 := hc.1; have hc2 := hc.2; refine z73 ?_; refine q0 rfl (A2d fun b1 => ?_); refine z106 ?_; refine z103 ?_; refine A0s (X := Nat) (fun s_ => s_ ≤ 24 ∧ ∀ j, j < s_ → (A4l c.pos (j : Int) && A4l c.neg (j : Int)) = false) (fun s_ => [(1, .pointer (some ⟨b1, 0, none⟩)), (3, .int .i64 ((s_ : Int)))]) (fun s_ G_ => G_) (fun s_ => [A1o b1 (A0r c) 45]) (fun s_ => 24 - s_) (0) (⟨by omega, fun j hj => by omega⟩) (by exact lr_) ?_ ?_
 ·exact fun w hs => hs
 ·intro i base0 ⟨hi, hok⟩ next0; refine z79 ?_; refine z89 ?_; refine gc_ (decide ((i : Int) < 24)) (fun h5 c5 => ?_) (fun h5 c5 => ?_)
  ·refine z149 ?_; refine A0z ([(1, .pointer (some ⟨b1, 0, none⟩)), (3, .int .i64 ((i : Int))), (17, .bool ((A4l ((c).pos) (i : Int)) && (A4l ((c).neg) (i : Int))))]) (fun hK => ?_) (fun base => ?_)
   ·refine z131 ?_; refine z3 ?_; refine q0 rfl (A0b Tryz.call116 (D3b ((c).pos) (i : Int) om_) (fun x11 => ?_)); refine z3 ?_; refine qI rfl rfl rfl wl_ (fun hg12 => ?_) (fun hg12 => ?_)
    ·have g12 := sm_ (p := ((A4l ((c).pos) (i : Int))) = true) hg12; refine z158 ?_; refine z23 ?_; refine qT rfl rfl rfl (A0b Tryz.call116 (D3b ((c).neg) (i : Int) om_) (fun x16 => ?_)); refine z94 ?_; exact hK _ ⟨rfl, rfl, dn_, trivial⟩
    ·have g12 := sm_ (p := ((A4l ((c).pos) (i : Int))) = false) hg12; refine z121 ?_; refine z105 ?_; exact hK _ ⟨rfl, rfl, dn_, trivial⟩
   ·refine gc_ ((A4l ((c).pos) (i : Int)) && (A4l ((c).neg) (i : Int))) (fun h17 c17 => ?_) (fun h17 c17 => ?_)
    ·refine z77 ?_; have hb : (A4l c.pos (i : Int) && A4l c.neg (i : Int)) = true := by simpa using h17
     refine A1r Tryz.func160 Tryz.results160 wn_ () (by rw [B3t, List.any_eq_true.mpr ⟨i, List.mem_range.mpr oo_, hb⟩]) (fun w hs => hs.none)
    ·refine z104 ?_; have hb : (A4l c.pos (i : Int) && A4l c.neg (i : Int)) = false := by simpa using h17
     refine A0a (fun w hs => ?_) (next0 (i + 1) _ (⟨by omega, A8l hok hb⟩) oo_ lr_); exact (hs.l9)
  ·refine z181 ?_; refine A1r Tryz.func160 Tryz.results160 wn_ () (by rw [B3t, List.any_eq_false.mpr (fun j hj => by rw [hok j (by have := List.mem_range.mp hj; omega)]; decide)]) (fun w hs => hs.none)
theorem C2n (l : List Cl) (c : Cl) : A2b l c = l.any fun d => !decide (d = c) && below c d := by
 unfold A2b; congr 1; funext d; rw [show (decide (c = d)) = decide (d = c) from decide_eq_decide.mpr eq_comm]
theorem F4p (l : List Cl) (a_l : SH) (c : Cl) (hc : u32 c) : Spec Tryz.prog 225 #[sl a_l (l.length), B0i c] [CL l a_l] [] (fun _ : Unit => .bool ((!A2b l c))) (fun _ : Unit => []) (fun _ : Unit => []) := by
 refine sg_ Tryz.ntmps225 fun B hB => ?_
 refine A0c (l := l) (a := a_l) (fun hl1 hA1 hU1 => ?_); have hc1 := hc.1; have hc2 := hc.2; refine z73 ?_; refine q0 rfl (A2d fun b3 => ?_); refine z106 ?_; refine z103 ?_; refine A0s (X := Nat) (fun s_ => s_ ≤ l.length ∧ ∀ j, j < s_ → (!decide (l.getD j cl0 = c) && below c (l.getD j cl0)) = false) (fun s_ => [(0, sl a_l (l.length)), (3, .pointer (some ⟨b3, 0, none⟩)), (5, .int .i64 ((s_ : Int)))]) (fun s_ G_ => G_) (fun s_ => [A1o b3 (A0r c) 45]) (fun s_ => l.length - s_) (0) (⟨by omega, fun j hj => by omega⟩) (by exact lr_) ?_ ?_
 ·exact fun w hs => hs
 ·intro i base0 ⟨hi, hok⟩ next0; refine z148 ?_; refine gc_ (decide ((i : Int) < (l.length : Int))) (fun h9 c9 => ?_) (fun h9 c9 => ?_)
  ·have hu := hU1 _ (A0l (d := cl0) (show i < l.length by omega)); have hu1 := hu.1; have hu2 := hu.2; refine z149 ?_; refine A0z ([(0, sl a_l (l.length)), (3, .pointer (some ⟨b3, 0, none⟩)), (5, .int .i64 ((i : Int))), (25, .bool ((!decide ((l.getD i cl0) = c)) && (below c (l.getD i cl0))))]) (fun hK => ?_) (fun base => ?_)
   ·refine A1y (pn := 1000000) (tn := false) (A := [0, 0, 3, 7, 0, 31, 63, 127, 127, 127, 895, 1919, 4095, 8191]) (l := [0, 1, 2, 3, 4, 5, 6, 7, 8, 9, 10, 11, 12, 13]) (fin := []) Tab.mixed ⟨_, Tryz.func225⟩ (by rfl) ?_; refine z137 ?_; obtain ⟨bk2, o2, hav2⟩ := hA1 oo_; refine n0 rfl (A7w ?_ (j := i)); refine z62 ?_; refine z53 ?_; refine n0 rfl (E7t ?_ (c := (l.getD i cl0)) (c' := c)); refine z14 ?_; refine nI rfl rfl rfl wl_ (fun hg18 => ?_) (fun hg18 => ?_)
    ·have g18 := sm_ (p := (!decide ((l.getD i cl0) = c)) = true) hg18; refine F7i ?_; refine z42 ?_; refine z42 ?_; refine nT rfl rfl rfl (A7w ?_ (j := i)); refine nT rfl rfl rfl (D8o ?_); refine nT rfl rfl rfl (A1q Tryz.call248 (F8f c (l.getD i cl0) om_ om_) (fun x24 => ?_)); refine z41 ?_; refine z101 ?_; exact hK _ ⟨rfl, rfl, rfl, dn_, trivial⟩
    ·have g18 := sm_ (p := (!decide ((l.getD i cl0) = c)) = false) hg18; refine z147 ?_; refine z11 ?_; refine z155 ?_; exact hK _ ⟨rfl, rfl, rfl, dn_, trivial⟩
   ·refine gc_ ((!decide ((l.getD i cl0) = c)) && (below c (l.getD i cl0))) (fun h25 c25 => ?_) (fun h25 c25 => ?_)
    ·refine z77 ?_; have hb : (!decide (l.getD i cl0 = c) && below c (l.getD i cl0)) = true := by simpa using h25
     refine A1r Tryz.func225 Tryz.results225 wn_ () (by rw [C2n, C3p (d := cl0) (i := i) oo_ hb]; rfl) (fun w hs => hs.none)
    ·refine z104 ?_; have hb : (!decide (l.getD i cl0 = c) && below c (l.getD i cl0)) = false := by simpa using h25
     refine A0a (fun w hs => ?_) (next0 (i + 1) _ (⟨by omega, A8l hok hb⟩) oo_ lr_); exact (hs.l9)
  ·refine z181 ?_; refine A1r Tryz.func225 Tryz.results225 wn_ () (by rw [C2n, C0i (d := cl0) (fun j hj => hok j oo_)]; rfl) (fun w hs => hs.none)
theorem C9y (l : List Cl) (a_l : SH) (m : List Cl) (a_m : SH)  : Spec Tryz.prog 21 #[sl a_l (l.length), sl a_m (m.length)] [CL l a_l, CL m a_m] [] (fun _ : Unit => .bool ((decide (l = m)))) (fun _ : Unit => []) (fun _ : Unit => []) := by
 refine sg_ Tryz.ntmps21 fun B hB => ?_
 refine A0c (l := l) (a := a_l) (fun hl1 hA1 hU1 => ?_); refine A0c (l := m) (a := a_m) (fun hl2 hA2 hU2 => ?_); refine z151 ?_; refine z20 ?_; refine z3 ?_; refine z20 ?_; refine z90 ?_; refine gc_ (decide ((l.length : Int) ≠ (m.length : Int))) (fun h10 c10 => ?_) (fun h10 c10 => ?_)
 ·have hne : ¬ l = m := fun e => by subst e; simp at h10
  refine z77 ?_; refine A1r Tryz.func21 Tryz.results21 wn_ () (by rw [decide_eq_false hne]) (fun w hs => hs.none)
 ·have hlen : l.length = m.length := by simp at h10; omega
  refine z83 ?_; refine z103 ?_; refine A0s (X := Nat) (fun s_ => s_ ≤ l.length ∧ ∀ j, j < s_ → l.getD j cl0 = m.getD j cl0) (fun s_ => [(0, sl a_l (l.length)), (1, sl a_m (m.length)), (5, .int .i64 ((s_ : Int)))]) (fun s_ G_ => G_) (fun s_ => []) (fun s_ => l.length - s_) (0) (⟨by omega, fun j hj => by omega⟩) (by exact lr_) ?_ ?_
  ·exact fun w hs => hs
  ·intro i base0 ⟨hi, hok⟩ next0; refine z148 ?_; refine gc_ (decide ((i : Int) < (l.length : Int))) (fun h14 c14 => ?_) (fun h14 c14 => ?_)
   ·refine z149 ?_; refine A1y (pn := 1000000) (tn := false) (A := [0, 0, 3, 7, 0, 0, 48, 112, 255]) (l := [0, 1, 2, 3, 4, 5, 6, 7, 8]) (fin := []) Tab.mixed ⟨_, Tryz.func21⟩ (by rfl) ?_; refine z137 ?_; obtain ⟨bk3, o3, hav3⟩ := hA1 oo_; refine n0 rfl (A7w ?_ (j := i)); refine z62 ?_; refine z137 ?_; obtain ⟨bk4, o4, hav4⟩ := hA2 oo_; refine n0 rfl (A7w ?_ (j := i)); refine z62 ?_; refine n0 rfl (E7t ?_ (c := (l.getD i cl0)) (c' := (m.getD i cl0))); refine z101 ?_; refine gc_ (!decide ((l.getD i cl0) = (m.getD i cl0))) (fun h25 c25 => ?_) (fun h25 c25 => ?_)
    ·refine z77 ?_; refine A1r Tryz.func21 Tryz.results21 wn_ () (by rw [decide_eq_false (fun e => by subst e; simp at h25)]) (fun w hs => hs.none)
    ·refine z104 ?_; have hb : l.getD i cl0 = m.getD i cl0 := by simpa using h25
     refine A0a (fun w hs => ?_) (next0 (i + 1) _ (⟨by omega, A8l hok hb⟩) oo_ lr_); exact (hs.l9)
   ·refine z181 ?_; refine A1r Tryz.func21 Tryz.results21 wn_ () (by rw [decide_eq_true (B5c hlen (fun j hj => hok j oo_))]) (fun w hs => hs.none)
theorem C1w (l : List Cl) (a_l : SH)  : Spec Tryz.prog 193 #[sl a_l (l.length)] [CL l a_l] [] (fun x : SH => .tuple #[sl x (A0p l).2.length, .int .i64 (A0p l).1]) (fun x : SH => [CL (A0p l).2 x]) (fun x : SH => []) := by
 refine sg_ Tryz.ntmps193 fun B hB => ?_
 refine A0c (l := l) (a := a_l) (fun hl1 hA1 hU1 => ?_); refine z86 ?_; refine z119 ?_; refine A0s (X := Nat) (fun s_ => s_ ≤ l.length ∧ ∀ j, j < s_ → A0u (l.getD j cl0) = true) (fun s_ => [(0, sl a_l (l.length)), (4, .int .i64 ((s_ : Int)))]) (fun s_ G_ => G_) (fun s_ => []) (fun s_ => l.length - s_) (0) (⟨by omega, fun j hj => by omega⟩) (by exact lr_) ?_ ?_
 ·exact fun w hs => hs
 ·intro i base0 ⟨hi, hok⟩ next0; refine z148 ?_; refine gc_ (decide ((i : Int) < (l.length : Int))) (fun h11 c11 => ?_) (fun h11 c11 => ?_)
  ·have hu := hU1 _ (A0l (d := cl0) (show i < l.length by omega)); have hu1 := hu.1; have hu2 := hu.2; refine z205 ?_; obtain ⟨bk2, o2, hav2⟩ := hA1 oo_; refine q0 rfl (A3t ?_ (j := i)); refine z39 ?_; refine q0 rfl (A0b Tryz.call159 (E2z (l.getD i cl0) om_) (fun x18 => ?_)); refine z132 ?_; refine gc_ (!(A0u (l.getD i cl0))) (fun h19 c19 => ?_) (fun h19 c19 => ?_)
   ·have hlf : A0p l = (2, []) := by rw [A0p, if_pos (B4s (d := cl0) (i := i) oo_ (by simpa using h19))]
    refine z86 ?_; refine A1x Tryz.func193 Tryz.results193 wn_ wn_ (none, 0) (by rw [hlf]; rfl) (fun w hs => by rw [hlf]; exact (hs.A4p 0).bare.l8)
   ·refine z104 ?_; have hb : A0u (l.getD i cl0) = true := by simpa using h19
    refine A0a (fun w hs => ?_) (next0 (i + 1) _ (⟨by omega, A8l hok hb⟩) oo_ lr_); exact (hs.l9)
  ·have hall : l.all A0u = true := B6t (d := cl0) (fun j hj => hok j oo_); refine z17 ?_; refine z150 ?_; refine A0s (X := Nat × SH) (fun s_ => s_.1 ≤ l.length) (fun s_ => [(0, sl a_l (l.length)), (5, sl s_.2 (((A7n l s_.1)).length)), (6, .int .i64 ((s_.1 : Int)))]) (fun s_ G_ => CL (A7n l s_.1) s_.2 :: G_) (fun s_ => []) (fun s_ => l.length - s_.1) (0, (none, 0)) oo_ (by exact ⟨rfl, (by rw [D0e]; rfl), rfl, trivial⟩) ?_ ?_
   ·exact fun w hs => by rw [D0e]; exact hs.A4p 0
   ·intro ⟨i, a⟩ base1 hi1 next1; dsimp only at hi1 next1 ⊢; refine A0c (l := (A7n l i)) (a := a) (fun hl3 hA3 hU3 => ?_); have hrl := C6z l i; refine z148 ?_; refine gc_ (decide ((i : Int) < (l.length : Int))) (fun h23 c23 => ?_) (fun h23 c23 => ?_)
    ·have hu := hU1 _ (A0l (d := cl0) (show i < l.length by omega)); have hu1 := hu.1; have hu2 := hu.2; refine z91 ?_; refine z79 ?_; refine z112 ?_; obtain ⟨bk4, o4, hav4⟩ := hA1 oo_; refine q0 rfl (A3t ?_ (j := i)); refine z39 ?_; refine q0 rfl (A0b Tryz.call225 (F4p l a_l (l.getD i cl0) om_) (fun x31 => ?_)); refine z132 ?_; refine gc_ (!(!A2b l (l.getD i cl0))) (fun h32 c32 => ?_) (fun h32 c32 => ?_)
     ·refine z17 ?_; refine z87 ?_; have hnx : A7n l (i + 1) = A7n l i := by rw [C1x oo_, if_pos (by simpa using h32)]
      refine A0a (fun w hs => ?_) (next1 (i + 1, a) _ oo_ (by (try simp only); omega) ⟨rfl, (by (conv => lhs; whnf); simp [sl, hnx]), rfl, trivial⟩); rw [hnx]; exact (hs.l9)
     ·refine z5 ?_; refine z204 ?_; refine z8 ?_; refine A0s (X := Nat) (fun s_ => s_ ≤ (A7n l i).length ∧ ∀ j, j < s_ → A3p ((A7n l i).getD j cl0) (l.getD i cl0) = true) (fun s_ => [(0, sl a_l (l.length)), (5, sl a (((A7n l i)).length)), (6, .int .i64 ((i : Int))), (7, .int .i64 ((s_ : Int)))]) (fun s_ G_ => G_) (fun s_ => []) (fun s_ => (A7n l i).length - s_) (0) (⟨by omega, fun j hj => by omega⟩) (by exact lr_) ?_ ?_
      ·exact fun w hs => hs
      ·intro k base2 ⟨hk, hk2⟩ next2; have hvo : k < (A7n l i).length → u32 ((A7n l i).getD k cl0) := fun h => hU1 _ (E2u (A0l h))
       refine z126 ?_; refine A0z ([(0, sl a_l (l.length)), (5, sl a (((A7n l i)).length)), (6, .int .i64 ((i : Int))), (7, .int .i64 ((k : Int))), (47, .bool ((decide ((k : Int) < (((A7n l i)).length : Int))) && (A3p (((A7n l i)).getD k cl0) (l.getD i cl0))))]) (fun hK => ?_) (fun base => ?_)
       ·refine A1y (pn := 1000000) (tn := false) (A := [0, 0, 2, 7, 15, 31, 31, 127, 255, 31, 31, 1567, 3615, 8191, 16383]) (l := [0, 1, 2, 3, 4, 5, 6, 7, 8, 9, 10, 11, 12, 13, 14]) (fin := []) Tab.mixed ⟨_, Tryz.func193⟩ (by rfl) ?_; refine z137 ?_; refine n0 rfl (D8n ?_); refine n0 rfl (G2g ?_); refine z14 ?_; refine nI rfl rfl rfl wl_ (fun hg37 => ?_) (fun hg37 => ?_)
        ·have g37 := sm_ (p := (decide ((k : Int) < (((A7n l i)).length : Int))) = true) hg37; refine C8s ?_; refine z42 ?_; obtain ⟨bk5, o5, hav5⟩ := hA3 oo_; refine nT rfl rfl rfl (A7w ?_ (j := k)); refine nT rfl rfl rfl (D8o ?_); refine z42 ?_; refine z42 ?_; refine nT rfl rfl rfl (A7w ?_ (j := i)); refine nT rfl rfl rfl (D8o ?_); refine nT rfl rfl rfl (A1q Tryz.call226 (G2u (((A7n l i)).getD k cl0) (l.getD i cl0) om_ om_) (fun x46 => ?_)); refine z41 ?_; refine z101 ?_; exact hK _ ⟨rfl, rfl, rfl, rfl, dn_, trivial⟩
        ·have g37 := sm_ (p := (decide ((k : Int) < (((A7n l i)).length : Int))) = false) hg37; refine z147 ?_; refine z147 ?_; refine z155 ?_; exact hK _ ⟨rfl, rfl, rfl, rfl, dn_, trivial⟩
       ·refine gc_ ((decide ((k : Int) < (((A7n l i)).length : Int))) && (A3p (((A7n l i)).getD k cl0) (l.getD i cl0))) (fun h47 c47 => ?_) (fun h47 c47 => ?_)
        ·refine z5 ?_; refine z8 ?_; refine z87 ?_; refine z10 ?_; refine A0a (fun w hs => ?_) (next2 (k + 1) _ (⟨by omega, A8l hk2 c47.2⟩) oo_ lr_); exact (hs.l9)
        ·have hlast : k < (A7n l i).length → A3p ((A7n l i).getD k cl0) (l.getD i cl0) = false := fun hlt => by simpa [hlt] using h47
         refine z161 ?_; refine A0z ([(0, sl a_l (l.length)), (5, sl a (((A7n l i)).length)), (6, .int .i64 ((i : Int))), (7, .int .i64 ((k : Int))), (64, .bool ((decide ((k : Int) = (((A7n l i)).length : Int))) || (!decide ((((A7n l i)).getD k cl0) = (l.getD i cl0)))))]) (fun hK => ?_) (fun base => ?_)
         ·refine A1y (pn := 1000000) (tn := false) (A := [0, 0, 2, 7, 15, 31, 31, 127, 255, 31, 31, 1567, 3615, 8191, 16383]) (l := [0, 1, 2, 3, 4, 5, 6, 7, 8, 9, 10, 11, 12, 13, 14]) (fin := []) Tab.mixed ⟨_, Tryz.func193⟩ (by rfl) ?_; refine z137 ?_; refine n0 rfl (D8n ?_); refine n0 rfl (F7j ?_); refine z14 ?_; refine nI rfl rfl rfl wl_ (fun hg54 => ?_) (fun hg54 => ?_)
          ·have g54 := sm_ (p := (decide ((k : Int) = (((A7n l i)).length : Int))) = false) hg54; refine C8s ?_; refine z42 ?_; obtain ⟨bk6, o6, hav6⟩ := hA3 oo_; refine nT rfl rfl rfl (A7w ?_ (j := k)); refine nT rfl rfl rfl (D8o ?_); refine z42 ?_; refine z42 ?_; refine nT rfl rfl rfl (A7w ?_ (j := i)); refine nT rfl rfl rfl (D8o ?_); refine nT rfl rfl rfl (E7t ?_ (c := (((A7n l i)).getD k cl0)) (c' := (l.getD i cl0))); refine z155 ?_; exact hK _ ⟨rfl, rfl, rfl, rfl, dn_, trivial⟩
          ·have g54 := sm_ (p := (decide ((k : Int) = (((A7n l i)).length : Int))) = true) hg54; refine z147 ?_; refine z147 ?_; refine z41 ?_; refine z101 ?_; exact hK _ ⟨rfl, rfl, rfl, rfl, dn_, trivial⟩
         ·refine gc_ ((decide ((k : Int) = (((A7n l i)).length : Int))) || (!decide ((((A7n l i)).getD k cl0) = (l.getD i cl0)))) (fun h64 c64 => ?_) (fun h64 c64 => ?_)
          ·have hcase : ¬ (k < (A7n l i).length ∧ (A7n l i).getD k cl0 = l.getD i cl0) := by rintro ⟨h1, h2⟩; rcases c64 with h3 | h3; omega; exact h3 h2
           refine A0a (fun w hs => (hs.F7o (l := A7n l i) (a := a) k sp_ oo_)) ?_; refine A0a (fun w hs => (hs.G1p (l := A7n l i) (a := a) k sp_ oo_)) ?_; refine A1n (p := (A7n l i).length ≤ a.2) (fun w hs => hs.G5p sp_) (fun hcap => ?_); have htl : ((A7n l i).take k).length = k := by simp; omega
           have hdl : ((A7n l i).drop k).length = (A7n l i).length - k := by simp
           refine A1y (pn := 1000000) (tn := true) (A := [0, 0, 0, 6, 15, 0, 0, 96, 224, 480, 1023, 0, 0, 6144, 16383, 32767]) (l := [1, 2, 3, 5, 6, 7, 8, 11, 12, 13, 0, 4, 9, 10, 14, 15]) (fin := []) Tab.mixed ⟨_, Tryz.func193⟩ (by rfl) ?_; refine z137 ?_; refine n0 rfl (E1m ?_ (k := k)); refine z137 ?_; refine n0 rfl (A7w ?_ (j := i)); refine n0 rfl (G5m ?_); refine z137 ?_; refine n0 rfl (E1l ?_ (k := k) (a := a)); refine n0 rfl (F1o fun b65 => ?_); refine B8v [_] [_] (fun _ _ _ hs => hs.A5o (sz := 2) (m := 0) rfl de_) ?_; refine n0 rfl (D3j (fun a69 => ?_) sp_ (a := (some ⟨b65, 0, none⟩, 0)) (n' := 0) (b := a) (ls := ((A7n l i).take k)) (hy := (by rw [List.length_take, Nat.min_eq_left oo_]; rfl))); refine B8v [_] [_] (fun _ _ _ hs => hs.A6l (l := []) (m := ((A7n l i).take k))) ?_; refine n0 rfl (B3r fun b74 => ?_); refine n0 rfl (F7q (fun a75 => ?_) (a := a69) (n' := 0 + ((A7n l i).take k).length)); refine B8v [_, _] [_] (fun _ _ _ hs => ((hs.perm A0y).drop).B5j (c := (l.getD i cl0))) ?_; refine n0 rfl (D3j (fun a79 => ?_) sp_ (a := a75) (n' := 0 + ((A7n l i).take k).length + 1) (b := (C3e a 2 k)) (ls := ((A7n l i).drop k)) (hy := (by rw [List.length_drop]; rfl))); refine B8v [_] [_] (fun _ _ _ hs => hs.A6l (l := (([] ++ ((A7n l i).take k)) ++ [(l.getD i cl0)])) (m := ((A7n l i).drop k))) ?_; refine z179 ?_; refine z88 ?_; have hnx : A7n l (i + 1) = (A7n l i).take k ++ [l.getD i cl0] ++ (A7n l i).drop k := by rw [C1x oo_, if_neg (by simpa using h32), D4s (k := k) oo_ hk2 hlast, if_neg hcase]
           have hnl := C6z l (i + 1); have hll : (A7n l (i + 1)).length = 0 + ((A7n l i).take k).length + 1 + ((A7n l i).drop k).length := by rw [hnx]; simp; omega
           refine A0a (fun w hs => ?_) (next1 (i + 1, a79) _ oo_ (by (try simp only); omega) ⟨rfl, (by (conv => lhs; whnf); rw [hll]; rfl), rfl, trivial⟩); refine ((hs.A1f (l := A7n l (i + 1)) hB (by rw [hnx]; simp) (by rw [hll]) (by unfold reach at *; omega) (fun c hc => hU1 c (E2u hc))).l9)
          ·have hcase : k < (A7n l i).length ∧ (A7n l i).getD k cl0 = l.getD i cl0 := by have h9 := h64; simp at h9; exact ⟨by omega, h9.2⟩
           refine z104 ?_; have hnx : A7n l (i + 1) = A7n l i := by rw [C1x oo_, if_neg (by simpa using h32), D4s (k := k) oo_ hk2 hlast, if_pos hcase]
           refine A0a (fun w hs => ?_) (next1 (i + 1, a) _ oo_ (by (try simp only); omega) ⟨rfl, (by (conv => lhs; whnf); simp [sl, hnx]), rfl, trivial⟩); rw [hnx]; exact (hs.l9)
    ·have he : i = l.length := by omega
     have hrw : A7n l i = A3x l := by rw [he, D6i]
     refine z17 ?_; refine z79 ?_; refine z20 ?_; refine z52 ?_; refine z1 ?_; refine gc_ (decide (64 < (((A7n l i)).length : Int))) (fun h82 c82 => ?_) (fun h82 c82 => ?_)
     ·have hlf : A0p l = (3, []) := by rw [A0p, if_neg (by rw [hall]; decide), if_pos (by rw [← hrw]; omega)]
      refine z86 ?_; refine A1x Tryz.func193 Tryz.results193 wn_ wn_ (none, 0) (by rw [hlf]; rfl) (fun w hs => by rw [hlf]; exact (hs.A4p 0).bare.l8)
     ·have hlf : A0p l = (0, A3x l) := by rw [A0p, if_neg (by rw [hall]; decide), if_neg (by rw [← hrw]; omega)]
      refine z5 ?_; refine z96 ?_; refine A1x Tryz.func193 Tryz.results193 wn_ wn_ a (by rw [hlf, ← hrw]; rfl) (fun w hs => by rw [hlf, ← hrw]; exact hs.bare.l8)
theorem A7y (l : List Cl) (a_l : SH)  : Spec Tryz.prog 149 #[sl a_l (l.length)] [CL l a_l] [] (fun _ : Unit => .bool ((A0h l))) (fun _ : Unit => []) (fun _ : Unit => []) := by
 refine sg_ Tryz.ntmps149 fun B hB => ?_
 refine A0c (l := l) (a := a_l) (fun hl1 hA1 hU1 => ?_); refine z134 ?_; refine q0 rfl (A0b Tryz.call193 (C1w l a_l ) (fun x7 => ?_)); refine z93 ?_; refine z0 ?_; refine A0z ([(2, .bool ((decide (((A0p l).1) = 0)) && (decide (((A0p l).2) = l))))]) (fun hK => ?_) (fun base => ?_)
 ·refine z78 ?_; refine z154 ?_; refine qI rfl rfl rfl wl_ (fun hg12 => ?_) (fun hg12 => ?_)
  ·have g12 := sm_ (p := (decide (((A0p l).1) = 0)) = true) hg12; refine z31 ?_; refine z23 ?_; refine qT rfl rfl rfl (A0b Tryz.call21 (C9y ((A0p l).2) x7 l a_l ) (fun x15 => ?_)); refine z129 ?_; exact hK _ ⟨dn_, trivial⟩
  ·have g12 := sm_ (p := (decide (((A0p l).1) = 0)) = false) hg12; refine z188 ?_; exact hK _ ⟨dn_, trivial⟩
 ·refine A1r Tryz.func149 Tryz.results149 wn_ () (by rw [← B9x]) (fun w hs => hs.none)
theorem A9d (l : List Cl) (a_l : SH)  : Spec Tryz.prog 134 #[sl a_l (l.length)] [CL l a_l] [] (fun _ : Unit => .bool ((A0d l))) (fun _ : Unit => []) (fun _ : Unit => []) := by
 refine sg_ Tryz.ntmps134 fun B hB => ?_
 refine A0c (l := l) (a := a_l) (fun hl1 hA1 hU1 => ?_); refine z151 ?_; refine q0 rfl (A0b Tryz.call149 (A7y l a_l ) (fun x5 => ?_)); refine z132 ?_; refine gc_ (!(A0h l)) (fun h6 c6 => ?_) (fun h6 c6 => ?_)
 ·refine z77 ?_; refine A1r Tryz.func134 Tryz.results134 wn_ () (by rw [A0d, show A0h l = false by simpa using h6]; rfl) (fun w hs => hs.none)
 ·have hfr : A0h l = true := by simpa using h6
  have hal : l.all A0u = true := by unfold A0h at hfr; simp only [Bool.and_eq_true] at hfr; exact hfr.1.1.1
  refine z83 ?_; refine z103 ?_; refine A0s (X := Nat) (fun s_ => s_ ≤ l.length ∧ ∀ j, j < s_ → A6s (l.getD j cl0) = false) (fun s_ => [(0, sl a_l (l.length)), (3, .int .i64 ((s_ : Int)))]) (fun s_ G_ => G_) (fun s_ => []) (fun s_ => l.length - s_) (0) (⟨by omega, fun j hj => by omega⟩) (by exact lr_) ?_ ?_
  ·exact fun w hs => hs
  ·intro i base0 ⟨hi, hok⟩ next0; refine z148 ?_; refine gc_ (decide ((i : Int) < (l.length : Int))) (fun h10 c10 => ?_) (fun h10 c10 => ?_)
   ·have hu := hU1 _ (A0l (d := cl0) (show i < l.length by omega)); have hu1 := hu.1; have hu2 := hu.2; have hr24 : A0u (l.getD i cl0) = true := List.all_eq_true.mp hal _ (A0l oo_); refine z205 ?_; obtain ⟨bk2, o2, hav2⟩ := hA1 oo_; refine q0 rfl (A3t ?_ (j := i)); refine z39 ?_; refine q0 rfl (A0b Tryz.call160 (C1z (l.getD i cl0) om_) (fun x17 => ?_)); refine z1 ?_; refine gc_ ((B3t (l.getD i cl0))) (fun h17 c17 => ?_) (fun h17 c17 => ?_)
    ·refine z77 ?_; have hb : A6s (l.getD i cl0) = true := by rw [← C2a hr24]; simpa using h17
     refine A1r Tryz.func134 Tryz.results134 wn_ () (by rw [A0d, C3p (d := cl0) (i := i) oo_ hb]; simp) (fun w hs => hs.none)
    ·refine z104 ?_; have hb : A6s (l.getD i cl0) = false := by rw [← C2a hr24]; simpa using h17
     refine A0a (fun w hs => ?_) (next0 (i + 1) _ (⟨by omega, A8l hok hb⟩) oo_ lr_); exact (hs.l9)
   ·refine z181 ?_; refine A1r Tryz.func134 Tryz.results134 wn_ () (by rw [A0d, hfr, C0i (d := cl0) (fun j hj => hok j oo_)]; rfl) (fun w hs => hs.none)
def C4a (l : List Cl) (i k : Nat) : Bool := (A5v l k).testBit i
theorem E0j (l : List Cl) (i : Nat) : C4a l i 0 = false := by simp [C4a, A5v]
theorem E0k {l : List Cl} {i k : Nat} (hi : i < 24) (h : k < l.length) : C4a l i (k + 1) = ((C4a l i k || A4l (l.getD k cl0).pos (i : Int)) || A4l (l.getD k cl0).neg (i : Int)) := by
 unfold C4a; rw [C2i h, Nat.testBit_or, Nat.testBit_or]; simp only [A4l]; rw [decide_eq_true (show (0 : Int) ≤ (i : Int) by omega), decide_eq_true (show (i : Int) < 24 by omega)]; simp [Bool.or_assoc]
theorem F2a (l : List Cl) (a_l : SH)  : Spec Tryz.prog 232 #[sl a_l (l.length)] [CL l a_l] [] (fun _ : Unit => .int .u32 (((A5d l) : Nat) : Int)) (fun _ : Unit => []) (fun _ : Unit => []) := by
 refine sg_ Tryz.ntmps232 fun B hB => ?_
 refine A0c (l := l) (a := a_l) (fun hl1 hA1 hU1 => ?_); refine z77 ?_; refine z150 ?_; refine A0s (X := Nat × SH) (fun s_ => s_.1 ≤ 24) (fun s_ => [(0, sl a_l (l.length)), (3, sl s_.2 ((A2f (A5v l l.length) s_.1).length)), (4, .int .i64 ((s_.1 : Int)))]) (fun s_ G_ => G_) (fun s_ => [A1d 1 3 s_.2 ((A2f (A5v l l.length) s_.1).length) (A3q (A2f (A5v l l.length) s_.1))]) (fun s_ => 24 - s_.1) (0, (none, 0)) oo_ (by exact lr_) ?_ ?_
 ·exact fun w hs => (hs.A2r 1 3)
 ·intro ⟨i, a⟩ base0 hi0 next0; dsimp only at hi0 next0 ⊢; have hln := A6v (A5v l l.length) i; refine z79 ?_; refine z89 ?_; refine gc_ (decide ((i : Int) < 24)) (fun h8 c8 => ?_) (fun h8 c8 => ?_)
  ·refine z91 ?_; refine z150 ?_; refine A0s (X := Nat) (fun s_ => s_ ≤ l.length) (fun s_ => [(0, sl a_l (l.length)), (3, sl a ((A2f (A5v l l.length) i).length)), (4, .int .i64 ((i : Int))), (5, .bool ((C4a l i s_))), (6, .int .i64 ((s_ : Int)))]) (fun s_ G_ => G_) (fun s_ => [A1d 1 3 a ((A2f (A5v l l.length) i).length) (A3q (A2f (A5v l l.length) i))]) (fun s_ => l.length - s_) (0) oo_ (by exact ⟨rfl, rfl, rfl, (by rw [E0j]; rfl), rfl, trivial⟩) ?_ ?_
   ·exact fun w hs => hs
   ·intro k base1 hi1 next1; refine z148 ?_; refine gc_ (decide ((k : Int) < (l.length : Int))) (fun h14 c14 => ?_) (fun h14 c14 => ?_)
    ·have hu := hU1 _ (A0l (d := cl0) (show k < l.length by omega)); have hu1 := hu.1; have hu2 := hu.2; refine z91 ?_; refine A0z ([(0, sl a_l (l.length)), (3, sl a ((A2f (A5v l l.length) i).length)), (4, .int .i64 ((i : Int))), (5, .bool (((C4a l i k) || (A4l ((l.getD k cl0).pos) (i : Int))) || (A4l ((l.getD k cl0).neg) (i : Int)))), (6, .int .i64 ((k : Int)))]) (fun hK => ?_) (fun base => ?_)
     ·refine z98 ?_; refine qI rfl rfl rfl wl_ (fun hg18 => ?_) (fun hg18 => ?_)
      ·have g18 := sm_ (p := ((C4a l i k)) = false) hg18; refine z31 ?_; refine z23 ?_; obtain ⟨bk2, o2, hav2⟩ := hA1 oo_; refine qT rfl rfl rfl (A3t ?_ (j := k)); refine z46 ?_; refine qT rfl rfl rfl (F2w ?_); refine z23 ?_; refine qT rfl rfl rfl (A0b Tryz.call116 (D3b ((l.getD k cl0).pos) (i : Int) om_) (fun x25 => ?_)); refine z140 ?_; refine qI rfl rfl rfl wl_ (fun hg27 => ?_) (fun hg27 => ?_)
       ·have g27 := sm_ (p := ((A4l ((l.getD k cl0).pos) (i : Int))) = false) hg27; refine z31 ?_; refine z23 ?_; refine qT rfl rfl rfl (A3t ?_ (j := k)); refine z46 ?_; refine qT rfl rfl rfl (F2w ?_); refine z23 ?_; refine qT rfl rfl rfl (A0b Tryz.call116 (D3b ((l.getD k cl0).neg) (i : Int) om_) (fun x34 => ?_)); refine z130 ?_; exact hK _ ⟨rfl, rfl, rfl, dn_, rfl, trivial⟩
       ·have g27 := sm_ (p := ((A4l ((l.getD k cl0).pos) (i : Int))) = true) hg27; refine z141 ?_; refine z80 ?_; refine z129 ?_; exact hK _ ⟨rfl, rfl, rfl, dn_, rfl, trivial⟩
      ·have g18 := sm_ (p := ((C4a l i k)) = true) hg18; refine z141 ?_; refine z191 ?_; refine z141 ?_; refine z121 ?_; refine z129 ?_; exact hK _ ⟨rfl, rfl, rfl, dn_, rfl, trivial⟩
     ·refine z88 ?_; refine A0a (fun w hs => ?_) (next1 (k + 1) _ oo_ oo_ ⟨rfl, rfl, rfl, (by (conv => lhs; whnf); rw [E0k oo_ oo_]), rfl, trivial⟩); exact (hs.l9)
    ·have he : k = l.length := by omega
     refine z17 ?_; refine z75 ?_; refine z1 ?_; refine gc_ ((C4a l i k)) (fun h36 c36 => ?_) (fun h36 c36 => ?_)
     ·refine z98 ?_; refine q0 rfl (A2y fun b39 => ?_); refine q0 rfl (A4a (fun a40 => ?_) (a := a) (n' := (A2f (A5v l l.length) i).length)); refine A0n (fun w hs => ((hs.perm A0y).drop).E2c) ?_; refine z165 ?_; have hnx : A2f (A5v l l.length) (i + 1) = A2f (A5v l l.length) i ++ [(i : Int)] := by rw [A6h, if_pos (show (A5v l l.length).testBit i = true by rw [← he]; exact h36)]
      refine A0a (fun w hs => ?_) (next0 (i + 1, a40) _ oo_ (by (try simp only); omega) ⟨rfl, (by (conv => lhs; whnf); simp [sl, hnx]), rfl, trivial⟩); rw [hnx]; simpa using (hs.l9)
     ·refine z104 ?_; have hnx : A2f (A5v l l.length) (i + 1) = A2f (A5v l l.length) i := by rw [A6h, if_neg]; rw [show (A5v l l.length).testBit i = false by rw [← he]; exact h36]; decide
      refine A0a (fun w hs => ?_) (next0 (i + 1, a) _ oo_ (by (try simp only); omega) ⟨rfl, (by (conv => lhs; whnf); simp [sl, hnx]), rfl, trivial⟩); rw [hnx]; exact (hs.l9)
  ·have he : i = 24 := by omega
   subst he; refine A0a (fun w hs => (hs.B1n hB rfl rfl (by unfold reach; omega) (fun c hc => by have := B1b hc; unfold A2a; omega))) ?_; refine z17 ?_; refine z75 ?_; refine q0 rfl (A0b Tryz.call249 (F6z (A2f (A5v l l.length) 24) a oo_ (fun x hx => by have := B1b hx; omega)) (fun x42 => ?_)); refine z74 ?_; refine A1r Tryz.func232 Tryz.results232 wn_ () (by rw [B8l, C8a]) (fun w hs => hs.none)
end Go.Hy
namespace Go.Hy
open Go.Proofs
set_option maxRecDepth 100000
attribute [local go_sem] Oper.semAt_some
open Go.RowKit Go.Shelf
set_option maxHeartbeats 1000000
theorem G6e (F : Fence) (n : Nat) (hF : F.fn 209) (hro : F.round = none) (r : Nat) (k idx : Nat) (hk : k < 24) (h0 : ((r : Int) == 0) = false)
  (key : bits BinOp.and IntKind.u32 (r : Int) (-(r : Int) % 4294967296) * 125613361 % 4294967296 / 134217728 = (idx : Int)) (hi : idx < 32) (W : World) (hc : W.cell? ⟨0, idx, none⟩ = some (.int .u8 (k : Int))) :
  CallsIn F n Tryz.prog 209 #[.int .u32 (r : Int)] W fun e w' => e = .returned (.int .i64 (k : Int)) ∧ w' = W := by
 refine callsIn_of_wp Tryz.func209 rfl hF ?_ hro; simp only [Tryz.ntmps209, List.size_toArray, List.length_cons, List.length_nil, Nat.reduceAdd, Nat.reduceSub, Array.replicate_succ, Array.replicate_zero, List.push_toArray, List.append_toArray, List.nil_append, List.cons_append]
 gi_wp2_with (simp only [key])
 go_ret
 exact ⟨rfl, rfl⟩
theorem tz32' (F : Fence) (n : Nat) (hF : F.fn 209) (hro : F.round = none) (r : Nat) (h0 : ¬ r = 0) (hr : r < 16777216) (W : World) (hT : TabAt 0 Lib.deBruijn32tab W) :
  CallsIn F n Tryz.prog 209 #[.int .u32 (r : Int)] W fun e w' => e = .returned (.int .i64 (Lib.ctz 32 r : Int)) ∧ w' = W := by
 obtain ⟨hlow, hk⟩ := Lib.lowest_bit 32 r h0 oo_; obtain ⟨hi, htab⟩ := Lib.deBruijn32_at _ hk; have hcell := hT _ hi; rw [htab] at hcell; exact G6e F n hF hro r _ _ (D1e h0 hr).1 (by simp; omega) (tz32_key r _ oo_ h0 hlow) hi W hcell
theorem in1 (F : Fence) (n : Nat) (h208 : F.fn 208) (h209 : F.fn 209) (hro : F.round = none) (hn : 1 ≤ n) (l g : Nat) (s : Nat) (J : List Int → World → Prop)
  (hY : ∀ pre x W, J pre W → pre.length < 24 → (0 ≤ x ∧ x < 24) → YieldAt F (n - 1) Tryz.prog l #[.int .i64 x] W fun e W' => e = .returned (.bool true) ∧ J (pre ++ [x]) W' ∧ W'.heap[g]? = W.heap[g]?)
  (hT : ∀ pre W, J pre W → TabAt 0 Lib.deBruijn32tab W)
  (hJ : ∀ pre W v, J pre W → J pre (W.setCell ⟨g, 0, none⟩ v))
  (hs : s < 4294967296) (W : World) (hg : Boxed W g 43 (.int .u32 (s : Int))) (h0 : J [] W) :
  CallsIn F n Tryz.prog 208 #[.func (.yield l) #[] #[], .pointer (some ⟨g, 0, none⟩)] W fun e W' => (∃ v, e = .returned v) ∧ J (A0g s) W' := by
 refine callsIn_of_wp Tryz.func208 rfl h208 ?_ hro; simp only [Tryz.ntmps208, List.size_toArray, List.length_cons, List.length_nil, Nat.reduceAdd, Nat.reduceSub, Array.replicate_succ, Array.replicate_zero, List.push_toArray, List.append_toArray, List.nil_append, List.cons_append]; have hc := hg.cell; have hf := hg.frozen
 gi_wp2
 gi_loopw [] (fun wr => ∃ (pre : List Int) (r : Nat), A0g s = pre ++ A0g r ∧ r < 16777216 ∧ Boxed wr g 43 (.int .u32 (r : Int)) ∧ J pre wr)
  (fun wr => match wr.cell? ⟨g, 0, none⟩ with | some (.int _ v) => v.toNat | _ => 0)
 case atStart =>
  refine ⟨[], s &&& 16777215, by rw [List.nil_append, E5i], by rw [D5j]; exact Nat.mod_lt _ de_, ?_, hJ _ _ _ h0⟩; rw [← bits_and_u32_nat s 16777215 hs de_]; exact hg.set _
 case round =>
  obtain ⟨pre, r, hx, hr, hb, hj⟩ := hrel; have hc2 := hb.cell; have hf2 := hb.frozen; by_cases hr0 : r = 0
  ·subst hr0
   gi_wp2
   go_end0
   exact ⟨⟨_, rfl⟩, by rw [hx, show A0g 0 = [] from by decide, List.append_nil]; exact hj⟩
  ·obtain ⟨hk, hlist⟩ := D1e hr0 hr
   have hlen : pre.length < 24 := by
    have h1 := congrArg List.length hx; have h2 : (A0g s).length ≤ 24 := A6v s 24; rw [List.length_append, hlist, List.length_cons] at h1; omega
   obtain ⟨fn, tmps, assign, body, hy, hR⟩ := hY pre (Lib.ctz 32 r : Int) wr hj hlen oo_; have hbe : ((r : Int) != 0) = true := by simp; omega
   gi_wp2_with (gi_at_call 209; refine (tz32' F (n - 1) h209 hro r hr0 hr wr (hT _ _ hj)).mono ?_; rintro e w' ⟨rfl, rfl⟩)
   refine hR.mono ?_; rintro e W3 ⟨rfl, hJ3, hg3⟩; have hb3 : Boxed W3 g 43 (.int .u32 (r : Int)) := hg3.trans hb; have hc3 := hb3.cell; have hf3 := hb3.frozen
   gi_wp2
   have e1 : bits BinOp.and IntKind.u32 (r : Int) ((r : Int) - 1) = ((r &&& (r - 1) : Nat) : Int) := by
    rw [show (r : Int) - 1 = ((r - 1 : Nat) : Int) by omega]; exact bits_and_u32_nat r (r - 1) oo_ oo_
   rw [e1]; have hb4 := hb3.set (.int .u32 ((r &&& (r - 1) : Nat) : Int)); have hlt := F9o hr0
   go_roundw
   case rel => exact ⟨pre ++ [(Lib.ctz 32 r : Int)], r &&& (r - 1), by rw [hx, hlist, List.append_assoc]; rfl, by omega, hb4, hJ _ _ _ hJ3⟩
   case measure =>
    rw [hb4.cell, hc2]; simp only [Int.toNat_natCast]; exact hlt
theorem G3t (F : Fence) (n : Nat) (h : F.fn 156) (hro : F.round = none) (s : Nat) (w : World) :
  CallsIn F n Tryz.prog 156 #[.int .u32 (s : Int)] w fun e w' => e = .returned (.func (.func 208) #[] #[.pointer (some ⟨w.heap.size, 0, none⟩)]) ∧ w' = w.alloc (.cells #[.int .u32 (s : Int)] 43) := by
 refine callsIn_of_wp Tryz.func156 rfl h ?_ hro; simp only [Tryz.ntmps156, List.size_toArray, List.length_cons, List.length_nil, Nat.reduceAdd, Nat.reduceSub, Array.replicate_succ, Array.replicate_zero, List.push_toArray, List.append_toArray, List.nil_append, List.cons_append]
 gi_wp2
 go_ret
 exact ⟨rfl, rfl⟩
theorem F6d : (Tryz.prog.info? 3).map (fun i => (i.zero, i.size, i.bytes)) = some (some (.int .i64 0), 1, 8) := by kernel_rfl
theorem F5v (F : Fence) (n : Nat) (h81 : F.fn 81) (h156 : F.fn 156) (h208 : F.fn 208) (h209 : F.fn 209) (hro : F.round = none) (hn : 3 ≤ n) (s : Nat) (hs : s < 4294967296) (w : World) (hw : 0 < w.heap.size) (hT : TabAt 0 Lib.deBruijn32tab w) :
  CallsIn F n Tryz.prog 81 #[.int .u32 (s : Int)] w fun e W' => ∃ v, e = .returned v ∧ W'.ownsRow w.heap.size 3 1 v (A0g s).length ((A0g s).map (Value.int .i64)) ∧ Below w.heap.size w W' := by
 have h1 : 1 ≤ n := by omega
 obtain ⟨i0, hi, hz0, hz1, hz2⟩ := info_parts F6d; refine callsIn_of_wp_marks Tryz.func81 rfl h81 ?_ hro; simp only [Tryz.ntmps81, List.size_toArray, List.length_cons, List.length_nil, Nat.reduceAdd, Nat.reduceSub, Array.replicate_succ, Array.replicate_zero, List.push_toArray, List.append_toArray, List.nil_append, List.cons_append]
 gi_wp2_with (gi_at_call 156; refine (G3t F (n - 1) h156 hro _ _).mono ?_; rintro e w' ⟨rfl, rfl⟩)
 obtain ⟨w2, hw2⟩ : ∃ w2, (w.alloc (.cells #[.slice none 0 0] 117)).alloc (.cells #[.int .u32 (s : Int)] 43) = w2 := ⟨_, rfl⟩; have bO : Boxed w2 w.heap.size 117 (.slice none 0 0) := by rw [← hw2]; exact (Boxed.new w 117 (.slice none 0 0)).alloc _
 have bS : Boxed w2 (w.heap.size + 1) 43 (.int .u32 (s : Int)) := by rw [← hw2]; have := Boxed.new (w.alloc (.cells #[.slice none 0 0] 117)) 43 (.int .u32 (s : Int)); rwa [World.size_alloc] at this
 have hsz2 : w2.heap.size = w.heap.size + 2 := by rw [← hw2]; simp
 have hB2 : Below w.heap.size w w2 := by rw [← hw2]; exact ((Below.refl _ w).alloc (Nat.le_refl _) _).alloc sp_ _
 have hrw : ∀ {A B : World}, B.heap[w.heap.size + 1]? = A.heap[w.heap.size + 1]? → ∀ u, Boxed A (w.heap.size + 1) 43 u → Boxed B (w.heap.size + 1) 43 u := fun h u hu => h.trans hu
 simp only [World.size_alloc, hw2]
 refine E3b hro h1 (gf := 208) (lb := #[.pointer (some ⟨w.heap.size + 1, 0, none⟩)]) rfl h208 (enters_of Tryz.func208 (by kernel_rfl) rfl) (encs := fun x : Int => #[Value.int .i64 x]) (fun _ => rfl)
  (fun pre W => (∃ v, Boxed W w.heap.size 117 v ∧ W.ownsRow w.heap.size 3 1 v pre.length (pre.map (Value.int .i64))) ∧ (∃ u, Boxed W (w.heap.size + 1) 43 u) ∧ Below w.heap.size w W)
  (fun pre x => pre.length < 24 ∧ (0 ≤ x ∧ x < 24)) (fun W W' => W'.heap[w.heap.size + 1]? = W.heap[w.heap.size + 1]?)
  ?ip ?ia ⟨⟨_, bO, World.ownsRow_nil _ _ _ _⟩, ⟨_, bS⟩, hB2⟩ (fun h k => k.trans h) ?kp (A0g s) ?it
  (fun x => { tmps := #[.int .u32 (s : Int), undef, .slice none 0 0, .pointer (some ⟨w.heap.size, 0, none⟩), .int .i64 x, .int .u32 (s : Int), .func (.func 208) #[] #[.pointer (some ⟨w.heap.size + 1, 0, none⟩)], .int .i64 x, undef, undef, undef, undef, undef], defers := [] }) ?assign ?body ?done
 case ip =>
  rintro pre A l o o0 ⟨⟨v, hv, hr⟩, ⟨u, hu⟩, hB⟩ hl hc hle; refine ⟨⟨v, (World.putObj_heap_other oo_).trans hv, ownsRow_putObj hr o hl hc⟩, ⟨u, (World.putObj_heap_other oo_).trans hu⟩, hB.trans ⟨rfl, rfl, rfl, by simp, fun k hk => World.putObj_heap_other oo_⟩⟩
 case ia =>
  rintro pre A o ⟨⟨v, hv, hr⟩, ⟨u, hu⟩, hB⟩ hle; exact ⟨⟨v, hv.alloc o, hr.kept (World.grownBy_alloc A o none) (by rcases hr.2 with ⟨rfl, _⟩ | ⟨g, cap, cur, rfl, _⟩; exact .inl rfl; exact .inr (by simp [Value.ownBlock]))⟩, ⟨u, hu.alloc o⟩, hB.alloc oo_ o⟩
 case kp =>
  intro A l o o0 hl hc hle; exact World.putObj_heap_other oo_
 case it =>
  intro l J W1 hJI hJk hY h0 hk1; refine in1 F (n - 1) h208 h209 hro oo_ l (w.heap.size + 1) s J (fun pre x W hj hl hx => hY pre x W hj ⟨hl, hx⟩) (fun pre W hj => ?_) (fun pre W v hj => ?_) hs W1 ?_ h0
  ·intro i hi; exact ((hJI _ _ hj).2.2.cell (p := ⟨0, i, none⟩) hw).trans (hT i hi)
  ·obtain ⟨⟨v0, hv0, hr⟩, ⟨u, hu⟩, hB⟩ := hJI _ _ hj; refine hJk pre W _ hj ⟨⟨v0, hv0.other oo_ v, hr.kept (grownBy_setCell' W (w.heap.size + 1) v) (.inr (hu.not_row de_ hr).symm)⟩, ⟨_, hu.set v⟩, hB.setCell (p := ⟨w.heap.size + 1, 0, none⟩) sp_ v⟩ (fun k o hk ho => (KeepsOthers.setCell W _ v).same k o hk ho)
  ·exact (hk1 _ oo_).trans bS
 case assign =>
  intro l x W K hK
  gi_wp2
  exact hK
 case body =>
  rintro l pre x W ⟨⟨v, hv, hrow⟩, ⟨u, hu⟩, hB⟩ ⟨hlt, hx⟩; have hc := hv.cell
  gi_wp2_with (gi_at_builtin; refine wpListIn_append_own _ rfl _ _ 117 rfl w.heap.size 3 i0 (.int .i64 0) 1 8 Tryz.underlying117 hi hz0 hz1 hz2 rfl de_ _ _ _ rfl (hrow.alloc _) ⟨W.heap.size, 0, none⟩ 1 1 [.int .i64 x] rfl rfl (cell_one_new _ _ _) (by simp [Value.oneCell']) (by unfold maxLen; omega) oo_ (by have := hB.size; simp; omega) ?_; intro v' w1 hown' hgrow _; obtain ⟨g', cap', rfl⟩ := ownsRow_succ hown'; obtain ⟨hv1, hv2, hr2, hk2, hb2⟩ := hv.appended de_ hrow hB.size (Nat.le_refl _) hown' hgrow; have hc1 := hv1.cell; have hf1 := hv1.frozen)
  have hu1 := ((hu.alloc (.cells #[.int .i64 x] 3)).kept hgrow (hu.not_row de_ hrow)).other (B' := w.heap.size) oo_ (.slice (some ⟨g', 0, none⟩) (pre.length + 1) cap'); exact ⟨hu1.trans hu.symm, ⟨_, hv2, by simpa using hr2⟩, ⟨u, hu1⟩, hB.trans hb2⟩
 case done =>
  rintro D W hD ⟨⟨v, hv, hrow⟩, _, hB⟩ hK; have hc := hv.cell
  gi_wp2
  refine ⟨by simp, .inl ⟨_, _, rfl, run_takeDeferred hK, ?_⟩⟩; exact ⟨_, results_tmp rfl _ _ _, v, rfl, ownsRow_putObj hrow _ hK rfl, hB.trans ⟨rfl, rfl, rfl, by simp, fun k hk => World.putObj_heap_other oo_⟩⟩
abbrev DBF : Fact := At 0 0 (Lib.deBruijn32tab.map fun (v : Nat) => Value.int .u8 (v : Int))
theorem F7p {ok : Nat → Prop} {w : World} (h : DBF.f ok w) (hk : ∀ b, ok b → b < w.heap.size) : TabAt 0 Lib.deBruijn32tab w ∧ 0 < w.heap.size := by
 refine ⟨fun j hj => ?_, hk _ h.1⟩; have h1 := h.2 j (.int .u8 (Lib.deBruijn32tab.getD j 0 : Nat)) (by rw [List.getElem?_map, List.getD_eq_getElem?_getD, List.getElem?_eq_getElem hj]; rfl)
 rwa [Nat.zero_add] at h1
theorem E5f (s : Nat) (hs : s < 4294967296) : Spec Tryz.prog 81 #[.int .u32 (s : Int)] [DBF] [] (fun x : SH => sl x (A0g s).length) (fun _ => []) (fun x => [A1d 1 3 x (A0g s).length (A3q (A0g s))]) := fun ok w hok hst => by
 obtain ⟨hT, hw⟩ := F7p (hst.facts DBF List.mem_cons_self) (fun b hb => hb.2.1); refine (callsIn_wide.mp (F5v Fence.wide 3 trivial trivial trivial trivial rfl (Nat.le_refl _) s hs w hw hT)).mono fun e w' hh => ?_
 obtain ⟨v, rfl, hrow, hB⟩ := hh; obtain ⟨a, rfl⟩ := E4f hrow
 have hrow0 : w'.ownsRow 0 3 1 (sl a (A0g s).length) (A0g s).length (A3q (A0g s)) := by
  have h1 : w'.ownsRow 0 3 1 (sl a (A0g s).length) (A0g s).length ((A0g s).map (Value.int .i64)) := ⟨hrow.1, hrow.2.imp id (fun ⟨g, cap, cur, q1, q2, q3⟩ => ⟨g, cap, cur, q1, Nat.zero_le _, q3⟩)⟩
  rwa [show (A0g s).map (Value.int .i64) = A3q (A0g s) from by induction (A0g s) with | nil => rfl | cons y ys ih => (simp only [List.map_cons, A3q, List.flatMap_cons, B0r, List.singleton_append] at ih ⊢; rw [ih])] at h1
 refine ⟨a, rfl, ⟨hB.os, hB.tape, hB.output, hB.size, fun b hb _ => hB.block b hb⟩, fun _ hF => (by cases hF), ?_, ?_, List.pairwise_singleton _ _⟩
 ·intro m hm w2 hw2; rw [List.mem_singleton] at hm; subst hm; exact C4k hrow0 (fun b hb => hw2 b hb)
 ·intro m hm b hb; rw [List.mem_singleton] at hm; subst hm; have := hrow.lt b hb; exact ⟨this.2, .inr this.1⟩
theorem C2p (s : Nat) (hs : s < 4294967296) : Spec Tryz.prog 81 #[.int .u32 (s : Int)] [DBF] [] (fun x : SH => sl x (A0g s).length) (fun x => [IL (A0g s) x]) (fun _ => []) := fun ok w hok hst => (E5f s hs ok w hok hst).mono fun e w' hh => by
 obtain ⟨x, he, h⟩ := hh; have hl : (A0g s).length ≤ 24 := A6v s 24; exact ⟨x, he, h.B1n trivial rfl rfl (by unfold reach; omega) (fun c hc => by have := B1b hc; unfold A2a; omega)⟩
end Go.Hy
namespace Go.Hy
open Go.Proofs
set_option maxRecDepth 100000
theorem A7s (i : Int) : Spec Tryz.prog 176 #[.int .i64 i] [] [] (fun _ : Unit => .bool (decide (0 ≤ i) && decide (i < 24))) (fun _ => []) (fun _ => []) := by
 refine sg_ Tryz.ntmps176 fun B hB => ?_
 refine z134 ?_; refine z55 ?_; refine z3 ?_; refine qI rfl rfl rfl wl_ (fun hg5 => A2v ?_) (fun hg5 => ?_)
 ·refine z47 ?_; refine z129 ?_; refine A1r Tryz.func176 Tryz.results176 wn_ () (by first | (simp_all; done) | (simp_all; omega)) (fun w hs => hs.none)
 ·refine z4 ?_; refine z130 ?_; refine A1r Tryz.func176 Tryz.results176 wn_ () (by first | (simp_all; done) | (simp_all; omega)) (fun w hs => hs.none)
theorem B5u (s : Nat) (hs : s < 4294967296) : Spec Tryz.prog 87 #[.int .u32 (s : Int)] [] [] (fun _ : Unit => .bool (decide (s < 16777216))) (fun _ => []) (fun _ => []) := by
 refine sg_ Tryz.ntmps87 fun B hB => ?_
 refine z134 ?_; refine q0 rfl (B6h ?_ (b := 16777215)); refine q0 rfl (C7j ?_ (b := 0)); refine z74 ?_; refine A1r Tryz.func87 Tryz.results87 wn_ () (by rw [D5h hs]) (fun w hs => hs.none)
theorem C0k (s : Nat) (hs : s < 4294967296) : Spec Tryz.prog 175 #[.int .u32 (s : Int), .int .i64 (-1)] [] [] (fun _ : Unit => .int .u32 ((s &&& 16777215 : Nat) : Int)) (fun _ => []) (fun _ => []) := by
 refine sg_ Tryz.ntmps175 fun B hB => ?_
 refine z134 ?_; refine q0 rfl (A9o ?_ (b := 16777215)); refine z74 ?_; refine z79 ?_; refine q0 rfl (A0b Tryz.call176 (A7s (-1)) (fun x8 => ?_)); refine z132 ?_; refine A0e (fun h9 => ?_) (fun h9 => ?_)
 ·refine z136 ?_; refine A1r Tryz.func175 Tryz.results175 wn_ () rfl (fun w hs => hs.none)
 ·exact absurd h9 de_
theorem B9b : F6v := by
 intro l a; refine sg_ Tryz.ntmps97 fun B hB => ?_
 refine A0c (l := l) (a := a) (fun hl1 hA1 hU1 => ?_); refine z77 ?_; refine z186 ?_; refine A4g (X := Nat) (fun i => i ≤ l.length) (fun i => [(3, .int .u32 (A5v l i : Int)), (6, sl a l.length), (7, .int .i64 (l.length : Int)), (8, .int .i64 (i : Int))]) (fun i => [CL l a]) (fun i => []) (fun i => l.length - i) (0) (Nat.zero_le _) (by exact lr_) ?_ ?_
 ·exact fun w hs => hs.l8
 ·intro i base0 hi next0; refine z124 ?_; refine A0e (fun h9 => ?_) (fun h9 => ?_)
  ·have hlt : i < l.length := by have := of_decide_eq_true h9; omega
   obtain ⟨bk, o, hav⟩ := hA1 oo_; have hu := hU1 _ (A0l (d := cl0) hlt); have hup := D0s hU1 i; have hor : (l.getD i cl0).pos ||| (l.getD i cl0).neg < 4294967296 := Nat.or_lt_two_pow (n := 32) hu.1 hu.2; refine z146 ?_; refine z40 ?_; refine z39 ?_; refine q0 rfl (A2p fun b5 => ?_); refine z95 ?_; refine z78 ?_; refine z82 ?_; refine z82 ?_; refine q0 rfl (B3d ?_ (a := (l.getD i cl0).pos) (b := (l.getD i cl0).neg) (ha := hu.1) (hb := hu.2)); refine q0 rfl (B3d ?_ (a := A5v l i) (b := (l.getD i cl0).pos ||| (l.getD i cl0).neg)); refine z169 ?_; refine A0a (fun w hs => ?_) (next0 (i + 1) _ hlt oo_ ⟨by rw [C2i hlt]; rfl, rfl, rfl, rfl, trivial⟩); exact (hs.l8).bare
  ·have hge : i = l.length := by have := of_decide_eq_false h9; omega
   refine z17 ?_; refine z75 ?_; refine q0 rfl (A0b Tryz.call175 (C0k (A5v l i) (D0s hU1 i)) (fun x21 => ?_)); refine z74 ?_; refine A1r Tryz.func97 Tryz.results97 wn_ () (by rw [C8a, ← hge]) (fun w hs => hs.none)
theorem B0j (c : Cl) (hc : u32 c) : Spec Tryz.prog 33 #[.agg (A0r c).toArray] [] [] (fun _ : Unit => .bool (A0u c)) (fun _ => []) (fun _ => []) := by
 refine sg_ Tryz.ntmps33 fun B hB => ?_
 refine z73 ?_; refine q0 rfl (A2d fun b1 => ?_); refine z74 ?_; refine z100 ?_; refine q0 rfl (A0b Tryz.call87 (B5u c.pos hc.1) (fun x5 => ?_)); refine z3 ?_; refine qI rfl rfl rfl wl_ (fun hg6 => E1e ?_) (fun hg6 => ?_)
 ·refine z29 ?_; refine qT rfl rfl rfl (A0b Tryz.call87 (B5u c.neg hc.2) (fun x9 => ?_)); refine z129 ?_; refine A1r Tryz.func33 Tryz.results33 wn_ () (by first | (simp_all [A0u]; done) | (simp_all [A0u]; intros; omega)) (fun w hs => hs.none)
 ·refine z188 ?_; refine A1r Tryz.func33 Tryz.results33 wn_ () (by first | (simp_all [A0u]; done) | (simp_all [A0u]; intros; omega)) (fun w hs => hs.none)
theorem B9f (c : Cl) (hc : u32 c) : Spec Tryz.prog 34 #[.agg (A0r c).toArray] [] [] (fun _ : Unit => .bool (A6s c)) (fun _ => []) (fun _ => []) := by
 refine sg_ Tryz.ntmps34 fun B hB => ?_
 refine z73 ?_; refine q0 rfl (A2d fun b1 => ?_); refine z74 ?_; refine z100 ?_; refine z82 ?_; refine q0 rfl (A9o ?_ (a := c.pos) (b := c.neg) (ha := hc.1) (hb := hc.2)); refine q0 rfl (D9q ?_ (b := 0)); refine z74 ?_; refine A1r Tryz.func34 Tryz.results34 wn_ () (by simp only [A6s]; congr 1; apply decide_eq_decide.mpr; omega) (fun w hs => hs.none)
theorem C2o (c d : Cl) (hc : u32 c) (hd : u32 d) : Spec Tryz.prog 93 #[.agg (A0r c).toArray, .agg (A0r d).toArray] [] [] (fun _ : Unit => .agg (A0r (A4q c d)).toArray) (fun _ => []) (fun _ => []) := by
 refine sg_ Tryz.ntmps93 fun B hB => ?_
 refine z73 ?_; refine q0 rfl (A2d fun b2 => ?_); refine q0 rfl (A2d fun b3 => ?_); refine q0 rfl (A2p fun b4 => ?_); refine z1 ?_; refine z100 ?_; refine z82 ?_; refine q0 rfl (B3d ?_ (a := c.pos) (b := d.pos) (ha := hc.1) (hb := hd.1)); refine z82 ?_; refine z82 ?_; refine q0 rfl (B3d ?_ (a := c.neg) (b := d.neg) (ha := hc.2) (hb := hd.2)); refine q0 rfl (A1e (cs := A0r (A4q c d)) ?_); refine z95 ?_; refine C1y Tryz.func93 Tryz.results93 () rfl mm_ rfl rfl rfl rfl (fun w hs => hs.none)
theorem E0u (c d : Cl) (hc : u32 c) (hd : u32 d) : Spec Tryz.prog 169 #[.agg (A0r c).toArray, .agg (A0r d).toArray] [] [] (fun _ : Unit => .bool (below c d)) (fun _ => []) (fun _ => []) := by
 refine sg_ Tryz.ntmps169 fun B hB => ?_
 refine z73 ?_; refine q0 rfl (A2d fun b2 => ?_); refine q0 rfl (A2d fun b3 => ?_); refine z106 ?_; refine A1y (pn := 1000000) (tn := false) (A := [0, 0, 3, 0, 15, 31]) (l := [0, 1, 3, 2, 4, 5]) (fin := []) Tab.mixed ⟨_, Tryz.func169⟩ (by rfl) ?_; refine z53 ?_; refine z53 ?_; refine z53 ?_; refine n0 rfl (A1q Tryz.call93 (C2o c d hc hd) (fun x7 => ?_)); refine n0 rfl (G2j ?_ (c := A4q c d) (c' := c)); refine z179 ?_; refine A1r Tryz.func169 Tryz.results169 wn_ () (by rw [E0w]) (fun w hs => hs.none)
end Go.Hy
namespace Go.Hy
open Go.Proofs
set_option maxRecDepth 100000
open Go.Shelf Go.RowKit Go.Lib Go.Sort
theorem F6c (a : Int) (W : World) : Calls Tryz.prog 247 #[.int .u32 a] W fun e w' => e = .returned (.bool false) ∧ w' = W := by
 go_enter Tryz.func247, Tryz.ntmps247
 go_wp2
 go_ret
 exact ⟨by simp, rfl⟩
theorem E6p (a b : Int) (W : World) : Calls Tryz.prog 223 #[.int .u32 a, .int .u32 b] W fun e w' => e = .returned (.int .i64 (compareInt a b)) ∧ w' = W := by
 go_enter Tryz.func223, Tryz.ntmps223
 go_wp2_with (go_at_call 247; refine (F6c _ _).mono ?_; rintro e w' ⟨rfl, rfl⟩)
 all_goals (go_ret; refine ⟨?_, rfl⟩; unfold Lib.compareInt; (repeat' split) <;> first | rfl | (exfalso; omega))
def F3l (c d : Cl) : Int := if c.pos = d.pos then compareInt c.neg d.neg else compareInt c.pos d.pos
set_option maxHeartbeats 1000000 in
theorem G5o (c d : Cl) (W : World) : Calls Tryz.prog 171 #[.agg #[.int .u32 c.pos, .int .u32 c.neg], .agg #[.int .u32 d.pos, .int .u32 d.neg]] W fun e w' => e = .returned (.int .i64 (F3l c d)) ∧ ∃ q os', w' = grow (W.drewN q) os' := by
 have hcon := fun a b W' => E6p a b W'
 have e1 : F3l c d = if (c.pos : Int) = d.pos then compareInt c.neg d.neg else compareInt c.pos d.pos := by unfold F3l; simp only [Int.ofNat_inj]
 generalize hr : F3l c d = r at e1 ⊢
 go_enter Tryz.func171, Tryz.ntmps171
 go_wp2_with (go_at_call 223; refine (hcon _ _ _).mono ?_; rintro e w' ⟨rfl, rfl⟩)
 all_goals (go_ret; refine ⟨?_, 0, _, by rw [alloc_eq_grow, alloc_eq_grow, grow_grow]; rfl⟩)
 all_goals (rw [e1]; simp_all)
instance : Inhabited Cl := ⟨cl0⟩
theorem D7z (c d : Cl) : ltOf F3l c d = A3p c d := by
 unfold ltOf F3l A3p compareInt; by_cases h : c.pos = d.pos
 ·simp only [h, if_true]; by_cases h2 : c.neg < d.neg
  ·rw [if_pos oo_]; simp [h2]
  ·rw [if_neg oo_]; split <;> simp [h2]
 ·simp only [h, if_false]; by_cases h2 : c.pos < d.pos
  ·rw [if_pos oo_]; simp [h2]
  ·rw [if_neg oo_, if_pos oo_]; simp [h2]
theorem F6m : SWO (ltOf F3l) where
 irrefl x := by rw [D7z]; simp [A3p]
 trans x y z h1 h2 := by
  rw [D7z] at *; simp only [A3p, Bool.or_eq_true, Bool.and_eq_true, decide_eq_true_eq] at *; omega
 ntrans x y z h1 h2 := by
  rw [D7z] at *; simp only [A3p, Bool.or_eq_false_iff, Bool.and_eq_false_iff, decide_eq_false_iff_not] at *; omega
theorem C0b (d : Array Cl) : (flatK A0r 2 d).toList = A0i d.toList := by
 apply List.ext_getElem?; intro t; have hl : (A0i d.toList).length = d.size * 2 := by rw [B3o A3w]; simp
 by_cases ht : t < d.size * 2
 ·have h1 : (flatK A0r 2 d).toList[t]? = some (A0r d[t / 2]!)[t % 2]! := by
   have hs : t < (flatK A0r 2 d).size := by rw [size_flatK]; exact ht
   rw [Array.getElem?_toList, Array.getElem?_eq_getElem hs]; have := get_flatK A0r 2 d t ht; rw [getElem!_pos _ t hs] at this; rw [this]
  rw [h1]; have hd : t / 2 < d.toList.length := by simp; omega
  have e : d.toList.getD (t / 2) cl0 = d[t / 2]! := by
   have : t / 2 < d.size := by simpa using hd
   rw [getElem!_pos d (t / 2) this, List.getD_eq_getElem?_getD, List.getElem?_eq_getElem hd]; simp
  have h2 : (A0r (d.toList.getD (t / 2) cl0))[t % 2]? = some (A0r d[t / 2]!)[t % 2]! := by
   rw [e]; have : t % 2 < (A0r d[t / 2]!).length := by rw [A3w]; omega
   rw [List.getElem?_eq_getElem this, getElem!_pos (A0r d[t / 2]!) (t % 2) this]
  have := C7x A3w cl0 d.toList (t / 2) (t % 2) _ hd h2; rw [show t / 2 * 2 + t % 2 = t by omega] at this; exact this.symm
 ·rw [List.getElem?_eq_none (by simp; omega), List.getElem?_eq_none oo_]
theorem E3e (d : Array Cl) (l : List Cl) (rest : List Value) (hs : d.size = l.length) : putCells id 0 (flatK A0r 2 d) (A0i l ++ rest).toArray = (A0i d.toList ++ rest).toArray := by
 apply Array.ext_getElem?; intro t; have hl : (A0i l).length = d.size * 2 := by rw [B3o A3w, hs]
 have hl2 : (A0i d.toList).length = d.size * 2 := by rw [B3o A3w]; simp
 simp only [putCells, Array.getElem?_mapIdx, List.getElem?_toArray, size_flatK, Nat.zero_add, Nat.zero_le, true_and, Nat.sub_zero, id]; by_cases ht : t < d.size * 2
 ·rw [List.getElem?_append_left oo_, List.getElem?_append_left oo_]
  have h1 : (A0i d.toList)[t]? = some (flatK A0r 2 d)[t]! := by
   rw [← C0b, Array.getElem?_toList]; have hsz : t < (flatK A0r 2 d).size := by rw [size_flatK]; exact ht
   rw [Array.getElem?_eq_getElem hsz, getElem!_pos _ t hsz]
  rw [h1]; obtain ⟨v, hv⟩ : ∃ v, (A0i l)[t]? = some v := ⟨_, List.getElem?_eq_getElem oo_⟩; rw [hv, Option.map_some, if_pos ht]
 ·rw [List.getElem?_append_right oo_, List.getElem?_append_right oo_, hl, hl2]; cases rest[t - d.size * 2]? with
  | none => rfl
  | some v => rw [Option.map_some, if_neg ht]
theorem E2b (l : List Cl) (g cap : Nat) (rest : List Value) (hn : l.length < 4611686018427387904) :
  Spec Tryz.prog 170 #[.slice (some ⟨g, 0, none⟩) l.length cap, .func (.func 171) #[] #[]] [] [A1o g (A0i l ++ rest) 45] (fun _ : {l' : List Cl // l'.Perm l ∧ l'.Pairwise fun a b => A3p b a = false} => .tuple #[]) (fun _ => []) (fun x => [A1o g (A0i x.1 ++ rest) 45]) := by
 intro ok w hok hs; have hg : w.heap[g]? = some (.cells (A0i l ++ rest).toArray 45 (0, 0)) := hs.res _ List.mem_cons_self w (fun _ _ => rfl); have hlt : g < w.heap.size := (Array.getElem?_eq_some_iff.mp hg).1; have hu : Tryz.prog.underlying 45 = some (.struct (TyF.fC Tryz.prog)) := TyF.uC
 have aE : ∀ w, (isAgg (Tryz.C1n.t 24)).run Tryz.prog w = .ok true w := fun w => by
  show (isAgg 45).run Tryz.prog w = _; simp [isAgg, run_underlying hu]
 have zE : ∀ w, (Go.sizeOf (Tryz.C1n.t 24)).run Tryz.prog w = .ok 2 w := fun w => A5u (P := Tryz.prog) (t := 45) rfl w
 have hH : HoldsK A0r 2 w g 0 l.toArray := by
  intro j hj; rw [size_flatK] at hj; have e : (flatK A0r 2 l.toArray).toList = A0i l := by rw [C0b]
  have hsz : j < (flatK A0r 2 l.toArray).size := by rw [size_flatK]; exact hj
  have h1 : (A0i l)[j]? = some (flatK A0r 2 l.toArray)[j]! := by
   rw [← e, Array.getElem?_toList, Array.getElem?_eq_getElem hsz, getElem!_pos _ j hsz]
  refine ⟨?_, by simp [World.frozen?, hg]⟩; have hlen : j < (A0i l).length := (List.getElem?_eq_some_iff.mp h1).1; simp only [World.cell?, hg, Nat.zero_add, Option.isSome_none, Bool.false_eq_true, if_false, List.getElem?_toArray, id]; rw [List.getElem?_append_left hlen]; exact h1
 have hc := AnyQ.slices_SortFunc (P := Tryz.prog) Tryz.F7s 2 aE zE A0r A3w (fun x v hv => by
   simp only [A0r, List.mem_cons, List.not_mem_nil, or_false] at hv; rcases hv with rfl | rfl <;> rfl) F3l F6m 171 #[] g 0 cap l.toArray w Tryz.call171
  (fun m os dk hsz x y => G5o x y _) hH hlt (by simpa using hn)
 have hc2 : Calls Tryz.prog 170 #[.slice (some ⟨g, 0, none⟩) l.length cap, .func (.func 171) #[] #[]] w _ := hc; refine hc2.mono ?_; rintro e w' ⟨he, d', n, os, hp, hsd, hw⟩; have hsize : d'.size = l.length := by simpa using hp.1
 have hperm : d'.toList.Perm l := by
  have := hp.2.2; have e1 : d'.extract 0 l.toArray.size = d' := by rw [show l.toArray.size = d'.size by simp [hsize]]; simp
  have e2 : l.toArray.extract 0 l.toArray.size = l.toArray := by simp
  rw [e1, e2] at this; exact this
 have hsorted : d'.toList.Pairwise fun a b => A3p b a = false := by
  rw [List.pairwise_iff_getElem]; intro i j hi hj hij; have hi' : i < d'.size := by simpa using hi
  have hj' : j < d'.size := by simpa using hj
  have := hsd i j (Nat.zero_le _) hij (by simp; omega); rw [D7z, getElem!_pos d' j hj', getElem!_pos d' i hi'] at this; simpa using this
 have hg' : w'.heap[g]? = some (.cells (A0i d'.toList ++ rest).toArray 45 (0, 0)) := by
  rw [hw]; show ((mapBlock (Go.Sort.ahead w n) g (putCells id 0 (flatK A0r 2 d'))).heap ++ os)[g]? = _; rw [Array.getElem?_append_left (by simp [mapBlock, Go.Sort.ahead]; exact hlt)]; simp only [mapBlock, Go.Sort.ahead, Array.getElem?_modify, if_true, hg, Option.map_some, onCells]; rw [E3e d' l rest hsize]
 have hold : ∀ b, b < w.heap.size → b ≠ g → w'.heap[b]? = w.heap[b]? := by
  intro b hb hne; rw [hw]; show ((mapBlock (Go.Sort.ahead w n) g (putCells id 0 (flatK A0r 2 d'))).heap ++ os)[b]? = _; rw [Array.getElem?_append_left (by simp [mapBlock, Go.Sort.ahead]; exact hb)]; simp only [mapBlock, Go.Sort.ahead, Array.getElem?_modify, if_neg (Ne.symm hne)]
 have hsz' : w.heap.size ≤ w'.heap.size := by rw [hw]; simp [sortWorldK, putRowK, Go.Sort.ahead]
 refine ⟨⟨d'.toList, hperm, hsorted⟩, he, ?_⟩; have h0 : St ⟨ok, A2s [A1o g (A0i l ++ rest) 45], w⟩ [] ([A1o g (A0i l ++ rest) 45]) w := hs
 refine h0.A9k (m' := A1o g (A0i d'.toList ++ rest) 45) ⟨by rw [hw]; rfl, by rw [hw]; rfl, by rw [hw]; rfl, hsz', fun b hb hn => hold b hb hn⟩ (fun w2 hw2 => by
  show w2.heap[g]? = _; rw [hw2 g rfl]; exact hg') (fun b hb => ?_)
 have hb : b = g := hb; subst hb; exact ⟨by omega, .inl rfl⟩
end Go.Hy
namespace Go.Hy
open Go.Proofs
set_option maxRecDepth 100000
theorem E3k {M : List Res} : M.Perm (M ++ []) := by rw [List.append_nil]
theorem E0b (l : List Cl) (a : SH) (c : FuncId) (cap : List Value) (FΓ : List Fact) (M : List Res) (g : Cl → Bool) (hc : ∀ (args : Array Value) (w : World), (callFunc c args).run Tryz.prog w = .ok (.enter c args) w) (hcl : ∀ x, x ∈ l → Spec Tryz.prog c (B0i x :: cap).toArray FΓ M (fun _ : Unit => .bool (g x)) (fun _ => []) (fun _ => M)) : Spec Tryz.prog 220 #[sl a l.length, .func (.func c) #[] cap.toArray] (CL l a :: FΓ) M (fun _ : Unit => .int .i64 (F6f g l)) (fun _ => []) (fun _ => M) := by
 refine sg_ Tryz.ntmps220 fun B hB => ?_
 refine A0c (l := l) (a := a) (fun hl1 hA1 hU1 => ?_); refine z186 ?_; refine A4g (X := Nat) (fun i => i ≤ l.length ∧ ∀ j, j < i → g (l.getD j cl0) = false) (fun i => [(0, sl a l.length), (1, .func (.func c) #[] cap.toArray), (7, .int .i64 (l.length : Int)), (8, .int .i64 (i : Int))]) (fun i => CL l a :: FΓ) (fun i => M) (fun i => l.length - i) (0) (⟨Nat.zero_le _, fun j hj => by omega⟩) (by exact lr_) ?_ ?_
 ·exact fun w hs => hs
 ·intro i base0 ⟨hi, hok⟩ next0; refine z124 ?_; refine A0e (fun h9 => ?_) (fun h9 => ?_)
  ·have hlt : i < l.length := by have := of_decide_eq_true h9; omega
   obtain ⟨bk, o, hav⟩ := hA1 oo_; refine z91 ?_; refine z136 ?_; refine z75 ?_; refine z112 ?_; refine z40 ?_; refine z39 ?_; refine q0 rfl (A6y hc (hcl _ (A0l hlt)) (cap := cap) (fun x16 => ?_) (hm := E3k)); refine z1 ?_; refine A0e (fun h16 => ?_) (fun h16 => ?_)
   ·refine z136 ?_; refine A1r Tryz.func220 Tryz.results220 wn_ () (by rw [F6e hlt h16 hok]) (fun w hs => (hs.l8).A2t)
   ·refine z145 ?_; refine A0a (fun w hs => ?_) (next0 (i + 1) _ ⟨hlt, fun j hj => (by rcases Nat.lt_succ_iff_lt_or_eq.mp hj with h | h; exact hok j h; subst h; exact h16)⟩ oo_ lr_); exact (hs.l9).A2t
  ·have hge : i = l.length := by have := of_decide_eq_false h9; omega
   refine z181 ?_; refine A1r Tryz.func220 Tryz.results220 wn_ () (by rw [E5t (by rw [← hge]; exact hok)]) (fun w hs => hs.l8)
theorem B7t (l : List Cl) (a : SH) (c : FuncId) (cap : List Value) (FΓ : List Fact) (M : List Res) (g : Cl → Bool) (hc : ∀ (args : Array Value) (w : World), (callFunc c args).run Tryz.prog w = .ok (.enter c args) w) (hcl : ∀ x, x ∈ l → Spec Tryz.prog c (B0i x :: cap).toArray FΓ M (fun _ : Unit => .bool (g x)) (fun _ => []) (fun _ => M)) : Spec Tryz.prog 166 #[sl a l.length, .func (.func c) #[] cap.toArray] (CL l a :: FΓ) M (fun _ : Unit => .bool (l.any g)) (fun _ => []) (fun _ => M) := by
 refine sg_ Tryz.ntmps166 fun B hB => ?_
 refine z134 ?_; refine z3 ?_; refine q0 rfl (A0b Tryz.call220 (E0b l a c cap FΓ M g hc hcl) (fun x7 => ?_) (hm := E3k)); refine z55 ?_; refine z74 ?_; refine A1r Tryz.func166 Tryz.results166 wn_ () (by rw [D4t]) (fun w hs => (hs.l8).A2t)
theorem D1i (c d : Cl) (hc : u32 c) (hd : u32 d) (b : Nat) : Spec Tryz.prog 168 #[B0i d, .pointer (some ⟨b, 0, none⟩)] [] [A1o b (A0r c) 45] (fun _ : Unit => .bool (!decide (c = d) && below c d)) (fun _ => []) (fun _ => [A1o b (A0r c) 45]) := by
 refine sg_ Tryz.ntmps168 fun B hB => ?_
 refine z73 ?_; refine q0 rfl (A2d fun b2 => ?_); refine z74 ?_; refine z116 ?_; refine z22 ?_; refine q0 rfl (G3f ?_ (c := c) (c' := d)); refine z3 ?_; refine qI rfl rfl rfl wl_ (fun hg7 => C3v ?_) (fun hg7 => ?_)
 ·refine qT rfl rfl rfl (C3v ?_); refine qT rfl rfl rfl (A0b Tryz.call169 (E0u c d hc hd) (fun x10 => ?_)); refine z129 ?_; refine A1r Tryz.func168 Tryz.results168 wn_ () (by simp_all) (fun w hs => (hs.l8).drop)
 ·refine z188 ?_; refine A1r Tryz.func168 Tryz.results168 wn_ () (by simp_all) (fun w hs => (hs.l8).drop)
theorem D4o (l : List Cl) (a : SH) (c : Cl) (hc : u32 c) (b : Nat) : Spec Tryz.prog 167 #[B0i c, .pointer (some ⟨b, 0, none⟩)] [CL l a] [A1o b [sl a l.length] 25] (fun _ : Unit => .bool (A2b l c)) (fun _ => []) (fun _ => [A1o b [sl a l.length] 25]) := by
 refine sg_ Tryz.ntmps167 fun B hB => ?_
 refine A0c (l := l) (a := a) (fun hl1 hA1 hU1 => ?_); refine z73 ?_; refine q0 rfl (A2d fun b2 => ?_); refine z74 ?_; refine z200 ?_; refine z50 ?_; refine q0 rfl (A0b Tryz.call166 (B7t l a 168 [.pointer (some ⟨b2, 0, none⟩)] [] [A1o b2 (A0r c) 45] (fun d => !decide (c = d) && below c d) Tryz.call168 (fun d hd => D1i c d hc (hU1 d hd) b2)) (fun x6 => ?_)); refine z74 ?_; refine A1r Tryz.func167 Tryz.results167 wn_ () rfl (fun w hs => (hs.l8).drop)
theorem C3k (l : List Cl) (c : Cl) : A0i (l ++ [c]) = A0i l ++ A0r c := by simp [A0i]
theorem C9f (l : List Cl) (a : SH) (n : Nat) (hn : n = l.length) (hb : n * 8 ≤ reach) :
  Spec Tryz.prog 170 #[sl a n, .func (.func 171) #[] #[]] [] [A1d 2 45 a n (A0i l)] (fun _ : {l' : List Cl // D8j l l'} => .tuple #[]) (fun _ => []) (fun x => [A1d 2 45 a n (A0i x.1)]) := by
 subst hn; intro ok w hok hs; have hown : w.ownsRow 0 45 2 (sl a l.length) l.length (A0i l) := hs.res _ List.mem_cons_self w (fun _ _ => rfl); rcases hown.2 with ⟨h1, h2⟩ | ⟨g, cap, cur, h1, h2, h3, h4, h5, h6, h7⟩
 ·have hl : l = [] := List.eq_nil_of_length_eq_zero h2; subst hl; have hc := AnyF.slices_SortFunc_none (P := Tryz.prog) Tryz.F7s a.1 a.2 (.func (.func 171) #[] #[]) w; have hc2 : Calls Tryz.prog 170 #[sl a 0, .func (.func 171) #[] #[]] w _ := hc; refine hc2.mono ?_; rintro e w' ⟨he, hw⟩; subst hw; exact ⟨⟨[], List.Perm.refl _, List.Pairwise.nil⟩, he, hs⟩
 ·obtain ⟨ao, ac⟩ := a; have e1 : ao = some ⟨g, 0, none⟩ := by injection h1
  have e2 : ac = cap := by injection h1
  subst e1; subst e2
  have hfl : cur.toList = A0i l ++ cur.toList.drop (l.length * 2) := by
   have := List.take_append_drop (l.length * 2) cur.toList; rw [h7] at this; exact this.symm
  have hbox : St ⟨ok, A2s [A1d 2 45 (some ⟨g, 0, none⟩, ac) l.length (A0i l)], w⟩ [] [A1o g (A0i l ++ cur.toList.drop (l.length * 2)) 45] w := by
   refine hs.A9k (m' := A1o g (A0i l ++ cur.toList.drop (l.length * 2)) 45) (Chg.refl _ _) (fun w2 hw2 => ?_) (fun b hb => ?_)
   ·show w2.heap[g]? = _; rw [hw2 g rfl, ← hfl, Array.toArray_toList]; exact h3
   ·have hb : b = g := hb; subst hb; exact ⟨(Array.getElem?_eq_some_iff.mp h3).1, .inl rfl⟩
  have hdom : ∀ b, A2s [A1d 2 45 (some ⟨g, 0, none⟩, ac) l.length (A0i l)] b ↔ A2s [A1o g (A0i l ++ cur.toList.drop (l.length * 2)) 45] b := by
   intro b; rw [A6j, A6j]
   have : (A1d 2 45 (some ⟨g, 0, none⟩, ac) l.length (A0i l)).dom b ↔ b = g := by
    show (sl (some ⟨g, 0, none⟩, ac) l.length).ownBlock = some b ↔ b = g; simp only [sl, Value.ownBlock, Option.some.injEq]; exact eq_comm
   rw [this]; rfl
  have hd2 : A2s [A1d 2 45 (some ⟨g, 0, none⟩, ac) l.length (A0i l)] = A2s [A1o g (A0i l ++ cur.toList.drop (l.length * 2)) 45] := funext fun b => propext (hdom b)
  rw [hd2] at hbox; refine (E2b l g ac (cur.toList.drop (l.length * 2)) (by unfold reach at hb; omega) ok w (fun b hb => ⟨(hok b hb).1, by rw [← hd2]; exact (hok b hb).2⟩) hbox).mono ?_; rintro e w' ⟨x, he, hs'⟩; refine ⟨⟨x.1, x.2.1, x.2.2⟩, he, ?_⟩; rw [hd2]; have hlen : x.1.length = l.length := x.2.1.length_eq; have hg : w'.heap[g]? = some (.cells (A0i x.1 ++ cur.toList.drop (l.length * 2)).toArray 45 (0, 0)) := hs'.res _ List.mem_cons_self w' (fun _ _ => rfl); have hfl2 : (A0i x.1).length = l.length * 2 := by rw [B3o A3w, hlen]
  refine hs'.A9k (m' := A1d 2 45 (some ⟨g, 0, none⟩, ac) l.length (A0i x.1)) (Chg.refl _ _) (fun w2 hw2 => ⟨hfl2, .inr ⟨g, ac, (A0i x.1 ++ cur.toList.drop (l.length * 2)).toArray, rfl, Nat.zero_le _, ?_, h4, h5, ?_, ?_⟩⟩) (fun b hb => ?_)
  ·rw [hw2 g rfl]; exact hg
  ·have h8 : cur.toList.length = ac * 2 := by simpa using h6
   simp only [List.size_toArray, List.length_append, List.length_drop, hfl2, h8]; omega
  ·rw [← hfl2, List.take_left]
  ·have hb : (sl (some ⟨g, 0, none⟩, ac) l.length).ownBlock = some b := hb; simp only [sl, Value.ownBlock, Option.some.injEq] at hb; subst hb; exact ⟨(Array.getElem?_eq_some_iff.mp hg).1, .inl rfl⟩
theorem D1g (l : List Cl) (a : SH) : Spec Tryz.prog 90 #[sl a l.length] [CL l a] [] (fun x : {x : SH × Int × List Cl // B0l l x.2} => .tuple #[sl x.1.1 x.1.2.2.length, .int .i64 x.1.2.1]) (fun _ => []) (fun x => [A1d 2 45 x.1.1 x.1.2.2.length (A0i x.1.2.2)]) := by
 refine sg_ Tryz.ntmps90 fun B hB => ?_
 refine A0c (l := l) (a := a) (fun hl1 hA1 hU1 => ?_); refine z86 ?_; refine z73 ?_; refine q0 rfl (E4r fun b12 => ?_); refine z74 ?_; refine z73 ?_; refine q0 rfl (A2p fun b5 => ?_); refine z1 ?_; refine z79 ?_; refine z133 ?_; refine A4g (X := Nat × SH) (fun s => s.1 ≤ l.length ∧ ∀ j, j < s.1 → A0u (l.getD j cl0) = true) (fun s => [(4, .map (some b12)), (5, .pointer (some ⟨b5, 0, none⟩)), (13, sl a l.length), (14, .int .i64 (l.length : Int)), (15, .int .i64 (s.1 : Int))]) (fun s => [CL l a]) (fun s => [E5g b12 (once (l.take s.1)), A1o b5 [sl s.2 (once (l.take s.1)).length] 25, A1d 2 45 s.2 (once (l.take s.1)).length (A0i (once (l.take s.1)))]) (fun s => l.length - s.1) ((0, (none, 0))) (⟨Nat.zero_le _, fun j hj => absurd hj (Nat.not_lt_zero _)⟩) (by exact lr_) ?_ ?_
 ·exact fun w hs => ((hs.l8).A2r 2 45).perm (A3o.trans ((List.Perm.swap _ _ _).cons _))
 ·intro ⟨i, aO⟩ base0 ⟨hi, hok⟩ next0; dsimp only at hi hok next0 ⊢; refine z124 ?_; refine A0e (fun h16 => ?_) (fun h16 => ?_)
  ·have hlt : i < l.length := by have := of_decide_eq_true h16; omega
   obtain ⟨bk, o, hav⟩ := hA1 oo_; have hu := hU1 _ (A0l (d := cl0) hlt); have hol := C7e l i; refine z146 ?_; refine z40 ?_; refine z39 ?_; refine q0 rfl (A2p fun b7 => ?_); refine z156 ?_; refine z116 ?_; refine q0 rfl (A0b Tryz.call33 (B0j (l.getD i cl0) hu) (fun x20 => ?_)); refine z132 ?_; refine A0e (fun h21 => ?_) (fun h21 => ?_)
   ·have hr : A0u (l.getD i cl0) = false := by simpa using h21
    refine z86 ?_; refine A1x Tryz.func90 Tryz.results90 wn_ wn_ ⟨((none, 0), 2, []), by (unfold B0l; rw [F6r hlt hr]; rfl)⟩ rfl (fun w hs => (hs.l7).bare.A2r 2 45)
   ·have hr : A0u (l.getD i cl0) = true := by simpa using h21
    refine z99 ?_; refine z22 ?_; refine q0 rfl (E4s ?_); refine z132 ?_; refine A0e (fun h25 => ?_) (fun h25 => ?_)
    ·have hnin : l.getD i cl0 ∉ once (l.take i) := by simpa using h25
     refine z75 ?_; refine z22 ?_; refine q0 rfl (E9f ?_); refine z1 ?_; refine gR_ ?_; refine z12 ?_; refine z22 ?_; refine q0 rfl (A2y fun b30 => ?_); refine q0 rfl (A4a (fun a31 => ?_)  ); refine z95 ?_; refine z110 ?_; have hst := B5r hlt; rw [if_neg hnin] at hst; have hlen' : (once (l.take (i + 1))).length = (once (l.take i)).length + 1 := by rw [hst]; simp
     refine A0a (fun w hs => ?_) (next0 (i + 1, a31) _ ⟨hlt, fun j hj => (by rcases Nat.lt_succ_iff_lt_or_eq.mp hj with h | h; exact hok j h; subst h; exact hr)⟩ (by simp only; omega) lr_); dsimp only; rw [hlen', hst, C3k]; exact ((hs.l8).perm A2x).A2t (A := [_, _, _])
    ·refine z145 ?_; have hin : l.getD i cl0 ∈ once (l.take i) := by simpa using h25
     have hst := B5r hlt; rw [if_pos hin] at hst; refine A0a (fun w hs => ?_) (next0 (i + 1, aO) _ ⟨hlt, fun j hj => (by rcases Nat.lt_succ_iff_lt_or_eq.mp hj with h | h; exact hok j h; subst h; exact hr)⟩ (by simp only; omega) lr_); dsimp only; rw [hst]; exact (hs.l8).drop
  ·have hge : i = l.length := by have := of_decide_eq_false h16; omega
   have hall : l.all A0u = true := G1y (by rw [← hge]; exact hok); subst hge; rw [List.take_length]; have hUo : ∀ c, c ∈ once l → u32 c := fun c hc => hU1 c ((B4z c l).mp hc)
   have hol := C0u l; refine A0a (fun w hs => ((hs.perm A3o).A1f hB rfl rfl oo_ hUo)) ?_; refine z17 ?_; refine z73 ?_; refine z50 ?_; refine z74 ?_; refine z204 ?_; refine z200 ?_; refine z133 ?_; refine A4g (X := Nat × SH) (fun s => s.1 ≤ (once l).length) (fun s => [(8, .func (.func 167) #[] [.pointer (some ⟨b5, 0, none⟩)].toArray), (9, sl s.2 (A7l l s.1).length), (34, sl aO (once l).length), (35, .int .i64 ((once l).length : Int)), (36, .int .i64 (s.1 : Int))]) (fun s => [CL (once l) aO]) (fun s => [A1o b5 [sl aO (once l).length] 25, A1d 2 45 s.2 (A7l l s.1).length (A0i (A7l l s.1))]) (fun s => (once l).length - s.1) ((0, (none, 0))) (Nat.zero_le _) (by exact lr_) ?_ ?_
   ·exact fun w hs => (((hs.l9).A2r 2 45).perm A3o).A2t (A := [_, _])
   ·intro ⟨i, aK⟩ base1 hi next1; dsimp only at hi next1 ⊢; refine z124 ?_; refine A0e (fun h37 => ?_) (fun h37 => ?_)
    ·have hlt : i < (once l).length := by have := of_decide_eq_true h37; omega
     refine A0c (l := once l) (a := aO) (fun _ hA2 _ => ?_); obtain ⟨bk, o, hav⟩ := hA2 oo_; have hu := hUo _ (A0l (d := cl0) hlt); have hkl := D1j l i; refine z146 ?_; refine z40 ?_; refine z39 ?_; refine q0 rfl (A2p fun b11 => ?_); refine z95 ?_; refine z75 ?_; refine z22 ?_; refine q0 rfl (A6y Tryz.call167 (D4o (once l) aO ((once l).getD i cl0) hu b5) (cap := [.pointer (some ⟨b5, 0, none⟩)]) (fun x42 => ?_)); refine z132 ?_; refine A0e (fun h43 => ?_) (fun h43 => ?_)
     ·refine z78 ?_; refine z22 ?_; refine q0 rfl (A2y fun b46 => ?_); refine q0 rfl (A4a (fun a47 => ?_)  ); refine z169 ?_; have hnd : A2b (once l) ((once l).getD i cl0) = false := by simpa using h43
      have hst := B7n hlt; rw [hnd, if_neg de_] at hst; have hlen' : (A7l l (i + 1)).length = (A7l l i).length + 1 := by rw [hst]; simp
      refine A0a (fun w hs => ?_) (next1 (i + 1, a47) _ hlt (by simp only; omega) ⟨rfl, by rw [hlen']; rfl, rfl, rfl, rfl, trivial⟩); dsimp only; rw [hlen', hst, C3k]; exact ((hs.l8).perm A3o).A2t (A := [_, _])
     ·refine z145 ?_; have hnd : A2b (once l) ((once l).getD i cl0) = true := by simpa using h43
      have hst := B7n hlt; rw [hnd, if_pos rfl] at hst; refine A0a (fun w hs => ?_) (next1 (i + 1, aK) _ hlt (by simp only; omega) ⟨rfl, by rw [hst]; rfl, rfl, rfl, rfl, trivial⟩); dsimp only; rw [hst]; exact (hs.l8).A2t (A := [_, _])
    ·have hge2 : i = (once l).length := by have := of_decide_eq_false h37; omega
     subst hge2; rw [D1k]; refine z17 ?_; refine z79 ?_; refine z20 ?_; refine z52 ?_; refine z1 ?_; refine A0e (fun h51 => ?_) (fun h51 => ?_)
     ·have h64 : 64 < (kept l).length := by have := of_decide_eq_true h51; omega
      refine z86 ?_; refine A1x Tryz.func90 Tryz.results90 wn_ wn_ ⟨((none, 0), 3, []), by (unfold B0l; rw [hall, if_neg de_, if_pos h64])⟩ rfl (fun w hs => (hs.l7).bare.A2r 2 45)
     ·have h64 : ¬ 64 < (kept l).length := by have := of_decide_eq_false h51; omega
      refine z99 ?_; refine q0 rfl (A0b Tryz.call170 (C9f (kept l) aK (kept l).length rfl (by unfold reach; omega)) (fun x53 => ?_)); refine z1 ?_; refine z96 ?_; have hpl : x53.1.length = (kept l).length := x53.2.1.length_eq; refine A1x Tryz.func90 Tryz.results90 wn_ wn_ ⟨(aK, 0, x53.1), by (unfold B0l; rw [hall, if_neg de_, if_neg h64]; exact ⟨rfl, x53.2⟩)⟩ (by rw [hpl]; rfl) (fun w hs => ?_); have h := (hs.l7).A2t (A := [_]); rw [← hpl] at h; exact h
theorem D9x (l : List Cl) (a : SH) : Spec Tryz.prog 90 #[sl a l.length] [CL l a] [] (fun x : {x : SH × Int × List Cl // B0l l x.2} => .tuple #[sl x.1.1 x.1.2.2.length, .int .i64 x.1.2.1]) (fun x => [CL x.1.2.2 x.1.1]) (fun _ => []) := fun ok w hok hs => (D1g l a ok w hok hs).mono fun e w' h => by
 obtain ⟨x, he, hs'⟩ := h; have hu := (hs.facts _ List.mem_cons_self).2
 have hx : x.1.2.2.length ≤ 64 ∧ ∀ c, c ∈ x.1.2.2 → u32 c := by
  have h := x.2; unfold B0l at h; split at h
  ·rw [h]; exact ⟨Nat.zero_le _, fun c hc => by cases hc⟩
  ·split at h
   ·rw [h]; exact ⟨Nat.zero_le _, fun c hc => by cases hc⟩
   ·rename_i h64; exact ⟨by rw [h.2.1.length_eq]; omega, fun c hc => hu c (E9w (h.2.1.mem_iff.mp hc))⟩
 exact ⟨x, he, (hs'.A1f trivial rfl rfl (by unfold reach; omega) hx.2).l8⟩
theorem E0g (l m : List Cl) (a b : SH) : Spec Tryz.prog 194 #[sl a l.length, sl b m.length] [CL l a, CL m b] [] (fun _ : Unit => .bool (decide (l = m))) (fun _ => []) (fun _ => []) := by
 refine sg_ Tryz.ntmps194 fun B hB => ?_
 refine A0c (l := l) (a := a) (fun hl1 hA1 hU1 => ?_); refine A0c (l := m) (a := b) (fun hl2 hA2 hU2 => ?_); refine z151 ?_; refine z20 ?_; refine z3 ?_; refine z20 ?_; refine z90 ?_; refine A0e (fun h10 => ?_) (fun h10 => ?_)
 ·have hne : ¬ l = m := fun e => by subst e; simp at h10
  refine z77 ?_; refine A1r Tryz.func194 Tryz.results194 wn_ () (by rw [decide_eq_false hne]) (fun w hs => hs.none)
 ·have hlen : l.length = m.length := by simp at h10; omega
  refine z175 ?_; refine z133 ?_; refine A4g (X := Nat) (fun i => i ≤ l.length ∧ ∀ j, j < i → l.getD j cl0 = m.getD j cl0) (fun i => [(0, sl a l.length), (1, sl b m.length), (12, .int .i64 (l.length : Int)), (13, .int .i64 (i : Int))]) (fun i => [CL l a, CL m b]) (fun i => []) (fun i => l.length - i) (0) (⟨Nat.zero_le _, fun j hj => by omega⟩) (by exact lr_) ?_ ?_
  ·exact fun w hs => hs.l9
  ·intro i base0 ⟨hi, hok⟩ next0; refine z124 ?_; refine A0e (fun h14 => ?_) (fun h14 => ?_)
   ·have hlt : i < l.length := by have := of_decide_eq_true h14; omega
    have hlt2 : i < m.length := by omega
    obtain ⟨bk, o, hav⟩ := hA1 oo_; obtain ⟨bk2, o2, hav2⟩ := hA2 oo_; refine z91 ?_; refine z75 ?_; refine z106 ?_; refine A1y (pn := 1000000) (tn := false) (A := [0, 0, 3, 7, 0, 0, 48, 112, 255]) (l := [0, 1, 2, 3, 4, 5, 6, 7, 8]) (fin := []) Tab.mixed ⟨_, Tryz.func194⟩ (by rfl) ?_; refine z137 ?_; refine n0 rfl (A7w ?_); refine z62 ?_; refine z137 ?_; refine n0 rfl (A7w ?_); refine z62 ?_; refine n0 rfl (E7t ?_); refine z101 ?_; refine A0e (fun h24 => ?_) (fun h24 => ?_)
    ·refine z77 ?_; refine A1r Tryz.func194 Tryz.results194 wn_ () (by rw [decide_eq_false (fun e => by subst e; simp at h24)]) (fun w hs => hs.none)
    ·refine z145 ?_; have hb : l.getD i cl0 = m.getD i cl0 := by simpa using h24
     refine A0a (fun w hs => ?_) (next0 (i + 1) _ ⟨hlt, fun j hj => (by rcases Nat.lt_succ_iff_lt_or_eq.mp hj with h | h; exact hok j h; subst h; exact hb)⟩ oo_ lr_); exact hs
   ·have hge : i = l.length := by have := of_decide_eq_false h14; omega
    refine z181 ?_; refine A1r Tryz.func194 Tryz.results194 wn_ () (by rw [decide_eq_true (B5c hlen (by rw [← hge]; exact hok))]) (fun w hs => hs.none)
theorem A6w : F3p := by
 intro l a; refine sg_ Tryz.ntmps137 fun B hB => ?_
 refine A1n (p := True) (fun _ _ => trivial) (fun _ => ?_); refine z134 ?_; refine q0 rfl (A0b Tryz.call90 (D9x l a) (fun x7 => ?_)); refine z93 ?_; refine z75 ?_; refine z154 ?_; refine qI rfl rfl rfl wl_ (fun hg12 => A2v ?_) (fun hg12 => ?_)
 ·refine z23 ?_; refine qT rfl rfl rfl (A0b Tryz.call194 (E0g x7.1.2.2 l x7.1.1 a) (fun x15 => ?_)); refine z129 ?_; have hlr := B6k x7.2; refine A1r Tryz.func137 Tryz.results137 wn_ () (by rw [← hlr]; simp_all) (fun w hs => hs.none)
 ·refine z188 ?_; have hlr := B6k x7.2; refine A1r Tryz.func137 Tryz.results137 wn_ () (by rw [← hlr]; simp_all) (fun w hs => hs.none)
theorem B5v : D3a := by
 intro l a; refine sg_ Tryz.ntmps88 fun B hB => ?_
 refine A0c (l := l) (a := a) (fun hl1 hA1 hU1 => ?_); refine z134 ?_; refine q0 rfl (A0b Tryz.call137 (A6w l a) (fun x4 => ?_)); refine z3 ?_; refine qI rfl rfl rfl wl_ (fun hg5 => A2v ?_) (fun hg5 => ?_)
 ·refine qT rfl rfl rfl (A0b Tryz.call166 (B7t l a 34 [] [] [] A6s Tryz.call34 (fun x hx => B9f x (hU1 x hx))) (fun x7 => ?_)); refine z45 ?_; refine z129 ?_; refine A1r Tryz.func88 Tryz.results88 wn_ () (by simp_all [A0d]) (fun w hs => hs.none)
 ·refine z188 ?_; refine A1r Tryz.func88 Tryz.results88 wn_ () (by simp_all [A0d]) (fun w hs => hs.none)
theorem D1n : F7d := ⟨A6w, B5v, B9b⟩
end Go.Hy
