/- Contracts of this program's functions and the laws that they need. -/
import Derived.Test.YtibignmpjeemeaaGreatDoorProg
import Derived.KernelRfl
import Derived.Shelf.SlSortCmp.WholeK
import Derived.Shelf.SlGeneric
import Derived.Ground.SlsfProg
import Derived.Test.YtibignmpjeemeaaGreatDoorP3
set_option linter.unusedVariables false
set_option linter.unusedSimpArgs false
set_option linter.unusedSectionVars false
namespace Go.Hy
def E0 (c d : Cl) : Cl := ⟨c.pos ||| d.pos, c.neg ||| d.neg⟩
theorem C1b (c d : Cl) : decide (E0 c d = c) = below c d := by
 obtain ⟨p, n⟩ := c
 obtain ⟨p', n'⟩ := d
 simp [E0, below]
def Qj (l : List Cl) (i : Nat) : Nat := (l.take i).foldl (fun a c => a ||| (c.pos ||| c.neg)) 0
theorem B4k {l : List Cl} {i : Nat} (h : i < l.length) : Qj l (i + 1) = Qj l i ||| ((l.getD i Bo).pos ||| (l.getD i Bo).neg) := by
 unfold Qj; rw [Ai (d := Bo) h, List.foldl_append]; rfl
theorem A7h {l : List Cl} (h : ∀ c, c ∈ l → u32 c) : ∀ i, Qj l i < 4294967296 := by
 intro i
 have : ∀ (m : List Cl) (a : Nat), (∀ c, c ∈ m → u32 c) → a < 4294967296 → m.foldl (fun a c => a ||| (c.pos ||| c.neg)) a < 4294967296 := by
  intro m
  induction m with
  | nil => intro a _ h; exact h
  | cons c m ih =>
   intro a hm ha
   have hc := hm c List.mem_cons_self
   exact ih _ (fun d hd => hm d (List.mem_cons_of_mem _ hd)) (Nat.or_lt_two_pow (n := 32) ha (Nat.or_lt_two_pow (n := 32) hc.1 hc.2))
 exact this _ 0 (fun c hc => h c (List.mem_of_mem_take hc)) A4
theorem B6o (l : List Cl) : G3 l = Qj l l.length &&& 16777215 := by
 unfold G3 Qj; rw [List.take_length]
theorem B7o {s : Nat} (hs : s < 4294967296) : decide ((Bg s 16777215 : Int) = 0) = decide (s < 16777216) := by
 apply decide_eq_decide.mpr
 have h : Bg s 16777215 = s / 16777216 * 16777216 := by
  unfold Bg
  have e : (BitVec.ofNat 32 s &&& ~~~ BitVec.ofNat 32 16777215).toNat = s / 16777216 * 16777216 := by
   apply Nat.eq_of_testBit_eq
   intro i
   rw [← BitVec.getLsbD, BitVec.getLsbD_and, BitVec.getLsbD_not, BitVec.getLsbD_ofNat, BitVec.getLsbD_ofNat]
   rw [show s / 16777216 * 16777216 = (s / 2 ^ 24) * 2 ^ 24 from rfl, Nat.testBit_mul_two_pow, Nat.testBit_div_two_pow]
   rw [show (16777215 : Nat) = 2 ^ 24 - 1 from rfl, Nat.testBit_two_pow_sub_one]
   by_cases h1 : i < 32
   ·by_cases h2 : 24 ≤ i
    ·simp [h1, h2, Nat.sub_add_cancel h2]
    ·simp [h1, h2]; omega
   ·have : s.testBit i = false := Nat.testBit_lt_two_pow (Nat.lt_of_lt_of_le hs (Nat.pow_le_pow_right (n := 2) A4 (show 32 ≤ i by omega)))
    have h2 : 24 ≤ i := by omega
    simp [h1, h2, Nat.sub_add_cancel h2, this]
  exact e
 omega
end Go.Hy
namespace Go.Hy
def B9z (g : Cl → Bool) (l : List Cl) : Int := if l.any g then (l.findIdx g : Int) else -1
theorem Cw {α : Type} {d : α} {l : List α} {i : Nat} (h : i < l.length) : l.getD i d = l[i] := by
 rw [List.getD_eq_getElem?_getD, List.getElem?_eq_getElem h]; rfl
theorem D6v {g : Cl → Bool} {l : List Cl} {i : Nat} (h : i < l.length) (hg : g (l.getD i Bo) = true) (hb : ∀ j, j < i → g (l.getD j Bo) = false) : B9z g l = i := by
 have hany : l.any g = true := List.any_eq_true.mpr ⟨_, Ac h, hg⟩
 have hidx : l.findIdx g = i := by
  rw [List.findIdx_eq h]
  refine ⟨by rw [← Cw (d := Bo) h]; exact hg, fun j hj => ?_⟩
  have := hb j hj
  rwa [Cw (d := Bo) A4] at this
 unfold B9z
 rw [hany, hidx]; rfl
theorem C6o {g : Cl → Bool} {l : List Cl} (hb : ∀ j, j < l.length → g (l.getD j Bo) = false) : B9z g l = -1 := by
 have hany : l.any g = false := by
  rw [List.any_eq_false]
  intro x hx
  obtain ⟨j, hj, e⟩ := List.mem_iff_getElem.mp hx
  have := hb j hj
  rw [Cw (d := Bo) hj, e] at this
  simp [this]
 unfold B9z; rw [hany]; rfl
theorem B6b (g : Cl → Bool) (l : List Cl) : decide (0 ≤ B9z g l) = l.any g := by
 unfold B9z
 cases l.any g
 ·rfl
 ·simp
def once (l : List Cl) : List Cl := l.foldl (fun o c => if c ∈ o then o else o ++ [c]) []
theorem C5s (l : List Cl) (c : Cl) : once (l ++ [c]) = if c ∈ once l then once l else once l ++ [c] := by
 unfold once; rw [List.foldl_append]; rfl
theorem A1y (c : Cl) : ∀ (l o : List Cl), (c ∈ l.foldl (fun o c => if c ∈ o then o else o ++ [c]) o ↔ c ∈ o ∨ c ∈ l) ∧ (l.foldl (fun o c => if c ∈ o then o else o ++ [c]) o).length ≤ o.length + l.length
 | [], o => by simp
 | d :: l, o => by
  have ih := A1y c l (if d ∈ o then o else o ++ [d])
  rw [List.foldl_cons]
  constructor
  ·rw [ih.1, List.mem_cons]
   split
   ·rename_i h
    constructor
    ·rintro (h2 | h2)
     ·exact .inl h2
     ·exact .inr (.inr h2)
    ·rintro (h2 | h2 | h2)
     ·exact .inl h2
     ·exact .inl (h2 ▸ h)
     ·exact .inr h2
   ·rw [List.mem_append, List.mem_singleton, or_assoc]
  ·have h3 := ih.2
   have h4 : (if d ∈ o then o else o ++ [d]).length ≤ o.length + 1 := by split <;> simp
   simp only [List.length_cons]; omega
theorem Po (c : Cl) (l : List Cl) : c ∈ once l ↔ c ∈ l := by
 have := (A1y c l []).1
 simpa [once] using this
theorem Wh (l : List Cl) : (once l).length ≤ l.length := by
 have := (A1y Bo l []).2
 simpa [once] using this
def Cs (l : List Cl) (c : Cl) : Bool := l.any fun d => !decide (c = d) && below c d
def kept (l : List Cl) : List Cl := (once l).filter fun c => !Cs (once l) c
def B2g (l l' : List Cl) : Prop := l'.Perm l ∧ l'.Pairwise fun a b => Dv b a = false
def Jg (l : List Cl) (r : Int × List Cl) : Prop :=
 if l.all Ar = false then r = (2, []) else if 64 < (kept l).length then r = (3, []) else r.1 = 0 ∧ B2g (kept l) r.2
end Go.Hy
namespace Go.Hy
theorem E5c {l : List Cl} {g : Cl → Bool} (h : ∀ j, j < l.length → g (l.getD j Bo) = true) : l.all g = true := by
 rw [List.all_eq_true]
 intro x hx
 obtain ⟨j, hj, e⟩ := List.mem_iff_getElem.mp hx
 have := h j hj
 rwa [Cw (d := Bo) hj, e] at this
theorem D8b {l : List Cl} {g : Cl → Bool} {i : Nat} (hi : i < l.length) (h : g (l.getD i Bo) = false) : l.all g = false := by
 rw [List.all_eq_false]
 exact ⟨l.getD i Bo, Ac hi, by rw [h]; decide⟩
def Gy (l : List Cl) (i : Nat) : List Cl := ((once l).take i).filter fun c => !Cs (once l) c
theorem Un {l : List Cl} {i : Nat} (h : i < (once l).length) : Gy l (i + 1) = if Cs (once l) ((once l).getD i Bo) then Gy l i else Gy l i ++ [(once l).getD i Bo] := by
 unfold Gy
 rw [Ai (d := Bo) h, List.filter_append]
 cases hn : Cs (once l) ((once l).getD i Bo)
 ·rw [List.filter_cons_of_pos (by rw [hn]; rfl)]; simp
 ·rw [List.filter_cons_of_neg (by rw [hn]; decide)]; simp
theorem B1e (l : List Cl) : Gy l (once l).length = kept l := by simp [Gy, kept]
theorem B1d (l : List Cl) (i : Nat) : (Gy l i).length ≤ l.length := by
 unfold Gy
 have h1 := List.length_filter_le (fun c => !Cs (once l) c) ((once l).take i)
 have h2 := Wh l
 simp only [List.length_take] at h1
 omega
theorem Sf {l : List Cl} {i : Nat} (h : i < l.length) : once (l.take (i + 1)) = if l.getD i Bo ∈ once (l.take i) then once (l.take i) else once (l.take i) ++ [l.getD i Bo] := by
 rw [Ai (d := Bo) h, C5s]
theorem A5c (l : List Cl) (i : Nat) : (once (l.take i)).length ≤ l.length := by
 have := Wh (l.take i); simp only [List.length_take] at this; omega
theorem D2f {l : List Cl} {c : Cl} (h : c ∈ kept l) : c ∈ l := by
 unfold kept at h
 exact (Po c l).mp (List.mem_filter.mp h).1
end Go.Hy
namespace Go.Hy
theorem Pr (a b : Cl) : Dv a b = true ∨ a = b ∨ Dv b a = true := by
 obtain ⟨p, n⟩ := a
 obtain ⟨p', n'⟩ := b
 simp only [Dv, Bool.or_eq_true, Bool.and_eq_true, decide_eq_true_eq, Cl.mk.injEq]
 omega
theorem Qw {a b : Cl} (h : Dv a b = true) : Dv b a = false := by
 simp only [Dv, Bool.or_eq_true, Bool.and_eq_true, decide_eq_true_eq, Bool.or_eq_false_iff, Bool.and_eq_false_iff, decide_eq_false_iff_not] at *
 omega
theorem Zi {a b c : Cl} (h : Dv a b = true) (h2 : Dv b c = true) : Dv a c = true := by
 simp only [Dv, Bool.or_eq_true, Bool.and_eq_true, decide_eq_true_eq] at *
 omega
theorem Tj (a : Cl) : Dv a a = false := by simp [Dv]
theorem E8z {a b : Cl} (h : Dv a b = false) (h2 : Dv b a = false) : a = b := by
 rcases Pr a b with h3 | h3 | h3
 ·rw [h] at h3; cases h3
 ·exact h3
 ·rw [h2] at h3; cases h3
theorem A6m : ∀ {l m : List Cl}, l.Perm m → (l.Pairwise fun a b => Dv b a = false) → (m.Pairwise fun a b => Dv b a = false) → l = m
 | [], m, hp, _, _ => by have := hp.length_eq; cases m with | nil => rfl | cons _ _ => simp at this
 | a :: l, [], hp, _, _ => by have := hp.length_eq; simp at this
 | a :: l, b :: m, hp, h1, h2 => by
  rw [List.pairwise_cons] at h1 h2
  have ha : a ∈ b :: m := hp.mem_iff.mp List.mem_cons_self
  have hb : b ∈ a :: l := hp.mem_iff.mpr List.mem_cons_self
  have e : a = b := by
   rcases List.mem_cons.mp ha with h | h
   ·exact h
   ·rcases List.mem_cons.mp hb with h3 | h3
    ·exact h3.symm
    ·exact E8z (h2.1 a h |> fun x => x) (h1.1 b h3) |> fun x => by exact x
  subst e
  rw [A6m (List.Perm.cons_inv hp) h1.2 h2.2]
theorem Lz : ∀ {l : List Cl}, Mo l = true ↔ l.Pairwise fun a b => Dv a b = true
 | [] => by simp [Mo]
 | [a] => by simp [Mo]
 | a :: b :: l => by
  rw [Mo, Bool.and_eq_true, Lz (l := b :: l), List.pairwise_cons (a := a)]
  constructor
  ·rintro ⟨h1, h2⟩
   refine ⟨fun c hc => ?_, h2⟩
   rcases List.mem_cons.mp hc with h | h
   ·exact h ▸ h1
   ·exact Zi h1 ((List.pairwise_cons.mp h2).1 c h)
  ·rintro ⟨h1, h2⟩
   exact ⟨h1 b List.mem_cons_self, h2⟩
theorem A5d {l : List Cl} (h : l.Pairwise fun a b => Dv a b = true) : once l = l := by
 have : ∀ (m o : List Cl), ((o ++ m).Pairwise fun a b => Dv a b = true) → m.foldl (fun o c => if c ∈ o then o else o ++ [c]) o = o ++ m := by
  intro m
  induction m with
  | nil => intro o _; simp
  | cons c m ih =>
   intro o h
   rw [List.foldl_cons]
   have hn : c ∉ o := by
    intro hc
    have := (List.pairwise_append.mp h).2.2 c hc c List.mem_cons_self
    rw [Tj] at this; cases this
   rw [if_neg hn, ih (o ++ [c]) (by simpa using h)]
   simp
 have := this l [] (by simpa using h)
 simpa [once] using this
theorem Tu {l : List Cl} : apart l = true ↔ ∀ a, a ∈ l → ∀ b, b ∈ l → a = b ∨ below a b = false := by
 unfold apart
 simp only [List.all_eq_true, Bool.or_eq_true, decide_eq_true_eq, Bool.not_eq_true']
theorem Im {l : List Cl} {c : Cl} : Cs l c = false ↔ ∀ d, d ∈ l → c = d ∨ below c d = false := by
 unfold Cs
 rw [List.any_eq_false]
 constructor
 ·intro h d hd
  have := h d hd
  simp only [Bool.and_eq_true, Bool.not_eq_true', decide_eq_false_iff_not, not_and, Bool.not_eq_true] at this
  by_cases e : c = d
  ·exact .inl e
  ·exact .inr (this e)
 ·intro h d hd
  simp only [Bool.and_eq_true, Bool.not_eq_true', decide_eq_false_iff_not, not_and, Bool.not_eq_true]
  intro e
  exact (h d hd).resolve_left e
theorem Sn {l : List Cl} {r : Int × List Cl} (h : Jg l r) : (decide (r.1 = 0) && decide (r.2 = l)) = A6 l := by
 rw [Bool.eq_iff_iff, Bool.and_eq_true, decide_eq_true_eq, decide_eq_true_eq]
 unfold Jg at h
 constructor
 ·rintro ⟨h1, h2⟩
  split at h
  ·rw [h] at h1; cases h1
  ·rename_i hr
   split at h
   ·rw [h] at h1; cases h1
   ·rename_i h64
    obtain ⟨_, hp, hs⟩ := h
    rw [h2] at hp hs
    have hr' : l.all Ar = true := by simpa using hr
    have hlen := hp.length_eq
    have hk1 : (kept l).length ≤ (once l).length := by unfold kept; exact List.length_filter_le _ _
    have ho := Wh l
    have hkeep : kept l = once l := by
     have : (kept l).Sublist (once l) := by unfold kept; exact List.filter_sublist
     exact this.eq_of_length A4
    have hnd : ∀ c, c ∈ l → Cs (once l) c = false := by
     intro c hc
     have : c ∈ kept l := hp.mem_iff.mp hc
     unfold kept at this
     have := (List.mem_filter.mp this).2
     simpa using this
    have hap : apart l = true := Tu.mpr fun a ha b hb => Im.mp (hnd a ha) b ((Po b l).mpr hb)
    have hnodup : (once l).Nodup := by
     have : ∀ (m o : List Cl), o.Nodup → (m.foldl (fun o c => if c ∈ o then o else o ++ [c]) o).Nodup := by
      intro m
      induction m with
      | nil => intro o h; exact h
      | cons c m ih =>
       intro o h
       rw [List.foldl_cons]
       apply ih
       split
       ·exact h
       ·rename_i hn
        rw [List.nodup_append]
        refine ⟨h, by simp, ?_⟩
        intro a ha b hb e
        rw [List.mem_singleton] at hb
        exact hn (hb ▸ e ▸ ha)
     exact this l [] List.nodup_nil
    have hln : l.Nodup := (hp.nodup_iff).mpr (hkeep ▸ hnodup)
    have hst : Mo l = true := by
     rw [Lz]
     have hboth : l.Pairwise fun a b => Dv b a = false ∧ a ≠ b := hs.and hln
     exact hboth.imp fun {a b} ⟨h3, h4⟩ => by
      rcases Pr a b with h5 | h5 | h5
      ·exact h5
      ·exact absurd h5 h4
      ·rw [h3] at h5; cases h5
    unfold A6
    rw [hr', hst, hap]
    simp; omega
 ·intro hf
  unfold A6 at hf
  simp only [Bool.and_eq_true, decide_eq_true_eq] at hf
  obtain ⟨⟨⟨hr, hs⟩, ha⟩, h64⟩ := hf
  have hs' := Lz.mp hs
  have ho := A5d hs'
  have hk : kept l = l := by
   unfold kept
   rw [ho, List.filter_eq_self]
   intro c hc
   have : Cs l c = false := Im.mpr fun d hd => Tu.mp ha c hc d hd
   simp [this]
  rw [hr, if_neg Iy, hk, if_neg A4] at h
  exact ⟨h.1, A6m h.2.1 h.2.2 (hs'.imp fun h => Qw h)⟩
def Fv (s : Nat) (i : Int) : Bool := decide (0 ≤ i) && decide (i < 24) && s.testBit i.toNat
theorem D6y (s : Nat) (i : Int) : Fv s i = (decide (0 ≤ i) && decide (i < 24) && decide (s / 2 ^ i.toNat % 2 = 1)) := by
 unfold Fv; rw [Nat.testBit_eq_decide_div_mod_eq]
def Hi (s n : Nat) : List Int := ((List.range n).filter s.testBit).map fun (i : Nat) => (i : Int)
abbrev Ay (s : Nat) : List Int := Hi s 24
theorem B5m (s n : Nat) : Hi s (n + 1) = if s.testBit n then Hi s n ++ [(n : Int)] else Hi s n := by
 unfold Hi
 rw [List.range_succ, List.filter_append]
 cases h : s.testBit n <;> simp [h]
theorem A7q {s n : Nat} {x : Int} (h : x ∈ Hi s n) : 0 ≤ x ∧ x < n := by
 unfold Hi at h
 simp only [List.mem_map, List.mem_filter, List.mem_range] at h
 obtain ⟨i, ⟨h1, _⟩, rfl⟩ := h
 omega
theorem Fe {s n : Nat} {x : Int} : x ∈ Hi s n ↔ 0 ≤ x ∧ x < n ∧ s.testBit x.toNat = true := by
 unfold Hi
 simp only [List.mem_map, List.mem_filter, List.mem_range]
 constructor
 ·rintro ⟨i, ⟨h1, h2⟩, rfl⟩; exact ⟨by omega, by omega, by simpa using h2⟩
 ·rintro ⟨h1, h2, h3⟩; exact ⟨x.toNat, ⟨by omega, h3⟩, by omega⟩
theorem Le (s n : Nat) : (Hi s n).length ≤ n := by
 unfold Hi
 rw [List.length_map]
 have := List.length_filter_le s.testBit (List.range n)
 simpa using this
def A1d (l : List Int) : Nat := (l.map fun x => 2 ^ x.toNat).sum
theorem Z2 (s : Nat) : ∀ n, A1d (Hi s n) = s % 2 ^ n
 | 0 => by
  have h : Hi s 0 = [] := by unfold Hi; rw [List.range_zero, List.filter_nil, List.map_nil]
  rw [h, Nat.pow_zero, Nat.mod_one, A1d, List.map_nil, List.sum_nil]
 | n + 1 => by
  rw [B5m, Nat.mod_pow_succ]
  have ih := Z2 s n
  have hb := Nat.testBit_eq_decide_div_mod_eq (x := s) (i := n)
  by_cases h : s / 2 ^ n % 2 = 1
  ·rw [hb, decide_eq_true h, if_pos rfl, h]
   have e : A1d (Hi s n ++ [(n : Int)]) = A1d (Hi s n) + 2 ^ n := by simp [A1d]
   rw [e, ih, Nat.mul_one]
  ·have h0 : s / 2 ^ n % 2 = 0 := by omega
   rw [hb, decide_eq_false h, if_neg D6, h0, ih]; simp
theorem A4f (s : Nat) : s &&& 16777215 = s % 2 ^ 24 := by
 rw [show (16777215 : Nat) = 2 ^ 24 - 1 from rfl, Nat.and_two_pow_sub_one_eq_mod]
theorem B8j (s : Nat) : A1d (Ay s) = s &&& 16777215 := by rw [Z2, A4f]
theorem C9f {p : Nat → Prop} {i : Nat} (h : ∀ j, j < i → p j) (hi : p i) : ∀ j, j < i + 1 → p j := fun j hj => by
 rcases Nat.lt_succ_iff_lt_or_eq.mp hj with h2 | h2
 ·exact h j h2
 ·exact h2 ▸ hi
theorem Sx {α : Type} {d : α} {l : List α} {g : α → Bool} (h : ∀ j, j < l.length → g (l.getD j d) = true) : l.all g = true := by
 rw [List.all_eq_true]
 intro x hx
 obtain ⟨j, hj, e⟩ := List.mem_iff_getElem.mp hx
 have := h j hj
 rwa [Cw (d := d) hj, e] at this
theorem R7 {α : Type} {d : α} {l : List α} {g : α → Bool} {i : Nat} (hi : i < l.length) (h : g (l.getD i d) = false) : l.all g = false := by
 rw [List.all_eq_false]
 exact ⟨l.getD i d, Ac hi, by rw [h]; decide⟩
def B8v (c : Cl) : Bool := (List.range 24).any fun i => Fv c.pos (i : Int) && Fv c.neg (i : Int)
theorem C5f {c : Cl} (h : Ar c = true) : B8v c = I0 c := by
 simp only [Ar, Bool.and_eq_true, decide_eq_true_eq] at h
 rw [Bool.eq_iff_iff]
 unfold B8v I0
 rw [List.any_eq_true, decide_eq_true_eq]
 constructor
 ·rintro ⟨i, hi, hb⟩ h0
  simp only [Fv, Bool.and_eq_true, decide_eq_true_eq, Int.toNat_natCast] at hb
  have := congrArg (fun n => Nat.testBit n i) h0
  simp only [Nat.testBit_and, Nat.zero_testBit] at this
  rw [hb.1.2, hb.2.2] at this
  cases this
 ·intro h0
  obtain ⟨i, hi⟩ : ∃ i, (c.pos &&& c.neg).testBit i = true := by
   apply Classical.byContradiction
   intro hn
   exact h0 (Nat.eq_of_testBit_eq fun i => by
    rw [Nat.zero_testBit]
    cases hb : (c.pos &&& c.neg).testBit i
    ·rfl
    ·exact absurd ⟨i, hb⟩ hn)
  rw [Nat.testBit_and, Bool.and_eq_true] at hi
  have hlt : i < 24 := by
   apply Classical.byContradiction
   intro hge
   have : c.pos.testBit i = false := Nat.testBit_lt_two_pow (Nat.lt_of_lt_of_le h.1 (Nat.pow_le_pow_right (n := 2) A4 (show 24 ≤ i by omega)))
   rw [this] at hi; cases hi.1
  exact ⟨i, List.mem_range.mpr hlt, by simp [Fv, hi.1, hi.2]; omega⟩
def U3 (c : Cl) : List Cl → List Cl
 | [] => [c]
 | d :: l => if Dv d c then d :: U3 c l else if d = c then d :: l else c :: d :: l
def rl (l : List Cl) (m : List Cl) : List Cl := m.foldl (fun o c => if Cs l c then o else U3 c o) []
def C9t (l : List Cl) (i : Nat) : List Cl := rl l (l.take i)
abbrev E5 (l : List Cl) : List Cl := rl l l
theorem C9s (l : List Cl) : C9t l l.length = E5 l := by simp [C9t]
theorem A3d {c x : Cl} : ∀ {l : List Cl}, x ∈ U3 c l ↔ x = c ∨ x ∈ l
 | [] => by simp [U3]
 | d :: l => by
  unfold U3
  split
  ·rw [List.mem_cons, A3d (l := l), List.mem_cons]
   constructor
   ·rintro (h | h | h)
    ·exact .inr (.inl h)
    ·exact .inl h
    ·exact .inr (.inr h)
   ·rintro (h | h | h)
    ·exact .inr (.inl h)
    ·exact .inl h
    ·exact .inr (.inr h)
  ·split
   ·rename_i h
    subst h
    simp
   ·simp
theorem B5z (c : Cl) : ∀ l : List Cl, (U3 c l).length ≤ l.length + 1
 | [] => by simp [U3]
 | d :: l => by
  unfold U3
  have := B5z c l
  split
  ·simp; omega
  ·split <;> simp
theorem Zm {c : Cl} : ∀ {l : List Cl}, (l.Pairwise fun a b => Dv a b = true) → (U3 c l).Pairwise fun a b => Dv a b = true
 | [], _ => by simp [U3]
 | d :: l, h => by
  rw [List.pairwise_cons] at h
  unfold U3
  split
  ·rename_i hd
   rw [List.pairwise_cons]
   refine ⟨fun x hx => ?_, Zm h.2⟩
   rcases A3d.mp hx with e | e
   ·exact e ▸ hd
   ·exact h.1 x e
  ·rename_i hd
   split
   ·exact List.pairwise_cons.mpr h
   ·rename_i hne
    have hcd : Dv c d = true := by
     rcases Pr c d with h3 | h3 | h3
     ·exact h3
     ·exact absurd h3.symm hne
     ·exact absurd h3 hd
    rw [List.pairwise_cons]
    refine ⟨fun x hx => ?_, List.pairwise_cons.mpr h⟩
    rcases List.mem_cons.mp hx with e | e
    ·exact e ▸ hcd
    ·exact Zi hcd (h.1 x e)
theorem A6v (l : List Cl) : ∀ (m o : List Cl), (o.Pairwise fun a b => Dv a b = true) → (m.foldl (fun o c => if Cs l c then o else U3 c o) o).Pairwise fun a b => Dv a b = true
 | [], o, h => h
 | c :: m, o, h => by
  rw [List.foldl_cons]
  apply A6v l m
  split
  ·exact h
  ·exact Zm h
theorem C9r (l : List Cl) (x : Cl) : ∀ (m o : List Cl), x ∈ m.foldl (fun o c => if Cs l c then o else U3 c o) o ↔ x ∈ o ∨ (x ∈ m ∧ Cs l x = false)
 | [], o => by simp
 | c :: m, o => by
  rw [List.foldl_cons, C9r l x m]
  by_cases hn : Cs l c = true
  ·rw [if_pos hn, List.mem_cons]
   constructor
   ·rintro (h | ⟨h, h2⟩)
    ·exact .inl h
    ·exact .inr ⟨.inr h, h2⟩
   ·rintro (h | ⟨h | h, h2⟩)
    ·exact .inl h
    ·subst h; rw [hn] at h2; cases h2
    ·exact .inr ⟨h, h2⟩
  ·rw [if_neg hn, A3d, List.mem_cons]
   constructor
   ·rintro ((h | h) | ⟨h, h2⟩)
    ·subst h; exact .inr ⟨.inl rfl, by simpa using hn⟩
    ·exact .inl h
    ·exact .inr ⟨.inr h, h2⟩
   ·rintro (h | ⟨h | h, h2⟩)
    ·exact .inl (.inr h)
    ·exact .inl (.inl h)
    ·exact .inr ⟨h, h2⟩
theorem Dy {l : List Cl} {x : Cl} : x ∈ E5 l ↔ x ∈ l ∧ Cs l x = false := by
 have := C9r l x l []
 simpa [E5, rl] using this
theorem Je (l : List Cl) : (E5 l).Pairwise fun a b => Dv a b = true := A6v l l [] List.Pairwise.nil
theorem B3r (l : List Cl) (i : Nat) : (C9t l i).length ≤ i := by
 have : ∀ (m o : List Cl), (m.foldl (fun o c => if Cs l c then o else U3 c o) o).length ≤ o.length + m.length := by
  intro m
  induction m with
  | nil => intro o; simp
  | cons c m ih =>
   intro o
   rw [List.foldl_cons]
   have h1 := ih (if Cs l c then o else U3 c o)
   have h2 : (if Cs l c = true then o else U3 c o).length ≤ o.length + 1 := by
    split
    ·omega
    ·exact B5z c o
   simp only [List.length_cons]; omega
 have := this (l.take i) []
 unfold C9t rl
 simp at this ⊢
 omega
theorem Qd : ∀ {l m : List Cl}, (l.Pairwise fun a b => Dv a b = true) → (m.Pairwise fun a b => Dv a b = true) → (∀ x, x ∈ l ↔ x ∈ m) → l = m
 | [], [], _, _, _ => rfl
 | [], b :: m, _, _, h => by have := (h b).mpr List.mem_cons_self; cases this
 | a :: l, [], _, _, h => by have := (h a).mp List.mem_cons_self; cases this
 | a :: l, b :: m, h1, h2, h => by
  rw [List.pairwise_cons] at h1 h2
  have e : a = b := by
   rcases List.mem_cons.mp ((h a).mp List.mem_cons_self) with h3 | h3
   ·exact h3
   ·rcases List.mem_cons.mp ((h b).mpr List.mem_cons_self) with h4 | h4
    ·exact h4.symm
    ·have h5 := h2.1 a h3
     have h6 := h1.1 b h4
     rw [Qw h5] at h6; cases h6
  subst e
  congr 1
  apply Qd h1.2 h2.2
  intro x
  have hx := h x
  rw [List.mem_cons, List.mem_cons] at hx
  constructor
  ·intro h3
   rcases hx.mp (.inr h3) with h4 | h4
   ·subst h4; have := h1.1 x h3; rw [Tj] at this; cases this
   ·exact h4
  ·intro h3
   rcases hx.mpr (.inr h3) with h4 | h4
   ·subst h4; have := h2.1 x h3; rw [Tj] at this; cases this
   ·exact h4
theorem A5h (l : List Cl) (c : Cl) : Cs (once l) c = Cs l c := by
 unfold Cs
 rw [Bool.eq_iff_iff, List.any_eq_true, List.any_eq_true]
 constructor
 ·rintro ⟨d, h1, h2⟩; exact ⟨d, (Po d l).mp h1, h2⟩
 ·rintro ⟨d, h1, h2⟩; exact ⟨d, (Po d l).mpr h1, h2⟩
theorem B9e (l : List Cl) : (once l).Nodup := by
 have : ∀ (m o : List Cl), o.Nodup → (m.foldl (fun o c => if c ∈ o then o else o ++ [c]) o).Nodup := by
  intro m
  induction m with
  | nil => intro o h; exact h
  | cons c m ih =>
   intro o h
   rw [List.foldl_cons]
   apply ih
   split
   ·exact h
   ·rename_i hn
    rw [List.nodup_append]
    refine ⟨h, by simp, ?_⟩
    intro a ha b hb e
    rw [List.mem_singleton] at hb
    exact hn (hb ▸ e ▸ ha)
 exact this l [] List.nodup_nil
theorem A6n (l : List Cl) : ∃ m, B2g l m := by
 refine ⟨l.mergeSort (fun a b => !Dv b a), List.mergeSort_perm _ _, ?_⟩
 have := List.pairwise_mergeSort (le := fun a b => !Dv b a) (fun a b c h1 h2 => by
  simp only [Bool.not_eq_true'] at *
  simp only [Dv, Bool.or_eq_false_iff, Bool.and_eq_false_iff, decide_eq_false_iff_not] at *
  omega) (fun a b => by
  rcases Pr a b with h | h | h
  ·simp [Qw h]
  ·subst h; simp [Tj]
  ·simp [Qw h]) l
 exact this.imp fun h => by simpa using h
theorem A6o {l m : List Cl} (h : B2g (kept l) m) : m = E5 l := by
 have hnd : m.Nodup := (h.1.nodup_iff).mpr (by unfold kept; exact (B9e l).filter _)
 have hb : m.Pairwise fun a b => Dv b a = false ∧ a ≠ b := h.2.and hnd
 refine Qd ?_ (Je l) (fun x => ?_)
 ·exact hb.imp fun {a b} ⟨h3, h4⟩ => by
   rcases Pr a b with h5 | h5 | h5
   ·exact h5
   ·exact absurd h5 h4
   ·rw [h3] at h5; cases h5
 ·rw [h.1.mem_iff, Dy]
  unfold kept
  rw [List.mem_filter, Po, A5h]
  simp
def Bb (l : List Cl) : Int × List Cl := if l.all Ar = false then (2, []) else if 64 < (E5 l).length then (3, []) else (0, E5 l)
theorem A3b {l : List Cl} {r : Int × List Cl} (h : Jg l r) : r = Bb l := by
 unfold Jg at h
 unfold Bb
 by_cases h1 : l.all Ar = false
 ·rw [if_pos h1] at h ⊢; exact h
 ·rw [if_neg h1] at h ⊢
  by_cases h2 : 64 < (kept l).length
  ·have h3 : (kept l).length = (E5 l).length := by
    obtain ⟨m, hm⟩ := A6n (kept l)
    rw [← hm.1.length_eq, A6o hm]
   rw [if_pos h2] at h
   rw [if_pos A4]; exact h
  ·rw [if_neg h2] at h
   have e := A6o h.2
   have h3 : (kept l).length = (E5 l).length := by rw [← h.2.1.length_eq, e]
   rw [if_neg A4]
   exact Prod.ext h.1 e
theorem Wv (l : List Cl) : (decide ((Bb l).1 = 0) && decide ((Bb l).2 = l)) = A6 l := by
 obtain ⟨r, hr⟩ : ∃ r, Jg l r := by
  unfold Jg
  by_cases h1 : l.all Ar = false
  ·exact ⟨_, by rw [if_pos h1]⟩
  ·by_cases h2 : 64 < (kept l).length
   ·exact ⟨_, by rw [if_neg h1, if_pos h2]⟩
   ·obtain ⟨m, hm⟩ := A6n (kept l)
    exact ⟨(0, m), by rw [if_neg h1, if_neg h2]; exact ⟨rfl, hm⟩⟩
 rw [← A3b hr]
 exact Sn hr
def D9j (t : T) (ks : List Nat) (bs : List (List Nat)) : Nat := 1 + t.r.length + t.name.size + ks.sum + ((t.sys.zip bs).map fun p => 1 + p.1.Al.length + p.2.sum).sum
def Iq : T → Nat := tf D9j
def Su (b : Br) : Nat := 1 + b.Al.length + (b.kids.map Iq).sum
theorem A0k (t : T) : Iq t = 1 + t.r.length + t.name.size + (t.kids.map Iq).sum + (t.sys.map Su).sum := by
 conv => lhs; rw [Iq, D8l]
 unfold D9j
 congr 2
 generalize t.sys = l
 induction l with
 | nil => rfl
 | cons b l ih => simp only [List.map_cons, List.zip_cons_cons, List.map_cons]; rw [ih]; rfl
def bK (t : T) (i : Nat) : Nat := 1 + t.r.length + t.name.size + ((t.kids.take i).map Iq).sum
def bS (t : T) (i : Nat) : Nat := bK t t.kids.length + ((t.sys.take i).map Su).sum
def bJ (t : T) (i j : Nat) : Nat := bS t i + 1 + (t.sys.getD i Bj).Al.length + (((t.sys.getD i Bj).kids.take j).map Iq).sum
theorem P1 {α : Type} (f : α → Nat) {l : List α} {i : Nat} {d : α} (h : i < l.length) : ((l.take (i + 1)).map f).sum = ((l.take i).map f).sum + f (l.getD i d) := by
 rw [Ai (d := d) h, List.map_append, List.sum_append]; simp
theorem Oi {α : Type} (f : α → Nat) : ∀ (l : List α) (i : Nat), ((l.take i).map f).sum ≤ (l.map f).sum
 | [], i => by simp
 | a :: l, 0 => by simp
 | a :: l, i + 1 => by have := Oi f l i; simp only [List.take_succ_cons, List.map_cons, List.sum_cons]; omega
theorem B1z (t : T) : bK t 0 = 1 + t.r.length + t.name.size := by simp [bK]
theorem D7y {t : T} {i : Nat} (h : i < t.kids.length) : bK t (i + 1) = bK t i + Iq (t.kids.getD i t0) := by
 unfold bK; rw [P1 Iq h (d := t0)]; omega
theorem D7x (t : T) : bS t 0 = bK t t.kids.length := by simp [bS]
theorem C3x (t : T) (i : Nat) : bJ t i 0 = bS t i + 1 + (t.sys.getD i Bj).Al.length := by simp [bJ]
theorem D7z {t : T} {i j : Nat} (h : j < (t.sys.getD i Bj).kids.length) : bJ t i (j + 1) = bJ t i j + Iq ((t.sys.getD i Bj).kids.getD j t0) := by
 unfold bJ; rw [P1 Iq h (d := t0)]; omega
theorem B1y {t : T} {i : Nat} (h : i < t.sys.length) : bS t (i + 1) = bJ t i (t.sys.getD i Bj).kids.length := by
 unfold bS bJ bS; rw [P1 Su h (d := Bj), List.take_length]; unfold Su; omega
theorem E4v (t : T) : bS t t.sys.length = Iq t := by
 rw [A0k]; unfold bS bK; rw [List.take_length, List.take_length]
theorem D9m (t : T) (i : Nat) : bS t i ≤ Iq t := by
 rw [A0k]; unfold bS bK; rw [List.take_length]; have := Oi Su t.sys i; omega
theorem C3w (t : T) (i : Nat) : bK t i ≤ Iq t := by
 rw [A0k]; unfold bK; have := Oi Iq t.kids i; omega
theorem D9n {t : T} {i j : Nat} (h : i < t.sys.length) : bJ t i j ≤ Iq t := by
 have h1 := D9m t (i + 1)
 rw [B1y h] at h1
 unfold bJ at h1 ⊢
 rw [List.take_length] at h1
 have := Oi Iq (t.sys.getD i Bj).kids j
 omega
def G2 (t : T) (part : Nat) (Dg n : Int) : Prop := 0 ≤ n ∧ n ≤ 2 * Dg + 1 ∧ ((n ≤ Dg ∧ n = part) ∨ (Dg < n ∧ Dg < Iq t))
theorem Vy : ∀ t, size t ≤ Iq t := T.ind fun t ih => by
 have hk : ∀ (F G : T → Nat) (l : List T), (∀ k, k ∈ l → F k ≤ G k) → (l.map F).sum ≤ (l.map G).sum := by
  intro F G l
  induction l with
  | nil => intro _; simp
  | cons a l ih => intro h; have := ih (fun k hk => h k (List.mem_cons_of_mem _ hk)); have := h a List.mem_cons_self; simp only [List.map_cons, List.sum_cons]; omega
 have e : size t = 1 + ((parts t).map fun p => size p.1).sum := by
  rw [size_eq]
  have : ∀ (l : List Part) (a : Nat), l.foldl (fun a p => a + size p.1) a = a + (l.map fun p => size p.1).sum := by
   intro l
   induction l with
   | nil => intro a; simp
   | cons b l ih => intro a; rw [List.foldl_cons, ih]; simp; omega
  exact this _ _
 rw [e, N7, A0k, List.sum_append]
 have h1 := hk size Iq t.kids (fun k hk => by obtain ⟨p, hp, e⟩ := Hs hk; exact e ▸ ih p hp)
 have h2 : ((t.sys.map fun b => b.kids.map size).flatten).sum ≤ (t.sys.map Su).sum := by
  have : ∀ (l : List Br), (∀ b, b ∈ l → b ∈ t.sys) → ((l.map fun b => b.kids.map size).flatten).sum ≤ (l.map Su).sum := by
   intro l
   induction l with
   | nil => intro _; simp
   | cons b l ih2 =>
    intro h
    have h3 := ih2 (fun b hb => h b (List.mem_cons_of_mem _ hb))
    have h4 := hk size Iq b.kids (fun k hk => by obtain ⟨p, hp, e⟩ := Hr (h b List.mem_cons_self) hk; exact e ▸ ih p hp)
    simp only [List.map_cons, List.flatten_cons, List.sum_append, List.sum_cons]
    have hb : Su b = 1 + b.Al.length + (b.kids.map Iq).sum := rfl
    rw [hb]
    omega
  exact this t.sys (fun _ h => h)
 omega
end Go.Hy
namespace Go.Proofs.YtibignmpjeemeaaGreatDoor.Hy
open Go.Proofs
set_option maxRecDepth 100000
set_option maxHeartbeats 8000000
def D9z : Nat → Option (TypeDesc)
 | 1 => some (.func #[] #[] false)
 | 2 => some (.int .i64)
 | 3 => some (.int .i64)
 | 4 => some (.bool)
 | 5 => some (.int .u8)
 | 9 => some (.string)
 | 12 => some (.int .u64)
 | 20 => some (.interface #[])
 | 21 => some (.int .i32)
 | 22 => some (.slice 107)
 | 23 => some (.slice 26)
 | 24 => some (.slice 77)
 | 27 => some (.slice 22)
 | 30 => some (.func #[26] #[4] false)
 | 31 => some (.func #[29] #[4] false)
 | 32 => some (.func #[] #[4] false)
 | 33 => some (.func #[26] #[26] false)
 | 34 => some (.int .i64)
 | 36 => some (.func #[26, 37] #[26, 34] false)
 | 45 => some (.func #[26, 3, 3] #[4] false)
 | 82 => some (.func #[26, 29] #[26] false)
 | 88 => some (.func #[22] #[4] false)
 | 89 => some (.int .u32)
 | 91 => some (.int .u64)
 | 92 => some (.func #[22] #[22, 34] false)
 | 93 => some (.func #[22, 22] #[22, 34] false)
 | 102 => some (.func #[27, 22] #[27, 34] false)
 | 105 => some (.func #[23, 26] #[23, 34] false)
 | 109 => some (.pointer 111)
 | 118 => some (.func #[22, 3] #[22, 34] false)
 | 119 => some (.func #[22, 3] #[22, 34] false)
 | 131 => some (.func #[3] #[3] false)
 | 138 => some (.func #[92] #[118] false)
 | 140 => some (.slice 3)
 | 142 => some (.func #[22, 107] #[22, 34] false)
 | 151 => some (.func #[23] #[23] false)
 | 154 => some (.func #[24] #[3] false)
 | 156 => some (.func #[26, 3, 22] #[26] false)
 | 157 => some (.func #[26, 26, 26, 22] #[26] false)
 | 161 => some (.func #[22, 3, 22] #[22, 34] false)
 | 163 => some (.func #[161] #[119] false)
 | 164 => some (.func #[26, 3] #[22, 34] false)
 | 165 => some (.func #[23, 3, 131] #[23, 34] false)
 | 168 => some (.func #[107, 3, 3] #[107, 34] false)
 | 170 => some (.func #[9] #[4] false)
 | 172 => some (.map 107 4)
 | 173 => some (.func #[107] #[4] false)
 | 177 => some (.func #[107, 107] #[3] false)
 | 186 => some (.func #[26, 3, 22, 3, 4] #[26] false)
 | 187 => some (.func #[3, 26, 26, 26] #[26] false)
 | 188 => some (.func #[3, 23] #[26] false)
 | 193 => some (.func #[] #[26] false)
 | 197 => some (.func #[22, 198] #[22] false)
 | 198 => some (.func #[107] #[107, 4] false)
 | 199 => some (.func #[] #[37, 34] false)
 | 200 => some (.array 29 3)
 | 217 => some (.int .u64)
 | 220 => some (.int .i64)
 | 228 => some (.array 32 5)
 | 232 => some (.func #[22, 3, 22] #[22, 3] false)
 | 234 => some (.func #[3] #[91] false)
 | 237 => some (.pointer 3)
 | 251 => some (.pointer 5)
 | _ => none
def E0a : Nat → Option (Nat × Nat × Value)
 | 1 => some (1, 8, .nilFunc)
 | 2 => some (1, 8, .int .i64 0)
 | 3 => some (1, 8, .int .i64 0)
 | 4 => some (1, 1, .bool false)
 | 5 => some (1, 1, .int .u8 0)
 | 9 => some (1, 16, .string ⟨#[]⟩)
 | 12 => some (1, 8, .int .u64 0)
 | 21 => some (1, 4, .int .i32 0)
 | 22 => some (1, 24, .slice none 0 0)
 | 23 => some (1, 24, .slice none 0 0)
 | 24 => some (1, 24, .slice none 0 0)
 | 25 => some (6, 104, .agg #[.int .i64 0, .int .i64 0, .string ⟨#[]⟩, .slice none 0 0, .slice none 0 0, .slice none 0 0])
 | 26 => some (6, 104, .agg #[.int .i64 0, .int .i64 0, .string ⟨#[]⟩, .slice none 0 0, .slice none 0 0, .slice none 0 0])
 | 27 => some (1, 24, .slice none 0 0)
 | 28 => some (2, 48, .agg #[.slice none 0 0, .slice none 0 0])
 | 29 => some (2, 48, .agg #[.slice none 0 0, .slice none 0 0])
 | 30 => some (1, 8, .nilFunc)
 | 31 => some (1, 8, .nilFunc)
 | 32 => some (1, 8, .nilFunc)
 | 33 => some (1, 8, .nilFunc)
 | 34 => some (1, 8, .int .i64 0)
 | 36 => some (1, 8, .nilFunc)
 | 37 => some (2, 48, .agg #[.slice none 0 0, .slice none 0 0])
 | 45 => some (1, 8, .nilFunc)
 | 76 => some (2, 48, .agg #[.slice none 0 0, .slice none 0 0])
 | 77 => some (2, 48, .agg #[.slice none 0 0, .slice none 0 0])
 | 82 => some (1, 8, .nilFunc)
 | 88 => some (1, 8, .nilFunc)
 | 89 => some (1, 4, .int .u32 0)
 | 91 => some (1, 8, .int .u64 0)
 | 92 => some (1, 8, .nilFunc)
 | 93 => some (1, 8, .nilFunc)
 | 94 => some (4, 32, .agg #[.nilFunc, .nilFunc, .nilFunc, .nilFunc])
 | 95 => some (4, 32, .agg #[.nilFunc, .nilFunc, .nilFunc, .nilFunc])
 | 102 => some (1, 8, .nilFunc)
 | 105 => some (1, 8, .nilFunc)
 | 106 => some (2, 8, .agg #[.int .u32 0, .int .u32 0])
 | 107 => some (2, 8, .agg #[.int .u32 0, .int .u32 0])
 | 109 => some (1, 8, .pointer none)
 | 110 => some (1, 8, .agg #[.int .i64 0])
 | 111 => some (1, 8, .agg #[.int .i64 0])
 | 118 => some (1, 8, .nilFunc)
 | 119 => some (1, 8, .nilFunc)
 | 120 => some (2, 16, .agg #[.nilFunc, .nilFunc])
 | 121 => some (2, 16, .agg #[.nilFunc, .nilFunc])
 | 131 => some (1, 8, .nilFunc)
 | 138 => some (1, 8, .nilFunc)
 | 140 => some (1, 24, .slice none 0 0)
 | 142 => some (1, 8, .nilFunc)
 | 151 => some (1, 8, .nilFunc)
 | 154 => some (1, 8, .nilFunc)
 | 156 => some (1, 8, .nilFunc)
 | 157 => some (1, 8, .nilFunc)
 | 161 => some (1, 8, .nilFunc)
 | 163 => some (1, 8, .nilFunc)
 | 164 => some (1, 8, .nilFunc)
 | 165 => some (1, 8, .nilFunc)
 | 168 => some (1, 8, .nilFunc)
 | 170 => some (1, 8, .nilFunc)
 | 172 => some (1, 8, .map none)
 | 173 => some (1, 8, .nilFunc)
 | 177 => some (1, 8, .nilFunc)
 | 186 => some (1, 8, .nilFunc)
 | 187 => some (1, 8, .nilFunc)
 | 188 => some (1, 8, .nilFunc)
 | 190 => some (2, 16, .agg #[.int .i64 0, .int .i64 0])
 | 191 => some (2, 16, .agg #[.int .i64 0, .int .i64 0])
 | 193 => some (1, 8, .nilFunc)
 | 197 => some (1, 8, .nilFunc)
 | 198 => some (1, 8, .nilFunc)
 | 199 => some (1, 8, .nilFunc)
 | 200 => some (29, 232, .agg #[.int .i64 0, .int .i64 0, .int .i64 0, .int .i64 0, .int .i64 0, .int .i64 0, .int .i64 0, .int .i64 0, .int .i64 0, .int .i64 0, .int .i64 0, .int .i64 0, .int .i64 0, .int .i64 0, .int .i64 0, .int .i64 0, .int .i64 0, .int .i64 0, .int .i64 0, .int .i64 0, .int .i64 0, .int .i64 0, .int .i64 0, .int .i64 0, .int .i64 0, .int .i64 0, .int .i64 0, .int .i64 0, .int .i64 0])
 | 217 => some (1, 8, .int .u64 0)
 | 220 => some (1, 8, .int .i64 0)
 | 228 => some (32, 32, .agg #[.int .u8 0, .int .u8 0, .int .u8 0, .int .u8 0, .int .u8 0, .int .u8 0, .int .u8 0, .int .u8 0, .int .u8 0, .int .u8 0, .int .u8 0, .int .u8 0, .int .u8 0, .int .u8 0, .int .u8 0, .int .u8 0, .int .u8 0, .int .u8 0, .int .u8 0, .int .u8 0, .int .u8 0, .int .u8 0, .int .u8 0, .int .u8 0, .int .u8 0, .int .u8 0, .int .u8 0, .int .u8 0, .int .u8 0, .int .u8 0, .int .u8 0, .int .u8 0])
 | 232 => some (1, 8, .nilFunc)
 | 234 => some (1, 8, .nilFunc)
 | 237 => some (1, 8, .pointer none)
 | 251 => some (1, 8, .pointer none)
 | _ => none
def C4y : Nat → Option (List (Nat × Nat))
 | 25 => some ([(0, 1), (1, 1), (2, 1), (3, 1), (4, 1), (5, 1)])
 | 26 => some ([(0, 1), (1, 1), (2, 1), (3, 1), (4, 1), (5, 1)])
 | 28 => some ([(0, 1), (1, 1)])
 | 29 => some ([(0, 1), (1, 1)])
 | 37 => some ([(0, 1), (1, 1)])
 | 76 => some ([(0, 1), (1, 1)])
 | 77 => some ([(0, 1), (1, 1)])
 | 94 => some ([(0, 1), (1, 1), (2, 1), (3, 1)])
 | 95 => some ([(0, 1), (1, 1), (2, 1), (3, 1)])
 | 106 => some ([(0, 1), (1, 1)])
 | 107 => some ([(0, 1), (1, 1)])
 | 110 => some ([(0, 1)])
 | 111 => some ([(0, 1)])
 | 120 => some ([(0, 1), (1, 1)])
 | 121 => some ([(0, 1), (1, 1)])
 | 190 => some ([(0, 1), (1, 1)])
 | 191 => some ([(0, 1), (1, 1)])
 | _ => none
def E0b (t j : Nat) : Option Nat := (C4y t).bind fun l => (l[j]?).map (·.1)
noncomputable abbrev ii_ (t : Nat) := (Tryz.prog.info? t).map fun i => (i.size, i.bytes, i.zero)
theorem F0a : ii_ 1 = some (1, 8, some (.nilFunc)) := by kernel_rfl
theorem E9z : ii_ 2 = some (1, 8, some (.int .i64 0)) := by kernel_rfl
theorem E9y : ii_ 3 = some (1, 8, some (.int .i64 0)) := by kernel_rfl
theorem E9x : ii_ 4 = some (1, 1, some (.bool false)) := by kernel_rfl
theorem E9w : ii_ 5 = some (1, 1, some (.int .u8 0)) := by kernel_rfl
theorem E9v : ii_ 9 = some (1, 16, some (.string ⟨#[]⟩)) := by kernel_rfl
theorem E8p : ii_ 12 = some (1, 8, some (.int .u64 0)) := by kernel_rfl
theorem E8o : ii_ 21 = some (1, 4, some (.int .i32 0)) := by kernel_rfl
theorem E8n : ii_ 22 = some (1, 24, some (.slice none 0 0)) := by kernel_rfl
theorem E8m : ii_ 23 = some (1, 24, some (.slice none 0 0)) := by kernel_rfl
theorem E8l : ii_ 24 = some (1, 24, some (.slice none 0 0)) := by kernel_rfl
theorem E8k : ii_ 25 = some (6, 104, some (.agg #[.int .i64 0, .int .i64 0, .string ⟨#[]⟩, .slice none 0 0, .slice none 0 0, .slice none 0 0])) := by kernel_rfl
theorem E8j : ii_ 26 = some (6, 104, some (.agg #[.int .i64 0, .int .i64 0, .string ⟨#[]⟩, .slice none 0 0, .slice none 0 0, .slice none 0 0])) := by kernel_rfl
theorem E8i : ii_ 27 = some (1, 24, some (.slice none 0 0)) := by kernel_rfl
theorem E8h : ii_ 28 = some (2, 48, some (.agg #[.slice none 0 0, .slice none 0 0])) := by kernel_rfl
theorem E8g : ii_ 29 = some (2, 48, some (.agg #[.slice none 0 0, .slice none 0 0])) := by kernel_rfl
theorem E8f : ii_ 30 = some (1, 8, some (.nilFunc)) := by kernel_rfl
theorem E8e : ii_ 31 = some (1, 8, some (.nilFunc)) := by kernel_rfl
theorem E8d : ii_ 32 = some (1, 8, some (.nilFunc)) := by kernel_rfl
theorem E8c : ii_ 33 = some (1, 8, some (.nilFunc)) := by kernel_rfl
theorem E8b : ii_ 34 = some (1, 8, some (.int .i64 0)) := by kernel_rfl
theorem E8a : ii_ 36 = some (1, 8, some (.nilFunc)) := by kernel_rfl
theorem E7z : ii_ 37 = some (2, 48, some (.agg #[.slice none 0 0, .slice none 0 0])) := by kernel_rfl
theorem E7y : ii_ 45 = some (1, 8, some (.nilFunc)) := by kernel_rfl
theorem E7x : ii_ 76 = some (2, 48, some (.agg #[.slice none 0 0, .slice none 0 0])) := by kernel_rfl
theorem E7w : ii_ 77 = some (2, 48, some (.agg #[.slice none 0 0, .slice none 0 0])) := by kernel_rfl
theorem E7v : ii_ 82 = some (1, 8, some (.nilFunc)) := by kernel_rfl
theorem E7u : ii_ 88 = some (1, 8, some (.nilFunc)) := by kernel_rfl
theorem E7t : ii_ 89 = some (1, 4, some (.int .u32 0)) := by kernel_rfl
theorem E7s : ii_ 91 = some (1, 8, some (.int .u64 0)) := by kernel_rfl
theorem E7r : ii_ 92 = some (1, 8, some (.nilFunc)) := by kernel_rfl
theorem E7q : ii_ 93 = some (1, 8, some (.nilFunc)) := by kernel_rfl
theorem E7p : ii_ 94 = some (4, 32, some (.agg #[.nilFunc, .nilFunc, .nilFunc, .nilFunc])) := by kernel_rfl
theorem E7o : ii_ 95 = some (4, 32, some (.agg #[.nilFunc, .nilFunc, .nilFunc, .nilFunc])) := by kernel_rfl
theorem E4f : ii_ 102 = some (1, 8, some (.nilFunc)) := by kernel_rfl
theorem E4e : ii_ 105 = some (1, 8, some (.nilFunc)) := by kernel_rfl
theorem E4d : ii_ 106 = some (2, 8, some (.agg #[.int .u32 0, .int .u32 0])) := by kernel_rfl
theorem E4c : ii_ 107 = some (2, 8, some (.agg #[.int .u32 0, .int .u32 0])) := by kernel_rfl
theorem E4b : ii_ 109 = some (1, 8, some (.pointer none)) := by kernel_rfl
theorem E4a : ii_ 110 = some (1, 8, some (.agg #[.int .i64 0])) := by kernel_rfl
theorem E3z : ii_ 111 = some (1, 8, some (.agg #[.int .i64 0])) := by kernel_rfl
theorem E3y : ii_ 118 = some (1, 8, some (.nilFunc)) := by kernel_rfl
theorem E3x : ii_ 119 = some (1, 8, some (.nilFunc)) := by kernel_rfl
theorem E3w : ii_ 120 = some (2, 16, some (.agg #[.nilFunc, .nilFunc])) := by kernel_rfl
theorem E3v : ii_ 121 = some (2, 16, some (.agg #[.nilFunc, .nilFunc])) := by kernel_rfl
theorem E3u : ii_ 131 = some (1, 8, some (.nilFunc)) := by kernel_rfl
theorem E3t : ii_ 138 = some (1, 8, some (.nilFunc)) := by kernel_rfl
theorem E3s : ii_ 140 = some (1, 24, some (.slice none 0 0)) := by kernel_rfl
theorem E3r : ii_ 142 = some (1, 8, some (.nilFunc)) := by kernel_rfl
theorem E3q : ii_ 151 = some (1, 8, some (.nilFunc)) := by kernel_rfl
theorem E3p : ii_ 154 = some (1, 8, some (.nilFunc)) := by kernel_rfl
theorem E3o : ii_ 156 = some (1, 8, some (.nilFunc)) := by kernel_rfl
theorem E3n : ii_ 157 = some (1, 8, some (.nilFunc)) := by kernel_rfl
theorem E3m : ii_ 161 = some (1, 8, some (.nilFunc)) := by kernel_rfl
theorem E3l : ii_ 163 = some (1, 8, some (.nilFunc)) := by kernel_rfl
theorem E3k : ii_ 164 = some (1, 8, some (.nilFunc)) := by kernel_rfl
theorem E3j : ii_ 165 = some (1, 8, some (.nilFunc)) := by kernel_rfl
theorem E3i : ii_ 168 = some (1, 8, some (.nilFunc)) := by kernel_rfl
theorem E3h : ii_ 170 = some (1, 8, some (.nilFunc)) := by kernel_rfl
theorem E3g : ii_ 172 = some (1, 8, some (.map none)) := by kernel_rfl
theorem E3f : ii_ 173 = some (1, 8, some (.nilFunc)) := by kernel_rfl
theorem E3e : ii_ 177 = some (1, 8, some (.nilFunc)) := by kernel_rfl
theorem E3d : ii_ 186 = some (1, 8, some (.nilFunc)) := by kernel_rfl
theorem E3c : ii_ 187 = some (1, 8, some (.nilFunc)) := by kernel_rfl
theorem E3b : ii_ 188 = some (1, 8, some (.nilFunc)) := by kernel_rfl
theorem E3a : ii_ 190 = some (2, 16, some (.agg #[.int .i64 0, .int .i64 0])) := by kernel_rfl
theorem E2z : ii_ 191 = some (2, 16, some (.agg #[.int .i64 0, .int .i64 0])) := by kernel_rfl
theorem E2y : ii_ 193 = some (1, 8, some (.nilFunc)) := by kernel_rfl
theorem E2x : ii_ 197 = some (1, 8, some (.nilFunc)) := by kernel_rfl
theorem E2w : ii_ 198 = some (1, 8, some (.nilFunc)) := by kernel_rfl
theorem E2v : ii_ 199 = some (1, 8, some (.nilFunc)) := by kernel_rfl
theorem E2u : ii_ 200 = some (29, 232, some (.agg #[.int .i64 0, .int .i64 0, .int .i64 0, .int .i64 0, .int .i64 0, .int .i64 0, .int .i64 0, .int .i64 0, .int .i64 0, .int .i64 0, .int .i64 0, .int .i64 0, .int .i64 0, .int .i64 0, .int .i64 0, .int .i64 0, .int .i64 0, .int .i64 0, .int .i64 0, .int .i64 0, .int .i64 0, .int .i64 0, .int .i64 0, .int .i64 0, .int .i64 0, .int .i64 0, .int .i64 0, .int .i64 0, .int .i64 0])) := by kernel_rfl
theorem E2t : ii_ 217 = some (1, 8, some (.int .u64 0)) := by kernel_rfl
theorem E2s : ii_ 220 = some (1, 8, some (.int .i64 0)) := by kernel_rfl
theorem E2r : ii_ 228 = some (32, 32, some (.agg #[.int .u8 0, .int .u8 0, .int .u8 0, .int .u8 0, .int .u8 0, .int .u8 0, .int .u8 0, .int .u8 0, .int .u8 0, .int .u8 0, .int .u8 0, .int .u8 0, .int .u8 0, .int .u8 0, .int .u8 0, .int .u8 0, .int .u8 0, .int .u8 0, .int .u8 0, .int .u8 0, .int .u8 0, .int .u8 0, .int .u8 0, .int .u8 0, .int .u8 0, .int .u8 0, .int .u8 0, .int .u8 0, .int .u8 0, .int .u8 0, .int .u8 0, .int .u8 0])) := by kernel_rfl
theorem E2q : ii_ 232 = some (1, 8, some (.nilFunc)) := by kernel_rfl
theorem E2p : ii_ 234 = some (1, 8, some (.nilFunc)) := by kernel_rfl
theorem E2o : ii_ 237 = some (1, 8, some (.pointer none)) := by kernel_rfl
theorem E2n : ii_ 251 = some (1, 8, some (.pointer none)) := by kernel_rfl
theorem Az {t s b : Nat} {z : Value} (h : ii_ t = some (s, b, some z)) : ∃ i, Tryz.prog.info? t = some i ∧ i.size = s ∧ i.bytes = b ∧ i.zero = some z := by
 obtain ⟨i, h1, h2⟩ := Option.map_eq_some_iff.1 h
 simp only [Prod.mk.injEq] at h2
 exact ⟨i, h1, h2.1, h2.2.1, h2.2.2⟩
theorem D5c : ∀ t d, D9z t = some d → Tryz.prog.underlying t = some d := by
 intro t d h
 unfold D9z at h
 split at h
 ·cases h; exact Tryz.underlying1
 ·cases h; exact Tryz.underlying2
 ·cases h; exact Tryz.underlying3
 ·cases h; exact Tryz.underlying4
 ·cases h; exact Tryz.underlying5
 ·cases h; exact Tryz.underlying9
 ·cases h; exact Tryz.underlying12
 ·cases h; exact Tryz.underlying20
 ·cases h; exact Tryz.underlying21
 ·cases h; exact Tryz.underlying22
 ·cases h; exact Tryz.underlying23
 ·cases h; exact Tryz.underlying24
 ·cases h; exact Tryz.underlying27
 ·cases h; exact Tryz.underlying30
 ·cases h; exact Tryz.underlying31
 ·cases h; exact Tryz.underlying32
 ·cases h; exact Tryz.underlying33
 ·cases h; exact Tryz.underlying34
 ·cases h; exact Tryz.underlying36
 ·cases h; exact Tryz.underlying45
 ·cases h; exact Tryz.underlying82
 ·cases h; exact Tryz.underlying88
 ·cases h; exact Tryz.underlying89
 ·cases h; exact Tryz.underlying91
 ·cases h; exact Tryz.underlying92
 ·cases h; exact Tryz.underlying93
 ·cases h; exact Tryz.underlying102
 ·cases h; exact Tryz.underlying105
 ·cases h; exact Tryz.underlying109
 ·cases h; exact Tryz.underlying118
 ·cases h; exact Tryz.underlying119
 ·cases h; exact Tryz.underlying131
 ·cases h; exact Tryz.underlying138
 ·cases h; exact Tryz.underlying140
 ·cases h; exact Tryz.underlying142
 ·cases h; exact Tryz.underlying151
 ·cases h; exact Tryz.underlying154
 ·cases h; exact Tryz.underlying156
 ·cases h; exact Tryz.underlying157
 ·cases h; exact Tryz.underlying161
 ·cases h; exact Tryz.underlying163
 ·cases h; exact Tryz.underlying164
 ·cases h; exact Tryz.underlying165
 ·cases h; exact Tryz.underlying168
 ·cases h; exact Tryz.underlying170
 ·cases h; exact Tryz.underlying172
 ·cases h; exact Tryz.underlying173
 ·cases h; exact Tryz.underlying177
 ·cases h; exact Tryz.underlying186
 ·cases h; exact Tryz.underlying187
 ·cases h; exact Tryz.underlying188
 ·cases h; exact Tryz.underlying193
 ·cases h; exact Tryz.underlying197
 ·cases h; exact Tryz.underlying198
 ·cases h; exact Tryz.underlying199
 ·cases h; exact Tryz.underlying200
 ·cases h; exact Tryz.underlying217
 ·cases h; exact Tryz.underlying220
 ·cases h; exact Tryz.underlying228
 ·cases h; exact Tryz.underlying232
 ·cases h; exact Tryz.underlying234
 ·cases h; exact Tryz.underlying237
 ·cases h; exact Tryz.underlying251
 ·cases h
theorem D5d : ∀ t s b z, E0a t = some (s, b, z) → ∃ i, Tryz.prog.info? t = some i ∧ i.size = s ∧ i.bytes = b ∧ i.zero = some z := by
 intro t s b z h
 unfold E0a at h
 split at h
 ·cases h; exact Az F0a
 ·cases h; exact Az E9z
 ·cases h; exact Az E9y
 ·cases h; exact Az E9x
 ·cases h; exact Az E9w
 ·cases h; exact Az E9v
 ·cases h; exact Az E8p
 ·cases h; exact Az E8o
 ·cases h; exact Az E8n
 ·cases h; exact Az E8m
 ·cases h; exact Az E8l
 ·cases h; exact Az E8k
 ·cases h; exact Az E8j
 ·cases h; exact Az E8i
 ·cases h; exact Az E8h
 ·cases h; exact Az E8g
 ·cases h; exact Az E8f
 ·cases h; exact Az E8e
 ·cases h; exact Az E8d
 ·cases h; exact Az E8c
 ·cases h; exact Az E8b
 ·cases h; exact Az E8a
 ·cases h; exact Az E7z
 ·cases h; exact Az E7y
 ·cases h; exact Az E7x
 ·cases h; exact Az E7w
 ·cases h; exact Az E7v
 ·cases h; exact Az E7u
 ·cases h; exact Az E7t
 ·cases h; exact Az E7s
 ·cases h; exact Az E7r
 ·cases h; exact Az E7q
 ·cases h; exact Az E7p
 ·cases h; exact Az E7o
 ·cases h; exact Az E4f
 ·cases h; exact Az E4e
 ·cases h; exact Az E4d
 ·cases h; exact Az E4c
 ·cases h; exact Az E4b
 ·cases h; exact Az E4a
 ·cases h; exact Az E3z
 ·cases h; exact Az E3y
 ·cases h; exact Az E3x
 ·cases h; exact Az E3w
 ·cases h; exact Az E3v
 ·cases h; exact Az E3u
 ·cases h; exact Az E3t
 ·cases h; exact Az E3s
 ·cases h; exact Az E3r
 ·cases h; exact Az E3q
 ·cases h; exact Az E3p
 ·cases h; exact Az E3o
 ·cases h; exact Az E3n
 ·cases h; exact Az E3m
 ·cases h; exact Az E3l
 ·cases h; exact Az E3k
 ·cases h; exact Az E3j
 ·cases h; exact Az E3i
 ·cases h; exact Az E3h
 ·cases h; exact Az E3g
 ·cases h; exact Az E3f
 ·cases h; exact Az E3e
 ·cases h; exact Az E3d
 ·cases h; exact Az E3c
 ·cases h; exact Az E3b
 ·cases h; exact Az E3a
 ·cases h; exact Az E2z
 ·cases h; exact Az E2y
 ·cases h; exact Az E2x
 ·cases h; exact Az E2w
 ·cases h; exact Az E2v
 ·cases h; exact Az E2u
 ·cases h; exact Az E2t
 ·cases h; exact Az E2s
 ·cases h; exact Az E2r
 ·cases h; exact Az E2q
 ·cases h; exact Az E2p
 ·cases h; exact Az E2o
 ·cases h; exact Az E2n
 ·cases h
theorem E7m : ∃ fs, Tryz.prog.underlying 25 = some (.struct fs) ∧ fs.toList.mapM (fun f => (Tryz.prog.info? f.type).map fun i => (f.offset, i.size)) = some [(0, 1), (1, 1), (2, 1), (3, 1), (4, 1), (5, 1)] := ⟨_, Tryz.underlying25, by kernel_rfl⟩
theorem E7l : ∃ fs, Tryz.prog.underlying 26 = some (.struct fs) ∧ fs.toList.mapM (fun f => (Tryz.prog.info? f.type).map fun i => (f.offset, i.size)) = some [(0, 1), (1, 1), (2, 1), (3, 1), (4, 1), (5, 1)] := ⟨_, Tryz.underlying26, by kernel_rfl⟩
theorem E7k : ∃ fs, Tryz.prog.underlying 28 = some (.struct fs) ∧ fs.toList.mapM (fun f => (Tryz.prog.info? f.type).map fun i => (f.offset, i.size)) = some [(0, 1), (1, 1)] := ⟨_, Tryz.underlying28, by kernel_rfl⟩
theorem E7j : ∃ fs, Tryz.prog.underlying 29 = some (.struct fs) ∧ fs.toList.mapM (fun f => (Tryz.prog.info? f.type).map fun i => (f.offset, i.size)) = some [(0, 1), (1, 1)] := ⟨_, Tryz.underlying29, by kernel_rfl⟩
theorem E7i : ∃ fs, Tryz.prog.underlying 37 = some (.struct fs) ∧ fs.toList.mapM (fun f => (Tryz.prog.info? f.type).map fun i => (f.offset, i.size)) = some [(0, 1), (1, 1)] := ⟨_, Tryz.underlying37, by kernel_rfl⟩
theorem E7h : ∃ fs, Tryz.prog.underlying 76 = some (.struct fs) ∧ fs.toList.mapM (fun f => (Tryz.prog.info? f.type).map fun i => (f.offset, i.size)) = some [(0, 1), (1, 1)] := ⟨_, Tryz.underlying76, by kernel_rfl⟩
theorem E7g : ∃ fs, Tryz.prog.underlying 77 = some (.struct fs) ∧ fs.toList.mapM (fun f => (Tryz.prog.info? f.type).map fun i => (f.offset, i.size)) = some [(0, 1), (1, 1)] := ⟨_, Tryz.underlying77, by kernel_rfl⟩
theorem E7f : ∃ fs, Tryz.prog.underlying 94 = some (.struct fs) ∧ fs.toList.mapM (fun f => (Tryz.prog.info? f.type).map fun i => (f.offset, i.size)) = some [(0, 1), (1, 1), (2, 1), (3, 1)] := ⟨_, Tryz.underlying94, by kernel_rfl⟩
theorem E7e : ∃ fs, Tryz.prog.underlying 95 = some (.struct fs) ∧ fs.toList.mapM (fun f => (Tryz.prog.info? f.type).map fun i => (f.offset, i.size)) = some [(0, 1), (1, 1), (2, 1), (3, 1)] := ⟨_, Tryz.underlying95, by kernel_rfl⟩
theorem E2i : ∃ fs, Tryz.prog.underlying 106 = some (.struct fs) ∧ fs.toList.mapM (fun f => (Tryz.prog.info? f.type).map fun i => (f.offset, i.size)) = some [(0, 1), (1, 1)] := ⟨_, Tryz.underlying106, by kernel_rfl⟩
theorem E2h : ∃ fs, Tryz.prog.underlying 107 = some (.struct fs) ∧ fs.toList.mapM (fun f => (Tryz.prog.info? f.type).map fun i => (f.offset, i.size)) = some [(0, 1), (1, 1)] := ⟨_, Tryz.underlying107, by kernel_rfl⟩
theorem E2g : ∃ fs, Tryz.prog.underlying 110 = some (.struct fs) ∧ fs.toList.mapM (fun f => (Tryz.prog.info? f.type).map fun i => (f.offset, i.size)) = some [(0, 1)] := ⟨_, Tryz.underlying110, by kernel_rfl⟩
theorem E2f : ∃ fs, Tryz.prog.underlying 111 = some (.struct fs) ∧ fs.toList.mapM (fun f => (Tryz.prog.info? f.type).map fun i => (f.offset, i.size)) = some [(0, 1)] := ⟨_, Tryz.underlying111, by kernel_rfl⟩
theorem E2e : ∃ fs, Tryz.prog.underlying 120 = some (.struct fs) ∧ fs.toList.mapM (fun f => (Tryz.prog.info? f.type).map fun i => (f.offset, i.size)) = some [(0, 1), (1, 1)] := ⟨_, Tryz.underlying120, by kernel_rfl⟩
theorem E2d : ∃ fs, Tryz.prog.underlying 121 = some (.struct fs) ∧ fs.toList.mapM (fun f => (Tryz.prog.info? f.type).map fun i => (f.offset, i.size)) = some [(0, 1), (1, 1)] := ⟨_, Tryz.underlying121, by kernel_rfl⟩
theorem E2c : ∃ fs, Tryz.prog.underlying 190 = some (.struct fs) ∧ fs.toList.mapM (fun f => (Tryz.prog.info? f.type).map fun i => (f.offset, i.size)) = some [(0, 1), (1, 1)] := ⟨_, Tryz.underlying190, by kernel_rfl⟩
theorem E2b : ∃ fs, Tryz.prog.underlying 191 = some (.struct fs) ∧ fs.toList.mapM (fun f => (Tryz.prog.info? f.type).map fun i => (f.offset, i.size)) = some [(0, 1), (1, 1)] := ⟨_, Tryz.underlying191, by kernel_rfl⟩
theorem C1t : ∀ t l, C4y t = some l → ∃ fs, Tryz.prog.underlying t = some (.struct fs) ∧ fs.toList.mapM (fun f => (Tryz.prog.info? f.type).map fun i => (f.offset, i.size)) = some l := by
 intro t l h
 unfold C4y at h
 split at h
 ·cases h; exact E7m
 ·cases h; exact E7l
 ·cases h; exact E7k
 ·cases h; exact E7j
 ·cases h; exact E7i
 ·cases h; exact E7h
 ·cases h; exact E7g
 ·cases h; exact E7f
 ·cases h; exact E7e
 ·cases h; exact E2i
 ·cases h; exact E2h
 ·cases h; exact E2g
 ·cases h; exact E2f
 ·cases h; exact E2e
 ·cases h; exact E2d
 ·cases h; exact E2c
 ·cases h; exact E2b
 ·cases h
theorem C9e : ∀ t l, C4y t = some l → l.all (fun x => x.2 != 0) = true := by
 intro t l h
 unfold C4y at h
 split at h
 ·cases h; rfl
 ·cases h; rfl
 ·cases h; rfl
 ·cases h; rfl
 ·cases h; rfl
 ·cases h; rfl
 ·cases h; rfl
 ·cases h; rfl
 ·cases h; rfl
 ·cases h; rfl
 ·cases h; rfl
 ·cases h; rfl
 ·cases h; rfl
 ·cases h; rfl
 ·cases h; rfl
 ·cases h; rfl
 ·cases h; rfl
 ·cases h
theorem B5j {P : Program} : ∀ (fs : List Field) (l : List (Nat × Nat)), fs.mapM (fun f => (P.info? f.type).map fun i => (f.offset, i.size)) = some l → ∀ (j : Nat) (x : Nat × Nat), l[j]? = some x → ∃ fl i, fs[j]? = some fl ∧ P.info? fl.type = some i ∧ fl.offset = x.1 ∧ i.size = x.2
 | [], l, h, j, x, hx => by simp at h; subst h; simp at hx
 | f :: fs, l, h, j, x, hx => by
  simp only [List.mapM_cons, Option.bind_eq_bind, Option.pure_def] at h
  cases hi : P.info? f.type with
  | none => simp [hi] at h
  | some i =>
   cases hr : fs.mapM (fun f => (P.info? f.type).map fun i => (f.offset, i.size)) with
   | none => simp [hi, hr] at h
   | some rest =>
    simp [hi, hr] at h
    subst h
    cases j with
    | zero => simp at hx; subst hx; exact ⟨f, i, rfl, hi, rfl, rfl⟩
    | succ j => simpa using B5j fs rest hr j x (by simpa using hx)
theorem D5e : ∀ t j o, E0b t j = some o → ∃ fs fl i, Tryz.prog.underlying t = some (.struct fs) ∧ fs[j]? = some fl ∧ fl.offset = o ∧ Tryz.prog.info? fl.type = some i ∧ i.size ≠ 0 := by
 intro t j o h
 unfold E0b at h
 obtain ⟨l, h1, h2⟩ := Option.bind_eq_some_iff.1 h
 obtain ⟨x, h3, rfl⟩ := Option.map_eq_some_iff.1 h2
 obtain ⟨fs, h4, h5⟩ := C1t t l h1
 obtain ⟨fl, i, h6, h7, h8, h9⟩ := B5j fs.toList l h5 j x h3
 refine ⟨fs, fl, i, h4, by simpa using h6, h8, h7, ?_⟩
 have := List.all_eq_true.1 (C9e t l h1) x (List.mem_of_getElem? h3)
 rw [h9]
 simpa using this
theorem F0c (a b c d : Int) (w : World) : (Op.equalIn 10000 107 (.agg #[.int .u32 a, .int .u32 b]) (.agg #[.int .u32 c, .int .u32 d])).run Tryz.prog w = .ok (a == c && b == d) w := by
 have u := Tryz.underlying89
 have hS : Tryz.prog.underlying 107 = some (.struct (Tryz.prog.fieldsOf 107)) := by kernel_rfl
 have hp : Tryz.prog.stoodInHeld 107 = false := by kernel_rfl
 obtain ⟨i, h1, h2⟩ : ∃ i, Tryz.prog.info? 89 = some i ∧ i.size = 1 := by
  obtain ⟨i, h1, h2⟩ := Option.map_eq_some_iff.1 (show (Tryz.prog.info? 89).map (fun i => i.size) = some 1 by kernel_rfl)
  exact ⟨i, h1, h2⟩
 have hz : ∀ w, (sizeOf 89).run Tryz.prog w = .ok 1 w := fun w => by simp [sizeOf, typeInfo, h1, h2]
 rw [show (10000 : Nat) = 9999 + 1 from rfl, run_equalIn_agg w 9999 107 _ _ hS hp]
 simp only [Program.fieldsOf, Tryz.underlying107]
 have hA : ∀ w, (isAgg 89).run Tryz.prog w = .ok false w := fun w => by simp [isAgg, run_underlying u]
 have e : ∀ (a c : Int) (w : World), (Op.equalIn 9999 89 (.int .u32 a) (.int .u32 c)).run Tryz.prog w = .ok (a == c) w := fun a c w => run_equalIn_int w 9998 89 .u32 .u32 a c u
 simp [Op.eqFields, part, hA, hz, e]
 by_cases h1 : a = c <;> by_cases h2 : b = d <;> simp [h1, h2]
instance : Go.Hy.Tab Tryz.prog := ⟨D9z, D5c, E0a, D5d, E0b, D5e, C4y, C1t, by kernel_rfl, 107, F0c, by kernel_rfl⟩
noncomputable def fC' : Array Field := match Tryz.prog.underlying 107 with | some (.struct fs) => fs | _ => #[]
noncomputable def fT' : Array Field := match Tryz.prog.underlying 26 with | some (.struct fs) => fs | _ => #[]
noncomputable def fB' : Array Field := match Tryz.prog.underlying 77 with | some (.struct fs) => fs | _ => #[]
noncomputable instance : Go.Hy.TyF Tryz.prog := { tI := 3, tS := 9, tU := 89, tC := 107, tT := 26, tB := 77, lC := 22, lT := 23, lB := 24, fC := fC', fT := fT', fB := fB', uI := Tryz.underlying3, uS := Tryz.underlying9, uU := Tryz.underlying89, uC := by kernel_rfl, uT := by kernel_rfl, uB := by kernel_rfl, ulC := Tryz.underlying22, ulT := Tryz.underlying23, ulB := Tryz.underlying24, pC := by kernel_rfl, pT := by kernel_rfl, pB := by kernel_rfl, c1 := ⟨by kernel_rfl, by kernel_rfl, by kernel_rfl, by kernel_rfl, by kernel_rfl, by kernel_rfl⟩, c2 := ⟨by kernel_rfl, by kernel_rfl, by kernel_rfl⟩, b2 := ⟨by kernel_rfl, by kernel_rfl, by kernel_rfl⟩ }
theorem laid' : laidOutB Tryz.prog = true := by kernel_rfl
noncomputable instance : Go.Hy.TabM Tryz.prog := { law := deep_law_laid laid' (m := 3) (by omega) (of_decide_eq_true (by kernel_rfl)) (by kernel_rfl) (by kernel_rfl), kt := by kernel_rfl, names := by kernel_rfl, npos := of_decide_eq_true (by kernel_rfl) }
end Go.Proofs.YtibignmpjeemeaaGreatDoor.Hy
namespace Go.Hy
theorem size_pos' (t : T) : 1 ≤ size t := by
 rw [size_eq]
 have : ∀ (l : List Part) (a : Nat), a ≤ l.foldl (fun a p => a + size p.1) a := by
  intro l
  induction l with
  | nil => intro a; exact Nat.le_refl _
  | cons p l ih => intro a; exact Nat.le_trans (Nat.le_add_right _ _) (ih _)
 exact this _ _
end Go.Hy
namespace Go.Hy
theorem Kv (k i : Int) : 0 ≤ (binds k i).1 ∧ (binds k i).1 ≤ 1 ∧ 0 ≤ (binds k i).2 ∧ (binds k i).2 ≤ 1 := by
 unfold binds
 repeat (first | split | (refine ⟨?_, ?_, ?_, ?_⟩ <;> simp))
theorem A1t {t : T} {p : Part} (h : p ∈ parts t) : 0 ≤ p.2.1 ∧ p.2.1 ≤ 1 ∧ 0 ≤ p.2.2 ∧ p.2.2 ≤ 1 := by
 unfold parts at h
 rcases List.mem_append.mp h with h | h
 ·have : ∀ (ks : List T) (i : Nat), p ∈ Ee t.kind i ks → 0 ≤ p.2.1 ∧ p.2.1 ≤ 1 ∧ 0 ≤ p.2.2 ∧ p.2.2 ≤ 1 := by
   intro ks
   induction ks with
   | nil => intro i h; simp [Ee] at h
   | cons k ks ih =>
    intro i h
    rcases List.mem_cons.mp h with e | h
    ·subst e; exact Kv _ _
    ·exact ih _ h
  exact this _ _ h
 ·have : ∀ (bs : List Br), p ∈ Ec t.kind bs → 0 ≤ p.2.1 ∧ p.2.1 ≤ 1 ∧ 0 ≤ p.2.2 ∧ p.2.2 ≤ 1 := by
   intro bs
   induction bs with
   | nil => intro h; simp [Ec] at h
   | cons b bs ih =>
    intro h
    rcases List.mem_append.mp h with h | h
    ·obtain ⟨k, _, e⟩ := List.mem_map.mp h
     subst e
     show 0 ≤ (0 : Int) ∧ (0 : Int) ≤ 1 ∧ 0 ≤ more t.kind ∧ more t.kind ≤ 1
     unfold more
     split <;> omega
    ·exact ih h
  exact this _ h
theorem Kc {t : T} {p : Part} (h : p ∈ parts t) : size p.1 < size t := by
 obtain ⟨m, hm, e⟩ := List.mem_iff_getElem.mp h
 have h1 := Xz (t := t) (m := m) (p := p) (by rw [List.getElem?_eq_getElem hm, e])
 have h2 : 1 ≤ Ce t m := by
  unfold Ce Mg
  have : ∀ (l : List Part) (a : Nat), a ≤ l.foldl (fun a p => a + size p.1) a := by
   intro l
   induction l with
   | nil => intro a; exact Nat.le_refl _
   | cons p l ih => intro a; exact Nat.le_trans (Nat.le_add_right _ _) (ih _)
  exact this _ _
 omega
end Go.Hy
namespace Go.Hy
@[simp] theorem qE_def (q : QP) : qE q = RT q.1.1 q.1.2.1 q.1.2.2.1 q.1.2.2.2 := rfl
@[simp] theorem ipE_def (q : IP) : ipE q = IL q.1 q.2 := rfl
end Go.Hy
namespace Go.Hy
section
variable {α : Type} {B : Cj} {Γ : List Fact} {Ms : List Be} {w : World} {E : α → Fact} {l : List α}
end
end Go.Hy
namespace Go.Hy
theorem H9 {t : T} (h : Ah t = 0) : size t ≤ 20000 := by
 unfold Ah at h
 split at h
 ·rename_i hs; exact absurd h hs
 ·rename_i hs
  simp only [ne_eq, Decidable.not_not, sized] at hs
  split at hs
  ·cases hs
  ·split at hs
   ·cases hs
   ·omega
theorem St.E1k {B : Cj} {Γ : List Fact} {Ms : List Be} {w : World} {b : Nat} {e : TypeId} {cs : List Value} (l : List Int) (hs : St B Γ (Ad b cs e :: Ms) w) {hBp : Prop} (hB : hBp) (hc : cs = Tk l) (hn : l.length ≤ 1000) (hu : ∀ c, c ∈ l → Ap c) : St B (IL l (some ⟨b, 0, Option.none⟩, l.length) :: Γ) Ms w :=
 (hs.Jn (sz := 1) (m := l.length) (by rw [hc, Ko Wz l]) (by unfold maxLen; omega)).B3g hB hc rfl (by unfold reach; omega) hu
section
variable {tn : Bool} {pn : Nat} {P : Program} [Tab P] {f : FuncId} {R : Ending → World → Prop} {B : Cj} {n : Fz} {K : List Item} {ops : Array Oper} {i : Nat} {l fin : List Nat} {σ : Nat → Value} {Γ : List Fact} {Ms Ms2 : List Be}
variable {dst : Option Tmp} {ty : TypeId}
theorem Ml {c : FuncId} {args cap al : List Value} {av : Array Operand} {ts : Array TypeId} {g : Operand} {pre : List Fact} {X : Type} {val : X → Value} {N : X → List Fact} {Ms1 : X → List Be}
  (hc : ∀ (args : Array Value) (w : World), (callFunc c args).run P w = .ok (.enter c args) w) (hsp : Spec P c al.toArray pre [] val N Ms1) (kk : ∀ x, NV tn pn P f R B n K ops fin l (Ao σ dst (val x)) (N x ++ Γ) (Ms1 x ++ Ms))
  (hg : ev σ g = .func (.func c) #[] cap.toArray := by rfl) (ha : av.toList.map (ev σ) = args := by rfl) (hal : args ++ cap = al := by rfl) (hpre : ∀ F, F ∈ pre → F ∈ Γ := by first | (simp; done) | (simp +contextual; done)) (hd : Ag n dst = true := by rfl) : Kx tn pn P f R B n K ops fin i l dst (.call { callee := .value g, args := av, argTypes := ts }) ty σ Γ Ms :=
 C2v (C0k hg ha hc) (hal ▸ hsp) hpre rfl rfl hd kk
end
end Go.Hy
namespace Go.Proofs
open Go.Shelf
def Tryz.Xy : Go.Shelf.Ren := ⟨fun | 6 => 201 | 15 => 253 | 14 => 252 | 28 => 289 | 29 => 290 | 20 => 281 | 21 => 282 | 22 => 283 | 23 => 284 | 24 => 285 | 25 => 286 | 26 => 287 | 27 => 288 | 46 => 300 | 47 => 301 | 48 => 302 | 49 => 303 | 50 => 304 | 57 => 307 | n => n, fun | 22 => 22 | 24 => 107 | 25 => 177 | 3 => 3 | 39 => 91 | 0 => 0 | 53 => 89 | 55 => 217 | 4 => 4 | 46 => 221 | 45 => 220 | 50 => 225 | 5 => 5 | 9 => 9 | 66 => 233 | 70 => 237 | 76 => 239 | 77 => 86 | n => n, fun | n => n⟩
theorem Tryz.D8n : Go.Proofs.SlLaysF0.n6 Tryz.prog Tryz.Xy := {
 mixed := by kernel_rfl
 f6 := ⟨Tryz.f201.name, by decide, Tryz.func201.trans (congrArg some (by kernel_rfl))⟩
 f14 := ⟨Tryz.f252.name, by decide, Tryz.func252.trans (congrArg some (by kernel_rfl))⟩
 f15 := Tryz.func253.trans (congrArg some (by kernel_rfl))
 f20 := ⟨Tryz.f281.name, by decide, Tryz.func281.trans (congrArg some (by kernel_rfl))⟩
 f21 := ⟨Tryz.f282.name, by decide, Tryz.func282.trans (congrArg some (by kernel_rfl))⟩
 f22 := ⟨Tryz.f283.name, by decide, Tryz.func283.trans (congrArg some (by kernel_rfl))⟩
 f23 := ⟨Tryz.f284.name, by decide, Tryz.func284.trans (congrArg some (by kernel_rfl))⟩
 f24 := ⟨Tryz.f285.name, by decide, Tryz.func285.trans (congrArg some (by kernel_rfl))⟩
 f25 := ⟨Tryz.f286.name, by decide, Tryz.func286.trans (congrArg some (by kernel_rfl))⟩
 f26 := ⟨Tryz.f287.name, by decide, Tryz.func287.trans (congrArg some (by kernel_rfl))⟩
 f27 := ⟨Tryz.f288.name, by decide, Tryz.func288.trans (congrArg some (by kernel_rfl))⟩
 f28 := Tryz.func289.trans (congrArg some (by kernel_rfl))
 f29 := Tryz.func290.trans (congrArg some (by kernel_rfl))
 f46 := ⟨Tryz.f300.name, by decide, Tryz.func300.trans (congrArg some (by kernel_rfl))⟩
 f47 := Tryz.func301.trans (congrArg some (by kernel_rfl))
 f48 := Tryz.func302.trans (congrArg some (by kernel_rfl))
 f49 := ⟨Tryz.f303.name, by decide, Tryz.func303.trans (congrArg some (by kernel_rfl))⟩
 f50 := ⟨Tryz.f304.name, by decide, Tryz.func304.trans (congrArg some (by kernel_rfl))⟩
 f57 := ⟨Tryz.f307.name, by decide, Tryz.func307.trans (congrArg some (by kernel_rfl))⟩
 t0 := Tryz.underlying0
 a0 := Tryz.isAgg0
 z0 := Tryz.sizeOf0
 v0 := Tryz.zeroValue0
 t3 := Tryz.underlying3
 a3 := Tryz.isAgg3
 z3 := Tryz.sizeOf3
 v3 := Tryz.zeroValue3
 t4 := Tryz.underlying4
 a4 := Tryz.isAgg4
 z4 := Tryz.sizeOf4
 v4 := Tryz.zeroValue4
 t5 := Tryz.underlying5
 a5 := Tryz.isAgg5
 z5 := Tryz.sizeOf5
 v5 := Tryz.zeroValue5
 t9 := Tryz.underlying9
 a9 := Tryz.isAgg9
 z9 := Tryz.sizeOf9
 v9 := Tryz.zeroValue9
 t22 := Tryz.underlying22
 a22 := Tryz.isAgg22
 z22 := Tryz.sizeOf22
 v22 := Tryz.zeroValue22
 t25 := Tryz.underlying177
 a25 := Tryz.isAgg177
 z25 := Tryz.sizeOf177
 v25 := Tryz.zeroValue177
 t39 := Tryz.underlying91
 a39 := Tryz.isAgg91
 z39 := Tryz.sizeOf91
 v39 := Tryz.zeroValue91
 t45 := Tryz.underlying220
 a45 := Tryz.isAgg220
 z45 := Tryz.sizeOf220
 v45 := Tryz.zeroValue220
 t46 := Tryz.underlying221
 a46 := Tryz.isAgg221
 z46 := Tryz.sizeOf221
 v46 := Tryz.zeroValue221
 t50 := Tryz.underlying225
 a50 := Tryz.isAgg225
 z50 := Tryz.sizeOf225
 v50 := Tryz.zeroValue225
 t53 := Tryz.underlying89
 a53 := Tryz.isAgg89
 z53 := Tryz.sizeOf89
 v53 := Tryz.zeroValue89
 t55 := Tryz.underlying217
 a55 := Tryz.isAgg217
 z55 := Tryz.sizeOf217
 v55 := Tryz.zeroValue217
 t66 := Tryz.underlying233
 a66 := Tryz.isAgg233
 z66 := Tryz.sizeOf233
 v66 := Tryz.zeroValue233
 t70 := Tryz.underlying237
 a70 := Tryz.isAgg237
 z70 := Tryz.sizeOf237
 v70 := Tryz.zeroValue237
 t76 := Tryz.underlying239
 a76 := Tryz.isAgg239
 z76 := Tryz.sizeOf239
 v76 := Tryz.zeroValue239
 t77 := Tryz.underlying86
 a77 := Tryz.isAgg86
 z77 := Tryz.sizeOf86
 v77 := Tryz.zeroValue86 }
end Go.Proofs
