/- Contracts of this program's functions and the laws that they need. -/
import Derived.Test.YtibignmpjeemeaaGreatDoorProg
import Derived.KernelRfl
import Derived.Shelf.SlSortCmp.WholeK
import Derived.Shelf.SlGeneric
import Derived.Ground.SlsfProg
import Derived.Test.YtibignmpjeemeaaGreatDoorP3
set_option linter.unusedVariables false
set_option linter.unusedSimpArgs false
set_option linter.unusedSectionVars false
namespace Go.Hy
def Dk (c d : Cl) : Cl := ⟨c.pos ||| d.pos, c.neg ||| d.neg⟩
theorem B5p (c d : Cl) : decide (Dk c d = c) = below c d := by
 obtain ⟨p, n⟩ := c
 obtain ⟨p', n'⟩ := d
 simp [Dk, below]
def Oa (l : List Cl) (i : Nat) : Nat := (l.take i).foldl (fun a c => a ||| (c.pos ||| c.neg)) 0
theorem A9x {l : List Cl} {i : Nat} (h : i < l.length) : Oa l (i + 1) = Oa l i ||| ((l.getD i B5).pos ||| (l.getD i B5).neg) := by
 unfold Oa; rw [Ab (d := B5) h, List.foldl_append]; rfl
theorem A2x {l : List Cl} (h : ∀ c, c ∈ l → u32 c) : ∀ i, Oa l i < 4294967296 := by
 intro i
 have : ∀ (m : List Cl) (a : Nat), (∀ c, c ∈ m → u32 c) → a < 4294967296 → m.foldl (fun a c => a ||| (c.pos ||| c.neg)) a < 4294967296 := by
  intro m
  induction m with
  | nil => intro a _ h; exact h
  | cons c m ih =>
   intro a hm ha
   have hc := hm c List.mem_cons_self
   exact ih _ (fun d hd => hm d (List.mem_cons_of_mem _ hd)) (Nat.or_lt_two_pow (n := 32) ha (Nat.or_lt_two_pow (n := 32) hc.1 hc.2))
 exact this _ 0 (fun c hc => h c (List.mem_of_mem_take hc)) A1
theorem B1k (l : List Cl) : G9 l = Oa l l.length &&& 16777215 := by
 unfold G9 Oa; rw [List.take_length]
theorem B2l {s : Nat} (hs : s < 4294967296) : decide ((Bg s 16777215 : Int) = 0) = decide (s < 16777216) := by
 apply decide_eq_decide.mpr
 have h : Bg s 16777215 = s / 16777216 * 16777216 := by
  unfold Bg
  have e : (BitVec.ofNat 32 s &&& ~~~ BitVec.ofNat 32 16777215).toNat = s / 16777216 * 16777216 := by
   apply Nat.eq_of_testBit_eq
   intro i
   rw [← BitVec.getLsbD, BitVec.getLsbD_and, BitVec.getLsbD_not, BitVec.getLsbD_ofNat, BitVec.getLsbD_ofNat]
   rw [show s / 16777216 * 16777216 = (s / 2 ^ 24) * 2 ^ 24 from rfl, Nat.testBit_mul_two_pow, Nat.testBit_div_two_pow]
   rw [show (16777215 : Nat) = 2 ^ 24 - 1 from rfl, Nat.testBit_two_pow_sub_one]
   by_cases h1 : i < 32
   ·by_cases h2 : 24 ≤ i
    ·simp [h1, h2, Nat.sub_add_cancel h2]
    ·simp [h1, h2]; omega
   ·have : s.testBit i = false := Nat.testBit_lt_two_pow (Nat.lt_of_lt_of_le hs (Nat.pow_le_pow_right (n := 2) A1 (show 32 ≤ i by omega)))
    have h2 : 24 ≤ i := by omega
    simp [h1, h2, Nat.sub_add_cancel h2, this]
  exact e
 omega
end Go.Hy
namespace Go.Hy
def B4s (g : Cl → Bool) (l : List Cl) : Int := if l.any g then (l.findIdx g : Int) else -1
theorem Gs {α : Type} {d : α} {l : List α} {i : Nat} (h : i < l.length) : l.getD i d = l[i] := by
 rw [List.getD_eq_getElem?_getD, List.getElem?_eq_getElem h]; rfl
theorem C9c {g : Cl → Bool} {l : List Cl} {i : Nat} (h : i < l.length) (hg : g (l.getD i B5) = true) (hb : ∀ j, j < i → g (l.getD j B5) = false) : B4s g l = i := by
 have hany : l.any g = true := List.any_eq_true.mpr ⟨_, Ad h, hg⟩
 have hidx : l.findIdx g = i := by
  rw [List.findIdx_eq h]
  refine ⟨by rw [← Gs (d := B5) h]; exact hg, fun j hj => ?_⟩
  have := hb j hj
  rwa [Gs (d := B5) A1] at this
 unfold B4s
 rw [hany, hidx]; rfl
theorem C0e {g : Cl → Bool} {l : List Cl} (hb : ∀ j, j < l.length → g (l.getD j B5) = false) : B4s g l = -1 := by
 have hany : l.any g = false := by
  rw [List.any_eq_false]
  intro x hx
  obtain ⟨j, hj, e⟩ := List.mem_iff_getElem.mp hx
  have := hb j hj
  rw [Gs (d := B5) hj, e] at this
  simp [this]
 unfold B4s; rw [hany]; rfl
theorem B1b (g : Cl → Bool) (l : List Cl) : decide (0 ≤ B4s g l) = l.any g := by
 unfold B4s
 cases l.any g
 ·rfl
 ·simp
def once (l : List Cl) : List Cl := l.foldl (fun o c => if c ∈ o then o else o ++ [c]) []
theorem B9n (l : List Cl) (c : Cl) : once (l ++ [c]) = if c ∈ once l then once l else once l ++ [c] := by
 unfold once; rw [List.foldl_append]; rfl
theorem Yf (c : Cl) : ∀ (l o : List Cl), (c ∈ l.foldl (fun o c => if c ∈ o then o else o ++ [c]) o ↔ c ∈ o ∨ c ∈ l) ∧ (l.foldl (fun o c => if c ∈ o then o else o ++ [c]) o).length ≤ o.length + l.length
 | [], o => by simp
 | d :: l, o => by
  have ih := Yf c l (if d ∈ o then o else o ++ [d])
  rw [List.foldl_cons]
  constructor
  ·rw [ih.1, List.mem_cons]
   split
   ·rename_i h
    constructor
    ·rintro (h2 | h2)
     ·exact .inl h2
     ·exact .inr (.inr h2)
    ·rintro (h2 | h2 | h2)
     ·exact .inl h2
     ·exact .inl (h2 ▸ h)
     ·exact .inr h2
   ·rw [List.mem_append, List.mem_singleton, or_assoc]
  ·have h3 := ih.2
   have h4 : (if d ∈ o then o else o ++ [d]).length ≤ o.length + 1 := by split <;> simp
   simp only [List.length_cons]; omega
theorem Nn (c : Cl) (l : List Cl) : c ∈ once l ↔ c ∈ l := by
 have := (Yf c l []).1
 simpa [once] using this
theorem Tv (l : List Cl) : (once l).length ≤ l.length := by
 have := (Yf B5 l []).2
 simpa [once] using this
def Cm (l : List Cl) (c : Cl) : Bool := l.any fun d => !decide (c = d) && below c d
def kept (l : List Cl) : List Cl := (once l).filter fun c => !Cm (once l) c
def A7s (l l' : List Cl) : Prop := l'.Perm l ∧ l'.Pairwise fun a b => D9 b a = false
def I9 (l : List Cl) (r : Int × List Cl) : Prop :=
 if l.all Bw = false then r = (2, []) else if 64 < (kept l).length then r = (3, []) else r.1 = 0 ∧ A7s (kept l) r.2
end Go.Hy
namespace Go.Hy
theorem D5u {l : List Cl} {g : Cl → Bool} (h : ∀ j, j < l.length → g (l.getD j B5) = true) : l.all g = true := by
 rw [List.all_eq_true]
 intro x hx
 obtain ⟨j, hj, e⟩ := List.mem_iff_getElem.mp hx
 have := h j hj
 rwa [Gs (d := B5) hj, e] at this
theorem C9w {l : List Cl} {g : Cl → Bool} {i : Nat} (hi : i < l.length) (h : g (l.getD i B5) = false) : l.all g = false := by
 rw [List.all_eq_false]
 exact ⟨l.getD i B5, Ad hi, by rw [h]; decide⟩
def G5 (l : List Cl) (i : Nat) : List Cl := ((once l).take i).filter fun c => !Cm (once l) c
theorem Rr {l : List Cl} {i : Nat} (h : i < (once l).length) : G5 l (i + 1) = if Cm (once l) ((once l).getD i B5) then G5 l i else G5 l i ++ [(once l).getD i B5] := by
 unfold G5
 rw [Ab (d := B5) h, List.filter_append]
 cases hn : Cm (once l) ((once l).getD i B5)
 ·rw [List.filter_cons_of_pos (by rw [hn]; rfl)]; simp
 ·rw [List.filter_cons_of_neg (by rw [hn]; decide)]; simp
theorem A6m (l : List Cl) : G5 l (once l).length = kept l := by simp [G5, kept]
theorem A6l (l : List Cl) (i : Nat) : (G5 l i).length ≤ l.length := by
 unfold G5
 have h1 := List.length_filter_le (fun c => !Cm (once l) c) ((once l).take i)
 have h2 := Tv l
 simp only [List.length_take] at h1
 omega
theorem Py {l : List Cl} {i : Nat} (h : i < l.length) : once (l.take (i + 1)) = if l.getD i B5 ∈ once (l.take i) then once (l.take i) else once (l.take i) ++ [l.getD i B5] := by
 rw [Ab (d := B5) h, B9n]
theorem A0t (l : List Cl) (i : Nat) : (once (l.take i)).length ≤ l.length := by
 have := Tv (l.take i); simp only [List.length_take] at this; omega
theorem C5b {l : List Cl} {c : Cl} (h : c ∈ kept l) : c ∈ l := by
 unfold kept at h
 exact (Nn c l).mp (List.mem_filter.mp h).1
end Go.Hy
namespace Go.Hy
theorem Np (a b : Cl) : D9 a b = true ∨ a = b ∨ D9 b a = true := by
 obtain ⟨p, n⟩ := a
 obtain ⟨p', n'⟩ := b
 simp only [D9, Bool.or_eq_true, Bool.and_eq_true, decide_eq_true_eq, Cl.mk.injEq]
 omega
theorem Om {a b : Cl} (h : D9 a b = true) : D9 b a = false := by
 simp only [D9, Bool.or_eq_true, Bool.and_eq_true, decide_eq_true_eq, Bool.or_eq_false_iff, Bool.and_eq_false_iff, decide_eq_false_iff_not] at *
 omega
theorem W9 {a b c : Cl} (h : D9 a b = true) (h2 : D9 b c = true) : D9 a c = true := by
 simp only [D9, Bool.or_eq_true, Bool.and_eq_true, decide_eq_true_eq] at *
 omega
theorem Qy (a : Cl) : D9 a a = false := by simp [D9]
theorem D9l {a b : Cl} (h : D9 a b = false) (h2 : D9 b a = false) : a = b := by
 rcases Np a b with h3 | h3 | h3
 ·rw [h] at h3; cases h3
 ·exact h3
 ·rw [h2] at h3; cases h3
theorem A1z : ∀ {l m : List Cl}, l.Perm m → (l.Pairwise fun a b => D9 b a = false) → (m.Pairwise fun a b => D9 b a = false) → l = m
 | [], m, hp, _, _ => by have := hp.length_eq; cases m with | nil => rfl | cons _ _ => simp at this
 | a :: l, [], hp, _, _ => by have := hp.length_eq; simp at this
 | a :: l, b :: m, hp, h1, h2 => by
  rw [List.pairwise_cons] at h1 h2
  have ha : a ∈ b :: m := hp.mem_iff.mp List.mem_cons_self
  have hb : b ∈ a :: l := hp.mem_iff.mpr List.mem_cons_self
  have e : a = b := by
   rcases List.mem_cons.mp ha with h | h
   ·exact h
   ·rcases List.mem_cons.mp hb with h3 | h3
    ·exact h3.symm
    ·exact D9l (h2.1 a h |> fun x => x) (h1.1 b h3) |> fun x => by exact x
  subst e
  rw [A1z (List.Perm.cons_inv hp) h1.2 h2.2]
theorem Ml : ∀ {l : List Cl}, O3 l = true ↔ l.Pairwise fun a b => D9 a b = true
 | [] => by simp [O3]
 | [a] => by simp [O3]
 | a :: b :: l => by
  rw [O3, Bool.and_eq_true, Ml (l := b :: l), List.pairwise_cons (a := a)]
  constructor
  ·rintro ⟨h1, h2⟩
   refine ⟨fun c hc => ?_, h2⟩
   rcases List.mem_cons.mp hc with h | h
   ·exact h ▸ h1
   ·exact W9 h1 ((List.pairwise_cons.mp h2).1 c h)
  ·rintro ⟨h1, h2⟩
   exact ⟨h1 b List.mem_cons_self, h2⟩
theorem A0u {l : List Cl} (h : l.Pairwise fun a b => D9 a b = true) : once l = l := by
 have : ∀ (m o : List Cl), ((o ++ m).Pairwise fun a b => D9 a b = true) → m.foldl (fun o c => if c ∈ o then o else o ++ [c]) o = o ++ m := by
  intro m
  induction m with
  | nil => intro o _; simp
  | cons c m ih =>
   intro o h
   rw [List.foldl_cons]
   have hn : c ∉ o := by
    intro hc
    have := (List.pairwise_append.mp h).2.2 c hc c List.mem_cons_self
    rw [Qy] at this; cases this
   rw [if_neg hn, ih (o ++ [c]) (by simpa using h)]
   simp
 have := this l [] (by simpa using h)
 simpa [once] using this
theorem Vj {l : List Cl} : apart l = true ↔ ∀ a, a ∈ l → ∀ b, b ∈ l → a = b ∨ below a b = false := by
 unfold apart
 simp only [List.all_eq_true, Bool.or_eq_true, decide_eq_true_eq, Bool.not_eq_true']
theorem Oh {l : List Cl} {c : Cl} : Cm l c = false ↔ ∀ d, d ∈ l → c = d ∨ below c d = false := by
 unfold Cm
 rw [List.any_eq_false]
 constructor
 ·intro h d hd
  have := h d hd
  simp only [Bool.and_eq_true, Bool.not_eq_true', decide_eq_false_iff_not, not_and, Bool.not_eq_true] at this
  by_cases e : c = d
  ·exact .inl e
  ·exact .inr (this e)
 ·intro h d hd
  simp only [Bool.and_eq_true, Bool.not_eq_true', decide_eq_false_iff_not, not_and, Bool.not_eq_true]
  intro e
  exact (h d hd).resolve_left e
theorem Q4 {l : List Cl} {r : Int × List Cl} (h : I9 l r) : (decide (r.1 = 0) && decide (r.2 = l)) = Aq l := by
 rw [Bool.eq_iff_iff, Bool.and_eq_true, decide_eq_true_eq, decide_eq_true_eq]
 unfold I9 at h
 constructor
 ·rintro ⟨h1, h2⟩
  split at h
  ·rw [h] at h1; cases h1
  ·rename_i hr
   split at h
   ·rw [h] at h1; cases h1
   ·rename_i h64
    obtain ⟨_, hp, hs⟩ := h
    rw [h2] at hp hs
    have hr' : l.all Bw = true := by simpa using hr
    have hlen := hp.length_eq
    have hk1 : (kept l).length ≤ (once l).length := by unfold kept; exact List.length_filter_le _ _
    have ho := Tv l
    have hkeep : kept l = once l := by
     have : (kept l).Sublist (once l) := by unfold kept; exact List.filter_sublist
     exact this.eq_of_length A1
    have hnd : ∀ c, c ∈ l → Cm (once l) c = false := by
     intro c hc
     have : c ∈ kept l := hp.mem_iff.mp hc
     unfold kept at this
     have := (List.mem_filter.mp this).2
     simpa using this
    have hap : apart l = true := Vj.mpr fun a ha b hb => Oh.mp (hnd a ha) b ((Nn b l).mpr hb)
    have hnodup : (once l).Nodup := by
     have : ∀ (m o : List Cl), o.Nodup → (m.foldl (fun o c => if c ∈ o then o else o ++ [c]) o).Nodup := by
      intro m
      induction m with
      | nil => intro o h; exact h
      | cons c m ih =>
       intro o h
       rw [List.foldl_cons]
       apply ih
       split
       ·exact h
       ·rename_i hn
        rw [List.nodup_append]
        refine ⟨h, by simp, ?_⟩
        intro a ha b hb e
        rw [List.mem_singleton] at hb
        exact hn (hb ▸ e ▸ ha)
     exact this l [] List.nodup_nil
    have hln : l.Nodup := (hp.nodup_iff).mpr (hkeep ▸ hnodup)
    have hst : O3 l = true := by
     rw [Ml]
     have hboth : l.Pairwise fun a b => D9 b a = false ∧ a ≠ b := hs.and hln
     exact hboth.imp fun {a b} ⟨h3, h4⟩ => by
      rcases Np a b with h5 | h5 | h5
      ·exact h5
      ·exact absurd h5 h4
      ·rw [h3] at h5; cases h5
    unfold Aq
    rw [hr', hst, hap]
    simp; omega
 ·intro hf
  unfold Aq at hf
  simp only [Bool.and_eq_true, decide_eq_true_eq] at hf
  obtain ⟨⟨⟨hr, hs⟩, ha⟩, h64⟩ := hf
  have hs' := Ml.mp hs
  have ho := A0u hs'
  have hk : kept l = l := by
   unfold kept
   rw [ho, List.filter_eq_self]
   intro c hc
   have : Cm l c = false := Oh.mpr fun d hd => Vj.mp ha c hc d hd
   simp [this]
  rw [hr, if_neg F2, hk, if_neg A1] at h
  exact ⟨h.1, A1z h.2.1 h.2.2 (hs'.imp fun h => Om h)⟩
def Ft (s : Nat) (i : Int) : Bool := decide (0 ≤ i) && decide (i < 24) && s.testBit i.toNat
theorem C9e (s : Nat) (i : Int) : Ft s i = (decide (0 ≤ i) && decide (i < 24) && decide (s / 2 ^ i.toNat % 2 = 1)) := by
 unfold Ft; rw [Nat.testBit_eq_decide_div_mod_eq]
def Q2 (s n : Nat) : List Int := ((List.range n).filter s.testBit).map fun (i : Nat) => (i : Int)
abbrev Bd (s : Nat) : List Int := Q2 s 24
theorem A3g {s n : Nat} {x : Int} (h : x ∈ Q2 s n) : 0 ≤ x ∧ x < n := by
 unfold Q2 at h
 simp only [List.mem_map, List.mem_filter, List.mem_range] at h
 obtain ⟨i, ⟨h1, _⟩, rfl⟩ := h
 omega
theorem Jv {s n : Nat} {x : Int} : x ∈ Q2 s n ↔ 0 ≤ x ∧ x < n ∧ s.testBit x.toNat = true := by
 unfold Q2
 simp only [List.mem_map, List.mem_filter, List.mem_range]
 constructor
 ·rintro ⟨i, ⟨h1, h2⟩, rfl⟩; exact ⟨by omega, by omega, by simpa using h2⟩
 ·rintro ⟨h1, h2, h3⟩; exact ⟨x.toNat, ⟨by omega, h3⟩, by omega⟩
theorem Jw (s n : Nat) : (Q2 s n).length ≤ n := by
 unfold Q2
 rw [List.length_map]
 have := List.length_filter_le s.testBit (List.range n)
 simpa using this
theorem B2n (s : Nat) : s &&& 16777215 = s % 2 ^ 24 := by
 rw [show (16777215 : Nat) = 2 ^ 24 - 1 from rfl, Nat.and_two_pow_sub_one_eq_mod]
theorem C2d {p : Nat → Prop} {i : Nat} (h : ∀ j, j < i → p j) (hi : p i) : ∀ j, j < i + 1 → p j := fun j hj => by
 rcases Nat.lt_succ_iff_lt_or_eq.mp hj with h2 | h2
 ·exact h j h2
 ·exact h2 ▸ hi
theorem Wp {α : Type} {d : α} {l : List α} {g : α → Bool} (h : ∀ j, j < l.length → g (l.getD j d) = true) : l.all g = true := by
 rw [List.all_eq_true]
 intro x hx
 obtain ⟨j, hj, e⟩ := List.mem_iff_getElem.mp hx
 have := h j hj
 rwa [Gs (d := d) hj, e] at this
theorem Um {α : Type} {d : α} {l : List α} {g : α → Bool} {i : Nat} (hi : i < l.length) (h : g (l.getD i d) = false) : l.all g = false := by
 rw [List.all_eq_false]
 exact ⟨l.getD i d, Ad hi, by rw [h]; decide⟩
def A1a (c : Cl) : List Cl → List Cl
 | [] => [c]
 | d :: l => if D9 d c then d :: A1a c l else if d = c then d :: l else c :: d :: l
def rl (l : List Cl) (m : List Cl) : List Cl := m.foldl (fun o c => if Cm l c then o else A1a c o) []
abbrev G2 (l : List Cl) : List Cl := rl l l
theorem Z0 {c x : Cl} : ∀ {l : List Cl}, x ∈ A1a c l ↔ x = c ∨ x ∈ l
 | [] => by simp [A1a]
 | d :: l => by
  unfold A1a
  split
  ·rw [List.mem_cons, Z0 (l := l), List.mem_cons]
   constructor
   ·rintro (h | h | h)
    ·exact .inr (.inl h)
    ·exact .inl h
    ·exact .inr (.inr h)
   ·rintro (h | h | h)
    ·exact .inr (.inl h)
    ·exact .inl h
    ·exact .inr (.inr h)
  ·split
   ·rename_i h
    subst h
    simp
   ·simp
theorem Wf {c : Cl} : ∀ {l : List Cl}, (l.Pairwise fun a b => D9 a b = true) → (A1a c l).Pairwise fun a b => D9 a b = true
 | [], _ => by simp [A1a]
 | d :: l, h => by
  rw [List.pairwise_cons] at h
  unfold A1a
  split
  ·rename_i hd
   rw [List.pairwise_cons]
   refine ⟨fun x hx => ?_, Wf h.2⟩
   rcases Z0.mp hx with e | e
   ·exact e ▸ hd
   ·exact h.1 x e
  ·rename_i hd
   split
   ·exact List.pairwise_cons.mpr h
   ·rename_i hne
    have hcd : D9 c d = true := by
     rcases Np c d with h3 | h3 | h3
     ·exact h3
     ·exact absurd h3.symm hne
     ·exact absurd h3 hd
    rw [List.pairwise_cons]
    refine ⟨fun x hx => ?_, List.pairwise_cons.mpr h⟩
    rcases List.mem_cons.mp hx with e | e
    ·exact e ▸ hcd
    ·exact W9 hcd (h.1 x e)
theorem A2k (l : List Cl) : ∀ (m o : List Cl), (o.Pairwise fun a b => D9 a b = true) → (m.foldl (fun o c => if Cm l c then o else A1a c o) o).Pairwise fun a b => D9 a b = true
 | [], o, h => h
 | c :: m, o, h => by
  rw [List.foldl_cons]
  apply A2k l m
  split
  ·exact h
  ·exact Wf h
theorem C2q (l : List Cl) (x : Cl) : ∀ (m o : List Cl), x ∈ m.foldl (fun o c => if Cm l c then o else A1a c o) o ↔ x ∈ o ∨ (x ∈ m ∧ Cm l x = false)
 | [], o => by simp
 | c :: m, o => by
  rw [List.foldl_cons, C2q l x m]
  by_cases hn : Cm l c = true
  ·rw [if_pos hn, List.mem_cons]
   constructor
   ·rintro (h | ⟨h, h2⟩)
    ·exact .inl h
    ·exact .inr ⟨.inr h, h2⟩
   ·rintro (h | ⟨h | h, h2⟩)
    ·exact .inl h
    ·subst h; rw [hn] at h2; cases h2
    ·exact .inr ⟨h, h2⟩
  ·rw [if_neg hn, Z0, List.mem_cons]
   constructor
   ·rintro ((h | h) | ⟨h, h2⟩)
    ·subst h; exact .inr ⟨.inl rfl, by simpa using hn⟩
    ·exact .inl h
    ·exact .inr ⟨.inr h, h2⟩
   ·rintro (h | ⟨h | h, h2⟩)
    ·exact .inl (.inr h)
    ·exact .inl (.inl h)
    ·exact .inr ⟨h, h2⟩
theorem Fk {l : List Cl} {x : Cl} : x ∈ G2 l ↔ x ∈ l ∧ Cm l x = false := by
 have := C2q l x l []
 simpa [G2, rl] using this
theorem P3 (l : List Cl) : (G2 l).Pairwise fun a b => D9 a b = true := A2k l l [] List.Pairwise.nil
theorem Xj : ∀ {l m : List Cl}, (l.Pairwise fun a b => D9 a b = true) → (m.Pairwise fun a b => D9 a b = true) → (∀ x, x ∈ l ↔ x ∈ m) → l = m
 | [], [], _, _, _ => rfl
 | [], b :: m, _, _, h => by have := (h b).mpr List.mem_cons_self; cases this
 | a :: l, [], _, _, h => by have := (h a).mp List.mem_cons_self; cases this
 | a :: l, b :: m, h1, h2, h => by
  rw [List.pairwise_cons] at h1 h2
  have e : a = b := by
   rcases List.mem_cons.mp ((h a).mp List.mem_cons_self) with h3 | h3
   ·exact h3
   ·rcases List.mem_cons.mp ((h b).mpr List.mem_cons_self) with h4 | h4
    ·exact h4.symm
    ·have h5 := h2.1 a h3
     have h6 := h1.1 b h4
     rw [Om h5] at h6; cases h6
  subst e
  congr 1
  apply Xj h1.2 h2.2
  intro x
  have hx := h x
  rw [List.mem_cons, List.mem_cons] at hx
  constructor
  ·intro h3
   rcases hx.mp (.inr h3) with h4 | h4
   ·subst h4; have := h1.1 x h3; rw [Qy] at this; cases this
   ·exact h4
  ·intro h3
   rcases hx.mpr (.inr h3) with h4 | h4
   ·subst h4; have := h2.1 x h3; rw [Qy] at this; cases this
   ·exact h4
theorem A0x (l : List Cl) (c : Cl) : Cm (once l) c = Cm l c := by
 unfold Cm
 rw [Bool.eq_iff_iff, List.any_eq_true, List.any_eq_true]
 constructor
 ·rintro ⟨d, h1, h2⟩; exact ⟨d, (Nn d l).mp h1, h2⟩
 ·rintro ⟨d, h1, h2⟩; exact ⟨d, (Nn d l).mpr h1, h2⟩
theorem B3y (l : List Cl) : (once l).Nodup := by
 have : ∀ (m o : List Cl), o.Nodup → (m.foldl (fun o c => if c ∈ o then o else o ++ [c]) o).Nodup := by
  intro m
  induction m with
  | nil => intro o h; exact h
  | cons c m ih =>
   intro o h
   rw [List.foldl_cons]
   apply ih
   split
   ·exact h
   ·rename_i hn
    rw [List.nodup_append]
    refine ⟨h, by simp, ?_⟩
    intro a ha b hb e
    rw [List.mem_singleton] at hb
    exact hn (hb ▸ e ▸ ha)
 exact this l [] List.nodup_nil
theorem A2a (l : List Cl) : ∃ m, A7s l m := by
 refine ⟨l.mergeSort (fun a b => !D9 b a), List.mergeSort_perm _ _, ?_⟩
 have := List.pairwise_mergeSort (le := fun a b => !D9 b a) (fun a b c h1 h2 => by
  simp only [Bool.not_eq_true'] at *
  simp only [D9, Bool.or_eq_false_iff, Bool.and_eq_false_iff, decide_eq_false_iff_not] at *
  omega) (fun a b => by
  rcases Np a b with h | h | h
  ·simp [Om h]
  ·subst h; simp [Qy]
  ·simp [Om h]) l
 exact this.imp fun h => by simpa using h
theorem A2b {l m : List Cl} (h : A7s (kept l) m) : m = G2 l := by
 have hnd : m.Nodup := (h.1.nodup_iff).mpr (by unfold kept; exact (B3y l).filter _)
 have hb : m.Pairwise fun a b => D9 b a = false ∧ a ≠ b := h.2.and hnd
 refine Xj ?_ (P3 l) (fun x => ?_)
 ·exact hb.imp fun {a b} ⟨h3, h4⟩ => by
   rcases Np a b with h5 | h5 | h5
   ·exact h5
   ·exact absurd h5 h4
   ·rw [h3] at h5; cases h5
 ·rw [h.1.mem_iff, Fk]
  unfold kept
  rw [List.mem_filter, Nn, A0x]
  simp
def Bm (l : List Cl) : Int × List Cl := if l.all Bw = false then (2, []) else if 64 < (G2 l).length then (3, []) else (0, G2 l)
theorem Yz {l : List Cl} {r : Int × List Cl} (h : I9 l r) : r = Bm l := by
 unfold I9 at h
 unfold Bm
 by_cases h1 : l.all Bw = false
 ·rw [if_pos h1] at h ⊢; exact h
 ·rw [if_neg h1] at h ⊢
  by_cases h2 : 64 < (kept l).length
  ·have h3 : (kept l).length = (G2 l).length := by
    obtain ⟨m, hm⟩ := A2a (kept l)
    rw [← hm.1.length_eq, A2b hm]
   rw [if_pos h2] at h
   rw [if_pos A1]; exact h
  ·rw [if_neg h2] at h
   have e := A2b h.2
   have h3 : (kept l).length = (G2 l).length := by rw [← h.2.1.length_eq, e]
   rw [if_neg A1]
   exact Prod.ext h.1 e
theorem A6i (l : List Cl) : (decide ((Bm l).1 = 0) && decide ((Bm l).2 = l)) = Aq l := by
 obtain ⟨r, hr⟩ : ∃ r, I9 l r := by
  unfold I9
  by_cases h1 : l.all Bw = false
  ·exact ⟨_, by rw [if_pos h1]⟩
  ·by_cases h2 : 64 < (kept l).length
   ·exact ⟨_, by rw [if_neg h1, if_pos h2]⟩
   ·obtain ⟨m, hm⟩ := A2a (kept l)
    exact ⟨(0, m), by rw [if_neg h1, if_neg h2]; exact ⟨rfl, hm⟩⟩
 rw [← Yz hr]
 exact Q4 hr
def D1a (t : T) (ks : List Nat) (bs : List (List Nat)) : Nat := 1 + t.r.length + t.name.size + ks.sum + ((t.sys.zip bs).map fun p => 1 + p.1.Ah.length + p.2.sum).sum
def Jf : T → Nat := tf D1a
def Qe (b : Br) : Nat := 1 + b.Ah.length + (b.kids.map Jf).sum
theorem X0 (t : T) : Jf t = 1 + t.r.length + t.name.size + (t.kids.map Jf).sum + (t.sys.map Qe).sum := by
 conv => lhs; rw [Jf, D0h]
 unfold D1a
 congr 2
 generalize t.sys = l
 induction l with
 | nil => rfl
 | cons b l ih => simp only [List.map_cons, List.zip_cons_cons, List.map_cons]; rw [ih]; rfl
def bK (t : T) (i : Nat) : Nat := 1 + t.r.length + t.name.size + ((t.kids.take i).map Jf).sum
def bS (t : T) (i : Nat) : Nat := bK t t.kids.length + ((t.sys.take i).map Qe).sum
def bJ (t : T) (i j : Nat) : Nat := bS t i + 1 + (t.sys.getD i B1).Ah.length + (((t.sys.getD i B1).kids.take j).map Jf).sum
theorem Mw {α : Type} (f : α → Nat) {l : List α} {i : Nat} {d : α} (h : i < l.length) : ((l.take (i + 1)).map f).sum = ((l.take i).map f).sum + f (l.getD i d) := by
 rw [Ab (d := d) h, List.map_append, List.sum_append]; simp
theorem Mj {α : Type} (f : α → Nat) : ∀ (l : List α) (i : Nat), ((l.take i).map f).sum ≤ (l.map f).sum
 | [], i => by simp
 | a :: l, 0 => by simp
 | a :: l, i + 1 => by have := Mj f l i; simp only [List.take_succ_cons, List.map_cons, List.sum_cons]; omega
theorem A7l (t : T) : bK t 0 = 1 + t.r.length + t.name.size := by simp [bK]
theorem C9u {t : T} {i : Nat} (h : i < t.kids.length) : bK t (i + 1) = bK t i + Jf (t.kids.getD i t0) := by
 unfold bK; rw [Mw Jf h (d := t0)]; omega
theorem C9t (t : T) : bS t 0 = bK t t.kids.length := by simp [bS]
theorem B8a (t : T) (i : Nat) : bJ t i 0 = bS t i + 1 + (t.sys.getD i B1).Ah.length := by simp [bJ]
theorem C9v {t : T} {i j : Nat} (h : j < (t.sys.getD i B1).kids.length) : bJ t i (j + 1) = bJ t i j + Jf ((t.sys.getD i B1).kids.getD j t0) := by
 unfold bJ; rw [Mw Jf h (d := t0)]; omega
theorem A7k {t : T} {i : Nat} (h : i < t.sys.length) : bS t (i + 1) = bJ t i (t.sys.getD i B1).kids.length := by
 unfold bS bJ bS; rw [Mw Qe h (d := B1), List.take_length]; unfold Qe; omega
theorem D5t (t : T) : bS t t.sys.length = Jf t := by
 rw [X0]; unfold bS bK; rw [List.take_length, List.take_length]
theorem D1e (t : T) (i : Nat) : bS t i ≤ Jf t := by
 rw [X0]; unfold bS bK; rw [List.take_length]; have := Mj Qe t.sys i; omega
theorem B7z (t : T) (i : Nat) : bK t i ≤ Jf t := by
 rw [X0]; unfold bK; have := Mj Jf t.kids i; omega
theorem D1f {t : T} {i j : Nat} (h : i < t.sys.length) : bJ t i j ≤ Jf t := by
 have h1 := D1e t (i + 1)
 rw [A7k h] at h1
 unfold bJ at h1 ⊢
 rw [List.take_length] at h1
 have := Mj Jf (t.sys.getD i B1).kids j
 omega
def Fh (t : T) (part : Nat) (D0 n : Int) : Prop := 0 ≤ n ∧ n ≤ 2 * D0 + 1 ∧ ((n ≤ D0 ∧ n = part) ∨ (D0 < n ∧ D0 < Jf t))
theorem A5d : ∀ t, size t ≤ Jf t := T.ind fun t ih => by
 have hk : ∀ (F G : T → Nat) (l : List T), (∀ k, k ∈ l → F k ≤ G k) → (l.map F).sum ≤ (l.map G).sum := by
  intro F G l
  induction l with
  | nil => intro _; simp
  | cons a l ih => intro h; have := ih (fun k hk => h k (List.mem_cons_of_mem _ hk)); have := h a List.mem_cons_self; simp only [List.map_cons, List.sum_cons]; omega
 have e : size t = 1 + ((parts t).map fun p => size p.1).sum := by
  rw [size_eq]
  have : ∀ (l : List Part) (a : Nat), l.foldl (fun a p => a + size p.1) a = a + (l.map fun p => size p.1).sum := by
   intro l
   induction l with
   | nil => intro a; simp
   | cons b l ih => intro a; rw [List.foldl_cons, ih]; simp; omega
  exact this _ _
 rw [e, Ld, X0, List.sum_append]
 have h1 := hk size Jf t.kids (fun k hk => by obtain ⟨p, hp, e⟩ := Ex hk; exact e ▸ ih p hp)
 have h2 : ((t.sys.map fun b => b.kids.map size).flatten).sum ≤ (t.sys.map Qe).sum := by
  have : ∀ (l : List Br), (∀ b, b ∈ l → b ∈ t.sys) → ((l.map fun b => b.kids.map size).flatten).sum ≤ (l.map Qe).sum := by
   intro l
   induction l with
   | nil => intro _; simp
   | cons b l ih2 =>
    intro h
    have h3 := ih2 (fun b hb => h b (List.mem_cons_of_mem _ hb))
    have h4 := hk size Jf b.kids (fun k hk => by obtain ⟨p, hp, e⟩ := Gt (h b List.mem_cons_self) hk; exact e ▸ ih p hp)
    simp only [List.map_cons, List.flatten_cons, List.sum_append, List.sum_cons]
    have hb : Qe b = 1 + b.Ah.length + (b.kids.map Jf).sum := rfl
    rw [hb]
    omega
  exact this t.sys (fun _ h => h)
 omega
end Go.Hy
namespace Go.Proofs.YtibignmpjeemeaaGreatDoor.Hy
open Go.Proofs
set_option maxRecDepth 100000
set_option maxHeartbeats 8000000
def D1u : Nat → Option (TypeDesc)
 | 1 => some (.func #[] #[] false)
 | 2 => some (.int .i64)
 | 3 => some (.int .i64)
 | 4 => some (.bool)
 | 5 => some (.int .u8)
 | 9 => some (.string)
 | 12 => some (.int .u64)
 | 20 => some (.interface #[])
 | 21 => some (.int .i32)
 | 22 => some (.slice 107)
 | 23 => some (.slice 26)
 | 24 => some (.slice 77)
 | 27 => some (.slice 22)
 | 30 => some (.func #[26] #[4] false)
 | 31 => some (.func #[29] #[4] false)
 | 32 => some (.func #[] #[4] false)
 | 33 => some (.func #[26] #[26] false)
 | 34 => some (.int .i64)
 | 36 => some (.func #[26, 37] #[26, 34] false)
 | 45 => some (.func #[26, 3, 3] #[4] false)
 | 82 => some (.func #[26, 29] #[26] false)
 | 89 => some (.int .u32)
 | 91 => some (.int .u64)
 | 109 => some (.pointer 111)
 | 118 => some (.func #[22, 3] #[22, 34] false)
 | 119 => some (.func #[22, 3] #[22, 34] false)
 | 131 => some (.func #[3] #[3] false)
 | 140 => some (.slice 3)
 | 142 => some (.func #[22, 107] #[22, 34] false)
 | 151 => some (.func #[23] #[23] false)
 | 154 => some (.func #[24] #[3] false)
 | 156 => some (.func #[26, 3, 22] #[26] false)
 | 157 => some (.func #[26, 26, 26, 22] #[26] false)
 | 161 => some (.func #[22, 3, 22] #[22, 34] false)
 | 163 => some (.func #[161] #[119] false)
 | 164 => some (.func #[26, 3] #[22, 34] false)
 | 165 => some (.func #[23, 3, 131] #[23, 34] false)
 | 168 => some (.func #[107, 3, 3] #[107, 34] false)
 | 170 => some (.func #[9] #[4] false)
 | 172 => some (.map 107 4)
 | 173 => some (.func #[107] #[4] false)
 | 177 => some (.func #[107, 107] #[3] false)
 | 186 => some (.func #[26, 3, 22, 3, 4] #[26] false)
 | 187 => some (.func #[3, 26, 26, 26] #[26] false)
 | 188 => some (.func #[3, 23] #[26] false)
 | 193 => some (.func #[] #[26] false)
 | 197 => some (.func #[22, 198] #[22] false)
 | 198 => some (.func #[107] #[107, 4] false)
 | 199 => some (.func #[] #[37, 34] false)
 | 200 => some (.array 29 3)
 | 211 => some (.func #[77] #[4] false)
 | 217 => some (.int .u64)
 | 220 => some (.int .i64)
 | 228 => some (.array 32 5)
 | 232 => some (.func #[22, 3, 22] #[22, 3] false)
 | 234 => some (.func #[3] #[91] false)
 | 237 => some (.pointer 3)
 | 251 => some (.pointer 5)
 | _ => none
def D1v : Nat → Option (Nat × Nat × Value)
 | 1 => some (1, 8, .nilFunc)
 | 2 => some (1, 8, .int .i64 0)
 | 3 => some (1, 8, .int .i64 0)
 | 4 => some (1, 1, .bool false)
 | 5 => some (1, 1, .int .u8 0)
 | 9 => some (1, 16, .string ⟨#[]⟩)
 | 12 => some (1, 8, .int .u64 0)
 | 21 => some (1, 4, .int .i32 0)
 | 22 => some (1, 24, .slice none 0 0)
 | 23 => some (1, 24, .slice none 0 0)
 | 24 => some (1, 24, .slice none 0 0)
 | 25 => some (6, 104, .agg #[.int .i64 0, .int .i64 0, .string ⟨#[]⟩, .slice none 0 0, .slice none 0 0, .slice none 0 0])
 | 26 => some (6, 104, .agg #[.int .i64 0, .int .i64 0, .string ⟨#[]⟩, .slice none 0 0, .slice none 0 0, .slice none 0 0])
 | 27 => some (1, 24, .slice none 0 0)
 | 28 => some (2, 48, .agg #[.slice none 0 0, .slice none 0 0])
 | 29 => some (2, 48, .agg #[.slice none 0 0, .slice none 0 0])
 | 30 => some (1, 8, .nilFunc)
 | 31 => some (1, 8, .nilFunc)
 | 32 => some (1, 8, .nilFunc)
 | 33 => some (1, 8, .nilFunc)
 | 34 => some (1, 8, .int .i64 0)
 | 36 => some (1, 8, .nilFunc)
 | 37 => some (2, 48, .agg #[.slice none 0 0, .slice none 0 0])
 | 45 => some (1, 8, .nilFunc)
 | 76 => some (2, 48, .agg #[.slice none 0 0, .slice none 0 0])
 | 77 => some (2, 48, .agg #[.slice none 0 0, .slice none 0 0])
 | 82 => some (1, 8, .nilFunc)
 | 89 => some (1, 4, .int .u32 0)
 | 91 => some (1, 8, .int .u64 0)
 | 94 => some (4, 32, .agg #[.nilFunc, .nilFunc, .nilFunc, .nilFunc])
 | 95 => some (4, 32, .agg #[.nilFunc, .nilFunc, .nilFunc, .nilFunc])
 | 106 => some (2, 8, .agg #[.int .u32 0, .int .u32 0])
 | 107 => some (2, 8, .agg #[.int .u32 0, .int .u32 0])
 | 109 => some (1, 8, .pointer none)
 | 110 => some (1, 8, .agg #[.int .i64 0])
 | 111 => some (1, 8, .agg #[.int .i64 0])
 | 118 => some (1, 8, .nilFunc)
 | 119 => some (1, 8, .nilFunc)
 | 120 => some (2, 16, .agg #[.nilFunc, .nilFunc])
 | 121 => some (2, 16, .agg #[.nilFunc, .nilFunc])
 | 131 => some (1, 8, .nilFunc)
 | 140 => some (1, 24, .slice none 0 0)
 | 142 => some (1, 8, .nilFunc)
 | 151 => some (1, 8, .nilFunc)
 | 154 => some (1, 8, .nilFunc)
 | 156 => some (1, 8, .nilFunc)
 | 157 => some (1, 8, .nilFunc)
 | 161 => some (1, 8, .nilFunc)
 | 163 => some (1, 8, .nilFunc)
 | 164 => some (1, 8, .nilFunc)
 | 165 => some (1, 8, .nilFunc)
 | 168 => some (1, 8, .nilFunc)
 | 170 => some (1, 8, .nilFunc)
 | 172 => some (1, 8, .map none)
 | 173 => some (1, 8, .nilFunc)
 | 177 => some (1, 8, .nilFunc)
 | 186 => some (1, 8, .nilFunc)
 | 187 => some (1, 8, .nilFunc)
 | 188 => some (1, 8, .nilFunc)
 | 190 => some (2, 16, .agg #[.int .i64 0, .int .i64 0])
 | 191 => some (2, 16, .agg #[.int .i64 0, .int .i64 0])
 | 193 => some (1, 8, .nilFunc)
 | 197 => some (1, 8, .nilFunc)
 | 198 => some (1, 8, .nilFunc)
 | 199 => some (1, 8, .nilFunc)
 | 200 => some (29, 232, .agg #[.int .i64 0, .int .i64 0, .int .i64 0, .int .i64 0, .int .i64 0, .int .i64 0, .int .i64 0, .int .i64 0, .int .i64 0, .int .i64 0, .int .i64 0, .int .i64 0, .int .i64 0, .int .i64 0, .int .i64 0, .int .i64 0, .int .i64 0, .int .i64 0, .int .i64 0, .int .i64 0, .int .i64 0, .int .i64 0, .int .i64 0, .int .i64 0, .int .i64 0, .int .i64 0, .int .i64 0, .int .i64 0, .int .i64 0])
 | 211 => some (1, 8, .nilFunc)
 | 217 => some (1, 8, .int .u64 0)
 | 220 => some (1, 8, .int .i64 0)
 | 228 => some (32, 32, .agg #[.int .u8 0, .int .u8 0, .int .u8 0, .int .u8 0, .int .u8 0, .int .u8 0, .int .u8 0, .int .u8 0, .int .u8 0, .int .u8 0, .int .u8 0, .int .u8 0, .int .u8 0, .int .u8 0, .int .u8 0, .int .u8 0, .int .u8 0, .int .u8 0, .int .u8 0, .int .u8 0, .int .u8 0, .int .u8 0, .int .u8 0, .int .u8 0, .int .u8 0, .int .u8 0, .int .u8 0, .int .u8 0, .int .u8 0, .int .u8 0, .int .u8 0, .int .u8 0])
 | 232 => some (1, 8, .nilFunc)
 | 234 => some (1, 8, .nilFunc)
 | 237 => some (1, 8, .pointer none)
 | 251 => some (1, 8, .pointer none)
 | _ => none
def B8u : Nat → Option (List (Nat × Nat))
 | 25 => some ([(0, 1), (1, 1), (2, 1), (3, 1), (4, 1), (5, 1)])
 | 26 => some ([(0, 1), (1, 1), (2, 1), (3, 1), (4, 1), (5, 1)])
 | 28 => some ([(0, 1), (1, 1)])
 | 29 => some ([(0, 1), (1, 1)])
 | 37 => some ([(0, 1), (1, 1)])
 | 76 => some ([(0, 1), (1, 1)])
 | 77 => some ([(0, 1), (1, 1)])
 | 94 => some ([(0, 1), (1, 1), (2, 1), (3, 1)])
 | 95 => some ([(0, 1), (1, 1), (2, 1), (3, 1)])
 | 106 => some ([(0, 1), (1, 1)])
 | 107 => some ([(0, 1), (1, 1)])
 | 110 => some ([(0, 1)])
 | 111 => some ([(0, 1)])
 | 120 => some ([(0, 1), (1, 1)])
 | 121 => some ([(0, 1), (1, 1)])
 | 190 => some ([(0, 1), (1, 1)])
 | 191 => some ([(0, 1), (1, 1)])
 | _ => none
def D1w (t j : Nat) : Option Nat := (B8u t).bind fun l => (l[j]?).map (·.1)
noncomputable abbrev ii_ (t : Nat) := (Tryz.prog.info? t).map fun i => (i.size, i.bytes, i.zero)
theorem E0k : ii_ 1 = some (1, 8, some (.nilFunc)) := by kernel_rfl
theorem E0j : ii_ 2 = some (1, 8, some (.int .i64 0)) := by kernel_rfl
theorem E0i : ii_ 3 = some (1, 8, some (.int .i64 0)) := by kernel_rfl
theorem E0h : ii_ 4 = some (1, 1, some (.bool false)) := by kernel_rfl
theorem E0g : ii_ 5 = some (1, 1, some (.int .u8 0)) := by kernel_rfl
theorem E0f : ii_ 9 = some (1, 16, some (.string ⟨#[]⟩)) := by kernel_rfl
theorem D9c : ii_ 12 = some (1, 8, some (.int .u64 0)) := by kernel_rfl
theorem D9b : ii_ 21 = some (1, 4, some (.int .i32 0)) := by kernel_rfl
theorem D9a : ii_ 22 = some (1, 24, some (.slice none 0 0)) := by kernel_rfl
theorem D8z : ii_ 23 = some (1, 24, some (.slice none 0 0)) := by kernel_rfl
theorem D8y : ii_ 24 = some (1, 24, some (.slice none 0 0)) := by kernel_rfl
theorem D8x : ii_ 25 = some (6, 104, some (.agg #[.int .i64 0, .int .i64 0, .string ⟨#[]⟩, .slice none 0 0, .slice none 0 0, .slice none 0 0])) := by kernel_rfl
theorem D8w : ii_ 26 = some (6, 104, some (.agg #[.int .i64 0, .int .i64 0, .string ⟨#[]⟩, .slice none 0 0, .slice none 0 0, .slice none 0 0])) := by kernel_rfl
theorem D8v : ii_ 27 = some (1, 24, some (.slice none 0 0)) := by kernel_rfl
theorem D8u : ii_ 28 = some (2, 48, some (.agg #[.slice none 0 0, .slice none 0 0])) := by kernel_rfl
theorem D8t : ii_ 29 = some (2, 48, some (.agg #[.slice none 0 0, .slice none 0 0])) := by kernel_rfl
theorem D8s : ii_ 30 = some (1, 8, some (.nilFunc)) := by kernel_rfl
theorem D8r : ii_ 31 = some (1, 8, some (.nilFunc)) := by kernel_rfl
theorem D8q : ii_ 32 = some (1, 8, some (.nilFunc)) := by kernel_rfl
theorem D8p : ii_ 33 = some (1, 8, some (.nilFunc)) := by kernel_rfl
theorem D8o : ii_ 34 = some (1, 8, some (.int .i64 0)) := by kernel_rfl
theorem D8n : ii_ 36 = some (1, 8, some (.nilFunc)) := by kernel_rfl
theorem D8m : ii_ 37 = some (2, 48, some (.agg #[.slice none 0 0, .slice none 0 0])) := by kernel_rfl
theorem D8l : ii_ 45 = some (1, 8, some (.nilFunc)) := by kernel_rfl
theorem D8k : ii_ 76 = some (2, 48, some (.agg #[.slice none 0 0, .slice none 0 0])) := by kernel_rfl
theorem D8j : ii_ 77 = some (2, 48, some (.agg #[.slice none 0 0, .slice none 0 0])) := by kernel_rfl
theorem D8i : ii_ 82 = some (1, 8, some (.nilFunc)) := by kernel_rfl
theorem D8h : ii_ 89 = some (1, 4, some (.int .u32 0)) := by kernel_rfl
theorem D8g : ii_ 91 = some (1, 8, some (.int .u64 0)) := by kernel_rfl
theorem D8f : ii_ 94 = some (4, 32, some (.agg #[.nilFunc, .nilFunc, .nilFunc, .nilFunc])) := by kernel_rfl
theorem D8e : ii_ 95 = some (4, 32, some (.agg #[.nilFunc, .nilFunc, .nilFunc, .nilFunc])) := by kernel_rfl
theorem D5j : ii_ 106 = some (2, 8, some (.agg #[.int .u32 0, .int .u32 0])) := by kernel_rfl
theorem D5i : ii_ 107 = some (2, 8, some (.agg #[.int .u32 0, .int .u32 0])) := by kernel_rfl
theorem D5h : ii_ 109 = some (1, 8, some (.pointer none)) := by kernel_rfl
theorem D5g : ii_ 110 = some (1, 8, some (.agg #[.int .i64 0])) := by kernel_rfl
theorem D5f : ii_ 111 = some (1, 8, some (.agg #[.int .i64 0])) := by kernel_rfl
theorem D5e : ii_ 118 = some (1, 8, some (.nilFunc)) := by kernel_rfl
theorem D5d : ii_ 119 = some (1, 8, some (.nilFunc)) := by kernel_rfl
theorem D5c : ii_ 120 = some (2, 16, some (.agg #[.nilFunc, .nilFunc])) := by kernel_rfl
theorem D5b : ii_ 121 = some (2, 16, some (.agg #[.nilFunc, .nilFunc])) := by kernel_rfl
theorem D5a : ii_ 131 = some (1, 8, some (.nilFunc)) := by kernel_rfl
theorem D4z : ii_ 140 = some (1, 24, some (.slice none 0 0)) := by kernel_rfl
theorem D4y : ii_ 142 = some (1, 8, some (.nilFunc)) := by kernel_rfl
theorem D4x : ii_ 151 = some (1, 8, some (.nilFunc)) := by kernel_rfl
theorem D4w : ii_ 154 = some (1, 8, some (.nilFunc)) := by kernel_rfl
theorem D4v : ii_ 156 = some (1, 8, some (.nilFunc)) := by kernel_rfl
theorem D4u : ii_ 157 = some (1, 8, some (.nilFunc)) := by kernel_rfl
theorem D4t : ii_ 161 = some (1, 8, some (.nilFunc)) := by kernel_rfl
theorem D4s : ii_ 163 = some (1, 8, some (.nilFunc)) := by kernel_rfl
theorem D4r : ii_ 164 = some (1, 8, some (.nilFunc)) := by kernel_rfl
theorem D4q : ii_ 165 = some (1, 8, some (.nilFunc)) := by kernel_rfl
theorem D4p : ii_ 168 = some (1, 8, some (.nilFunc)) := by kernel_rfl
theorem D4o : ii_ 170 = some (1, 8, some (.nilFunc)) := by kernel_rfl
theorem D4n : ii_ 172 = some (1, 8, some (.map none)) := by kernel_rfl
theorem D4m : ii_ 173 = some (1, 8, some (.nilFunc)) := by kernel_rfl
theorem D4l : ii_ 177 = some (1, 8, some (.nilFunc)) := by kernel_rfl
theorem D4k : ii_ 186 = some (1, 8, some (.nilFunc)) := by kernel_rfl
theorem D4j : ii_ 187 = some (1, 8, some (.nilFunc)) := by kernel_rfl
theorem D4i : ii_ 188 = some (1, 8, some (.nilFunc)) := by kernel_rfl
theorem D4h : ii_ 190 = some (2, 16, some (.agg #[.int .i64 0, .int .i64 0])) := by kernel_rfl
theorem D4g : ii_ 191 = some (2, 16, some (.agg #[.int .i64 0, .int .i64 0])) := by kernel_rfl
theorem D4f : ii_ 193 = some (1, 8, some (.nilFunc)) := by kernel_rfl
theorem D4e : ii_ 197 = some (1, 8, some (.nilFunc)) := by kernel_rfl
theorem D4d : ii_ 198 = some (1, 8, some (.nilFunc)) := by kernel_rfl
theorem D4c : ii_ 199 = some (1, 8, some (.nilFunc)) := by kernel_rfl
theorem D4b : ii_ 200 = some (29, 232, some (.agg #[.int .i64 0, .int .i64 0, .int .i64 0, .int .i64 0, .int .i64 0, .int .i64 0, .int .i64 0, .int .i64 0, .int .i64 0, .int .i64 0, .int .i64 0, .int .i64 0, .int .i64 0, .int .i64 0, .int .i64 0, .int .i64 0, .int .i64 0, .int .i64 0, .int .i64 0, .int .i64 0, .int .i64 0, .int .i64 0, .int .i64 0, .int .i64 0, .int .i64 0, .int .i64 0, .int .i64 0, .int .i64 0, .int .i64 0])) := by kernel_rfl
theorem D4a : ii_ 211 = some (1, 8, some (.nilFunc)) := by kernel_rfl
theorem D3z : ii_ 217 = some (1, 8, some (.int .u64 0)) := by kernel_rfl
theorem D3y : ii_ 220 = some (1, 8, some (.int .i64 0)) := by kernel_rfl
theorem D3x : ii_ 228 = some (32, 32, some (.agg #[.int .u8 0, .int .u8 0, .int .u8 0, .int .u8 0, .int .u8 0, .int .u8 0, .int .u8 0, .int .u8 0, .int .u8 0, .int .u8 0, .int .u8 0, .int .u8 0, .int .u8 0, .int .u8 0, .int .u8 0, .int .u8 0, .int .u8 0, .int .u8 0, .int .u8 0, .int .u8 0, .int .u8 0, .int .u8 0, .int .u8 0, .int .u8 0, .int .u8 0, .int .u8 0, .int .u8 0, .int .u8 0, .int .u8 0, .int .u8 0, .int .u8 0, .int .u8 0])) := by kernel_rfl
theorem D3w : ii_ 232 = some (1, 8, some (.nilFunc)) := by kernel_rfl
theorem D3v : ii_ 234 = some (1, 8, some (.nilFunc)) := by kernel_rfl
theorem D3u : ii_ 237 = some (1, 8, some (.pointer none)) := by kernel_rfl
theorem D3t : ii_ 251 = some (1, 8, some (.pointer none)) := by kernel_rfl
theorem Aw {t s b : Nat} {z : Value} (h : ii_ t = some (s, b, some z)) : ∃ i, Tryz.prog.info? t = some i ∧ i.size = s ∧ i.bytes = b ∧ i.zero = some z := by
 obtain ⟨i, h1, h2⟩ := Option.map_eq_some_iff.1 h
 simp only [Prod.mk.injEq] at h2
 exact ⟨i, h1, h2.1, h2.2.1, h2.2.2⟩
theorem C7l : ∀ t d, D1u t = some d → Tryz.prog.underlying t = some d := by
 intro t d h
 unfold D1u at h
 split at h
 ·cases h; exact Tryz.underlying1
 ·cases h; exact Tryz.underlying2
 ·cases h; exact Tryz.underlying3
 ·cases h; exact Tryz.underlying4
 ·cases h; exact Tryz.underlying5
 ·cases h; exact Tryz.underlying9
 ·cases h; exact Tryz.underlying12
 ·cases h; exact Tryz.underlying20
 ·cases h; exact Tryz.underlying21
 ·cases h; exact Tryz.underlying22
 ·cases h; exact Tryz.underlying23
 ·cases h; exact Tryz.underlying24
 ·cases h; exact Tryz.underlying27
 ·cases h; exact Tryz.underlying30
 ·cases h; exact Tryz.underlying31
 ·cases h; exact Tryz.underlying32
 ·cases h; exact Tryz.underlying33
 ·cases h; exact Tryz.underlying34
 ·cases h; exact Tryz.underlying36
 ·cases h; exact Tryz.underlying45
 ·cases h; exact Tryz.underlying82
 ·cases h; exact Tryz.underlying89
 ·cases h; exact Tryz.underlying91
 ·cases h; exact Tryz.underlying109
 ·cases h; exact Tryz.underlying118
 ·cases h; exact Tryz.underlying119
 ·cases h; exact Tryz.underlying131
 ·cases h; exact Tryz.underlying140
 ·cases h; exact Tryz.underlying142
 ·cases h; exact Tryz.underlying151
 ·cases h; exact Tryz.underlying154
 ·cases h; exact Tryz.underlying156
 ·cases h; exact Tryz.underlying157
 ·cases h; exact Tryz.underlying161
 ·cases h; exact Tryz.underlying163
 ·cases h; exact Tryz.underlying164
 ·cases h; exact Tryz.underlying165
 ·cases h; exact Tryz.underlying168
 ·cases h; exact Tryz.underlying170
 ·cases h; exact Tryz.underlying172
 ·cases h; exact Tryz.underlying173
 ·cases h; exact Tryz.underlying177
 ·cases h; exact Tryz.underlying186
 ·cases h; exact Tryz.underlying187
 ·cases h; exact Tryz.underlying188
 ·cases h; exact Tryz.underlying193
 ·cases h; exact Tryz.underlying197
 ·cases h; exact Tryz.underlying198
 ·cases h; exact Tryz.underlying199
 ·cases h; exact Tryz.underlying200
 ·cases h; exact Tryz.underlying211
 ·cases h; exact Tryz.underlying217
 ·cases h; exact Tryz.underlying220
 ·cases h; exact Tryz.underlying228
 ·cases h; exact Tryz.underlying232
 ·cases h; exact Tryz.underlying234
 ·cases h; exact Tryz.underlying237
 ·cases h; exact Tryz.underlying251
 ·cases h
theorem C7m : ∀ t s b z, D1v t = some (s, b, z) → ∃ i, Tryz.prog.info? t = some i ∧ i.size = s ∧ i.bytes = b ∧ i.zero = some z := by
 intro t s b z h
 unfold D1v at h
 split at h
 ·cases h; exact Aw E0k
 ·cases h; exact Aw E0j
 ·cases h; exact Aw E0i
 ·cases h; exact Aw E0h
 ·cases h; exact Aw E0g
 ·cases h; exact Aw E0f
 ·cases h; exact Aw D9c
 ·cases h; exact Aw D9b
 ·cases h; exact Aw D9a
 ·cases h; exact Aw D8z
 ·cases h; exact Aw D8y
 ·cases h; exact Aw D8x
 ·cases h; exact Aw D8w
 ·cases h; exact Aw D8v
 ·cases h; exact Aw D8u
 ·cases h; exact Aw D8t
 ·cases h; exact Aw D8s
 ·cases h; exact Aw D8r
 ·cases h; exact Aw D8q
 ·cases h; exact Aw D8p
 ·cases h; exact Aw D8o
 ·cases h; exact Aw D8n
 ·cases h; exact Aw D8m
 ·cases h; exact Aw D8l
 ·cases h; exact Aw D8k
 ·cases h; exact Aw D8j
 ·cases h; exact Aw D8i
 ·cases h; exact Aw D8h
 ·cases h; exact Aw D8g
 ·cases h; exact Aw D8f
 ·cases h; exact Aw D8e
 ·cases h; exact Aw D5j
 ·cases h; exact Aw D5i
 ·cases h; exact Aw D5h
 ·cases h; exact Aw D5g
 ·cases h; exact Aw D5f
 ·cases h; exact Aw D5e
 ·cases h; exact Aw D5d
 ·cases h; exact Aw D5c
 ·cases h; exact Aw D5b
 ·cases h; exact Aw D5a
 ·cases h; exact Aw D4z
 ·cases h; exact Aw D4y
 ·cases h; exact Aw D4x
 ·cases h; exact Aw D4w
 ·cases h; exact Aw D4v
 ·cases h; exact Aw D4u
 ·cases h; exact Aw D4t
 ·cases h; exact Aw D4s
 ·cases h; exact Aw D4r
 ·cases h; exact Aw D4q
 ·cases h; exact Aw D4p
 ·cases h; exact Aw D4o
 ·cases h; exact Aw D4n
 ·cases h; exact Aw D4m
 ·cases h; exact Aw D4l
 ·cases h; exact Aw D4k
 ·cases h; exact Aw D4j
 ·cases h; exact Aw D4i
 ·cases h; exact Aw D4h
 ·cases h; exact Aw D4g
 ·cases h; exact Aw D4f
 ·cases h; exact Aw D4e
 ·cases h; exact Aw D4d
 ·cases h; exact Aw D4c
 ·cases h; exact Aw D4b
 ·cases h; exact Aw D4a
 ·cases h; exact Aw D3z
 ·cases h; exact Aw D3y
 ·cases h; exact Aw D3x
 ·cases h; exact Aw D3w
 ·cases h; exact Aw D3v
 ·cases h; exact Aw D3u
 ·cases h; exact Aw D3t
 ·cases h
theorem D8d : ∃ fs, Tryz.prog.underlying 25 = some (.struct fs) ∧ fs.toList.mapM (fun f => (Tryz.prog.info? f.type).map fun i => (f.offset, i.size)) = some [(0, 1), (1, 1), (2, 1), (3, 1), (4, 1), (5, 1)] := ⟨_, Tryz.underlying25, by kernel_rfl⟩
theorem D8c : ∃ fs, Tryz.prog.underlying 26 = some (.struct fs) ∧ fs.toList.mapM (fun f => (Tryz.prog.info? f.type).map fun i => (f.offset, i.size)) = some [(0, 1), (1, 1), (2, 1), (3, 1), (4, 1), (5, 1)] := ⟨_, Tryz.underlying26, by kernel_rfl⟩
theorem D8b : ∃ fs, Tryz.prog.underlying 28 = some (.struct fs) ∧ fs.toList.mapM (fun f => (Tryz.prog.info? f.type).map fun i => (f.offset, i.size)) = some [(0, 1), (1, 1)] := ⟨_, Tryz.underlying28, by kernel_rfl⟩
theorem D8a : ∃ fs, Tryz.prog.underlying 29 = some (.struct fs) ∧ fs.toList.mapM (fun f => (Tryz.prog.info? f.type).map fun i => (f.offset, i.size)) = some [(0, 1), (1, 1)] := ⟨_, Tryz.underlying29, by kernel_rfl⟩
theorem D7z : ∃ fs, Tryz.prog.underlying 37 = some (.struct fs) ∧ fs.toList.mapM (fun f => (Tryz.prog.info? f.type).map fun i => (f.offset, i.size)) = some [(0, 1), (1, 1)] := ⟨_, Tryz.underlying37, by kernel_rfl⟩
theorem D7y : ∃ fs, Tryz.prog.underlying 76 = some (.struct fs) ∧ fs.toList.mapM (fun f => (Tryz.prog.info? f.type).map fun i => (f.offset, i.size)) = some [(0, 1), (1, 1)] := ⟨_, Tryz.underlying76, by kernel_rfl⟩
theorem D7x : ∃ fs, Tryz.prog.underlying 77 = some (.struct fs) ∧ fs.toList.mapM (fun f => (Tryz.prog.info? f.type).map fun i => (f.offset, i.size)) = some [(0, 1), (1, 1)] := ⟨_, Tryz.underlying77, by kernel_rfl⟩
theorem D7w : ∃ fs, Tryz.prog.underlying 94 = some (.struct fs) ∧ fs.toList.mapM (fun f => (Tryz.prog.info? f.type).map fun i => (f.offset, i.size)) = some [(0, 1), (1, 1), (2, 1), (3, 1)] := ⟨_, Tryz.underlying94, by kernel_rfl⟩
theorem D7v : ∃ fs, Tryz.prog.underlying 95 = some (.struct fs) ∧ fs.toList.mapM (fun f => (Tryz.prog.info? f.type).map fun i => (f.offset, i.size)) = some [(0, 1), (1, 1), (2, 1), (3, 1)] := ⟨_, Tryz.underlying95, by kernel_rfl⟩
theorem D3r : ∃ fs, Tryz.prog.underlying 106 = some (.struct fs) ∧ fs.toList.mapM (fun f => (Tryz.prog.info? f.type).map fun i => (f.offset, i.size)) = some [(0, 1), (1, 1)] := ⟨_, Tryz.underlying106, by kernel_rfl⟩
theorem D3q : ∃ fs, Tryz.prog.underlying 107 = some (.struct fs) ∧ fs.toList.mapM (fun f => (Tryz.prog.info? f.type).map fun i => (f.offset, i.size)) = some [(0, 1), (1, 1)] := ⟨_, Tryz.underlying107, by kernel_rfl⟩
theorem D3p : ∃ fs, Tryz.prog.underlying 110 = some (.struct fs) ∧ fs.toList.mapM (fun f => (Tryz.prog.info? f.type).map fun i => (f.offset, i.size)) = some [(0, 1)] := ⟨_, Tryz.underlying110, by kernel_rfl⟩
theorem D3o : ∃ fs, Tryz.prog.underlying 111 = some (.struct fs) ∧ fs.toList.mapM (fun f => (Tryz.prog.info? f.type).map fun i => (f.offset, i.size)) = some [(0, 1)] := ⟨_, Tryz.underlying111, by kernel_rfl⟩
theorem D3n : ∃ fs, Tryz.prog.underlying 120 = some (.struct fs) ∧ fs.toList.mapM (fun f => (Tryz.prog.info? f.type).map fun i => (f.offset, i.size)) = some [(0, 1), (1, 1)] := ⟨_, Tryz.underlying120, by kernel_rfl⟩
theorem D3m : ∃ fs, Tryz.prog.underlying 121 = some (.struct fs) ∧ fs.toList.mapM (fun f => (Tryz.prog.info? f.type).map fun i => (f.offset, i.size)) = some [(0, 1), (1, 1)] := ⟨_, Tryz.underlying121, by kernel_rfl⟩
theorem D3l : ∃ fs, Tryz.prog.underlying 190 = some (.struct fs) ∧ fs.toList.mapM (fun f => (Tryz.prog.info? f.type).map fun i => (f.offset, i.size)) = some [(0, 1), (1, 1)] := ⟨_, Tryz.underlying190, by kernel_rfl⟩
theorem D3k : ∃ fs, Tryz.prog.underlying 191 = some (.struct fs) ∧ fs.toList.mapM (fun f => (Tryz.prog.info? f.type).map fun i => (f.offset, i.size)) = some [(0, 1), (1, 1)] := ⟨_, Tryz.underlying191, by kernel_rfl⟩
theorem B6a : ∀ t l, B8u t = some l → ∃ fs, Tryz.prog.underlying t = some (.struct fs) ∧ fs.toList.mapM (fun f => (Tryz.prog.info? f.type).map fun i => (f.offset, i.size)) = some l := by
 intro t l h
 unfold B8u at h
 split at h
 ·cases h; exact D8d
 ·cases h; exact D8c
 ·cases h; exact D8b
 ·cases h; exact D8a
 ·cases h; exact D7z
 ·cases h; exact D7y
 ·cases h; exact D7x
 ·cases h; exact D7w
 ·cases h; exact D7v
 ·cases h; exact D3r
 ·cases h; exact D3q
 ·cases h; exact D3p
 ·cases h; exact D3o
 ·cases h; exact D3n
 ·cases h; exact D3m
 ·cases h; exact D3l
 ·cases h; exact D3k
 ·cases h
theorem C2c : ∀ t l, B8u t = some l → l.all (fun x => x.2 != 0) = true := by
 intro t l h
 unfold B8u at h
 split at h
 ·cases h; rfl
 ·cases h; rfl
 ·cases h; rfl
 ·cases h; rfl
 ·cases h; rfl
 ·cases h; rfl
 ·cases h; rfl
 ·cases h; rfl
 ·cases h; rfl
 ·cases h; rfl
 ·cases h; rfl
 ·cases h; rfl
 ·cases h; rfl
 ·cases h; rfl
 ·cases h; rfl
 ·cases h; rfl
 ·cases h; rfl
 ·cases h
theorem B0q {P : Program} : ∀ (fs : List Field) (l : List (Nat × Nat)), fs.mapM (fun f => (P.info? f.type).map fun i => (f.offset, i.size)) = some l → ∀ (j : Nat) (x : Nat × Nat), l[j]? = some x → ∃ fl i, fs[j]? = some fl ∧ P.info? fl.type = some i ∧ fl.offset = x.1 ∧ i.size = x.2
 | [], l, h, j, x, hx => by simp at h; subst h; simp at hx
 | f :: fs, l, h, j, x, hx => by
  simp only [List.mapM_cons, Option.bind_eq_bind, Option.pure_def] at h
  cases hi : P.info? f.type with
  | none => simp [hi] at h
  | some i =>
   cases hr : fs.mapM (fun f => (P.info? f.type).map fun i => (f.offset, i.size)) with
   | none => simp [hi, hr] at h
   | some rest =>
    simp [hi, hr] at h
    subst h
    cases j with
    | zero => simp at hx; subst hx; exact ⟨f, i, rfl, hi, rfl, rfl⟩
    | succ j => simpa using B0q fs rest hr j x (by simpa using hx)
theorem C7n : ∀ t j o, D1w t j = some o → ∃ fs fl i, Tryz.prog.underlying t = some (.struct fs) ∧ fs[j]? = some fl ∧ fl.offset = o ∧ Tryz.prog.info? fl.type = some i ∧ i.size ≠ 0 := by
 intro t j o h
 unfold D1w at h
 obtain ⟨l, h1, h2⟩ := Option.bind_eq_some_iff.1 h
 obtain ⟨x, h3, rfl⟩ := Option.map_eq_some_iff.1 h2
 obtain ⟨fs, h4, h5⟩ := B6a t l h1
 obtain ⟨fl, i, h6, h7, h8, h9⟩ := B0q fs.toList l h5 j x h3
 refine ⟨fs, fl, i, h4, by simpa using h6, h8, h7, ?_⟩
 have := List.all_eq_true.1 (C2c t l h1) x (List.mem_of_getElem? h3)
 rw [h9]
 simpa using this
theorem E0m (a b c d : Int) (w : World) : (Op.equalIn 10000 107 (.agg #[.int .u32 a, .int .u32 b]) (.agg #[.int .u32 c, .int .u32 d])).run Tryz.prog w = .ok (a == c && b == d) w := by
 have u := Tryz.underlying89
 have hS : Tryz.prog.underlying 107 = some (.struct (Tryz.prog.fieldsOf 107)) := by kernel_rfl
 have hp : Tryz.prog.stoodInHeld 107 = false := by kernel_rfl
 obtain ⟨i, h1, h2⟩ : ∃ i, Tryz.prog.info? 89 = some i ∧ i.size = 1 := by
  obtain ⟨i, h1, h2⟩ := Option.map_eq_some_iff.1 (show (Tryz.prog.info? 89).map (fun i => i.size) = some 1 by kernel_rfl)
  exact ⟨i, h1, h2⟩
 have hz : ∀ w, (sizeOf 89).run Tryz.prog w = .ok 1 w := fun w => by simp [sizeOf, typeInfo, h1, h2]
 rw [show (10000 : Nat) = 9999 + 1 from rfl, run_equalIn_agg w 9999 107 _ _ hS hp]
 simp only [Program.fieldsOf, Tryz.underlying107]
 have hA : ∀ w, (isAgg 89).run Tryz.prog w = .ok false w := fun w => by simp [isAgg, run_underlying u]
 have e : ∀ (a c : Int) (w : World), (Op.equalIn 9999 89 (.int .u32 a) (.int .u32 c)).run Tryz.prog w = .ok (a == c) w := fun a c w => run_equalIn_int w 9998 89 .u32 .u32 a c u
 simp [Op.eqFields, part, hA, hz, e]
 by_cases h1 : a = c <;> by_cases h2 : b = d <;> simp [h1, h2]
instance : Go.Hy.Tab Tryz.prog := ⟨D1u, C7l, D1v, C7m, D1w, C7n, B8u, B6a, by kernel_rfl, 107, E0m, by kernel_rfl⟩
noncomputable def fC' : Array Field := match Tryz.prog.underlying 107 with | some (.struct fs) => fs | _ => #[]
noncomputable def fT' : Array Field := match Tryz.prog.underlying 26 with | some (.struct fs) => fs | _ => #[]
noncomputable def fB' : Array Field := match Tryz.prog.underlying 77 with | some (.struct fs) => fs | _ => #[]
noncomputable instance : Go.Hy.TyF Tryz.prog := { tI := 3, tS := 9, tU := 89, tC := 107, tT := 26, tB := 77, lC := 22, lT := 23, lB := 24, fC := fC', fT := fT', fB := fB', uI := Tryz.underlying3, uS := Tryz.underlying9, uU := Tryz.underlying89, uC := by kernel_rfl, uT := by kernel_rfl, uB := by kernel_rfl, ulC := Tryz.underlying22, ulT := Tryz.underlying23, ulB := Tryz.underlying24, pC := by kernel_rfl, pT := by kernel_rfl, pB := by kernel_rfl, c1 := ⟨by kernel_rfl, by kernel_rfl, by kernel_rfl, by kernel_rfl, by kernel_rfl, by kernel_rfl⟩, c2 := ⟨by kernel_rfl, by kernel_rfl, by kernel_rfl⟩, b2 := ⟨by kernel_rfl, by kernel_rfl, by kernel_rfl⟩ }
theorem laid' : laidOutB Tryz.prog = true := by kernel_rfl
noncomputable instance : Go.Hy.TabM Tryz.prog := { law := deep_law_laid laid' (m := 3) (by omega) (of_decide_eq_true (by kernel_rfl)) (by kernel_rfl) (by kernel_rfl), kt := by kernel_rfl, names := by kernel_rfl, npos := of_decide_eq_true (by kernel_rfl) }
end Go.Proofs.YtibignmpjeemeaaGreatDoor.Hy
namespace Go.Hy
theorem size_pos' (t : T) : 1 ≤ size t := by
 rw [size_eq]
 have : ∀ (l : List Part) (a : Nat), a ≤ l.foldl (fun a p => a + size p.1) a := by
  intro l
  induction l with
  | nil => intro a; exact Nat.le_refl _
  | cons p l ih => intro a; exact Nat.le_trans (Nat.le_add_right _ _) (ih _)
 exact this _ _
end Go.Hy
namespace Go.Hy
theorem Gd (k i : Int) : 0 ≤ (binds k i).1 ∧ (binds k i).1 ≤ 1 ∧ 0 ≤ (binds k i).2 ∧ (binds k i).2 ≤ 1 := by
 unfold binds
 repeat (first | split | (refine ⟨?_, ?_, ?_, ?_⟩ <;> simp))
theorem Kd {t : T} {p : Part} (h : p ∈ parts t) : 0 ≤ p.2.1 ∧ p.2.1 ≤ 1 ∧ 0 ≤ p.2.2 ∧ p.2.2 ≤ 1 := by
 unfold parts at h
 rcases List.mem_append.mp h with h | h
 ·have : ∀ (ks : List T) (i : Nat), p ∈ Dr t.kind i ks → 0 ≤ p.2.1 ∧ p.2.1 ≤ 1 ∧ 0 ≤ p.2.2 ∧ p.2.2 ≤ 1 := by
   intro ks
   induction ks with
   | nil => intro i h; simp [Dr] at h
   | cons k ks ih =>
    intro i h
    rcases List.mem_cons.mp h with e | h
    ·subst e; exact Gd _ _
    ·exact ih _ h
  exact this _ _ h
 ·have : ∀ (bs : List Br), p ∈ Dn t.kind bs → 0 ≤ p.2.1 ∧ p.2.1 ≤ 1 ∧ 0 ≤ p.2.2 ∧ p.2.2 ≤ 1 := by
   intro bs
   induction bs with
   | nil => intro h; simp [Dn] at h
   | cons b bs ih =>
    intro h
    rcases List.mem_append.mp h with h | h
    ·obtain ⟨k, _, e⟩ := List.mem_map.mp h
     subst e
     show 0 ≤ (0 : Int) ∧ (0 : Int) ≤ 1 ∧ 0 ≤ more t.kind ∧ more t.kind ≤ 1
     unfold more
     split <;> omega
    ·exact ih h
  exact this _ h
theorem Kz {t : T} {p : Part} (h : p ∈ parts t) : size p.1 < size t := by
 obtain ⟨m, hm, e⟩ := List.mem_iff_getElem.mp h
 have h1 := Qo (t := t) (m := m) (p := p) (by rw [List.getElem?_eq_getElem hm, e])
 have h2 : 1 ≤ Bs t m := by
  unfold Bs Kt
  have : ∀ (l : List Part) (a : Nat), a ≤ l.foldl (fun a p => a + size p.1) a := by
   intro l
   induction l with
   | nil => intro a; exact Nat.le_refl _
   | cons p l ih => intro a; exact Nat.le_trans (Nat.le_add_right _ _) (ih _)
  exact this _ _
 omega
end Go.Hy
namespace Go.Hy
@[simp] theorem qE_def (q : QP) : qE q = RT q.1.1 q.1.2.1 q.1.2.2.1 q.1.2.2.2 := rfl
@[simp] theorem ipE_def (q : IP) : ipE q = IL q.1 q.2 := rfl
end Go.Hy
namespace Go.Hy
section
variable {α : Type} {B : C6} {Γ : List Fact} {Ms : List B4} {w : World} {E : α → Fact} {l : List α}
end
end Go.Hy
namespace Go.Hy
theorem Ey {t : T} (h : A7 t = 0) : size t ≤ 20000 := by
 unfold A7 at h
 split at h
 ·rename_i hs; exact absurd h hs
 ·rename_i hs
  simp only [ne_eq, Decidable.not_not, sized] at hs
  split at hs
  ·cases hs
  ·split at hs
   ·cases hs
   ·omega
theorem St.E0e {B : C6} {Γ : List Fact} {Ms : List B4} {w : World} {b : Nat} {e : TypeId} {cs : List Value} (l : List Int) (hs : St B Γ (A8 b cs e :: Ms) w) {hBp : Prop} (hB : hBp) (hc : cs = R1 l) (hn : l.length ≤ 1000) (hu : ∀ c, c ∈ l → Aj c) : St B (IL l (some ⟨b, 0, Option.none⟩, l.length) :: Γ) Ms w :=
 (hs.Ig (sz := 1) (m := l.length) (by rw [hc, Ma U9 l]) (by unfold maxLen; omega)).A8t hB hc rfl (by unfold reach; omega) hu
section
variable {tn : Bool} {pn : Nat} {P : Program} [Tab P] {f : FuncId} {R : Ending → World → Prop} {B : C6} {n : Fz} {K : List Item} {ops : Array Oper} {i : Nat} {l fin : List Nat} {σ : Nat → Value} {Γ : List Fact} {Ms Ms2 : List B4}
variable {dst : Option Tmp} {ty : TypeId}
theorem C7i {c : FuncId} {args cap al : List Value} {av : Array Operand} {ts : Array TypeId} {g : Operand} {pre : List Fact} {X : Type} {val : X → Value} {N : X → List Fact} {Ms1 : X → List B4}
  (hc : ∀ (args : Array Value) (w : World), (callFunc c args).run P w = .ok (.enter c args) w) (hsp : Spec P c al.toArray pre [] val N Ms1) (kk : ∀ x, NV tn pn P f R B n K ops fin l (Af σ dst (val x)) (N x ++ Γ) (Ms1 x ++ Ms))
  (hg : ev σ g = .func (.func c) #[] cap.toArray := by rfl) (ha : av.toList.map (ev σ) = args := by rfl) (hal : args ++ cap = al := by rfl) (hpre : ∀ F, F ∈ pre → F ∈ Γ := by first | (simp; done) | (simp +contextual; done)) (hd : Aa n dst = true := by rfl) : Jk tn pn P f R B n K ops fin i l dst (.call { callee := .value g, args := av, argTypes := ts }) ty σ Γ Ms :=
 B6z (B4z hg ha hc) (hal ▸ hsp) hpre rfl rfl hd kk
end
end Go.Hy
namespace Go.Proofs
open Go.Shelf
def Tryz.Uz : Go.Shelf.Ren := ⟨fun | 6 => 201 | 15 => 253 | 14 => 252 | 28 => 289 | 29 => 290 | 20 => 281 | 21 => 282 | 22 => 283 | 23 => 284 | 24 => 285 | 25 => 286 | 26 => 287 | 27 => 288 | 46 => 300 | 47 => 301 | 48 => 302 | 49 => 303 | 50 => 304 | 57 => 307 | n => n, fun | 22 => 22 | 24 => 107 | 25 => 177 | 3 => 3 | 39 => 91 | 0 => 0 | 53 => 89 | 55 => 217 | 4 => 4 | 46 => 221 | 45 => 220 | 50 => 225 | 5 => 5 | 9 => 9 | 66 => 233 | 70 => 237 | 76 => 239 | 77 => 86 | n => n, fun | n => n⟩
theorem Tryz.D0j : Go.Proofs.SlLaysF0.n6 Tryz.prog Tryz.Uz := {
 mixed := by kernel_rfl
 f6 := ⟨Tryz.f201.name, by decide, Tryz.func201.trans (congrArg some (by kernel_rfl))⟩
 f14 := ⟨Tryz.f252.name, by decide, Tryz.func252.trans (congrArg some (by kernel_rfl))⟩
 f15 := Tryz.func253.trans (congrArg some (by kernel_rfl))
 f20 := ⟨Tryz.f281.name, by decide, Tryz.func281.trans (congrArg some (by kernel_rfl))⟩
 f21 := ⟨Tryz.f282.name, by decide, Tryz.func282.trans (congrArg some (by kernel_rfl))⟩
 f22 := ⟨Tryz.f283.name, by decide, Tryz.func283.trans (congrArg some (by kernel_rfl))⟩
 f23 := ⟨Tryz.f284.name, by decide, Tryz.func284.trans (congrArg some (by kernel_rfl))⟩
 f24 := ⟨Tryz.f285.name, by decide, Tryz.func285.trans (congrArg some (by kernel_rfl))⟩
 f25 := ⟨Tryz.f286.name, by decide, Tryz.func286.trans (congrArg some (by kernel_rfl))⟩
 f26 := ⟨Tryz.f287.name, by decide, Tryz.func287.trans (congrArg some (by kernel_rfl))⟩
 f27 := ⟨Tryz.f288.name, by decide, Tryz.func288.trans (congrArg some (by kernel_rfl))⟩
 f28 := Tryz.func289.trans (congrArg some (by kernel_rfl))
 f29 := Tryz.func290.trans (congrArg some (by kernel_rfl))
 f46 := ⟨Tryz.f300.name, by decide, Tryz.func300.trans (congrArg some (by kernel_rfl))⟩
 f47 := Tryz.func301.trans (congrArg some (by kernel_rfl))
 f48 := Tryz.func302.trans (congrArg some (by kernel_rfl))
 f49 := ⟨Tryz.f303.name, by decide, Tryz.func303.trans (congrArg some (by kernel_rfl))⟩
 f50 := ⟨Tryz.f304.name, by decide, Tryz.func304.trans (congrArg some (by kernel_rfl))⟩
 f57 := ⟨Tryz.f307.name, by decide, Tryz.func307.trans (congrArg some (by kernel_rfl))⟩
 t0 := Tryz.underlying0
 a0 := Tryz.isAgg0
 z0 := Tryz.sizeOf0
 v0 := Tryz.zeroValue0
 t3 := Tryz.underlying3
 a3 := Tryz.isAgg3
 z3 := Tryz.sizeOf3
 v3 := Tryz.zeroValue3
 t4 := Tryz.underlying4
 a4 := Tryz.isAgg4
 z4 := Tryz.sizeOf4
 v4 := Tryz.zeroValue4
 t5 := Tryz.underlying5
 a5 := Tryz.isAgg5
 z5 := Tryz.sizeOf5
 v5 := Tryz.zeroValue5
 t9 := Tryz.underlying9
 a9 := Tryz.isAgg9
 z9 := Tryz.sizeOf9
 v9 := Tryz.zeroValue9
 t22 := Tryz.underlying22
 a22 := Tryz.isAgg22
 z22 := Tryz.sizeOf22
 v22 := Tryz.zeroValue22
 t25 := Tryz.underlying177
 a25 := Tryz.isAgg177
 z25 := Tryz.sizeOf177
 v25 := Tryz.zeroValue177
 t39 := Tryz.underlying91
 a39 := Tryz.isAgg91
 z39 := Tryz.sizeOf91
 v39 := Tryz.zeroValue91
 t45 := Tryz.underlying220
 a45 := Tryz.isAgg220
 z45 := Tryz.sizeOf220
 v45 := Tryz.zeroValue220
 t46 := Tryz.underlying221
 a46 := Tryz.isAgg221
 z46 := Tryz.sizeOf221
 v46 := Tryz.zeroValue221
 t50 := Tryz.underlying225
 a50 := Tryz.isAgg225
 z50 := Tryz.sizeOf225
 v50 := Tryz.zeroValue225
 t53 := Tryz.underlying89
 a53 := Tryz.isAgg89
 z53 := Tryz.sizeOf89
 v53 := Tryz.zeroValue89
 t55 := Tryz.underlying217
 a55 := Tryz.isAgg217
 z55 := Tryz.sizeOf217
 v55 := Tryz.zeroValue217
 t66 := Tryz.underlying233
 a66 := Tryz.isAgg233
 z66 := Tryz.sizeOf233
 v66 := Tryz.zeroValue233
 t70 := Tryz.underlying237
 a70 := Tryz.isAgg237
 z70 := Tryz.sizeOf237
 v70 := Tryz.zeroValue237
 t76 := Tryz.underlying239
 a76 := Tryz.isAgg239
 z76 := Tryz.sizeOf239
 v76 := Tryz.zeroValue239
 t77 := Tryz.underlying86
 a77 := Tryz.isAgg86
 z77 := Tryz.sizeOf86
 v77 := Tryz.zeroValue86 }
end Go.Proofs
