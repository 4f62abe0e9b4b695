/- Contracts of this program's functions and the laws that they need. -/
import Derived.Test.YtibignmpjeemeaaGreatDoorProg
import Derived.KernelRfl
import Derived.Shelf.SlSortCmp.WholeK
import Derived.Shelf.SlGeneric
import Derived.Ground.SlsfProg
import Derived.Test.YtibignmpjeemeaaGreatDoorP3
set_option linter.unusedVariables false
set_option linter.unusedSimpArgs false
set_option linter.unusedSectionVars false
namespace Go.Hy
def Dq (c d : Cl) : Cl := ⟨c.pos ||| d.pos, c.neg ||| d.neg⟩
theorem B6x (c d : Cl) : decide (Dq c d = c) = below c d := by
 obtain ⟨p, n⟩ := c
 obtain ⟨p', n'⟩ := d
 simp [Dq, below]
def Om (l : List Cl) (i : Nat) : Nat := (l.take i).foldl (fun a c => a ||| (c.pos ||| c.neg)) 0
theorem B1g {l : List Cl} {i : Nat} (h : i < l.length) : Om l (i + 1) = Om l i ||| ((l.getD i Bc).pos ||| (l.getD i Bc).neg) := by
 unfold Om; rw [Ae (d := Bc) h, List.foldl_append]; rfl
theorem A4a {l : List Cl} (h : ∀ c, c ∈ l → u32 c) : ∀ i, Om l i < 4294967296 := by
 intro i
 have : ∀ (m : List Cl) (a : Nat), (∀ c, c ∈ m → u32 c) → a < 4294967296 → m.foldl (fun a c => a ||| (c.pos ||| c.neg)) a < 4294967296 := by
  intro m
  induction m with
  | nil => intro a _ h; exact h
  | cons c m ih =>
   intro a hm ha
   have hc := hm c List.mem_cons_self
   exact ih _ (fun d hd => hm d (List.mem_cons_of_mem _ hd)) (Nat.or_lt_two_pow (n := 32) ha (Nat.or_lt_two_pow (n := 32) hc.1 hc.2))
 exact this _ 0 (fun c hc => h c (List.mem_of_mem_take hc)) A2
theorem B2v (l : List Cl) : G3 l = Om l l.length &&& 16777215 := by
 unfold G3 Om; rw [List.take_length]
theorem B3r {s : Nat} (hs : s < 4294967296) : decide ((Bm s 16777215 : Int) = 0) = decide (s < 16777216) := by
 apply decide_eq_decide.mpr
 have h : Bm s 16777215 = s / 16777216 * 16777216 := by
  unfold Bm
  have e : (BitVec.ofNat 32 s &&& ~~~ BitVec.ofNat 32 16777215).toNat = s / 16777216 * 16777216 := by
   apply Nat.eq_of_testBit_eq
   intro i
   rw [← BitVec.getLsbD, BitVec.getLsbD_and, BitVec.getLsbD_not, BitVec.getLsbD_ofNat, BitVec.getLsbD_ofNat]
   rw [show s / 16777216 * 16777216 = (s / 2 ^ 24) * 2 ^ 24 from rfl, Nat.testBit_mul_two_pow, Nat.testBit_div_two_pow]
   rw [show (16777215 : Nat) = 2 ^ 24 - 1 from rfl, Nat.testBit_two_pow_sub_one]
   by_cases h1 : i < 32
   ·by_cases h2 : 24 ≤ i
    ·simp [h1, h2, Nat.sub_add_cancel h2]
    ·simp [h1, h2]; omega
   ·have : s.testBit i = false := Nat.testBit_lt_two_pow (Nat.lt_of_lt_of_le hs (Nat.pow_le_pow_right (n := 2) A2 (show 32 ≤ i by omega)))
    have h2 : 24 ≤ i := by omega
    simp [h1, h2, Nat.sub_add_cancel h2, this]
  exact e
 omega
end Go.Hy
namespace Go.Hy
def B5z (g : Cl → Bool) (l : List Cl) : Int := if l.any g then (l.findIdx g : Int) else -1
theorem Gx {α : Type} {d : α} {l : List α} {i : Nat} (h : i < l.length) : l.getD i d = l[i] := by
 rw [List.getD_eq_getElem?_getD, List.getElem?_eq_getElem h]; rfl
theorem D0u {g : Cl → Bool} {l : List Cl} {i : Nat} (h : i < l.length) (hg : g (l.getD i Bc) = true) (hb : ∀ j, j < i → g (l.getD j Bc) = false) : B5z g l = i := by
 have hany : l.any g = true := List.any_eq_true.mpr ⟨_, Ai h, hg⟩
 have hidx : l.findIdx g = i := by
  rw [List.findIdx_eq h]
  refine ⟨by rw [← Gx (d := Bc) h]; exact hg, fun j hj => ?_⟩
  have := hb j hj
  rwa [Gx (d := Bc) A2] at this
 unfold B5z
 rw [hany, hidx]; rfl
theorem C1u {g : Cl → Bool} {l : List Cl} (hb : ∀ j, j < l.length → g (l.getD j Bc) = false) : B5z g l = -1 := by
 have hany : l.any g = false := by
  rw [List.any_eq_false]
  intro x hx
  obtain ⟨j, hj, e⟩ := List.mem_iff_getElem.mp hx
  have := hb j hj
  rw [Gx (d := Bc) hj, e] at this
  simp [this]
 unfold B5z; rw [hany]; rfl
theorem B2k (g : Cl → Bool) (l : List Cl) : decide (0 ≤ B5z g l) = l.any g := by
 unfold B5z
 cases l.any g
 ·rfl
 ·simp
def once (l : List Cl) : List Cl := l.foldl (fun o c => if c ∈ o then o else o ++ [c]) []
theorem C1c (l : List Cl) (c : Cl) : once (l ++ [c]) = if c ∈ once l then once l else once l ++ [c] := by
 unfold once; rw [List.foldl_append]; rfl
theorem Z7 (c : Cl) : ∀ (l o : List Cl), (c ∈ l.foldl (fun o c => if c ∈ o then o else o ++ [c]) o ↔ c ∈ o ∨ c ∈ l) ∧ (l.foldl (fun o c => if c ∈ o then o else o ++ [c]) o).length ≤ o.length + l.length
 | [], o => by simp
 | d :: l, o => by
  have ih := Z7 c l (if d ∈ o then o else o ++ [d])
  rw [List.foldl_cons]
  constructor
  ·rw [ih.1, List.mem_cons]
   split
   ·rename_i h
    constructor
    ·rintro (h2 | h2)
     ·exact .inl h2
     ·exact .inr (.inr h2)
    ·rintro (h2 | h2 | h2)
     ·exact .inl h2
     ·exact .inl (h2 ▸ h)
     ·exact .inr h2
   ·rw [List.mem_append, List.mem_singleton, or_assoc]
  ·have h3 := ih.2
   have h4 : (if d ∈ o then o else o ++ [d]).length ≤ o.length + 1 := by split <;> simp
   simp only [List.length_cons]; omega
theorem Nu (c : Cl) (l : List Cl) : c ∈ once l ↔ c ∈ l := by
 have := (Z7 c l []).1
 simpa [once] using this
theorem Uj (l : List Cl) : (once l).length ≤ l.length := by
 have := (Z7 Bc l []).2
 simpa [once] using this
def Cw (l : List Cl) (c : Cl) : Bool := l.any fun d => !decide (c = d) && below c d
def kept (l : List Cl) : List Cl := (once l).filter fun c => !Cw (once l) c
def A8w (l l' : List Cl) : Prop := l'.Perm l ∧ l'.Pairwise fun a b => Dj b a = false
def Ih (l : List Cl) (r : Int × List Cl) : Prop :=
 if l.all Bw = false then r = (2, []) else if 64 < (kept l).length then r = (3, []) else r.1 = 0 ∧ A8w (kept l) r.2
end Go.Hy
namespace Go.Hy
theorem D7m {l : List Cl} {g : Cl → Bool} (h : ∀ j, j < l.length → g (l.getD j Bc) = true) : l.all g = true := by
 rw [List.all_eq_true]
 intro x hx
 obtain ⟨j, hj, e⟩ := List.mem_iff_getElem.mp hx
 have := h j hj
 rwa [Gx (d := Bc) hj, e] at this
theorem D1k {l : List Cl} {g : Cl → Bool} {i : Nat} (hi : i < l.length) (h : g (l.getD i Bc) = false) : l.all g = false := by
 rw [List.all_eq_false]
 exact ⟨l.getD i Bc, Ai hi, by rw [h]; decide⟩
def Gb (l : List Cl) (i : Nat) : List Cl := ((once l).take i).filter fun c => !Cw (once l) c
theorem S8 {l : List Cl} {i : Nat} (h : i < (once l).length) : Gb l (i + 1) = if Cw (once l) ((once l).getD i Bc) then Gb l i else Gb l i ++ [(once l).getD i Bc] := by
 unfold Gb
 rw [Ae (d := Bc) h, List.filter_append]
 cases hn : Cw (once l) ((once l).getD i Bc)
 ·rw [List.filter_cons_of_pos (by rw [hn]; rfl)]; simp
 ·rw [List.filter_cons_of_neg (by rw [hn]; decide)]; simp
theorem A7t (l : List Cl) : Gb l (once l).length = kept l := by simp [Gb, kept]
theorem A7s (l : List Cl) (i : Nat) : (Gb l i).length ≤ l.length := by
 unfold Gb
 have h1 := List.length_filter_le (fun c => !Cw (once l) c) ((once l).take i)
 have h2 := Uj l
 simp only [List.length_take] at h1
 omega
theorem Q1 {l : List Cl} {i : Nat} (h : i < l.length) : once (l.take (i + 1)) = if l.getD i Bc ∈ once (l.take i) then once (l.take i) else once (l.take i) ++ [l.getD i Bc] := by
 rw [Ae (d := Bc) h, C1c]
theorem A1q (l : List Cl) (i : Nat) : (once (l.take i)).length ≤ l.length := by
 have := Uj (l.take i); simp only [List.length_take] at this; omega
theorem C6v {l : List Cl} {c : Cl} (h : c ∈ kept l) : c ∈ l := by
 unfold kept at h
 exact (Nu c l).mp (List.mem_filter.mp h).1
end Go.Hy
namespace Go.Hy
theorem Nw (a b : Cl) : Dj a b = true ∨ a = b ∨ Dj b a = true := by
 obtain ⟨p, n⟩ := a
 obtain ⟨p', n'⟩ := b
 simp only [Dj, Bool.or_eq_true, Bool.and_eq_true, decide_eq_true_eq, Cl.mk.injEq]
 omega
theorem Ow {a b : Cl} (h : Dj a b = true) : Dj b a = false := by
 simp only [Dj, Bool.or_eq_true, Bool.and_eq_true, decide_eq_true_eq, Bool.or_eq_false_iff, Bool.and_eq_false_iff, decide_eq_false_iff_not] at *
 omega
theorem X3 {a b c : Cl} (h : Dj a b = true) (h2 : Dj b c = true) : Dj a c = true := by
 simp only [Dj, Bool.or_eq_true, Bool.and_eq_true, decide_eq_true_eq] at *
 omega
theorem R9 (a : Cl) : Dj a a = false := by simp [Dj]
theorem E1m {a b : Cl} (h : Dj a b = false) (h2 : Dj b a = false) : a = b := by
 rcases Nw a b with h3 | h3 | h3
 ·rw [h] at h3; cases h3
 ·exact h3
 ·rw [h2] at h3; cases h3
theorem A3c : ∀ {l m : List Cl}, l.Perm m → (l.Pairwise fun a b => Dj b a = false) → (m.Pairwise fun a b => Dj b a = false) → l = m
 | [], m, hp, _, _ => by have := hp.length_eq; cases m with | nil => rfl | cons _ _ => simp at this
 | a :: l, [], hp, _, _ => by have := hp.length_eq; simp at this
 | a :: l, b :: m, hp, h1, h2 => by
  rw [List.pairwise_cons] at h1 h2
  have ha : a ∈ b :: m := hp.mem_iff.mp List.mem_cons_self
  have hb : b ∈ a :: l := hp.mem_iff.mpr List.mem_cons_self
  have e : a = b := by
   rcases List.mem_cons.mp ha with h | h
   ·exact h
   ·rcases List.mem_cons.mp hb with h3 | h3
    ·exact h3.symm
    ·exact E1m (h2.1 a h |> fun x => x) (h1.1 b h3) |> fun x => by exact x
  subst e
  rw [A3c (List.Perm.cons_inv hp) h1.2 h2.2]
theorem Mo : ∀ {l : List Cl}, Od l = true ↔ l.Pairwise fun a b => Dj a b = true
 | [] => by simp [Od]
 | [a] => by simp [Od]
 | a :: b :: l => by
  rw [Od, Bool.and_eq_true, Mo (l := b :: l), List.pairwise_cons (a := a)]
  constructor
  ·rintro ⟨h1, h2⟩
   refine ⟨fun c hc => ?_, h2⟩
   rcases List.mem_cons.mp hc with h | h
   ·exact h ▸ h1
   ·exact X3 h1 ((List.pairwise_cons.mp h2).1 c h)
  ·rintro ⟨h1, h2⟩
   exact ⟨h1 b List.mem_cons_self, h2⟩
theorem A1r {l : List Cl} (h : l.Pairwise fun a b => Dj a b = true) : once l = l := by
 have : ∀ (m o : List Cl), ((o ++ m).Pairwise fun a b => Dj a b = true) → m.foldl (fun o c => if c ∈ o then o else o ++ [c]) o = o ++ m := by
  intro m
  induction m with
  | nil => intro o _; simp
  | cons c m ih =>
   intro o h
   rw [List.foldl_cons]
   have hn : c ∉ o := by
    intro hc
    have := (List.pairwise_append.mp h).2.2 c hc c List.mem_cons_self
    rw [R9] at this; cases this
   rw [if_neg hn, ih (o ++ [c]) (by simpa using h)]
   simp
 have := this l [] (by simpa using h)
 simpa [once] using this
theorem Wg {l : List Cl} : apart l = true ↔ ∀ a, a ∈ l → ∀ b, b ∈ l → a = b ∨ below a b = false := by
 unfold apart
 simp only [List.all_eq_true, Bool.or_eq_true, decide_eq_true_eq, Bool.not_eq_true']
theorem Jl {l : List Cl} {c : Cl} : Cw l c = false ↔ ∀ d, d ∈ l → c = d ∨ below c d = false := by
 unfold Cw
 rw [List.any_eq_false]
 constructor
 ·intro h d hd
  have := h d hd
  simp only [Bool.and_eq_true, Bool.not_eq_true', decide_eq_false_iff_not, not_and, Bool.not_eq_true] at this
  by_cases e : c = d
  ·exact .inl e
  ·exact .inr (this e)
 ·intro h d hd
  simp only [Bool.and_eq_true, Bool.not_eq_true', decide_eq_false_iff_not, not_and, Bool.not_eq_true]
  intro e
  exact (h d hd).resolve_left e
theorem Q9 {l : List Cl} {r : Int × List Cl} (h : Ih l r) : (decide (r.1 = 0) && decide (r.2 = l)) = Ag l := by
 rw [Bool.eq_iff_iff, Bool.and_eq_true, decide_eq_true_eq, decide_eq_true_eq]
 unfold Ih at h
 constructor
 ·rintro ⟨h1, h2⟩
  split at h
  ·rw [h] at h1; cases h1
  ·rename_i hr
   split at h
   ·rw [h] at h1; cases h1
   ·rename_i h64
    obtain ⟨_, hp, hs⟩ := h
    rw [h2] at hp hs
    have hr' : l.all Bw = true := by simpa using hr
    have hlen := hp.length_eq
    have hk1 : (kept l).length ≤ (once l).length := by unfold kept; exact List.length_filter_le _ _
    have ho := Uj l
    have hkeep : kept l = once l := by
     have : (kept l).Sublist (once l) := by unfold kept; exact List.filter_sublist
     exact this.eq_of_length A2
    have hnd : ∀ c, c ∈ l → Cw (once l) c = false := by
     intro c hc
     have : c ∈ kept l := hp.mem_iff.mp hc
     unfold kept at this
     have := (List.mem_filter.mp this).2
     simpa using this
    have hap : apart l = true := Wg.mpr fun a ha b hb => Jl.mp (hnd a ha) b ((Nu b l).mpr hb)
    have hnodup : (once l).Nodup := by
     have : ∀ (m o : List Cl), o.Nodup → (m.foldl (fun o c => if c ∈ o then o else o ++ [c]) o).Nodup := by
      intro m
      induction m with
      | nil => intro o h; exact h
      | cons c m ih =>
       intro o h
       rw [List.foldl_cons]
       apply ih
       split
       ·exact h
       ·rename_i hn
        rw [List.nodup_append]
        refine ⟨h, by simp, ?_⟩
        intro a ha b hb e
        rw [List.mem_singleton] at hb
        exact hn (hb ▸ e ▸ ha)
     exact this l [] List.nodup_nil
    have hln : l.Nodup := (hp.nodup_iff).mpr (hkeep ▸ hnodup)
    have hst : Od l = true := by
     rw [Mo]
     have hboth : l.Pairwise fun a b => Dj b a = false ∧ a ≠ b := hs.and hln
     exact hboth.imp fun {a b} ⟨h3, h4⟩ => by
      rcases Nw a b with h5 | h5 | h5
      ·exact h5
      ·exact absurd h5 h4
      ·rw [h3] at h5; cases h5
    unfold Ag
    rw [hr', hst, hap]
    simp; omega
 ·intro hf
  unfold Ag at hf
  simp only [Bool.and_eq_true, decide_eq_true_eq] at hf
  obtain ⟨⟨⟨hr, hs⟩, ha⟩, h64⟩ := hf
  have hs' := Mo.mp hs
  have ho := A1r hs'
  have hk : kept l = l := by
   unfold kept
   rw [ho, List.filter_eq_self]
   intro c hc
   have : Cw l c = false := Jl.mpr fun d hd => Wg.mp ha c hc d hd
   simp [this]
  rw [hr, if_neg Fb, hk, if_neg A2] at h
  exact ⟨h.1, A3c h.2.1 h.2.2 (hs'.imp fun h => Ow h)⟩
def F4 (s : Nat) (i : Int) : Bool := decide (0 ≤ i) && decide (i < 24) && s.testBit i.toNat
theorem D0v (s : Nat) (i : Int) : F4 s i = (decide (0 ≤ i) && decide (i < 24) && decide (s / 2 ^ i.toNat % 2 = 1)) := by
 unfold F4; rw [Nat.testBit_eq_decide_div_mod_eq]
def Q6 (s n : Nat) : List Int := ((List.range n).filter s.testBit).map fun (i : Nat) => (i : Int)
abbrev Bi (s : Nat) : List Int := Q6 s 24
theorem A4l {s n : Nat} {x : Int} (h : x ∈ Q6 s n) : 0 ≤ x ∧ x < n := by
 unfold Q6 at h
 simp only [List.mem_map, List.mem_filter, List.mem_range] at h
 obtain ⟨i, ⟨h1, _⟩, rfl⟩ := h
 omega
theorem K5 {s n : Nat} {x : Int} : x ∈ Q6 s n ↔ 0 ≤ x ∧ x < n ∧ s.testBit x.toNat = true := by
 unfold Q6
 simp only [List.mem_map, List.mem_filter, List.mem_range]
 constructor
 ·rintro ⟨i, ⟨h1, h2⟩, rfl⟩; exact ⟨by omega, by omega, by simpa using h2⟩
 ·rintro ⟨h1, h2, h3⟩; exact ⟨x.toNat, ⟨by omega, h3⟩, by omega⟩
theorem K6 (s n : Nat) : (Q6 s n).length ≤ n := by
 unfold Q6
 rw [List.length_map]
 have := List.length_filter_le s.testBit (List.range n)
 simpa using this
theorem A5p (s : Nat) : s &&& 16777215 = s % 2 ^ 24 := by
 rw [show (16777215 : Nat) = 2 ^ 24 - 1 from rfl, Nat.and_two_pow_sub_one_eq_mod]
theorem C4a {p : Nat → Prop} {i : Nat} (h : ∀ j, j < i → p j) (hi : p i) : ∀ j, j < i + 1 → p j := fun j hj => by
 rcases Nat.lt_succ_iff_lt_or_eq.mp hj with h2 | h2
 ·exact h j h2
 ·exact h2 ▸ hi
theorem Xd {α : Type} {d : α} {l : List α} {g : α → Bool} (h : ∀ j, j < l.length → g (l.getD j d) = true) : l.all g = true := by
 rw [List.all_eq_true]
 intro x hx
 obtain ⟨j, hj, e⟩ := List.mem_iff_getElem.mp hx
 have := h j hj
 rwa [Gx (d := d) hj, e] at this
theorem Vd {α : Type} {d : α} {l : List α} {g : α → Bool} {i : Nat} (hi : i < l.length) (h : g (l.getD i d) = false) : l.all g = false := by
 rw [List.all_eq_false]
 exact ⟨l.getD i d, Ai hi, by rw [h]; decide⟩
def A1w (c : Cl) : List Cl → List Cl
 | [] => [c]
 | d :: l => if Dj d c then d :: A1w c l else if d = c then d :: l else c :: d :: l
def rl (l : List Cl) (m : List Cl) : List Cl := m.foldl (fun o c => if Cw l c then o else A1w c o) []
abbrev Eh (l : List Cl) : List Cl := rl l l
theorem Zt {c x : Cl} : ∀ {l : List Cl}, x ∈ A1w c l ↔ x = c ∨ x ∈ l
 | [] => by simp [A1w]
 | d :: l => by
  unfold A1w
  split
  ·rw [List.mem_cons, Zt (l := l), List.mem_cons]
   constructor
   ·rintro (h | h | h)
    ·exact .inr (.inl h)
    ·exact .inl h
    ·exact .inr (.inr h)
   ·rintro (h | h | h)
    ·exact .inr (.inl h)
    ·exact .inl h
    ·exact .inr (.inr h)
  ·split
   ·rename_i h
    subst h
    simp
   ·simp
theorem X5 {c : Cl} : ∀ {l : List Cl}, (l.Pairwise fun a b => Dj a b = true) → (A1w c l).Pairwise fun a b => Dj a b = true
 | [], _ => by simp [A1w]
 | d :: l, h => by
  rw [List.pairwise_cons] at h
  unfold A1w
  split
  ·rename_i hd
   rw [List.pairwise_cons]
   refine ⟨fun x hx => ?_, X5 h.2⟩
   rcases Zt.mp hx with e | e
   ·exact e ▸ hd
   ·exact h.1 x e
  ·rename_i hd
   split
   ·exact List.pairwise_cons.mpr h
   ·rename_i hne
    have hcd : Dj c d = true := by
     rcases Nw c d with h3 | h3 | h3
     ·exact h3
     ·exact absurd h3.symm hne
     ·exact absurd h3 hd
    rw [List.pairwise_cons]
    refine ⟨fun x hx => ?_, List.pairwise_cons.mpr h⟩
    rcases List.mem_cons.mp hx with e | e
    ·exact e ▸ hcd
    ·exact X3 hcd (h.1 x e)
theorem A3n (l : List Cl) : ∀ (m o : List Cl), (o.Pairwise fun a b => Dj a b = true) → (m.foldl (fun o c => if Cw l c then o else A1w c o) o).Pairwise fun a b => Dj a b = true
 | [], o, h => h
 | c :: m, o, h => by
  rw [List.foldl_cons]
  apply A3n l m
  split
  ·exact h
  ·exact X5 h
theorem C4l (l : List Cl) (x : Cl) : ∀ (m o : List Cl), x ∈ m.foldl (fun o c => if Cw l c then o else A1w c o) o ↔ x ∈ o ∨ (x ∈ m ∧ Cw l x = false)
 | [], o => by simp
 | c :: m, o => by
  rw [List.foldl_cons, C4l l x m]
  by_cases hn : Cw l c = true
  ·rw [if_pos hn, List.mem_cons]
   constructor
   ·rintro (h | ⟨h, h2⟩)
    ·exact .inl h
    ·exact .inr ⟨.inr h, h2⟩
   ·rintro (h | ⟨h | h, h2⟩)
    ·exact .inl h
    ·subst h; rw [hn] at h2; cases h2
    ·exact .inr ⟨h, h2⟩
  ·rw [if_neg hn, Zt, List.mem_cons]
   constructor
   ·rintro ((h | h) | ⟨h, h2⟩)
    ·subst h; exact .inr ⟨.inl rfl, by simpa using hn⟩
    ·exact .inl h
    ·exact .inr ⟨.inr h, h2⟩
   ·rintro (h | ⟨h | h, h2⟩)
    ·exact .inl (.inr h)
    ·exact .inl (.inl h)
    ·exact .inr ⟨h, h2⟩
theorem Ec {l : List Cl} {x : Cl} : x ∈ Eh l ↔ x ∈ l ∧ Cw l x = false := by
 have := C4l l x l []
 simpa [Eh, rl] using this
theorem Ie (l : List Cl) : (Eh l).Pairwise fun a b => Dj a b = true := A3n l l [] List.Pairwise.nil
theorem Sk : ∀ {l m : List Cl}, (l.Pairwise fun a b => Dj a b = true) → (m.Pairwise fun a b => Dj a b = true) → (∀ x, x ∈ l ↔ x ∈ m) → l = m
 | [], [], _, _, _ => rfl
 | [], b :: m, _, _, h => by have := (h b).mpr List.mem_cons_self; cases this
 | a :: l, [], _, _, h => by have := (h a).mp List.mem_cons_self; cases this
 | a :: l, b :: m, h1, h2, h => by
  rw [List.pairwise_cons] at h1 h2
  have e : a = b := by
   rcases List.mem_cons.mp ((h a).mp List.mem_cons_self) with h3 | h3
   ·exact h3
   ·rcases List.mem_cons.mp ((h b).mpr List.mem_cons_self) with h4 | h4
    ·exact h4.symm
    ·have h5 := h2.1 a h3
     have h6 := h1.1 b h4
     rw [Ow h5] at h6; cases h6
  subst e
  congr 1
  apply Sk h1.2 h2.2
  intro x
  have hx := h x
  rw [List.mem_cons, List.mem_cons] at hx
  constructor
  ·intro h3
   rcases hx.mp (.inr h3) with h4 | h4
   ·subst h4; have := h1.1 x h3; rw [R9] at this; cases this
   ·exact h4
  ·intro h3
   rcases hx.mpr (.inr h3) with h4 | h4
   ·subst h4; have := h2.1 x h3; rw [R9] at this; cases this
   ·exact h4
theorem A1u (l : List Cl) (c : Cl) : Cw (once l) c = Cw l c := by
 unfold Cw
 rw [Bool.eq_iff_iff, List.any_eq_true, List.any_eq_true]
 constructor
 ·rintro ⟨d, h1, h2⟩; exact ⟨d, (Nu d l).mp h1, h2⟩
 ·rintro ⟨d, h1, h2⟩; exact ⟨d, (Nu d l).mpr h1, h2⟩
theorem B5f (l : List Cl) : (once l).Nodup := by
 have : ∀ (m o : List Cl), o.Nodup → (m.foldl (fun o c => if c ∈ o then o else o ++ [c]) o).Nodup := by
  intro m
  induction m with
  | nil => intro o h; exact h
  | cons c m ih =>
   intro o h
   rw [List.foldl_cons]
   apply ih
   split
   ·exact h
   ·rename_i hn
    rw [List.nodup_append]
    refine ⟨h, by simp, ?_⟩
    intro a ha b hb e
    rw [List.mem_singleton] at hb
    exact hn (hb ▸ e ▸ ha)
 exact this l [] List.nodup_nil
theorem A3d (l : List Cl) : ∃ m, A8w l m := by
 refine ⟨l.mergeSort (fun a b => !Dj b a), List.mergeSort_perm _ _, ?_⟩
 have := List.pairwise_mergeSort (le := fun a b => !Dj b a) (fun a b c h1 h2 => by
  simp only [Bool.not_eq_true'] at *
  simp only [Dj, Bool.or_eq_false_iff, Bool.and_eq_false_iff, decide_eq_false_iff_not] at *
  omega) (fun a b => by
  rcases Nw a b with h | h | h
  ·simp [Ow h]
  ·subst h; simp [R9]
  ·simp [Ow h]) l
 exact this.imp fun h => by simpa using h
theorem A3e {l m : List Cl} (h : A8w (kept l) m) : m = Eh l := by
 have hnd : m.Nodup := (h.1.nodup_iff).mpr (by unfold kept; exact (B5f l).filter _)
 have hb : m.Pairwise fun a b => Dj b a = false ∧ a ≠ b := h.2.and hnd
 refine Sk ?_ (Ie l) (fun x => ?_)
 ·exact hb.imp fun {a b} ⟨h3, h4⟩ => by
   rcases Nw a b with h5 | h5 | h5
   ·exact h5
   ·exact absurd h5 h4
   ·rw [h3] at h5; cases h5
 ·rw [h.1.mem_iff, Ec]
  unfold kept
  rw [List.mem_filter, Nu, A1u]
  simp
def Bk (l : List Cl) : Int × List Cl := if l.all Bw = false then (2, []) else if 64 < (Eh l).length then (3, []) else (0, Eh l)
theorem Zs {l : List Cl} {r : Int × List Cl} (h : Ih l r) : r = Bk l := by
 unfold Ih at h
 unfold Bk
 by_cases h1 : l.all Bw = false
 ·rw [if_pos h1] at h ⊢; exact h
 ·rw [if_neg h1] at h ⊢
  by_cases h2 : 64 < (kept l).length
  ·have h3 : (kept l).length = (Eh l).length := by
    obtain ⟨m, hm⟩ := A3d (kept l)
    rw [← hm.1.length_eq, A3e hm]
   rw [if_pos h2] at h
   rw [if_pos A2]; exact h
  ·rw [if_neg h2] at h
   have e := A3e h.2
   have h3 : (kept l).length = (Eh l).length := by rw [← h.2.1.length_eq, e]
   rw [if_neg A2]
   exact Prod.ext h.1 e
theorem Ut (l : List Cl) : (decide ((Bk l).1 = 0) && decide ((Bk l).2 = l)) = Ag l := by
 obtain ⟨r, hr⟩ : ∃ r, Ih l r := by
  unfold Ih
  by_cases h1 : l.all Bw = false
  ·exact ⟨_, by rw [if_pos h1]⟩
  ·by_cases h2 : 64 < (kept l).length
   ·exact ⟨_, by rw [if_neg h1, if_pos h2]⟩
   ·obtain ⟨m, hm⟩ := A3d (kept l)
    exact ⟨(0, m), by rw [if_neg h1, if_neg h2]; exact ⟨rfl, hm⟩⟩
 rw [← Zs hr]
 exact Q9 hr
def D2p (t : T) (ks : List Nat) (bs : List (List Nat)) : Nat := 1 + t.r.length + t.name.size + ks.sum + ((t.sys.zip bs).map fun p => 1 + p.1.Ad.length + p.2.sum).sum
def Jq : T → Nat := tf D2p
def Qm (b : Br) : Nat := 1 + b.Ad.length + (b.kids.map Jq).sum
theorem Xv (t : T) : Jq t = 1 + t.r.length + t.name.size + (t.kids.map Jq).sum + (t.sys.map Qm).sum := by
 conv => lhs; rw [Jq, D1w]
 unfold D2p
 congr 2
 generalize t.sys = l
 induction l with
 | nil => rfl
 | cons b l ih => simp only [List.map_cons, List.zip_cons_cons, List.map_cons]; rw [ih]; rfl
def bK (t : T) (i : Nat) : Nat := 1 + t.r.length + t.name.size + ((t.kids.take i).map Jq).sum
def bS (t : T) (i : Nat) : Nat := bK t t.kids.length + ((t.sys.take i).map Qm).sum
def bJ (t : T) (i j : Nat) : Nat := bS t i + 1 + (t.sys.getD i Bf).Ad.length + (((t.sys.getD i Bf).kids.take j).map Jq).sum
theorem N3 {α : Type} (f : α → Nat) {l : List α} {i : Nat} {d : α} (h : i < l.length) : ((l.take (i + 1)).map f).sum = ((l.take i).map f).sum + f (l.getD i d) := by
 rw [Ae (d := d) h, List.map_append, List.sum_append]; simp
theorem Mm {α : Type} (f : α → Nat) : ∀ (l : List α) (i : Nat), ((l.take i).map f).sum ≤ (l.map f).sum
 | [], i => by simp
 | a :: l, 0 => by simp
 | a :: l, i + 1 => by have := Mm f l i; simp only [List.take_succ_cons, List.map_cons, List.sum_cons]; omega
theorem A8p (t : T) : bK t 0 = 1 + t.r.length + t.name.size := by simp [bK]
theorem D1i {t : T} {i : Nat} (h : i < t.kids.length) : bK t (i + 1) = bK t i + Jq (t.kids.getD i t0) := by
 unfold bK; rw [N3 Jq h (d := t0)]; omega
theorem D1h (t : T) : bS t 0 = bK t t.kids.length := by simp [bS]
theorem B9l (t : T) (i : Nat) : bJ t i 0 = bS t i + 1 + (t.sys.getD i Bf).Ad.length := by simp [bJ]
theorem D1j {t : T} {i j : Nat} (h : j < (t.sys.getD i Bf).kids.length) : bJ t i (j + 1) = bJ t i j + Jq ((t.sys.getD i Bf).kids.getD j t0) := by
 unfold bJ; rw [N3 Jq h (d := t0)]; omega
theorem A8o {t : T} {i : Nat} (h : i < t.sys.length) : bS t (i + 1) = bJ t i (t.sys.getD i Bf).kids.length := by
 unfold bS bJ bS; rw [N3 Qm h (d := Bf), List.take_length]; unfold Qm; omega
theorem D7k (t : T) : bS t t.sys.length = Jq t := by
 rw [Xv]; unfold bS bK; rw [List.take_length, List.take_length]
theorem D2t (t : T) (i : Nat) : bS t i ≤ Jq t := by
 rw [Xv]; unfold bS bK; rw [List.take_length]; have := Mm Qm t.sys i; omega
theorem B9k (t : T) (i : Nat) : bK t i ≤ Jq t := by
 rw [Xv]; unfold bK; have := Mm Jq t.kids i; omega
theorem D2u {t : T} {i j : Nat} (h : i < t.sys.length) : bJ t i j ≤ Jq t := by
 have h1 := D2t t (i + 1)
 rw [A8o h] at h1
 unfold bJ at h1 ⊢
 rw [List.take_length] at h1
 have := Mm Jq (t.sys.getD i Bf).kids j
 omega
def Fl (t : T) (part : Nat) (Df n : Int) : Prop := 0 ≤ n ∧ n ≤ 2 * Df + 1 ∧ ((n ≤ Df ∧ n = part) ∨ (Df < n ∧ Df < Jq t))
theorem A6h : ∀ t, size t ≤ Jq t := T.ind fun t ih => by
 have hk : ∀ (F G : T → Nat) (l : List T), (∀ k, k ∈ l → F k ≤ G k) → (l.map F).sum ≤ (l.map G).sum := by
  intro F G l
  induction l with
  | nil => intro _; simp
  | cons a l ih => intro h; have := ih (fun k hk => h k (List.mem_cons_of_mem _ hk)); have := h a List.mem_cons_self; simp only [List.map_cons, List.sum_cons]; omega
 have e : size t = 1 + ((parts t).map fun p => size p.1).sum := by
  rw [size_eq]
  have : ∀ (l : List Part) (a : Nat), l.foldl (fun a p => a + size p.1) a = a + (l.map fun p => size p.1).sum := by
   intro l
   induction l with
   | nil => intro a; simp
   | cons b l ih => intro a; rw [List.foldl_cons, ih]; simp; omega
  exact this _ _
 rw [e, Lk, Xv, List.sum_append]
 have h1 := hk size Jq t.kids (fun k hk => by obtain ⟨p, hp, e⟩ := F8 hk; exact e ▸ ih p hp)
 have h2 : ((t.sys.map fun b => b.kids.map size).flatten).sum ≤ (t.sys.map Qm).sum := by
  have : ∀ (l : List Br), (∀ b, b ∈ l → b ∈ t.sys) → ((l.map fun b => b.kids.map size).flatten).sum ≤ (l.map Qm).sum := by
   intro l
   induction l with
   | nil => intro _; simp
   | cons b l ih2 =>
    intro h
    have h3 := ih2 (fun b hb => h b (List.mem_cons_of_mem _ hb))
    have h4 := hk size Jq b.kids (fun k hk => by obtain ⟨p, hp, e⟩ := H0 (h b List.mem_cons_self) hk; exact e ▸ ih p hp)
    simp only [List.map_cons, List.flatten_cons, List.sum_append, List.sum_cons]
    have hb : Qm b = 1 + b.Ad.length + (b.kids.map Jq).sum := rfl
    rw [hb]
    omega
  exact this t.sys (fun _ h => h)
 omega
end Go.Hy
namespace Go.Proofs.YtibignmpjeemeaaGreatDoor.Hy
open Go.Proofs
set_option maxRecDepth 100000
set_option maxHeartbeats 8000000
def D3g : Nat → Option (TypeDesc)
 | 1 => some (.func #[] #[] false)
 | 2 => some (.int .i64)
 | 3 => some (.int .i64)
 | 4 => some (.bool)
 | 5 => some (.int .u8)
 | 9 => some (.string)
 | 12 => some (.int .u64)
 | 20 => some (.interface #[])
 | 21 => some (.int .i32)
 | 22 => some (.slice 107)
 | 23 => some (.slice 26)
 | 24 => some (.slice 77)
 | 27 => some (.slice 22)
 | 30 => some (.func #[26] #[4] false)
 | 31 => some (.func #[29] #[4] false)
 | 32 => some (.func #[] #[4] false)
 | 33 => some (.func #[26] #[26] false)
 | 34 => some (.int .i64)
 | 36 => some (.func #[26, 37] #[26, 34] false)
 | 45 => some (.func #[26, 3, 3] #[4] false)
 | 82 => some (.func #[26, 29] #[26] false)
 | 89 => some (.int .u32)
 | 91 => some (.int .u64)
 | 109 => some (.pointer 111)
 | 118 => some (.func #[22, 3] #[22, 34] false)
 | 119 => some (.func #[22, 3] #[22, 34] false)
 | 131 => some (.func #[3] #[3] false)
 | 140 => some (.slice 3)
 | 142 => some (.func #[22, 107] #[22, 34] false)
 | 151 => some (.func #[23] #[23] false)
 | 154 => some (.func #[24] #[3] false)
 | 156 => some (.func #[26, 3, 22] #[26] false)
 | 157 => some (.func #[26, 26, 26, 22] #[26] false)
 | 161 => some (.func #[22, 3, 22] #[22, 34] false)
 | 163 => some (.func #[161] #[119] false)
 | 164 => some (.func #[26, 3] #[22, 34] false)
 | 165 => some (.func #[23, 3, 131] #[23, 34] false)
 | 168 => some (.func #[107, 3, 3] #[107, 34] false)
 | 170 => some (.func #[9] #[4] false)
 | 172 => some (.map 107 4)
 | 173 => some (.func #[107] #[4] false)
 | 177 => some (.func #[107, 107] #[3] false)
 | 186 => some (.func #[26, 3, 22, 3, 4] #[26] false)
 | 187 => some (.func #[3, 26, 26, 26] #[26] false)
 | 188 => some (.func #[3, 23] #[26] false)
 | 193 => some (.func #[] #[26] false)
 | 197 => some (.func #[22, 198] #[22] false)
 | 198 => some (.func #[107] #[107, 4] false)
 | 199 => some (.func #[] #[37, 34] false)
 | 200 => some (.array 29 3)
 | 211 => some (.func #[77] #[4] false)
 | 217 => some (.int .u64)
 | 220 => some (.int .i64)
 | 228 => some (.array 32 5)
 | 232 => some (.func #[22, 3, 22] #[22, 3] false)
 | 234 => some (.func #[3] #[91] false)
 | 237 => some (.pointer 3)
 | 251 => some (.pointer 5)
 | _ => none
def D3h : Nat → Option (Nat × Nat × Value)
 | 1 => some (1, 8, .nilFunc)
 | 2 => some (1, 8, .int .i64 0)
 | 3 => some (1, 8, .int .i64 0)
 | 4 => some (1, 1, .bool false)
 | 5 => some (1, 1, .int .u8 0)
 | 9 => some (1, 16, .string ⟨#[]⟩)
 | 12 => some (1, 8, .int .u64 0)
 | 21 => some (1, 4, .int .i32 0)
 | 22 => some (1, 24, .slice none 0 0)
 | 23 => some (1, 24, .slice none 0 0)
 | 24 => some (1, 24, .slice none 0 0)
 | 25 => some (6, 104, .agg #[.int .i64 0, .int .i64 0, .string ⟨#[]⟩, .slice none 0 0, .slice none 0 0, .slice none 0 0])
 | 26 => some (6, 104, .agg #[.int .i64 0, .int .i64 0, .string ⟨#[]⟩, .slice none 0 0, .slice none 0 0, .slice none 0 0])
 | 27 => some (1, 24, .slice none 0 0)
 | 28 => some (2, 48, .agg #[.slice none 0 0, .slice none 0 0])
 | 29 => some (2, 48, .agg #[.slice none 0 0, .slice none 0 0])
 | 30 => some (1, 8, .nilFunc)
 | 31 => some (1, 8, .nilFunc)
 | 32 => some (1, 8, .nilFunc)
 | 33 => some (1, 8, .nilFunc)
 | 34 => some (1, 8, .int .i64 0)
 | 36 => some (1, 8, .nilFunc)
 | 37 => some (2, 48, .agg #[.slice none 0 0, .slice none 0 0])
 | 45 => some (1, 8, .nilFunc)
 | 76 => some (2, 48, .agg #[.slice none 0 0, .slice none 0 0])
 | 77 => some (2, 48, .agg #[.slice none 0 0, .slice none 0 0])
 | 82 => some (1, 8, .nilFunc)
 | 89 => some (1, 4, .int .u32 0)
 | 91 => some (1, 8, .int .u64 0)
 | 94 => some (4, 32, .agg #[.nilFunc, .nilFunc, .nilFunc, .nilFunc])
 | 95 => some (4, 32, .agg #[.nilFunc, .nilFunc, .nilFunc, .nilFunc])
 | 106 => some (2, 8, .agg #[.int .u32 0, .int .u32 0])
 | 107 => some (2, 8, .agg #[.int .u32 0, .int .u32 0])
 | 109 => some (1, 8, .pointer none)
 | 110 => some (1, 8, .agg #[.int .i64 0])
 | 111 => some (1, 8, .agg #[.int .i64 0])
 | 118 => some (1, 8, .nilFunc)
 | 119 => some (1, 8, .nilFunc)
 | 120 => some (2, 16, .agg #[.nilFunc, .nilFunc])
 | 121 => some (2, 16, .agg #[.nilFunc, .nilFunc])
 | 131 => some (1, 8, .nilFunc)
 | 140 => some (1, 24, .slice none 0 0)
 | 142 => some (1, 8, .nilFunc)
 | 151 => some (1, 8, .nilFunc)
 | 154 => some (1, 8, .nilFunc)
 | 156 => some (1, 8, .nilFunc)
 | 157 => some (1, 8, .nilFunc)
 | 161 => some (1, 8, .nilFunc)
 | 163 => some (1, 8, .nilFunc)
 | 164 => some (1, 8, .nilFunc)
 | 165 => some (1, 8, .nilFunc)
 | 168 => some (1, 8, .nilFunc)
 | 170 => some (1, 8, .nilFunc)
 | 172 => some (1, 8, .map none)
 | 173 => some (1, 8, .nilFunc)
 | 177 => some (1, 8, .nilFunc)
 | 186 => some (1, 8, .nilFunc)
 | 187 => some (1, 8, .nilFunc)
 | 188 => some (1, 8, .nilFunc)
 | 190 => some (2, 16, .agg #[.int .i64 0, .int .i64 0])
 | 191 => some (2, 16, .agg #[.int .i64 0, .int .i64 0])
 | 193 => some (1, 8, .nilFunc)
 | 197 => some (1, 8, .nilFunc)
 | 198 => some (1, 8, .nilFunc)
 | 199 => some (1, 8, .nilFunc)
 | 200 => some (29, 232, .agg #[.int .i64 0, .int .i64 0, .int .i64 0, .int .i64 0, .int .i64 0, .int .i64 0, .int .i64 0, .int .i64 0, .int .i64 0, .int .i64 0, .int .i64 0, .int .i64 0, .int .i64 0, .int .i64 0, .int .i64 0, .int .i64 0, .int .i64 0, .int .i64 0, .int .i64 0, .int .i64 0, .int .i64 0, .int .i64 0, .int .i64 0, .int .i64 0, .int .i64 0, .int .i64 0, .int .i64 0, .int .i64 0, .int .i64 0])
 | 211 => some (1, 8, .nilFunc)
 | 217 => some (1, 8, .int .u64 0)
 | 220 => some (1, 8, .int .i64 0)
 | 228 => some (32, 32, .agg #[.int .u8 0, .int .u8 0, .int .u8 0, .int .u8 0, .int .u8 0, .int .u8 0, .int .u8 0, .int .u8 0, .int .u8 0, .int .u8 0, .int .u8 0, .int .u8 0, .int .u8 0, .int .u8 0, .int .u8 0, .int .u8 0, .int .u8 0, .int .u8 0, .int .u8 0, .int .u8 0, .int .u8 0, .int .u8 0, .int .u8 0, .int .u8 0, .int .u8 0, .int .u8 0, .int .u8 0, .int .u8 0, .int .u8 0, .int .u8 0, .int .u8 0, .int .u8 0])
 | 232 => some (1, 8, .nilFunc)
 | 234 => some (1, 8, .nilFunc)
 | 237 => some (1, 8, .pointer none)
 | 251 => some (1, 8, .pointer none)
 | _ => none
def C0f : Nat → Option (List (Nat × Nat))
 | 25 => some ([(0, 1), (1, 1), (2, 1), (3, 1), (4, 1), (5, 1)])
 | 26 => some ([(0, 1), (1, 1), (2, 1), (3, 1), (4, 1), (5, 1)])
 | 28 => some ([(0, 1), (1, 1)])
 | 29 => some ([(0, 1), (1, 1)])
 | 37 => some ([(0, 1), (1, 1)])
 | 76 => some ([(0, 1), (1, 1)])
 | 77 => some ([(0, 1), (1, 1)])
 | 94 => some ([(0, 1), (1, 1), (2, 1), (3, 1)])
 | 95 => some ([(0, 1), (1, 1), (2, 1), (3, 1)])
 | 106 => some ([(0, 1), (1, 1)])
 | 107 => some ([(0, 1), (1, 1)])
 | 110 => some ([(0, 1)])
 | 111 => some ([(0, 1)])
 | 120 => some ([(0, 1), (1, 1)])
 | 121 => some ([(0, 1), (1, 1)])
 | 190 => some ([(0, 1), (1, 1)])
 | 191 => some ([(0, 1), (1, 1)])
 | _ => none
def D3i (t j : Nat) : Option Nat := (C0f t).bind fun l => (l[j]?).map (·.1)
noncomputable abbrev ii_ (t : Nat) := (Tryz.prog.info? t).map fun i => (i.size, i.bytes, i.zero)
theorem E2m : ii_ 1 = some (1, 8, some (.nilFunc)) := by kernel_rfl
theorem E2l : ii_ 2 = some (1, 8, some (.int .i64 0)) := by kernel_rfl
theorem E2k : ii_ 3 = some (1, 8, some (.int .i64 0)) := by kernel_rfl
theorem E2j : ii_ 4 = some (1, 1, some (.bool false)) := by kernel_rfl
theorem E2i : ii_ 5 = some (1, 1, some (.int .u8 0)) := by kernel_rfl
theorem E2h : ii_ 9 = some (1, 16, some (.string ⟨#[]⟩)) := by kernel_rfl
theorem E1c : ii_ 12 = some (1, 8, some (.int .u64 0)) := by kernel_rfl
theorem E1b : ii_ 21 = some (1, 4, some (.int .i32 0)) := by kernel_rfl
theorem E1a : ii_ 22 = some (1, 24, some (.slice none 0 0)) := by kernel_rfl
theorem E0z : ii_ 23 = some (1, 24, some (.slice none 0 0)) := by kernel_rfl
theorem E0y : ii_ 24 = some (1, 24, some (.slice none 0 0)) := by kernel_rfl
theorem E0x : ii_ 25 = some (6, 104, some (.agg #[.int .i64 0, .int .i64 0, .string ⟨#[]⟩, .slice none 0 0, .slice none 0 0, .slice none 0 0])) := by kernel_rfl
theorem E0w : ii_ 26 = some (6, 104, some (.agg #[.int .i64 0, .int .i64 0, .string ⟨#[]⟩, .slice none 0 0, .slice none 0 0, .slice none 0 0])) := by kernel_rfl
theorem E0v : ii_ 27 = some (1, 24, some (.slice none 0 0)) := by kernel_rfl
theorem E0u : ii_ 28 = some (2, 48, some (.agg #[.slice none 0 0, .slice none 0 0])) := by kernel_rfl
theorem E0t : ii_ 29 = some (2, 48, some (.agg #[.slice none 0 0, .slice none 0 0])) := by kernel_rfl
theorem E0s : ii_ 30 = some (1, 8, some (.nilFunc)) := by kernel_rfl
theorem E0r : ii_ 31 = some (1, 8, some (.nilFunc)) := by kernel_rfl
theorem E0q : ii_ 32 = some (1, 8, some (.nilFunc)) := by kernel_rfl
theorem E0p : ii_ 33 = some (1, 8, some (.nilFunc)) := by kernel_rfl
theorem E0o : ii_ 34 = some (1, 8, some (.int .i64 0)) := by kernel_rfl
theorem E0n : ii_ 36 = some (1, 8, some (.nilFunc)) := by kernel_rfl
theorem E0m : ii_ 37 = some (2, 48, some (.agg #[.slice none 0 0, .slice none 0 0])) := by kernel_rfl
theorem E0l : ii_ 45 = some (1, 8, some (.nilFunc)) := by kernel_rfl
theorem E0k : ii_ 76 = some (2, 48, some (.agg #[.slice none 0 0, .slice none 0 0])) := by kernel_rfl
theorem E0j : ii_ 77 = some (2, 48, some (.agg #[.slice none 0 0, .slice none 0 0])) := by kernel_rfl
theorem E0i : ii_ 82 = some (1, 8, some (.nilFunc)) := by kernel_rfl
theorem E0h : ii_ 89 = some (1, 4, some (.int .u32 0)) := by kernel_rfl
theorem E0g : ii_ 91 = some (1, 8, some (.int .u64 0)) := by kernel_rfl
theorem E0f : ii_ 94 = some (4, 32, some (.agg #[.nilFunc, .nilFunc, .nilFunc, .nilFunc])) := by kernel_rfl
theorem E0e : ii_ 95 = some (4, 32, some (.agg #[.nilFunc, .nilFunc, .nilFunc, .nilFunc])) := by kernel_rfl
theorem D6y : ii_ 106 = some (2, 8, some (.agg #[.int .u32 0, .int .u32 0])) := by kernel_rfl
theorem D6x : ii_ 107 = some (2, 8, some (.agg #[.int .u32 0, .int .u32 0])) := by kernel_rfl
theorem D6w : ii_ 109 = some (1, 8, some (.pointer none)) := by kernel_rfl
theorem D6v : ii_ 110 = some (1, 8, some (.agg #[.int .i64 0])) := by kernel_rfl
theorem D6u : ii_ 111 = some (1, 8, some (.agg #[.int .i64 0])) := by kernel_rfl
theorem D6t : ii_ 118 = some (1, 8, some (.nilFunc)) := by kernel_rfl
theorem D6s : ii_ 119 = some (1, 8, some (.nilFunc)) := by kernel_rfl
theorem D6r : ii_ 120 = some (2, 16, some (.agg #[.nilFunc, .nilFunc])) := by kernel_rfl
theorem D6q : ii_ 121 = some (2, 16, some (.agg #[.nilFunc, .nilFunc])) := by kernel_rfl
theorem D6p : ii_ 131 = some (1, 8, some (.nilFunc)) := by kernel_rfl
theorem D6o : ii_ 140 = some (1, 24, some (.slice none 0 0)) := by kernel_rfl
theorem D6n : ii_ 142 = some (1, 8, some (.nilFunc)) := by kernel_rfl
theorem D6m : ii_ 151 = some (1, 8, some (.nilFunc)) := by kernel_rfl
theorem D6l : ii_ 154 = some (1, 8, some (.nilFunc)) := by kernel_rfl
theorem D6k : ii_ 156 = some (1, 8, some (.nilFunc)) := by kernel_rfl
theorem D6j : ii_ 157 = some (1, 8, some (.nilFunc)) := by kernel_rfl
theorem D6i : ii_ 161 = some (1, 8, some (.nilFunc)) := by kernel_rfl
theorem D6h : ii_ 163 = some (1, 8, some (.nilFunc)) := by kernel_rfl
theorem D6g : ii_ 164 = some (1, 8, some (.nilFunc)) := by kernel_rfl
theorem D6f : ii_ 165 = some (1, 8, some (.nilFunc)) := by kernel_rfl
theorem D6e : ii_ 168 = some (1, 8, some (.nilFunc)) := by kernel_rfl
theorem D6d : ii_ 170 = some (1, 8, some (.nilFunc)) := by kernel_rfl
theorem D6c : ii_ 172 = some (1, 8, some (.map none)) := by kernel_rfl
theorem D6b : ii_ 173 = some (1, 8, some (.nilFunc)) := by kernel_rfl
theorem D6a : ii_ 177 = some (1, 8, some (.nilFunc)) := by kernel_rfl
theorem D5z : ii_ 186 = some (1, 8, some (.nilFunc)) := by kernel_rfl
theorem D5y : ii_ 187 = some (1, 8, some (.nilFunc)) := by kernel_rfl
theorem D5x : ii_ 188 = some (1, 8, some (.nilFunc)) := by kernel_rfl
theorem D5w : ii_ 190 = some (2, 16, some (.agg #[.int .i64 0, .int .i64 0])) := by kernel_rfl
theorem D5v : ii_ 191 = some (2, 16, some (.agg #[.int .i64 0, .int .i64 0])) := by kernel_rfl
theorem D5u : ii_ 193 = some (1, 8, some (.nilFunc)) := by kernel_rfl
theorem D5t : ii_ 197 = some (1, 8, some (.nilFunc)) := by kernel_rfl
theorem D5s : ii_ 198 = some (1, 8, some (.nilFunc)) := by kernel_rfl
theorem D5r : ii_ 199 = some (1, 8, some (.nilFunc)) := by kernel_rfl
theorem D5q : ii_ 200 = some (29, 232, some (.agg #[.int .i64 0, .int .i64 0, .int .i64 0, .int .i64 0, .int .i64 0, .int .i64 0, .int .i64 0, .int .i64 0, .int .i64 0, .int .i64 0, .int .i64 0, .int .i64 0, .int .i64 0, .int .i64 0, .int .i64 0, .int .i64 0, .int .i64 0, .int .i64 0, .int .i64 0, .int .i64 0, .int .i64 0, .int .i64 0, .int .i64 0, .int .i64 0, .int .i64 0, .int .i64 0, .int .i64 0, .int .i64 0, .int .i64 0])) := by kernel_rfl
theorem D5p : ii_ 211 = some (1, 8, some (.nilFunc)) := by kernel_rfl
theorem D5o : ii_ 217 = some (1, 8, some (.int .u64 0)) := by kernel_rfl
theorem D5n : ii_ 220 = some (1, 8, some (.int .i64 0)) := by kernel_rfl
theorem D5m : ii_ 228 = some (32, 32, some (.agg #[.int .u8 0, .int .u8 0, .int .u8 0, .int .u8 0, .int .u8 0, .int .u8 0, .int .u8 0, .int .u8 0, .int .u8 0, .int .u8 0, .int .u8 0, .int .u8 0, .int .u8 0, .int .u8 0, .int .u8 0, .int .u8 0, .int .u8 0, .int .u8 0, .int .u8 0, .int .u8 0, .int .u8 0, .int .u8 0, .int .u8 0, .int .u8 0, .int .u8 0, .int .u8 0, .int .u8 0, .int .u8 0, .int .u8 0, .int .u8 0, .int .u8 0, .int .u8 0])) := by kernel_rfl
theorem D5l : ii_ 232 = some (1, 8, some (.nilFunc)) := by kernel_rfl
theorem D5k : ii_ 234 = some (1, 8, some (.nilFunc)) := by kernel_rfl
theorem D5j : ii_ 237 = some (1, 8, some (.pointer none)) := by kernel_rfl
theorem D5i : ii_ 251 = some (1, 8, some (.pointer none)) := by kernel_rfl
theorem B0 {t s b : Nat} {z : Value} (h : ii_ t = some (s, b, some z)) : ∃ i, Tryz.prog.info? t = some i ∧ i.size = s ∧ i.bytes = b ∧ i.zero = some z := by
 obtain ⟨i, h1, h2⟩ := Option.map_eq_some_iff.1 h
 simp only [Prod.mk.injEq] at h2
 exact ⟨i, h1, h2.1, h2.2.1, h2.2.2⟩
theorem C9h : ∀ t d, D3g t = some d → Tryz.prog.underlying t = some d := by
 intro t d h
 unfold D3g at h
 split at h
 ·cases h; exact Tryz.underlying1
 ·cases h; exact Tryz.underlying2
 ·cases h; exact Tryz.underlying3
 ·cases h; exact Tryz.underlying4
 ·cases h; exact Tryz.underlying5
 ·cases h; exact Tryz.underlying9
 ·cases h; exact Tryz.underlying12
 ·cases h; exact Tryz.underlying20
 ·cases h; exact Tryz.underlying21
 ·cases h; exact Tryz.underlying22
 ·cases h; exact Tryz.underlying23
 ·cases h; exact Tryz.underlying24
 ·cases h; exact Tryz.underlying27
 ·cases h; exact Tryz.underlying30
 ·cases h; exact Tryz.underlying31
 ·cases h; exact Tryz.underlying32
 ·cases h; exact Tryz.underlying33
 ·cases h; exact Tryz.underlying34
 ·cases h; exact Tryz.underlying36
 ·cases h; exact Tryz.underlying45
 ·cases h; exact Tryz.underlying82
 ·cases h; exact Tryz.underlying89
 ·cases h; exact Tryz.underlying91
 ·cases h; exact Tryz.underlying109
 ·cases h; exact Tryz.underlying118
 ·cases h; exact Tryz.underlying119
 ·cases h; exact Tryz.underlying131
 ·cases h; exact Tryz.underlying140
 ·cases h; exact Tryz.underlying142
 ·cases h; exact Tryz.underlying151
 ·cases h; exact Tryz.underlying154
 ·cases h; exact Tryz.underlying156
 ·cases h; exact Tryz.underlying157
 ·cases h; exact Tryz.underlying161
 ·cases h; exact Tryz.underlying163
 ·cases h; exact Tryz.underlying164
 ·cases h; exact Tryz.underlying165
 ·cases h; exact Tryz.underlying168
 ·cases h; exact Tryz.underlying170
 ·cases h; exact Tryz.underlying172
 ·cases h; exact Tryz.underlying173
 ·cases h; exact Tryz.underlying177
 ·cases h; exact Tryz.underlying186
 ·cases h; exact Tryz.underlying187
 ·cases h; exact Tryz.underlying188
 ·cases h; exact Tryz.underlying193
 ·cases h; exact Tryz.underlying197
 ·cases h; exact Tryz.underlying198
 ·cases h; exact Tryz.underlying199
 ·cases h; exact Tryz.underlying200
 ·cases h; exact Tryz.underlying211
 ·cases h; exact Tryz.underlying217
 ·cases h; exact Tryz.underlying220
 ·cases h; exact Tryz.underlying228
 ·cases h; exact Tryz.underlying232
 ·cases h; exact Tryz.underlying234
 ·cases h; exact Tryz.underlying237
 ·cases h; exact Tryz.underlying251
 ·cases h
theorem C9i : ∀ t s b z, D3h t = some (s, b, z) → ∃ i, Tryz.prog.info? t = some i ∧ i.size = s ∧ i.bytes = b ∧ i.zero = some z := by
 intro t s b z h
 unfold D3h at h
 split at h
 ·cases h; exact B0 E2m
 ·cases h; exact B0 E2l
 ·cases h; exact B0 E2k
 ·cases h; exact B0 E2j
 ·cases h; exact B0 E2i
 ·cases h; exact B0 E2h
 ·cases h; exact B0 E1c
 ·cases h; exact B0 E1b
 ·cases h; exact B0 E1a
 ·cases h; exact B0 E0z
 ·cases h; exact B0 E0y
 ·cases h; exact B0 E0x
 ·cases h; exact B0 E0w
 ·cases h; exact B0 E0v
 ·cases h; exact B0 E0u
 ·cases h; exact B0 E0t
 ·cases h; exact B0 E0s
 ·cases h; exact B0 E0r
 ·cases h; exact B0 E0q
 ·cases h; exact B0 E0p
 ·cases h; exact B0 E0o
 ·cases h; exact B0 E0n
 ·cases h; exact B0 E0m
 ·cases h; exact B0 E0l
 ·cases h; exact B0 E0k
 ·cases h; exact B0 E0j
 ·cases h; exact B0 E0i
 ·cases h; exact B0 E0h
 ·cases h; exact B0 E0g
 ·cases h; exact B0 E0f
 ·cases h; exact B0 E0e
 ·cases h; exact B0 D6y
 ·cases h; exact B0 D6x
 ·cases h; exact B0 D6w
 ·cases h; exact B0 D6v
 ·cases h; exact B0 D6u
 ·cases h; exact B0 D6t
 ·cases h; exact B0 D6s
 ·cases h; exact B0 D6r
 ·cases h; exact B0 D6q
 ·cases h; exact B0 D6p
 ·cases h; exact B0 D6o
 ·cases h; exact B0 D6n
 ·cases h; exact B0 D6m
 ·cases h; exact B0 D6l
 ·cases h; exact B0 D6k
 ·cases h; exact B0 D6j
 ·cases h; exact B0 D6i
 ·cases h; exact B0 D6h
 ·cases h; exact B0 D6g
 ·cases h; exact B0 D6f
 ·cases h; exact B0 D6e
 ·cases h; exact B0 D6d
 ·cases h; exact B0 D6c
 ·cases h; exact B0 D6b
 ·cases h; exact B0 D6a
 ·cases h; exact B0 D5z
 ·cases h; exact B0 D5y
 ·cases h; exact B0 D5x
 ·cases h; exact B0 D5w
 ·cases h; exact B0 D5v
 ·cases h; exact B0 D5u
 ·cases h; exact B0 D5t
 ·cases h; exact B0 D5s
 ·cases h; exact B0 D5r
 ·cases h; exact B0 D5q
 ·cases h; exact B0 D5p
 ·cases h; exact B0 D5o
 ·cases h; exact B0 D5n
 ·cases h; exact B0 D5m
 ·cases h; exact B0 D5l
 ·cases h; exact B0 D5k
 ·cases h; exact B0 D5j
 ·cases h; exact B0 D5i
 ·cases h
theorem E0d : ∃ fs, Tryz.prog.underlying 25 = some (.struct fs) ∧ fs.toList.mapM (fun f => (Tryz.prog.info? f.type).map fun i => (f.offset, i.size)) = some [(0, 1), (1, 1), (2, 1), (3, 1), (4, 1), (5, 1)] := ⟨_, Tryz.underlying25, by kernel_rfl⟩
theorem E0c : ∃ fs, Tryz.prog.underlying 26 = some (.struct fs) ∧ fs.toList.mapM (fun f => (Tryz.prog.info? f.type).map fun i => (f.offset, i.size)) = some [(0, 1), (1, 1), (2, 1), (3, 1), (4, 1), (5, 1)] := ⟨_, Tryz.underlying26, by kernel_rfl⟩
theorem E0b : ∃ fs, Tryz.prog.underlying 28 = some (.struct fs) ∧ fs.toList.mapM (fun f => (Tryz.prog.info? f.type).map fun i => (f.offset, i.size)) = some [(0, 1), (1, 1)] := ⟨_, Tryz.underlying28, by kernel_rfl⟩
theorem E0a : ∃ fs, Tryz.prog.underlying 29 = some (.struct fs) ∧ fs.toList.mapM (fun f => (Tryz.prog.info? f.type).map fun i => (f.offset, i.size)) = some [(0, 1), (1, 1)] := ⟨_, Tryz.underlying29, by kernel_rfl⟩
theorem D9z : ∃ fs, Tryz.prog.underlying 37 = some (.struct fs) ∧ fs.toList.mapM (fun f => (Tryz.prog.info? f.type).map fun i => (f.offset, i.size)) = some [(0, 1), (1, 1)] := ⟨_, Tryz.underlying37, by kernel_rfl⟩
theorem D9y : ∃ fs, Tryz.prog.underlying 76 = some (.struct fs) ∧ fs.toList.mapM (fun f => (Tryz.prog.info? f.type).map fun i => (f.offset, i.size)) = some [(0, 1), (1, 1)] := ⟨_, Tryz.underlying76, by kernel_rfl⟩
theorem D9x : ∃ fs, Tryz.prog.underlying 77 = some (.struct fs) ∧ fs.toList.mapM (fun f => (Tryz.prog.info? f.type).map fun i => (f.offset, i.size)) = some [(0, 1), (1, 1)] := ⟨_, Tryz.underlying77, by kernel_rfl⟩
theorem D9w : ∃ fs, Tryz.prog.underlying 94 = some (.struct fs) ∧ fs.toList.mapM (fun f => (Tryz.prog.info? f.type).map fun i => (f.offset, i.size)) = some [(0, 1), (1, 1), (2, 1), (3, 1)] := ⟨_, Tryz.underlying94, by kernel_rfl⟩
theorem D9v : ∃ fs, Tryz.prog.underlying 95 = some (.struct fs) ∧ fs.toList.mapM (fun f => (Tryz.prog.info? f.type).map fun i => (f.offset, i.size)) = some [(0, 1), (1, 1), (2, 1), (3, 1)] := ⟨_, Tryz.underlying95, by kernel_rfl⟩
theorem D5g : ∃ fs, Tryz.prog.underlying 106 = some (.struct fs) ∧ fs.toList.mapM (fun f => (Tryz.prog.info? f.type).map fun i => (f.offset, i.size)) = some [(0, 1), (1, 1)] := ⟨_, Tryz.underlying106, by kernel_rfl⟩
theorem D5f : ∃ fs, Tryz.prog.underlying 107 = some (.struct fs) ∧ fs.toList.mapM (fun f => (Tryz.prog.info? f.type).map fun i => (f.offset, i.size)) = some [(0, 1), (1, 1)] := ⟨_, Tryz.underlying107, by kernel_rfl⟩
theorem D5e : ∃ fs, Tryz.prog.underlying 110 = some (.struct fs) ∧ fs.toList.mapM (fun f => (Tryz.prog.info? f.type).map fun i => (f.offset, i.size)) = some [(0, 1)] := ⟨_, Tryz.underlying110, by kernel_rfl⟩
theorem D5d : ∃ fs, Tryz.prog.underlying 111 = some (.struct fs) ∧ fs.toList.mapM (fun f => (Tryz.prog.info? f.type).map fun i => (f.offset, i.size)) = some [(0, 1)] := ⟨_, Tryz.underlying111, by kernel_rfl⟩
theorem D5c : ∃ fs, Tryz.prog.underlying 120 = some (.struct fs) ∧ fs.toList.mapM (fun f => (Tryz.prog.info? f.type).map fun i => (f.offset, i.size)) = some [(0, 1), (1, 1)] := ⟨_, Tryz.underlying120, by kernel_rfl⟩
theorem D5b : ∃ fs, Tryz.prog.underlying 121 = some (.struct fs) ∧ fs.toList.mapM (fun f => (Tryz.prog.info? f.type).map fun i => (f.offset, i.size)) = some [(0, 1), (1, 1)] := ⟨_, Tryz.underlying121, by kernel_rfl⟩
theorem D5a : ∃ fs, Tryz.prog.underlying 190 = some (.struct fs) ∧ fs.toList.mapM (fun f => (Tryz.prog.info? f.type).map fun i => (f.offset, i.size)) = some [(0, 1), (1, 1)] := ⟨_, Tryz.underlying190, by kernel_rfl⟩
theorem D4z : ∃ fs, Tryz.prog.underlying 191 = some (.struct fs) ∧ fs.toList.mapM (fun f => (Tryz.prog.info? f.type).map fun i => (f.offset, i.size)) = some [(0, 1), (1, 1)] := ⟨_, Tryz.underlying191, by kernel_rfl⟩
theorem B7i : ∀ t l, C0f t = some l → ∃ fs, Tryz.prog.underlying t = some (.struct fs) ∧ fs.toList.mapM (fun f => (Tryz.prog.info? f.type).map fun i => (f.offset, i.size)) = some l := by
 intro t l h
 unfold C0f at h
 split at h
 ·cases h; exact E0d
 ·cases h; exact E0c
 ·cases h; exact E0b
 ·cases h; exact E0a
 ·cases h; exact D9z
 ·cases h; exact D9y
 ·cases h; exact D9x
 ·cases h; exact D9w
 ·cases h; exact D9v
 ·cases h; exact D5g
 ·cases h; exact D5f
 ·cases h; exact D5e
 ·cases h; exact D5d
 ·cases h; exact D5c
 ·cases h; exact D5b
 ·cases h; exact D5a
 ·cases h; exact D4z
 ·cases h
theorem C3z : ∀ t l, C0f t = some l → l.all (fun x => x.2 != 0) = true := by
 intro t l h
 unfold C0f at h
 split at h
 ·cases h; rfl
 ·cases h; rfl
 ·cases h; rfl
 ·cases h; rfl
 ·cases h; rfl
 ·cases h; rfl
 ·cases h; rfl
 ·cases h; rfl
 ·cases h; rfl
 ·cases h; rfl
 ·cases h; rfl
 ·cases h; rfl
 ·cases h; rfl
 ·cases h; rfl
 ·cases h; rfl
 ·cases h; rfl
 ·cases h; rfl
 ·cases h
theorem B1y {P : Program} : ∀ (fs : List Field) (l : List (Nat × Nat)), fs.mapM (fun f => (P.info? f.type).map fun i => (f.offset, i.size)) = some l → ∀ (j : Nat) (x : Nat × Nat), l[j]? = some x → ∃ fl i, fs[j]? = some fl ∧ P.info? fl.type = some i ∧ fl.offset = x.1 ∧ i.size = x.2
 | [], l, h, j, x, hx => by simp at h; subst h; simp at hx
 | f :: fs, l, h, j, x, hx => by
  simp only [List.mapM_cons, Option.bind_eq_bind, Option.pure_def] at h
  cases hi : P.info? f.type with
  | none => simp [hi] at h
  | some i =>
   cases hr : fs.mapM (fun f => (P.info? f.type).map fun i => (f.offset, i.size)) with
   | none => simp [hi, hr] at h
   | some rest =>
    simp [hi, hr] at h
    subst h
    cases j with
    | zero => simp at hx; subst hx; exact ⟨f, i, rfl, hi, rfl, rfl⟩
    | succ j => simpa using B1y fs rest hr j x (by simpa using hx)
theorem C9j : ∀ t j o, D3i t j = some o → ∃ fs fl i, Tryz.prog.underlying t = some (.struct fs) ∧ fs[j]? = some fl ∧ fl.offset = o ∧ Tryz.prog.info? fl.type = some i ∧ i.size ≠ 0 := by
 intro t j o h
 unfold D3i at h
 obtain ⟨l, h1, h2⟩ := Option.bind_eq_some_iff.1 h
 obtain ⟨x, h3, rfl⟩ := Option.map_eq_some_iff.1 h2
 obtain ⟨fs, h4, h5⟩ := B7i t l h1
 obtain ⟨fl, i, h6, h7, h8, h9⟩ := B1y fs.toList l h5 j x h3
 refine ⟨fs, fl, i, h4, by simpa using h6, h8, h7, ?_⟩
 have := List.all_eq_true.1 (C3z t l h1) x (List.mem_of_getElem? h3)
 rw [h9]
 simpa using this
theorem E2o (a b c d : Int) (w : World) : (Op.equalIn 10000 107 (.agg #[.int .u32 a, .int .u32 b]) (.agg #[.int .u32 c, .int .u32 d])).run Tryz.prog w = .ok (a == c && b == d) w := by
 have u := Tryz.underlying89
 have hS : Tryz.prog.underlying 107 = some (.struct (Tryz.prog.fieldsOf 107)) := by kernel_rfl
 have hp : Tryz.prog.stoodInHeld 107 = false := by kernel_rfl
 obtain ⟨i, h1, h2⟩ : ∃ i, Tryz.prog.info? 89 = some i ∧ i.size = 1 := by
  obtain ⟨i, h1, h2⟩ := Option.map_eq_some_iff.1 (show (Tryz.prog.info? 89).map (fun i => i.size) = some 1 by kernel_rfl)
  exact ⟨i, h1, h2⟩
 have hz : ∀ w, (sizeOf 89).run Tryz.prog w = .ok 1 w := fun w => by simp [sizeOf, typeInfo, h1, h2]
 rw [show (10000 : Nat) = 9999 + 1 from rfl, run_equalIn_agg w 9999 107 _ _ hS hp]
 simp only [Program.fieldsOf, Tryz.underlying107]
 have hA : ∀ w, (isAgg 89).run Tryz.prog w = .ok false w := fun w => by simp [isAgg, run_underlying u]
 have e : ∀ (a c : Int) (w : World), (Op.equalIn 9999 89 (.int .u32 a) (.int .u32 c)).run Tryz.prog w = .ok (a == c) w := fun a c w => run_equalIn_int w 9998 89 .u32 .u32 a c u
 simp [Op.eqFields, part, hA, hz, e]
 by_cases h1 : a = c <;> by_cases h2 : b = d <;> simp [h1, h2]
instance : Go.Hy.Tab Tryz.prog := ⟨D3g, C9h, D3h, C9i, D3i, C9j, C0f, B7i, by kernel_rfl, 107, E2o, by kernel_rfl⟩
noncomputable def fC' : Array Field := match Tryz.prog.underlying 107 with | some (.struct fs) => fs | _ => #[]
noncomputable def fT' : Array Field := match Tryz.prog.underlying 26 with | some (.struct fs) => fs | _ => #[]
noncomputable def fB' : Array Field := match Tryz.prog.underlying 77 with | some (.struct fs) => fs | _ => #[]
noncomputable instance : Go.Hy.TyF Tryz.prog := { tI := 3, tS := 9, tU := 89, tC := 107, tT := 26, tB := 77, lC := 22, lT := 23, lB := 24, fC := fC', fT := fT', fB := fB', uI := Tryz.underlying3, uS := Tryz.underlying9, uU := Tryz.underlying89, uC := by kernel_rfl, uT := by kernel_rfl, uB := by kernel_rfl, ulC := Tryz.underlying22, ulT := Tryz.underlying23, ulB := Tryz.underlying24, pC := by kernel_rfl, pT := by kernel_rfl, pB := by kernel_rfl, c1 := ⟨by kernel_rfl, by kernel_rfl, by kernel_rfl, by kernel_rfl, by kernel_rfl, by kernel_rfl⟩, c2 := ⟨by kernel_rfl, by kernel_rfl, by kernel_rfl⟩, b2 := ⟨by kernel_rfl, by kernel_rfl, by kernel_rfl⟩ }
theorem laid' : laidOutB Tryz.prog = true := by kernel_rfl
noncomputable instance : Go.Hy.TabM Tryz.prog := { law := deep_law_laid laid' (m := 3) (by omega) (of_decide_eq_true (by kernel_rfl)) (by kernel_rfl) (by kernel_rfl), kt := by kernel_rfl, names := by kernel_rfl, npos := of_decide_eq_true (by kernel_rfl) }
end Go.Proofs.YtibignmpjeemeaaGreatDoor.Hy
namespace Go.Hy
theorem size_pos' (t : T) : 1 ≤ size t := by
 rw [size_eq]
 have : ∀ (l : List Part) (a : Nat), a ≤ l.foldl (fun a p => a + size p.1) a := by
  intro l
  induction l with
  | nil => intro a; exact Nat.le_refl _
  | cons p l ih => intro a; exact Nat.le_trans (Nat.le_add_right _ _) (ih _)
 exact this _ _
end Go.Hy
namespace Go.Hy
theorem Jr (k i : Int) : 0 ≤ (binds k i).1 ∧ (binds k i).1 ≤ 1 ∧ 0 ≤ (binds k i).2 ∧ (binds k i).2 ≤ 1 := by
 unfold binds
 repeat (first | split | (refine ⟨?_, ?_, ?_, ?_⟩ <;> simp))
theorem Ui {t : T} {p : Part} (h : p ∈ parts t) : 0 ≤ p.2.1 ∧ p.2.1 ≤ 1 ∧ 0 ≤ p.2.2 ∧ p.2.2 ≤ 1 := by
 unfold parts at h
 rcases List.mem_append.mp h with h | h
 ·have : ∀ (ks : List T) (i : Nat), p ∈ Dw t.kind i ks → 0 ≤ p.2.1 ∧ p.2.1 ≤ 1 ∧ 0 ≤ p.2.2 ∧ p.2.2 ≤ 1 := by
   intro ks
   induction ks with
   | nil => intro i h; simp [Dw] at h
   | cons k ks ih =>
    intro i h
    rcases List.mem_cons.mp h with e | h
    ·subst e; exact Jr _ _
    ·exact ih _ h
  exact this _ _ h
 ·have : ∀ (bs : List Br), p ∈ Dt t.kind bs → 0 ≤ p.2.1 ∧ p.2.1 ≤ 1 ∧ 0 ≤ p.2.2 ∧ p.2.2 ≤ 1 := by
   intro bs
   induction bs with
   | nil => intro h; simp [Dt] at h
   | cons b bs ih =>
    intro h
    rcases List.mem_append.mp h with h | h
    ·obtain ⟨k, _, e⟩ := List.mem_map.mp h
     subst e
     show 0 ≤ (0 : Int) ∧ (0 : Int) ≤ 1 ∧ 0 ≤ more t.kind ∧ more t.kind ≤ 1
     unfold more
     split <;> omega
    ·exact ih h
  exact this _ h
theorem L7 {t : T} {p : Part} (h : p ∈ parts t) : size p.1 < size t := by
 obtain ⟨m, hm, e⟩ := List.mem_iff_getElem.mp h
 have h1 := Qx (t := t) (m := m) (p := p) (by rw [List.getElem?_eq_getElem hm, e])
 have h2 : 1 ≤ By t m := by
  unfold By L1
  have : ∀ (l : List Part) (a : Nat), a ≤ l.foldl (fun a p => a + size p.1) a := by
   intro l
   induction l with
   | nil => intro a; exact Nat.le_refl _
   | cons p l ih => intro a; exact Nat.le_trans (Nat.le_add_right _ _) (ih _)
  exact this _ _
 omega
end Go.Hy
namespace Go.Hy
@[simp] theorem qE_def (q : QP) : qE q = RT q.1.1 q.1.2.1 q.1.2.2.1 q.1.2.2.2 := rfl
@[simp] theorem ipE_def (q : IP) : ipE q = IL q.1 q.2 := rfl
end Go.Hy
namespace Go.Hy
section
variable {α : Type} {B : Ch} {Γ : List Fact} {Ms : List Bb} {w : World} {E : α → Fact} {l : List α}
end
end Go.Hy
namespace Go.Hy
theorem Ej {t : T} (h : A9 t = 0) : size t ≤ 20000 := by
 unfold A9 at h
 split at h
 ·rename_i hs; exact absurd h hs
 ·rename_i hs
  simp only [ne_eq, Decidable.not_not, sized] at hs
  split at hs
  ·cases hs
  ·split at hs
   ·cases hs
   ·omega
theorem St.E2g {B : Ch} {Γ : List Fact} {Ms : List Bb} {w : World} {b : Nat} {e : TypeId} {cs : List Value} (l : List Int) (hs : St B Γ (Aa b cs e :: Ms) w) {hBp : Prop} (hB : hBp) (hc : cs = Rb l) (hn : l.length ≤ 1000) (hu : ∀ c, c ∈ l → Ao c) : St B (IL l (some ⟨b, 0, Option.none⟩, l.length) :: Γ) Ms w :=
 (hs.Io (sz := 1) (m := l.length) (by rw [hc, Md Uy l]) (by unfold maxLen; omega)).B0c hB hc rfl (by unfold reach; omega) hu
section
variable {tn : Bool} {pn : Nat} {P : Program} [Tab P] {f : FuncId} {R : Ending → World → Prop} {B : Ch} {n : Fz} {K : List Item} {ops : Array Oper} {i : Nat} {l fin : List Nat} {σ : Nat → Value} {Γ : List Fact} {Ms Ms2 : List Bb}
variable {dst : Option Tmp} {ty : TypeId}
theorem C9e {c : FuncId} {args cap al : List Value} {av : Array Operand} {ts : Array TypeId} {g : Operand} {pre : List Fact} {X : Type} {val : X → Value} {N : X → List Fact} {Ms1 : X → List Bb}
  (hc : ∀ (args : Array Value) (w : World), (callFunc c args).run P w = .ok (.enter c args) w) (hsp : Spec P c al.toArray pre [] val N Ms1) (kk : ∀ x, NV tn pn P f R B n K ops fin l (Af σ dst (val x)) (N x ++ Γ) (Ms1 x ++ Ms))
  (hg : ev σ g = .func (.func c) #[] cap.toArray := by rfl) (ha : av.toList.map (ev σ) = args := by rfl) (hal : args ++ cap = al := by rfl) (hpre : ∀ F, F ∈ pre → F ∈ Γ := by first | (simp; done) | (simp +contextual; done)) (hd : Ac n dst = true := by rfl) : Ju tn pn P f R B n K ops fin i l dst (.call { callee := .value g, args := av, argTypes := ts }) ty σ Γ Ms :=
 B8k (B6h hg ha hc) (hal ▸ hsp) hpre rfl rfl hd kk
end
end Go.Hy
namespace Go.Proofs
open Go.Shelf
def Tryz.Vp : Go.Shelf.Ren := ⟨fun | 6 => 201 | 15 => 253 | 14 => 252 | 28 => 289 | 29 => 290 | 20 => 281 | 21 => 282 | 22 => 283 | 23 => 284 | 24 => 285 | 25 => 286 | 26 => 287 | 27 => 288 | 46 => 300 | 47 => 301 | 48 => 302 | 49 => 303 | 50 => 304 | 57 => 307 | n => n, fun | 22 => 22 | 24 => 107 | 25 => 177 | 3 => 3 | 39 => 91 | 0 => 0 | 53 => 89 | 55 => 217 | 4 => 4 | 46 => 221 | 45 => 220 | 50 => 225 | 5 => 5 | 9 => 9 | 66 => 233 | 70 => 237 | 76 => 239 | 77 => 86 | n => n, fun | n => n⟩
theorem Tryz.D1y : Go.Proofs.SlLaysF0.n6 Tryz.prog Tryz.Vp := {
 mixed := by kernel_rfl
 f6 := ⟨Tryz.f201.name, by decide, Tryz.func201.trans (congrArg some (by kernel_rfl))⟩
 f14 := ⟨Tryz.f252.name, by decide, Tryz.func252.trans (congrArg some (by kernel_rfl))⟩
 f15 := Tryz.func253.trans (congrArg some (by kernel_rfl))
 f20 := ⟨Tryz.f281.name, by decide, Tryz.func281.trans (congrArg some (by kernel_rfl))⟩
 f21 := ⟨Tryz.f282.name, by decide, Tryz.func282.trans (congrArg some (by kernel_rfl))⟩
 f22 := ⟨Tryz.f283.name, by decide, Tryz.func283.trans (congrArg some (by kernel_rfl))⟩
 f23 := ⟨Tryz.f284.name, by decide, Tryz.func284.trans (congrArg some (by kernel_rfl))⟩
 f24 := ⟨Tryz.f285.name, by decide, Tryz.func285.trans (congrArg some (by kernel_rfl))⟩
 f25 := ⟨Tryz.f286.name, by decide, Tryz.func286.trans (congrArg some (by kernel_rfl))⟩
 f26 := ⟨Tryz.f287.name, by decide, Tryz.func287.trans (congrArg some (by kernel_rfl))⟩
 f27 := ⟨Tryz.f288.name, by decide, Tryz.func288.trans (congrArg some (by kernel_rfl))⟩
 f28 := Tryz.func289.trans (congrArg some (by kernel_rfl))
 f29 := Tryz.func290.trans (congrArg some (by kernel_rfl))
 f46 := ⟨Tryz.f300.name, by decide, Tryz.func300.trans (congrArg some (by kernel_rfl))⟩
 f47 := Tryz.func301.trans (congrArg some (by kernel_rfl))
 f48 := Tryz.func302.trans (congrArg some (by kernel_rfl))
 f49 := ⟨Tryz.f303.name, by decide, Tryz.func303.trans (congrArg some (by kernel_rfl))⟩
 f50 := ⟨Tryz.f304.name, by decide, Tryz.func304.trans (congrArg some (by kernel_rfl))⟩
 f57 := ⟨Tryz.f307.name, by decide, Tryz.func307.trans (congrArg some (by kernel_rfl))⟩
 t0 := Tryz.underlying0
 a0 := Tryz.isAgg0
 z0 := Tryz.sizeOf0
 v0 := Tryz.zeroValue0
 t3 := Tryz.underlying3
 a3 := Tryz.isAgg3
 z3 := Tryz.sizeOf3
 v3 := Tryz.zeroValue3
 t4 := Tryz.underlying4
 a4 := Tryz.isAgg4
 z4 := Tryz.sizeOf4
 v4 := Tryz.zeroValue4
 t5 := Tryz.underlying5
 a5 := Tryz.isAgg5
 z5 := Tryz.sizeOf5
 v5 := Tryz.zeroValue5
 t9 := Tryz.underlying9
 a9 := Tryz.isAgg9
 z9 := Tryz.sizeOf9
 v9 := Tryz.zeroValue9
 t22 := Tryz.underlying22
 a22 := Tryz.isAgg22
 z22 := Tryz.sizeOf22
 v22 := Tryz.zeroValue22
 t25 := Tryz.underlying177
 a25 := Tryz.isAgg177
 z25 := Tryz.sizeOf177
 v25 := Tryz.zeroValue177
 t39 := Tryz.underlying91
 a39 := Tryz.isAgg91
 z39 := Tryz.sizeOf91
 v39 := Tryz.zeroValue91
 t45 := Tryz.underlying220
 a45 := Tryz.isAgg220
 z45 := Tryz.sizeOf220
 v45 := Tryz.zeroValue220
 t46 := Tryz.underlying221
 a46 := Tryz.isAgg221
 z46 := Tryz.sizeOf221
 v46 := Tryz.zeroValue221
 t50 := Tryz.underlying225
 a50 := Tryz.isAgg225
 z50 := Tryz.sizeOf225
 v50 := Tryz.zeroValue225
 t53 := Tryz.underlying89
 a53 := Tryz.isAgg89
 z53 := Tryz.sizeOf89
 v53 := Tryz.zeroValue89
 t55 := Tryz.underlying217
 a55 := Tryz.isAgg217
 z55 := Tryz.sizeOf217
 v55 := Tryz.zeroValue217
 t66 := Tryz.underlying233
 a66 := Tryz.isAgg233
 z66 := Tryz.sizeOf233
 v66 := Tryz.zeroValue233
 t70 := Tryz.underlying237
 a70 := Tryz.isAgg237
 z70 := Tryz.sizeOf237
 v70 := Tryz.zeroValue237
 t76 := Tryz.underlying239
 a76 := Tryz.isAgg239
 z76 := Tryz.sizeOf239
 v76 := Tryz.zeroValue239
 t77 := Tryz.underlying86
 a77 := Tryz.isAgg86
 z77 := Tryz.sizeOf86
 v77 := Tryz.zeroValue86 }
end Go.Proofs
