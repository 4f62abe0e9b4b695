/- Contracts of this program's functions and the laws that they need. -/
import Derived.Test.YtibignmpjeemeaaGreatDoorProg
import Derived.KernelRfl
import Derived.Shelf.SlSortCmp.WholeK
import Derived.Shelf.SlGeneric
import Derived.Ground.SlsfProg
import Derived.Test.YtibignmpjeemeaaGreatDoorP3
set_option linter.unusedVariables false
set_option linter.unusedSimpArgs false
set_option linter.unusedSectionVars false
namespace Go.Hy
theorem Lx (a b : Cl) : Cv a b = true ∨ a = b ∨ Cv b a = true := by
 obtain ⟨p, n⟩ := a
 obtain ⟨p', n'⟩ := b
 simp only [Cv, Bool.or_eq_true, Bool.and_eq_true, decide_eq_true_eq, Cl.mk.injEq]
 omega
theorem Mx {a b : Cl} (h : Cv a b = true) : Cv b a = false := by
 simp only [Cv, Bool.or_eq_true, Bool.and_eq_true, decide_eq_true_eq, Bool.or_eq_false_iff, Bool.and_eq_false_iff, decide_eq_false_iff_not] at *
 omega
theorem Un {a b c : Cl} (h : Cv a b = true) (h2 : Cv b c = true) : Cv a c = true := by
 simp only [Cv, Bool.or_eq_true, Bool.and_eq_true, decide_eq_true_eq] at *
 omega
theorem P6 (a : Cl) : Cv a a = false := by simp [Cv]
theorem D5x {a b : Cl} (h : Cv a b = false) (h2 : Cv b a = false) : a = b := by
 rcases Lx a b with h3 | h3 | h3
 ·rw [h] at h3; cases h3
 ·exact h3
 ·rw [h2] at h3; cases h3
theorem Yy : ∀ {l m : List Cl}, l.Perm m → (l.Pairwise fun a b => Cv b a = false) → (m.Pairwise fun a b => Cv b a = false) → l = m
 | [], m, hp, _, _ => by have := hp.length_eq; cases m with | nil => rfl | cons _ _ => simp at this
 | a :: l, [], hp, _, _ => by have := hp.length_eq; simp at this
 | a :: l, b :: m, hp, h1, h2 => by
  rw [List.pairwise_cons] at h1 h2
  have ha : a ∈ b :: m := hp.mem_iff.mp List.mem_cons_self
  have hb : b ∈ a :: l := hp.mem_iff.mpr List.mem_cons_self
  have e : a = b := by
   rcases List.mem_cons.mp ha with h | h
   ·exact h
   ·rcases List.mem_cons.mp hb with h3 | h3
    ·exact h3.symm
    ·exact D5x (h2.1 a h |> fun x => x) (h1.1 b h3) |> fun x => by exact x
  subst e
  rw [Yy (List.Perm.cons_inv hp) h1.2 h2.2]
theorem Ih : ∀ {l : List Cl}, J6 l = true ↔ l.Pairwise fun a b => Cv a b = true
 | [] => by simp [J6]
 | [a] => by simp [J6]
 | a :: b :: l => by
  rw [J6, Bool.and_eq_true, Ih (l := b :: l), List.pairwise_cons (a := a)]
  constructor
  ·rintro ⟨h1, h2⟩
   refine ⟨fun c hc => ?_, h2⟩
   rcases List.mem_cons.mp hc with h | h
   ·exact h ▸ h1
   ·exact Un h1 ((List.pairwise_cons.mp h2).1 c h)
  ·rintro ⟨h1, h2⟩
   exact ⟨h1 b List.mem_cons_self, h2⟩
theorem Y7 {l : List Cl} (h : l.Pairwise fun a b => Cv a b = true) : once l = l := by
 have : ∀ (m o : List Cl), ((o ++ m).Pairwise fun a b => Cv a b = true) → m.foldl (fun o c => if c ∈ o then o else o ++ [c]) o = o ++ m := by
  intro m
  induction m with
  | nil => intro o _; simp
  | cons c m ih =>
   intro o h
   rw [List.foldl_cons]
   have hn : c ∉ o := by
    intro hc
    have := (List.pairwise_append.mp h).2.2 c hc c List.mem_cons_self
    rw [P6] at this; cases this
   rw [if_neg hn, ih (o ++ [c]) (by simpa using h)]
   simp
 have := this l [] (by simpa using h)
 simpa [once] using this
theorem Pb {l : List Cl} : apart l = true ↔ ∀ a, a ∈ l → ∀ b, b ∈ l → a = b ∨ below a b = false := by
 unfold apart
 simp only [List.all_eq_true, Bool.or_eq_true, decide_eq_true_eq, Bool.not_eq_true']
theorem Gd {l : List Cl} {c : Cl} : Bx l c = false ↔ ∀ d, d ∈ l → c = d ∨ below c d = false := by
 unfold Bx
 rw [List.any_eq_false]
 constructor
 ·intro h d hd
  have := h d hd
  simp only [Bool.and_eq_true, Bool.not_eq_true', decide_eq_false_iff_not, not_and, Bool.not_eq_true] at this
  by_cases e : c = d
  ·exact .inl e
  ·exact .inr (this e)
 ·intro h d hd
  simp only [Bool.and_eq_true, Bool.not_eq_true', decide_eq_false_iff_not, not_and, Bool.not_eq_true]
  intro e
  exact (h d hd).resolve_left e
theorem O9 {l : List Cl} {r : Int × List Cl} (h : Gu l r) : (decide (r.1 = 0) && decide (r.2 = l)) = A5 l := by
 rw [Bool.eq_iff_iff, Bool.and_eq_true, decide_eq_true_eq, decide_eq_true_eq]
 unfold Gu at h
 constructor
 ·rintro ⟨h1, h2⟩
  split at h
  ·rw [h] at h1; cases h1
  ·rename_i hr
   split at h
   ·rw [h] at h1; cases h1
   ·rename_i h64
    obtain ⟨_, hp, hs⟩ := h
    rw [h2] at hp hs
    have hr' : l.all Az = true := by simpa using hr
    have hlen := hp.length_eq
    have hk1 : (kept l).length ≤ (once l).length := by unfold kept; exact List.length_filter_le _ _
    have ho := Rt l
    have hkeep : kept l = once l := by
     have : (kept l).Sublist (once l) := by unfold kept; exact List.filter_sublist
     exact this.eq_of_length A3
    have hnd : ∀ c, c ∈ l → Bx (once l) c = false := by
     intro c hc
     have : c ∈ kept l := hp.mem_iff.mp hc
     unfold kept at this
     have := (List.mem_filter.mp this).2
     simpa using this
    have hap : apart l = true := Pb.mpr fun a ha b hb => Gd.mp (hnd a ha) b ((Lq b l).mpr hb)
    have hnodup : (once l).Nodup := by
     have : ∀ (m o : List Cl), o.Nodup → (m.foldl (fun o c => if c ∈ o then o else o ++ [c]) o).Nodup := by
      intro m
      induction m with
      | nil => intro o h; exact h
      | cons c m ih =>
       intro o h
       rw [List.foldl_cons]
       apply ih
       split
       ·exact h
       ·rename_i hn
        rw [List.nodup_append]
        refine ⟨h, by simp, ?_⟩
        intro a ha b hb e
        rw [List.mem_singleton] at hb
        exact hn (hb ▸ e ▸ ha)
     exact this l [] List.nodup_nil
    have hln : l.Nodup := (hp.nodup_iff).mpr (hkeep ▸ hnodup)
    have hst : J6 l = true := by
     rw [Ih]
     have hboth : l.Pairwise fun a b => Cv b a = false ∧ a ≠ b := hs.and hln
     exact hboth.imp fun {a b} ⟨h3, h4⟩ => by
      rcases Lx a b with h5 | h5 | h5
      ·exact h5
      ·exact absurd h5 h4
      ·rw [h3] at h5; cases h5
    unfold A5
    rw [hr', hst, hap]
    simp; omega
 ·intro hf
  unfold A5 at hf
  simp only [Bool.and_eq_true, decide_eq_true_eq] at hf
  obtain ⟨⟨⟨hr, hs⟩, ha⟩, h64⟩ := hf
  have hs' := Ih.mp hs
  have ho := Y7 hs'
  have hk : kept l = l := by
   unfold kept
   rw [ho, List.filter_eq_self]
   intro c hc
   have : Bx l c = false := Gd.mpr fun d hd => Pb.mp ha c hc d hd
   simp [this]
  rw [hr, if_neg Iu, hk, if_neg A3] at h
  exact ⟨h.1, Yy h.2.1 h.2.2 (hs'.imp fun h => Mx h)⟩
def C4r (s : Nat) (i : Int) : Bool := decide (0 ≤ i) && decide (i < 24) && s.testBit i.toNat
def Fi (s n : Nat) : List Int := ((List.range n).filter s.testBit).map fun (i : Nat) => (i : Int)
abbrev Aq (s : Nat) : List Int := Fi s 24
theorem A5j (s n : Nat) : Fi s (n + 1) = if s.testBit n then Fi s n ++ [(n : Int)] else Fi s n := by
 unfold Fi
 rw [List.range_succ, List.filter_append]
 cases h : s.testBit n <;> simp [h]
theorem Zk {s n : Nat} {x : Int} (h : x ∈ Fi s n) : 0 ≤ x ∧ x < n := by
 unfold Fi at h
 simp only [List.mem_map, List.mem_filter, List.mem_range] at h
 obtain ⟨i, ⟨h1, _⟩, rfl⟩ := h
 omega
theorem Dx {s n : Nat} {x : Int} : x ∈ Fi s n ↔ 0 ≤ x ∧ x < n ∧ s.testBit x.toNat = true := by
 unfold Fi
 simp only [List.mem_map, List.mem_filter, List.mem_range]
 constructor
 ·rintro ⟨i, ⟨h1, h2⟩, rfl⟩; exact ⟨by omega, by omega, by simpa using h2⟩
 ·rintro ⟨h1, h2, h3⟩; exact ⟨x.toNat, ⟨by omega, h3⟩, by omega⟩
theorem I4 (s n : Nat) : (Fi s n).length ≤ n := by
 unfold Fi
 rw [List.length_map]
 have := List.length_filter_le s.testBit (List.range n)
 simpa using this
def Vu (l : List Int) : Nat := (l.map fun x => 2 ^ x.toNat).sum
theorem Ug (s : Nat) : ∀ n, Vu (Fi s n) = s % 2 ^ n
 | 0 => by
  have h : Fi s 0 = [] := by unfold Fi; rw [List.range_zero, List.filter_nil, List.map_nil]
  rw [h, Nat.pow_zero, Nat.mod_one, Vu, List.map_nil, List.sum_nil]
 | n + 1 => by
  rw [A5j, Nat.mod_pow_succ]
  have ih := Ug s n
  have hb := Nat.testBit_eq_decide_div_mod_eq (x := s) (i := n)
  by_cases h : s / 2 ^ n % 2 = 1
  ·rw [hb, decide_eq_true h, if_pos rfl, h]
   have e : Vu (Fi s n ++ [(n : Int)]) = Vu (Fi s n) + 2 ^ n := by simp [Vu]
   rw [e, ih, Nat.mul_one]
  ·have h0 : s / 2 ^ n % 2 = 0 := by omega
   rw [hb, decide_eq_false h, if_neg D2, h0, ih]; simp
theorem Xp (s : Nat) : s &&& 16777215 = s % 2 ^ 24 := by
 rw [show (16777215 : Nat) = 2 ^ 24 - 1 from rfl, Nat.and_two_pow_sub_one_eq_mod]
theorem A7u (s : Nat) : Vu (Aq s) = s &&& 16777215 := by rw [Ug, Xp]
theorem B7c {p : Nat → Prop} {i : Nat} (h : ∀ j, j < i → p j) (hi : p i) : ∀ j, j < i + 1 → p j := fun j hj => by
 rcases Nat.lt_succ_iff_lt_or_eq.mp hj with h2 | h2
 ·exact h j h2
 ·exact h2 ▸ hi
theorem Oo {α : Type} {d : α} {l : List α} {g : α → Bool} (h : ∀ j, j < l.length → g (l.getD j d) = true) : l.all g = true := by
 rw [List.all_eq_true]
 intro x hx
 obtain ⟨j, hj, e⟩ := List.mem_iff_getElem.mp hx
 have := h j hj
 rwa [Cq (d := d) hj, e] at this
theorem N5 {α : Type} {d : α} {l : List α} {g : α → Bool} {i : Nat} (hi : i < l.length) (h : g (l.getD i d) = false) : l.all g = false := by
 rw [List.all_eq_false]
 exact ⟨l.getD i d, Af hi, by rw [h]; decide⟩
def A8f (c : Cl) : Bool := (List.range 24).any fun i => C4r c.pos (i : Int) && C4r c.neg (i : Int)
theorem B4c {c : Cl} (h : Az c = true) : A8f c = Hb c := by
 simp only [Az, Bool.and_eq_true, decide_eq_true_eq] at h
 rw [Bool.eq_iff_iff]
 unfold A8f Hb
 rw [List.any_eq_true, decide_eq_true_eq]
 constructor
 ·rintro ⟨i, hi, hb⟩ h0
  simp only [C4r, Bool.and_eq_true, decide_eq_true_eq, Int.toNat_natCast] at hb
  have := congrArg (fun n => Nat.testBit n i) h0
  simp only [Nat.testBit_and, Nat.zero_testBit] at this
  rw [hb.1.2, hb.2.2] at this
  cases this
 ·intro h0
  obtain ⟨i, hi⟩ : ∃ i, (c.pos &&& c.neg).testBit i = true := by
   apply Classical.byContradiction
   intro hn
   exact h0 (Nat.eq_of_testBit_eq fun i => by
    rw [Nat.zero_testBit]
    cases hb : (c.pos &&& c.neg).testBit i
    ·rfl
    ·exact absurd ⟨i, hb⟩ hn)
  rw [Nat.testBit_and, Bool.and_eq_true] at hi
  have hlt : i < 24 := by
   apply Classical.byContradiction
   intro hge
   have : c.pos.testBit i = false := Nat.testBit_lt_two_pow (Nat.lt_of_lt_of_le h.1 (Nat.pow_le_pow_right (n := 2) A3 (show 24 ≤ i by omega)))
   rw [this] at hi; cases hi.1
  exact ⟨i, List.mem_range.mpr hlt, by simp [C4r, hi.1, hi.2]; omega⟩
def Pk (c : Cl) : List Cl → List Cl
 | [] => [c]
 | d :: l => if Cv d c then d :: Pk c l else if d = c then d :: l else c :: d :: l
def rl (l : List Cl) (m : List Cl) : List Cl := m.foldl (fun o c => if Bx l c then o else Pk c o) []
def B7u (l : List Cl) (i : Nat) : List Cl := rl l (l.take i)
abbrev Cz (l : List Cl) : List Cl := rl l l
theorem B7t (l : List Cl) : B7u l l.length = Cz l := by simp [B7u]
theorem Wz {c x : Cl} : ∀ {l : List Cl}, x ∈ Pk c l ↔ x = c ∨ x ∈ l
 | [] => by simp [Pk]
 | d :: l => by
  unfold Pk
  split
  ·rw [List.mem_cons, Wz (l := l), List.mem_cons]
   constructor
   ·rintro (h | h | h)
    ·exact .inr (.inl h)
    ·exact .inl h
    ·exact .inr (.inr h)
   ·rintro (h | h | h)
    ·exact .inr (.inl h)
    ·exact .inl h
    ·exact .inr (.inr h)
  ·split
   ·rename_i h
    subst h
    simp
   ·simp
theorem A5t (c : Cl) : ∀ l : List Cl, (Pk c l).length ≤ l.length + 1
 | [] => by simp [Pk]
 | d :: l => by
  unfold Pk
  have := A5t c l
  split
  ·simp; omega
  ·split <;> simp
theorem Uo {c : Cl} : ∀ {l : List Cl}, (l.Pairwise fun a b => Cv a b = true) → (Pk c l).Pairwise fun a b => Cv a b = true
 | [], _ => by simp [Pk]
 | d :: l, h => by
  rw [List.pairwise_cons] at h
  unfold Pk
  split
  ·rename_i hd
   rw [List.pairwise_cons]
   refine ⟨fun x hx => ?_, Uo h.2⟩
   rcases Wz.mp hx with e | e
   ·exact e ▸ hd
   ·exact h.1 x e
  ·rename_i hd
   split
   ·exact List.pairwise_cons.mpr h
   ·rename_i hne
    have hcd : Cv c d = true := by
     rcases Lx c d with h3 | h3 | h3
     ·exact h3
     ·exact absurd h3.symm hne
     ·exact absurd h3 hd
    rw [List.pairwise_cons]
    refine ⟨fun x hx => ?_, List.pairwise_cons.mpr h⟩
    rcases List.mem_cons.mp hx with e | e
    ·exact e ▸ hcd
    ·exact Un hcd (h.1 x e)
theorem Z5 (l : List Cl) : ∀ (m o : List Cl), (o.Pairwise fun a b => Cv a b = true) → (m.foldl (fun o c => if Bx l c then o else Pk c o) o).Pairwise fun a b => Cv a b = true
 | [], o, h => h
 | c :: m, o, h => by
  rw [List.foldl_cons]
  apply Z5 l m
  split
  ·exact h
  ·exact Uo h
theorem B7s (l : List Cl) (x : Cl) : ∀ (m o : List Cl), x ∈ m.foldl (fun o c => if Bx l c then o else Pk c o) o ↔ x ∈ o ∨ (x ∈ m ∧ Bx l x = false)
 | [], o => by simp
 | c :: m, o => by
  rw [List.foldl_cons, B7s l x m]
  by_cases hn : Bx l c = true
  ·rw [if_pos hn, List.mem_cons]
   constructor
   ·rintro (h | ⟨h, h2⟩)
    ·exact .inl h
    ·exact .inr ⟨.inr h, h2⟩
   ·rintro (h | ⟨h | h, h2⟩)
    ·exact .inl h
    ·subst h; rw [hn] at h2; cases h2
    ·exact .inr ⟨h, h2⟩
  ·rw [if_neg hn, Wz, List.mem_cons]
   constructor
   ·rintro ((h | h) | ⟨h, h2⟩)
    ·subst h; exact .inr ⟨.inl rfl, by simpa using hn⟩
    ·exact .inl h
    ·exact .inr ⟨.inr h, h2⟩
   ·rintro (h | ⟨h | h, h2⟩)
    ·exact .inl (.inr h)
    ·exact .inl (.inl h)
    ·exact .inr ⟨h, h2⟩
theorem D8 {l : List Cl} {x : Cl} : x ∈ Cz l ↔ x ∈ l ∧ Bx l x = false := by
 have := B7s l x l []
 simpa [Cz, rl] using this
theorem Gt (l : List Cl) : (Cz l).Pairwise fun a b => Cv a b = true := Z5 l l [] List.Pairwise.nil
theorem A3t (l : List Cl) (i : Nat) : (B7u l i).length ≤ i := by
 have : ∀ (m o : List Cl), (m.foldl (fun o c => if Bx l c then o else Pk c o) o).length ≤ o.length + m.length := by
  intro m
  induction m with
  | nil => intro o; simp
  | cons c m ih =>
   intro o
   rw [List.foldl_cons]
   have h1 := ih (if Bx l c then o else Pk c o)
   have h2 : (if Bx l c = true then o else Pk c o).length ≤ o.length + 1 := by
    split
    ·omega
    ·exact A5t c o
   simp only [List.length_cons]; omega
 have := this (l.take i) []
 unfold B7u rl
 simp at this ⊢
 omega
theorem Mh : ∀ {l m : List Cl}, (l.Pairwise fun a b => Cv a b = true) → (m.Pairwise fun a b => Cv a b = true) → (∀ x, x ∈ l ↔ x ∈ m) → l = m
 | [], [], _, _, _ => rfl
 | [], b :: m, _, _, h => by have := (h b).mpr List.mem_cons_self; cases this
 | a :: l, [], _, _, h => by have := (h a).mp List.mem_cons_self; cases this
 | a :: l, b :: m, h1, h2, h => by
  rw [List.pairwise_cons] at h1 h2
  have e : a = b := by
   rcases List.mem_cons.mp ((h a).mp List.mem_cons_self) with h3 | h3
   ·exact h3
   ·rcases List.mem_cons.mp ((h b).mpr List.mem_cons_self) with h4 | h4
    ·exact h4.symm
    ·have h5 := h2.1 a h3
     have h6 := h1.1 b h4
     rw [Mx h5] at h6; cases h6
  subst e
  congr 1
  apply Mh h1.2 h2.2
  intro x
  have hx := h x
  rw [List.mem_cons, List.mem_cons] at hx
  constructor
  ·intro h3
   rcases hx.mp (.inr h3) with h4 | h4
   ·subst h4; have := h1.1 x h3; rw [P6] at this; cases this
   ·exact h4
  ·intro h3
   rcases hx.mpr (.inr h3) with h4 | h4
   ·subst h4; have := h2.1 x h3; rw [P6] at this; cases this
   ·exact h4
theorem Yb (l : List Cl) (c : Cl) : Bx (once l) c = Bx l c := by
 unfold Bx
 rw [Bool.eq_iff_iff, List.any_eq_true, List.any_eq_true]
 constructor
 ·rintro ⟨d, h1, h2⟩; exact ⟨d, (Lq d l).mp h1, h2⟩
 ·rintro ⟨d, h1, h2⟩; exact ⟨d, (Lq d l).mpr h1, h2⟩
theorem A8o (l : List Cl) : (once l).Nodup := by
 have : ∀ (m o : List Cl), o.Nodup → (m.foldl (fun o c => if c ∈ o then o else o ++ [c]) o).Nodup := by
  intro m
  induction m with
  | nil => intro o h; exact h
  | cons c m ih =>
   intro o h
   rw [List.foldl_cons]
   apply ih
   split
   ·exact h
   ·rename_i hn
    rw [List.nodup_append]
    refine ⟨h, by simp, ?_⟩
    intro a ha b hb e
    rw [List.mem_singleton] at hb
    exact hn (hb ▸ e ▸ ha)
 exact this l [] List.nodup_nil
theorem Yz (l : List Cl) : ∃ m, A2z l m := by
 refine ⟨l.mergeSort (fun a b => !Cv b a), List.mergeSort_perm _ _, ?_⟩
 have := List.pairwise_mergeSort (le := fun a b => !Cv b a) (fun a b c h1 h2 => by
  simp only [Bool.not_eq_true'] at *
  simp only [Cv, Bool.or_eq_false_iff, Bool.and_eq_false_iff, decide_eq_false_iff_not] at *
  omega) (fun a b => by
  rcases Lx a b with h | h | h
  ·simp [Mx h]
  ·subst h; simp [P6]
  ·simp [Mx h]) l
 exact this.imp fun h => by simpa using h
theorem Z0 {l m : List Cl} (h : A2z (kept l) m) : m = Cz l := by
 have hnd : m.Nodup := (h.1.nodup_iff).mpr (by unfold kept; exact (A8o l).filter _)
 have hb : m.Pairwise fun a b => Cv b a = false ∧ a ≠ b := h.2.and hnd
 refine Mh ?_ (Gt l) (fun x => ?_)
 ·exact hb.imp fun {a b} ⟨h3, h4⟩ => by
   rcases Lx a b with h5 | h5 | h5
   ·exact h5
   ·exact absurd h5 h4
   ·rw [h3] at h5; cases h5
 ·rw [h.1.mem_iff, D8]
  unfold kept
  rw [List.mem_filter, Lq, Yb]
  simp
def B7 (l : List Cl) : Int × List Cl := if l.all Az = false then (2, []) else if 64 < (Cz l).length then (3, []) else (0, Cz l)
theorem Ww {l : List Cl} {r : Int × List Cl} (h : Gu l r) : r = B7 l := by
 unfold Gu at h
 unfold B7
 by_cases h1 : l.all Az = false
 ·rw [if_pos h1] at h ⊢; exact h
 ·rw [if_neg h1] at h ⊢
  by_cases h2 : 64 < (kept l).length
  ·have h3 : (kept l).length = (Cz l).length := by
    obtain ⟨m, hm⟩ := Yz (kept l)
    rw [← hm.1.length_eq, Z0 hm]
   rw [if_pos h2] at h
   rw [if_pos A3]; exact h
  ·rw [if_neg h2] at h
   have e := Z0 h.2
   have h3 : (kept l).length = (Cz l).length := by rw [← h.2.1.length_eq, e]
   rw [if_neg A3]
   exact Prod.ext h.1 e
theorem S7 (l : List Cl) : (decide ((B7 l).1 = 0) && decide ((B7 l).2 = l)) = A5 l := by
 obtain ⟨r, hr⟩ : ∃ r, Gu l r := by
  unfold Gu
  by_cases h1 : l.all Az = false
  ·exact ⟨_, by rw [if_pos h1]⟩
  ·by_cases h2 : 64 < (kept l).length
   ·exact ⟨_, by rw [if_neg h1, if_pos h2]⟩
   ·obtain ⟨m, hm⟩ := Yz (kept l)
    exact ⟨(0, m), by rw [if_neg h1, if_neg h2]; exact ⟨rfl, hm⟩⟩
 rw [← Ww hr]
 exact O9 hr
def C6y (t : T) (ks : List Nat) (bs : List (List Nat)) : Nat := 1 + t.r.length + t.name.size + ks.sum + ((t.sys.zip bs).map fun p => 1 + p.1.As.length + p.2.sum).sum
def Fw : T → Nat := tf C6y
def Oj (b : Br) : Nat := 1 + b.As.length + (b.kids.map Fw).sum
theorem Su (t : T) : Fw t = 1 + t.r.length + t.name.size + (t.kids.map Fw).sum + (t.sys.map Oj).sum := by
 conv => lhs; rw [Fw, C6b]
 unfold C6y
 congr 2
 generalize t.sys = l
 induction l with
 | nil => rfl
 | cons b l ih => simp only [List.map_cons, List.zip_cons_cons, List.map_cons]; rw [ih]; rfl
def bK (t : T) (i : Nat) : Nat := 1 + t.r.length + t.name.size + ((t.kids.take i).map Fw).sum
def bS (t : T) (i : Nat) : Nat := bK t t.kids.length + ((t.sys.take i).map Oj).sum
def bJ (t : T) (i j : Nat) : Nat := bS t i + 1 + (t.sys.getD i C4).As.length + (((t.sys.getD i C4).kids.take j).map Fw).sum
theorem Kz {α : Type} (f : α → Nat) {l : List α} {i : Nat} {d : α} (h : i < l.length) : ((l.take (i + 1)).map f).sum = ((l.take i).map f).sum + f (l.getD i d) := by
 rw [Aj (d := d) h, List.map_append, List.sum_append]; simp
theorem Km {α : Type} (f : α → Nat) : ∀ (l : List α) (i : Nat), ((l.take i).map f).sum ≤ (l.map f).sum
 | [], i => by simp
 | a :: l, 0 => by simp
 | a :: l, i + 1 => by have := Km f l i; simp only [List.take_succ_cons, List.map_cons, List.sum_cons]; omega
theorem A2r (t : T) : bK t 0 = 1 + t.r.length + t.name.size := by simp [bK]
theorem C5q {t : T} {i : Nat} (h : i < t.kids.length) : bK t (i + 1) = bK t i + Fw (t.kids.getD i t0) := by
 unfold bK; rw [Kz Fw h (d := t0)]; omega
theorem C5p (t : T) : bS t 0 = bK t t.kids.length := by simp [bS]
theorem B2z (t : T) (i : Nat) : bJ t i 0 = bS t i + 1 + (t.sys.getD i C4).As.length := by simp [bJ]
theorem C5r {t : T} {i j : Nat} (h : j < (t.sys.getD i C4).kids.length) : bJ t i (j + 1) = bJ t i j + Fw ((t.sys.getD i C4).kids.getD j t0) := by
 unfold bJ; rw [Kz Fw h (d := t0)]; omega
theorem A2q {t : T} {i : Nat} (h : i < t.sys.length) : bS t (i + 1) = bJ t i (t.sys.getD i C4).kids.length := by
 unfold bS bJ bS; rw [Kz Oj h (d := C4), List.take_length]; unfold Oj; omega
theorem D1x (t : T) : bS t t.sys.length = Fw t := by
 rw [Su]; unfold bS bK; rw [List.take_length, List.take_length]
theorem C7b (t : T) (i : Nat) : bS t i ≤ Fw t := by
 rw [Su]; unfold bS bK; rw [List.take_length]; have := Km Oj t.sys i; omega
theorem B2y (t : T) (i : Nat) : bK t i ≤ Fw t := by
 rw [Su]; unfold bK; have := Km Fw t.kids i; omega
theorem C7c {t : T} {i j : Nat} (h : i < t.sys.length) : bJ t i j ≤ Fw t := by
 have h1 := C7b t (i + 1)
 rw [A2q h] at h1
 unfold bJ at h1 ⊢
 rw [List.take_length] at h1
 have := Km Fw (t.sys.getD i C4).kids j
 omega
def Ee (t : T) (part : Nat) (Cs n : Int) : Prop := 0 ≤ n ∧ n ≤ 2 * Cs + 1 ∧ ((n ≤ Cs ∧ n = part) ∨ (Cs < n ∧ Cs < Fw t))
theorem Rl : ∀ t, size t ≤ Fw t := T.ind fun t ih => by
 have hk : ∀ (F G : T → Nat) (l : List T), (∀ k, k ∈ l → F k ≤ G k) → (l.map F).sum ≤ (l.map G).sum := by
  intro F G l
  induction l with
  | nil => intro _; simp
  | cons a l ih => intro h; have := ih (fun k hk => h k (List.mem_cons_of_mem _ hk)); have := h a List.mem_cons_self; simp only [List.map_cons, List.sum_cons]; omega
 have e : size t = 1 + ((parts t).map fun p => size p.1).sum := by
  rw [size_eq]
  have : ∀ (l : List Part) (a : Nat), l.foldl (fun a p => a + size p.1) a = a + (l.map fun p => size p.1).sum := by
   intro l
   induction l with
   | nil => intro a; simp
   | cons b l ih => intro a; rw [List.foldl_cons, ih]; simp; omega
  exact this _ _
 rw [e, Jj, Su, List.sum_append]
 have h1 := hk size Fw t.kids (fun k hk => by obtain ⟨p, hp, e⟩ := Gp hk; exact e ▸ ih p hp)
 have h2 : ((t.sys.map fun b => b.kids.map size).flatten).sum ≤ (t.sys.map Oj).sum := by
  have : ∀ (l : List Br), (∀ b, b ∈ l → b ∈ t.sys) → ((l.map fun b => b.kids.map size).flatten).sum ≤ (l.map Oj).sum := by
   intro l
   induction l with
   | nil => intro _; simp
   | cons b l ih2 =>
    intro h
    have h3 := ih2 (fun b hb => h b (List.mem_cons_of_mem _ hb))
    have h4 := hk size Fw b.kids (fun k hk => by obtain ⟨p, hp, e⟩ := Gm (h b List.mem_cons_self) hk; exact e ▸ ih p hp)
    simp only [List.map_cons, List.flatten_cons, List.sum_append, List.sum_cons]
    have hb : Oj b = 1 + b.As.length + (b.kids.map Fw).sum := rfl
    rw [hb]
    omega
  exact this t.sys (fun _ h => h)
 omega
end Go.Hy
namespace Go.Proofs.YtibignmpjeemeaaGreatDoor.Hy
open Go.Proofs
set_option maxRecDepth 100000
set_option maxHeartbeats 8000000
def C7n : Nat → Option (TypeDesc)
 | 1 => some (.func #[] #[] false)
 | 2 => some (.int .i64)
 | 3 => some (.int .i64)
 | 4 => some (.bool)
 | 5 => some (.int .u8)
 | 9 => some (.string)
 | 12 => some (.int .u64)
 | 20 => some (.interface #[])
 | 21 => some (.int .i32)
 | 22 => some (.slice 107)
 | 23 => some (.slice 26)
 | 24 => some (.slice 77)
 | 27 => some (.slice 22)
 | 30 => some (.func #[26] #[4] false)
 | 31 => some (.func #[29] #[4] false)
 | 32 => some (.func #[] #[4] false)
 | 33 => some (.func #[26] #[26] false)
 | 34 => some (.int .i64)
 | 36 => some (.func #[26, 37] #[26, 34] false)
 | 45 => some (.func #[26, 3, 3] #[4] false)
 | 71 => some (.func #[26, 3, 22] #[26, 34] false)
 | 73 => some (.func #[26, 3, 22] #[4] false)
 | 88 => some (.func #[22] #[4] false)
 | 89 => some (.int .u32)
 | 91 => some (.int .u64)
 | 92 => some (.func #[22] #[22, 34] false)
 | 93 => some (.func #[22, 22] #[22, 34] false)
 | 102 => some (.func #[27, 22] #[27, 34] false)
 | 105 => some (.func #[23, 26] #[23, 34] false)
 | 109 => some (.pointer 111)
 | 118 => some (.func #[22, 3] #[22, 34] false)
 | 119 => some (.func #[22, 3] #[22, 34] false)
 | 138 => some (.func #[92] #[118] false)
 | 140 => some (.slice 3)
 | 142 => some (.func #[22, 107] #[22, 34] false)
 | 168 => some (.func #[107, 3, 3] #[107, 34] false)
 | 172 => some (.map 107 4)
 | 173 => some (.func #[107] #[4] false)
 | 177 => some (.func #[107, 107] #[3] false)
 | 186 => some (.func #[26, 3, 22, 3, 4] #[26] false)
 | 187 => some (.func #[3, 26, 26, 26] #[26] false)
 | 188 => some (.func #[3, 23] #[26] false)
 | 193 => some (.func #[] #[26] false)
 | 197 => some (.func #[22, 198] #[22] false)
 | 198 => some (.func #[107] #[107, 4] false)
 | 199 => some (.func #[] #[37, 34] false)
 | 200 => some (.array 29 3)
 | 217 => some (.int .u64)
 | 220 => some (.int .i64)
 | 228 => some (.array 32 5)
 | 237 => some (.pointer 3)
 | 251 => some (.pointer 5)
 | _ => none
def C7o : Nat → Option (Nat × Nat × Value)
 | 1 => some (1, 8, .nilFunc)
 | 2 => some (1, 8, .int .i64 0)
 | 3 => some (1, 8, .int .i64 0)
 | 4 => some (1, 1, .bool false)
 | 5 => some (1, 1, .int .u8 0)
 | 9 => some (1, 16, .string ⟨#[]⟩)
 | 12 => some (1, 8, .int .u64 0)
 | 21 => some (1, 4, .int .i32 0)
 | 22 => some (1, 24, .slice none 0 0)
 | 23 => some (1, 24, .slice none 0 0)
 | 24 => some (1, 24, .slice none 0 0)
 | 25 => some (6, 104, .agg #[.int .i64 0, .int .i64 0, .string ⟨#[]⟩, .slice none 0 0, .slice none 0 0, .slice none 0 0])
 | 26 => some (6, 104, .agg #[.int .i64 0, .int .i64 0, .string ⟨#[]⟩, .slice none 0 0, .slice none 0 0, .slice none 0 0])
 | 27 => some (1, 24, .slice none 0 0)
 | 28 => some (2, 48, .agg #[.slice none 0 0, .slice none 0 0])
 | 29 => some (2, 48, .agg #[.slice none 0 0, .slice none 0 0])
 | 30 => some (1, 8, .nilFunc)
 | 31 => some (1, 8, .nilFunc)
 | 32 => some (1, 8, .nilFunc)
 | 33 => some (1, 8, .nilFunc)
 | 34 => some (1, 8, .int .i64 0)
 | 36 => some (1, 8, .nilFunc)
 | 37 => some (2, 48, .agg #[.slice none 0 0, .slice none 0 0])
 | 45 => some (1, 8, .nilFunc)
 | 71 => some (1, 8, .nilFunc)
 | 73 => some (1, 8, .nilFunc)
 | 76 => some (2, 48, .agg #[.slice none 0 0, .slice none 0 0])
 | 77 => some (2, 48, .agg #[.slice none 0 0, .slice none 0 0])
 | 88 => some (1, 8, .nilFunc)
 | 89 => some (1, 4, .int .u32 0)
 | 91 => some (1, 8, .int .u64 0)
 | 92 => some (1, 8, .nilFunc)
 | 93 => some (1, 8, .nilFunc)
 | 94 => some (4, 32, .agg #[.nilFunc, .nilFunc, .nilFunc, .nilFunc])
 | 95 => some (4, 32, .agg #[.nilFunc, .nilFunc, .nilFunc, .nilFunc])
 | 102 => some (1, 8, .nilFunc)
 | 105 => some (1, 8, .nilFunc)
 | 106 => some (2, 8, .agg #[.int .u32 0, .int .u32 0])
 | 107 => some (2, 8, .agg #[.int .u32 0, .int .u32 0])
 | 109 => some (1, 8, .pointer none)
 | 110 => some (1, 8, .agg #[.int .i64 0])
 | 111 => some (1, 8, .agg #[.int .i64 0])
 | 118 => some (1, 8, .nilFunc)
 | 119 => some (1, 8, .nilFunc)
 | 120 => some (2, 16, .agg #[.nilFunc, .nilFunc])
 | 121 => some (2, 16, .agg #[.nilFunc, .nilFunc])
 | 138 => some (1, 8, .nilFunc)
 | 140 => some (1, 24, .slice none 0 0)
 | 142 => some (1, 8, .nilFunc)
 | 168 => some (1, 8, .nilFunc)
 | 172 => some (1, 8, .map none)
 | 173 => some (1, 8, .nilFunc)
 | 177 => some (1, 8, .nilFunc)
 | 186 => some (1, 8, .nilFunc)
 | 187 => some (1, 8, .nilFunc)
 | 188 => some (1, 8, .nilFunc)
 | 190 => some (2, 16, .agg #[.int .i64 0, .int .i64 0])
 | 191 => some (2, 16, .agg #[.int .i64 0, .int .i64 0])
 | 193 => some (1, 8, .nilFunc)
 | 197 => some (1, 8, .nilFunc)
 | 198 => some (1, 8, .nilFunc)
 | 199 => some (1, 8, .nilFunc)
 | 200 => some (29, 232, .agg #[.int .i64 0, .int .i64 0, .int .i64 0, .int .i64 0, .int .i64 0, .int .i64 0, .int .i64 0, .int .i64 0, .int .i64 0, .int .i64 0, .int .i64 0, .int .i64 0, .int .i64 0, .int .i64 0, .int .i64 0, .int .i64 0, .int .i64 0, .int .i64 0, .int .i64 0, .int .i64 0, .int .i64 0, .int .i64 0, .int .i64 0, .int .i64 0, .int .i64 0, .int .i64 0, .int .i64 0, .int .i64 0, .int .i64 0])
 | 217 => some (1, 8, .int .u64 0)
 | 220 => some (1, 8, .int .i64 0)
 | 228 => some (32, 32, .agg #[.int .u8 0, .int .u8 0, .int .u8 0, .int .u8 0, .int .u8 0, .int .u8 0, .int .u8 0, .int .u8 0, .int .u8 0, .int .u8 0, .int .u8 0, .int .u8 0, .int .u8 0, .int .u8 0, .int .u8 0, .int .u8 0, .int .u8 0, .int .u8 0, .int .u8 0, .int .u8 0, .int .u8 0, .int .u8 0, .int .u8 0, .int .u8 0, .int .u8 0, .int .u8 0, .int .u8 0, .int .u8 0, .int .u8 0, .int .u8 0, .int .u8 0, .int .u8 0])
 | 237 => some (1, 8, .pointer none)
 | 251 => some (1, 8, .pointer none)
 | _ => none
def B3w : Nat → Option (List (Nat × Nat))
 | 25 => some ([(0, 1), (1, 1), (2, 1), (3, 1), (4, 1), (5, 1)])
 | 26 => some ([(0, 1), (1, 1), (2, 1), (3, 1), (4, 1), (5, 1)])
 | 28 => some ([(0, 1), (1, 1)])
 | 29 => some ([(0, 1), (1, 1)])
 | 37 => some ([(0, 1), (1, 1)])
 | 76 => some ([(0, 1), (1, 1)])
 | 77 => some ([(0, 1), (1, 1)])
 | 94 => some ([(0, 1), (1, 1), (2, 1), (3, 1)])
 | 95 => some ([(0, 1), (1, 1), (2, 1), (3, 1)])
 | 106 => some ([(0, 1), (1, 1)])
 | 107 => some ([(0, 1), (1, 1)])
 | 110 => some ([(0, 1)])
 | 111 => some ([(0, 1)])
 | 120 => some ([(0, 1), (1, 1)])
 | 121 => some ([(0, 1), (1, 1)])
 | 190 => some ([(0, 1), (1, 1)])
 | 191 => some ([(0, 1), (1, 1)])
 | _ => none
def C7p (t j : Nat) : Option Nat := (B3w t).bind fun l => (l[j]?).map (·.1)
noncomputable abbrev ii_ (t : Nat) := (Tryz.prog.info? t).map fun i => (i.size, i.bytes, i.zero)
theorem D6x : ii_ 1 = some (1, 8, some (.nilFunc)) := by kernel_rfl
theorem D6w : ii_ 2 = some (1, 8, some (.int .i64 0)) := by kernel_rfl
theorem D6v : ii_ 3 = some (1, 8, some (.int .i64 0)) := by kernel_rfl
theorem D6u : ii_ 4 = some (1, 1, some (.bool false)) := by kernel_rfl
theorem D6t : ii_ 5 = some (1, 1, some (.int .u8 0)) := by kernel_rfl
theorem D6s : ii_ 9 = some (1, 16, some (.string ⟨#[]⟩)) := by kernel_rfl
theorem D5m : ii_ 12 = some (1, 8, some (.int .u64 0)) := by kernel_rfl
theorem D5l : ii_ 21 = some (1, 4, some (.int .i32 0)) := by kernel_rfl
theorem D5k : ii_ 22 = some (1, 24, some (.slice none 0 0)) := by kernel_rfl
theorem D5j : ii_ 23 = some (1, 24, some (.slice none 0 0)) := by kernel_rfl
theorem D5i : ii_ 24 = some (1, 24, some (.slice none 0 0)) := by kernel_rfl
theorem D5h : ii_ 25 = some (6, 104, some (.agg #[.int .i64 0, .int .i64 0, .string ⟨#[]⟩, .slice none 0 0, .slice none 0 0, .slice none 0 0])) := by kernel_rfl
theorem D5g : ii_ 26 = some (6, 104, some (.agg #[.int .i64 0, .int .i64 0, .string ⟨#[]⟩, .slice none 0 0, .slice none 0 0, .slice none 0 0])) := by kernel_rfl
theorem D5f : ii_ 27 = some (1, 24, some (.slice none 0 0)) := by kernel_rfl
theorem D5e : ii_ 28 = some (2, 48, some (.agg #[.slice none 0 0, .slice none 0 0])) := by kernel_rfl
theorem D5d : ii_ 29 = some (2, 48, some (.agg #[.slice none 0 0, .slice none 0 0])) := by kernel_rfl
theorem D5c : ii_ 30 = some (1, 8, some (.nilFunc)) := by kernel_rfl
theorem D5b : ii_ 31 = some (1, 8, some (.nilFunc)) := by kernel_rfl
theorem D5a : ii_ 32 = some (1, 8, some (.nilFunc)) := by kernel_rfl
theorem D4z : ii_ 33 = some (1, 8, some (.nilFunc)) := by kernel_rfl
theorem D4y : ii_ 34 = some (1, 8, some (.int .i64 0)) := by kernel_rfl
theorem D4x : ii_ 36 = some (1, 8, some (.nilFunc)) := by kernel_rfl
theorem D4w : ii_ 37 = some (2, 48, some (.agg #[.slice none 0 0, .slice none 0 0])) := by kernel_rfl
theorem D4v : ii_ 45 = some (1, 8, some (.nilFunc)) := by kernel_rfl
theorem D4u : ii_ 71 = some (1, 8, some (.nilFunc)) := by kernel_rfl
theorem D4t : ii_ 73 = some (1, 8, some (.nilFunc)) := by kernel_rfl
theorem D4s : ii_ 76 = some (2, 48, some (.agg #[.slice none 0 0, .slice none 0 0])) := by kernel_rfl
theorem D4r : ii_ 77 = some (2, 48, some (.agg #[.slice none 0 0, .slice none 0 0])) := by kernel_rfl
theorem D4q : ii_ 88 = some (1, 8, some (.nilFunc)) := by kernel_rfl
theorem D4p : ii_ 89 = some (1, 4, some (.int .u32 0)) := by kernel_rfl
theorem D4o : ii_ 91 = some (1, 8, some (.int .u64 0)) := by kernel_rfl
theorem D4n : ii_ 92 = some (1, 8, some (.nilFunc)) := by kernel_rfl
theorem D4m : ii_ 93 = some (1, 8, some (.nilFunc)) := by kernel_rfl
theorem D4l : ii_ 94 = some (4, 32, some (.agg #[.nilFunc, .nilFunc, .nilFunc, .nilFunc])) := by kernel_rfl
theorem D4k : ii_ 95 = some (4, 32, some (.agg #[.nilFunc, .nilFunc, .nilFunc, .nilFunc])) := by kernel_rfl
theorem D1j : ii_ 102 = some (1, 8, some (.nilFunc)) := by kernel_rfl
theorem D1i : ii_ 105 = some (1, 8, some (.nilFunc)) := by kernel_rfl
theorem D1h : ii_ 106 = some (2, 8, some (.agg #[.int .u32 0, .int .u32 0])) := by kernel_rfl
theorem D1g : ii_ 107 = some (2, 8, some (.agg #[.int .u32 0, .int .u32 0])) := by kernel_rfl
theorem D1f : ii_ 109 = some (1, 8, some (.pointer none)) := by kernel_rfl
theorem D1e : ii_ 110 = some (1, 8, some (.agg #[.int .i64 0])) := by kernel_rfl
theorem D1d : ii_ 111 = some (1, 8, some (.agg #[.int .i64 0])) := by kernel_rfl
theorem D1c : ii_ 118 = some (1, 8, some (.nilFunc)) := by kernel_rfl
theorem D1b : ii_ 119 = some (1, 8, some (.nilFunc)) := by kernel_rfl
theorem D1a : ii_ 120 = some (2, 16, some (.agg #[.nilFunc, .nilFunc])) := by kernel_rfl
theorem D0z : ii_ 121 = some (2, 16, some (.agg #[.nilFunc, .nilFunc])) := by kernel_rfl
theorem D0y : ii_ 138 = some (1, 8, some (.nilFunc)) := by kernel_rfl
theorem D0x : ii_ 140 = some (1, 24, some (.slice none 0 0)) := by kernel_rfl
theorem D0w : ii_ 142 = some (1, 8, some (.nilFunc)) := by kernel_rfl
theorem D0v : ii_ 168 = some (1, 8, some (.nilFunc)) := by kernel_rfl
theorem D0u : ii_ 172 = some (1, 8, some (.map none)) := by kernel_rfl
theorem D0t : ii_ 173 = some (1, 8, some (.nilFunc)) := by kernel_rfl
theorem D0s : ii_ 177 = some (1, 8, some (.nilFunc)) := by kernel_rfl
theorem D0r : ii_ 186 = some (1, 8, some (.nilFunc)) := by kernel_rfl
theorem D0q : ii_ 187 = some (1, 8, some (.nilFunc)) := by kernel_rfl
theorem D0p : ii_ 188 = some (1, 8, some (.nilFunc)) := by kernel_rfl
theorem D0o : ii_ 190 = some (2, 16, some (.agg #[.int .i64 0, .int .i64 0])) := by kernel_rfl
theorem D0n : ii_ 191 = some (2, 16, some (.agg #[.int .i64 0, .int .i64 0])) := by kernel_rfl
theorem D0m : ii_ 193 = some (1, 8, some (.nilFunc)) := by kernel_rfl
theorem D0l : ii_ 197 = some (1, 8, some (.nilFunc)) := by kernel_rfl
theorem D0k : ii_ 198 = some (1, 8, some (.nilFunc)) := by kernel_rfl
theorem D0j : ii_ 199 = some (1, 8, some (.nilFunc)) := by kernel_rfl
theorem D0i : ii_ 200 = some (29, 232, some (.agg #[.int .i64 0, .int .i64 0, .int .i64 0, .int .i64 0, .int .i64 0, .int .i64 0, .int .i64 0, .int .i64 0, .int .i64 0, .int .i64 0, .int .i64 0, .int .i64 0, .int .i64 0, .int .i64 0, .int .i64 0, .int .i64 0, .int .i64 0, .int .i64 0, .int .i64 0, .int .i64 0, .int .i64 0, .int .i64 0, .int .i64 0, .int .i64 0, .int .i64 0, .int .i64 0, .int .i64 0, .int .i64 0, .int .i64 0])) := by kernel_rfl
theorem D0h : ii_ 217 = some (1, 8, some (.int .u64 0)) := by kernel_rfl
theorem D0g : ii_ 220 = some (1, 8, some (.int .i64 0)) := by kernel_rfl
theorem D0f : ii_ 228 = some (32, 32, some (.agg #[.int .u8 0, .int .u8 0, .int .u8 0, .int .u8 0, .int .u8 0, .int .u8 0, .int .u8 0, .int .u8 0, .int .u8 0, .int .u8 0, .int .u8 0, .int .u8 0, .int .u8 0, .int .u8 0, .int .u8 0, .int .u8 0, .int .u8 0, .int .u8 0, .int .u8 0, .int .u8 0, .int .u8 0, .int .u8 0, .int .u8 0, .int .u8 0, .int .u8 0, .int .u8 0, .int .u8 0, .int .u8 0, .int .u8 0, .int .u8 0, .int .u8 0, .int .u8 0])) := by kernel_rfl
theorem D0e : ii_ 237 = some (1, 8, some (.pointer none)) := by kernel_rfl
theorem D0d : ii_ 251 = some (1, 8, some (.pointer none)) := by kernel_rfl
theorem Au {t s b : Nat} {z : Value} (h : ii_ t = some (s, b, some z)) : ∃ i, Tryz.prog.info? t = some i ∧ i.size = s ∧ i.bytes = b ∧ i.zero = some z := by
 obtain ⟨i, h1, h2⟩ := Option.map_eq_some_iff.1 h
 simp only [Prod.mk.injEq] at h2
 exact ⟨i, h1, h2.1, h2.2.1, h2.2.2⟩
theorem C2w : ∀ t d, C7n t = some d → Tryz.prog.underlying t = some d := by
 intro t d h
 unfold C7n at h
 split at h
 ·cases h; exact Tryz.underlying1
 ·cases h; exact Tryz.underlying2
 ·cases h; exact Tryz.underlying3
 ·cases h; exact Tryz.underlying4
 ·cases h; exact Tryz.underlying5
 ·cases h; exact Tryz.underlying9
 ·cases h; exact Tryz.underlying12
 ·cases h; exact Tryz.underlying20
 ·cases h; exact Tryz.underlying21
 ·cases h; exact Tryz.underlying22
 ·cases h; exact Tryz.underlying23
 ·cases h; exact Tryz.underlying24
 ·cases h; exact Tryz.underlying27
 ·cases h; exact Tryz.underlying30
 ·cases h; exact Tryz.underlying31
 ·cases h; exact Tryz.underlying32
 ·cases h; exact Tryz.underlying33
 ·cases h; exact Tryz.underlying34
 ·cases h; exact Tryz.underlying36
 ·cases h; exact Tryz.underlying45
 ·cases h; exact Tryz.underlying71
 ·cases h; exact Tryz.underlying73
 ·cases h; exact Tryz.underlying88
 ·cases h; exact Tryz.underlying89
 ·cases h; exact Tryz.underlying91
 ·cases h; exact Tryz.underlying92
 ·cases h; exact Tryz.underlying93
 ·cases h; exact Tryz.underlying102
 ·cases h; exact Tryz.underlying105
 ·cases h; exact Tryz.underlying109
 ·cases h; exact Tryz.underlying118
 ·cases h; exact Tryz.underlying119
 ·cases h; exact Tryz.underlying138
 ·cases h; exact Tryz.underlying140
 ·cases h; exact Tryz.underlying142
 ·cases h; exact Tryz.underlying168
 ·cases h; exact Tryz.underlying172
 ·cases h; exact Tryz.underlying173
 ·cases h; exact Tryz.underlying177
 ·cases h; exact Tryz.underlying186
 ·cases h; exact Tryz.underlying187
 ·cases h; exact Tryz.underlying188
 ·cases h; exact Tryz.underlying193
 ·cases h; exact Tryz.underlying197
 ·cases h; exact Tryz.underlying198
 ·cases h; exact Tryz.underlying199
 ·cases h; exact Tryz.underlying200
 ·cases h; exact Tryz.underlying217
 ·cases h; exact Tryz.underlying220
 ·cases h; exact Tryz.underlying228
 ·cases h; exact Tryz.underlying237
 ·cases h; exact Tryz.underlying251
 ·cases h
theorem C2x : ∀ t s b z, C7o t = some (s, b, z) → ∃ i, Tryz.prog.info? t = some i ∧ i.size = s ∧ i.bytes = b ∧ i.zero = some z := by
 intro t s b z h
 unfold C7o at h
 split at h
 ·cases h; exact Au D6x
 ·cases h; exact Au D6w
 ·cases h; exact Au D6v
 ·cases h; exact Au D6u
 ·cases h; exact Au D6t
 ·cases h; exact Au D6s
 ·cases h; exact Au D5m
 ·cases h; exact Au D5l
 ·cases h; exact Au D5k
 ·cases h; exact Au D5j
 ·cases h; exact Au D5i
 ·cases h; exact Au D5h
 ·cases h; exact Au D5g
 ·cases h; exact Au D5f
 ·cases h; exact Au D5e
 ·cases h; exact Au D5d
 ·cases h; exact Au D5c
 ·cases h; exact Au D5b
 ·cases h; exact Au D5a
 ·cases h; exact Au D4z
 ·cases h; exact Au D4y
 ·cases h; exact Au D4x
 ·cases h; exact Au D4w
 ·cases h; exact Au D4v
 ·cases h; exact Au D4u
 ·cases h; exact Au D4t
 ·cases h; exact Au D4s
 ·cases h; exact Au D4r
 ·cases h; exact Au D4q
 ·cases h; exact Au D4p
 ·cases h; exact Au D4o
 ·cases h; exact Au D4n
 ·cases h; exact Au D4m
 ·cases h; exact Au D4l
 ·cases h; exact Au D4k
 ·cases h; exact Au D1j
 ·cases h; exact Au D1i
 ·cases h; exact Au D1h
 ·cases h; exact Au D1g
 ·cases h; exact Au D1f
 ·cases h; exact Au D1e
 ·cases h; exact Au D1d
 ·cases h; exact Au D1c
 ·cases h; exact Au D1b
 ·cases h; exact Au D1a
 ·cases h; exact Au D0z
 ·cases h; exact Au D0y
 ·cases h; exact Au D0x
 ·cases h; exact Au D0w
 ·cases h; exact Au D0v
 ·cases h; exact Au D0u
 ·cases h; exact Au D0t
 ·cases h; exact Au D0s
 ·cases h; exact Au D0r
 ·cases h; exact Au D0q
 ·cases h; exact Au D0p
 ·cases h; exact Au D0o
 ·cases h; exact Au D0n
 ·cases h; exact Au D0m
 ·cases h; exact Au D0l
 ·cases h; exact Au D0k
 ·cases h; exact Au D0j
 ·cases h; exact Au D0i
 ·cases h; exact Au D0h
 ·cases h; exact Au D0g
 ·cases h; exact Au D0f
 ·cases h; exact Au D0e
 ·cases h; exact Au D0d
 ·cases h
theorem D4g : ∃ fs, Tryz.prog.underlying 25 = some (.struct fs) ∧ fs.toList.mapM (fun f => (Tryz.prog.info? f.type).map fun i => (f.offset, i.size)) = some [(0, 1), (1, 1), (2, 1), (3, 1), (4, 1), (5, 1)] := ⟨_, Tryz.underlying25, by kernel_rfl⟩
theorem D4f : ∃ fs, Tryz.prog.underlying 26 = some (.struct fs) ∧ fs.toList.mapM (fun f => (Tryz.prog.info? f.type).map fun i => (f.offset, i.size)) = some [(0, 1), (1, 1), (2, 1), (3, 1), (4, 1), (5, 1)] := ⟨_, Tryz.underlying26, by kernel_rfl⟩
theorem D4e : ∃ fs, Tryz.prog.underlying 28 = some (.struct fs) ∧ fs.toList.mapM (fun f => (Tryz.prog.info? f.type).map fun i => (f.offset, i.size)) = some [(0, 1), (1, 1)] := ⟨_, Tryz.underlying28, by kernel_rfl⟩
theorem D4d : ∃ fs, Tryz.prog.underlying 29 = some (.struct fs) ∧ fs.toList.mapM (fun f => (Tryz.prog.info? f.type).map fun i => (f.offset, i.size)) = some [(0, 1), (1, 1)] := ⟨_, Tryz.underlying29, by kernel_rfl⟩
theorem D4c : ∃ fs, Tryz.prog.underlying 37 = some (.struct fs) ∧ fs.toList.mapM (fun f => (Tryz.prog.info? f.type).map fun i => (f.offset, i.size)) = some [(0, 1), (1, 1)] := ⟨_, Tryz.underlying37, by kernel_rfl⟩
theorem D4b : ∃ fs, Tryz.prog.underlying 76 = some (.struct fs) ∧ fs.toList.mapM (fun f => (Tryz.prog.info? f.type).map fun i => (f.offset, i.size)) = some [(0, 1), (1, 1)] := ⟨_, Tryz.underlying76, by kernel_rfl⟩
theorem D4a : ∃ fs, Tryz.prog.underlying 77 = some (.struct fs) ∧ fs.toList.mapM (fun f => (Tryz.prog.info? f.type).map fun i => (f.offset, i.size)) = some [(0, 1), (1, 1)] := ⟨_, Tryz.underlying77, by kernel_rfl⟩
theorem D3z : ∃ fs, Tryz.prog.underlying 94 = some (.struct fs) ∧ fs.toList.mapM (fun f => (Tryz.prog.info? f.type).map fun i => (f.offset, i.size)) = some [(0, 1), (1, 1), (2, 1), (3, 1)] := ⟨_, Tryz.underlying94, by kernel_rfl⟩
theorem D3y : ∃ fs, Tryz.prog.underlying 95 = some (.struct fs) ∧ fs.toList.mapM (fun f => (Tryz.prog.info? f.type).map fun i => (f.offset, i.size)) = some [(0, 1), (1, 1), (2, 1), (3, 1)] := ⟨_, Tryz.underlying95, by kernel_rfl⟩
theorem C9y : ∃ fs, Tryz.prog.underlying 106 = some (.struct fs) ∧ fs.toList.mapM (fun f => (Tryz.prog.info? f.type).map fun i => (f.offset, i.size)) = some [(0, 1), (1, 1)] := ⟨_, Tryz.underlying106, by kernel_rfl⟩
theorem C9x : ∃ fs, Tryz.prog.underlying 107 = some (.struct fs) ∧ fs.toList.mapM (fun f => (Tryz.prog.info? f.type).map fun i => (f.offset, i.size)) = some [(0, 1), (1, 1)] := ⟨_, Tryz.underlying107, by kernel_rfl⟩
theorem C9w : ∃ fs, Tryz.prog.underlying 110 = some (.struct fs) ∧ fs.toList.mapM (fun f => (Tryz.prog.info? f.type).map fun i => (f.offset, i.size)) = some [(0, 1)] := ⟨_, Tryz.underlying110, by kernel_rfl⟩
theorem C9v : ∃ fs, Tryz.prog.underlying 111 = some (.struct fs) ∧ fs.toList.mapM (fun f => (Tryz.prog.info? f.type).map fun i => (f.offset, i.size)) = some [(0, 1)] := ⟨_, Tryz.underlying111, by kernel_rfl⟩
theorem C9u : ∃ fs, Tryz.prog.underlying 120 = some (.struct fs) ∧ fs.toList.mapM (fun f => (Tryz.prog.info? f.type).map fun i => (f.offset, i.size)) = some [(0, 1), (1, 1)] := ⟨_, Tryz.underlying120, by kernel_rfl⟩
theorem C9t : ∃ fs, Tryz.prog.underlying 121 = some (.struct fs) ∧ fs.toList.mapM (fun f => (Tryz.prog.info? f.type).map fun i => (f.offset, i.size)) = some [(0, 1), (1, 1)] := ⟨_, Tryz.underlying121, by kernel_rfl⟩
theorem C9s : ∃ fs, Tryz.prog.underlying 190 = some (.struct fs) ∧ fs.toList.mapM (fun f => (Tryz.prog.info? f.type).map fun i => (f.offset, i.size)) = some [(0, 1), (1, 1)] := ⟨_, Tryz.underlying190, by kernel_rfl⟩
theorem C9r : ∃ fs, Tryz.prog.underlying 191 = some (.struct fs) ∧ fs.toList.mapM (fun f => (Tryz.prog.info? f.type).map fun i => (f.offset, i.size)) = some [(0, 1), (1, 1)] := ⟨_, Tryz.underlying191, by kernel_rfl⟩
theorem B1b : ∀ t l, B3w t = some l → ∃ fs, Tryz.prog.underlying t = some (.struct fs) ∧ fs.toList.mapM (fun f => (Tryz.prog.info? f.type).map fun i => (f.offset, i.size)) = some l := by
 intro t l h
 unfold B3w at h
 split at h
 ·cases h; exact D4g
 ·cases h; exact D4f
 ·cases h; exact D4e
 ·cases h; exact D4d
 ·cases h; exact D4c
 ·cases h; exact D4b
 ·cases h; exact D4a
 ·cases h; exact D3z
 ·cases h; exact D3y
 ·cases h; exact C9y
 ·cases h; exact C9x
 ·cases h; exact C9w
 ·cases h; exact C9v
 ·cases h; exact C9u
 ·cases h; exact C9t
 ·cases h; exact C9s
 ·cases h; exact C9r
 ·cases h
theorem B7b : ∀ t l, B3w t = some l → l.all (fun x => x.2 != 0) = true := by
 intro t l h
 unfold B3w at h
 split at h
 ·cases h; rfl
 ·cases h; rfl
 ·cases h; rfl
 ·cases h; rfl
 ·cases h; rfl
 ·cases h; rfl
 ·cases h; rfl
 ·cases h; rfl
 ·cases h; rfl
 ·cases h; rfl
 ·cases h; rfl
 ·cases h; rfl
 ·cases h; rfl
 ·cases h; rfl
 ·cases h; rfl
 ·cases h; rfl
 ·cases h; rfl
 ·cases h
theorem A5g {P : Program} : ∀ (fs : List Field) (l : List (Nat × Nat)), fs.mapM (fun f => (P.info? f.type).map fun i => (f.offset, i.size)) = some l → ∀ (j : Nat) (x : Nat × Nat), l[j]? = some x → ∃ fl i, fs[j]? = some fl ∧ P.info? fl.type = some i ∧ fl.offset = x.1 ∧ i.size = x.2
 | [], l, h, j, x, hx => by simp at h; subst h; simp at hx
 | f :: fs, l, h, j, x, hx => by
  simp only [List.mapM_cons, Option.bind_eq_bind, Option.pure_def] at h
  cases hi : P.info? f.type with
  | none => simp [hi] at h
  | some i =>
   cases hr : fs.mapM (fun f => (P.info? f.type).map fun i => (f.offset, i.size)) with
   | none => simp [hi, hr] at h
   | some rest =>
    simp [hi, hr] at h
    subst h
    cases j with
    | zero => simp at hx; subst hx; exact ⟨f, i, rfl, hi, rfl, rfl⟩
    | succ j => simpa using A5g fs rest hr j x (by simpa using hx)
theorem C2y : ∀ t j o, C7p t j = some o → ∃ fs fl i, Tryz.prog.underlying t = some (.struct fs) ∧ fs[j]? = some fl ∧ fl.offset = o ∧ Tryz.prog.info? fl.type = some i ∧ i.size ≠ 0 := by
 intro t j o h
 unfold C7p at h
 obtain ⟨l, h1, h2⟩ := Option.bind_eq_some_iff.1 h
 obtain ⟨x, h3, rfl⟩ := Option.map_eq_some_iff.1 h2
 obtain ⟨fs, h4, h5⟩ := B1b t l h1
 obtain ⟨fl, i, h6, h7, h8, h9⟩ := A5g fs.toList l h5 j x h3
 refine ⟨fs, fl, i, h4, by simpa using h6, h8, h7, ?_⟩
 have := List.all_eq_true.1 (B7b t l h1) x (List.mem_of_getElem? h3)
 rw [h9]
 simpa using this
theorem D7a (a b c d : Int) (w : World) : (Op.equalIn 10000 107 (.agg #[.int .u32 a, .int .u32 b]) (.agg #[.int .u32 c, .int .u32 d])).run Tryz.prog w = .ok (a == c && b == d) w := by
 have u := Tryz.underlying89
 have hS : Tryz.prog.underlying 107 = some (.struct (Tryz.prog.fieldsOf 107)) := by kernel_rfl
 have hp : Tryz.prog.stoodInHeld 107 = false := by kernel_rfl
 obtain ⟨i, h1, h2⟩ : ∃ i, Tryz.prog.info? 89 = some i ∧ i.size = 1 := by
  obtain ⟨i, h1, h2⟩ := Option.map_eq_some_iff.1 (show (Tryz.prog.info? 89).map (fun i => i.size) = some 1 by kernel_rfl)
  exact ⟨i, h1, h2⟩
 have hz : ∀ w, (sizeOf 89).run Tryz.prog w = .ok 1 w := fun w => by simp [sizeOf, typeInfo, h1, h2]
 rw [show (10000 : Nat) = 9999 + 1 from rfl, run_equalIn_agg w 9999 107 _ _ hS hp]
 simp only [Program.fieldsOf, Tryz.underlying107]
 have hA : ∀ w, (isAgg 89).run Tryz.prog w = .ok false w := fun w => by simp [isAgg, run_underlying u]
 have e : ∀ (a c : Int) (w : World), (Op.equalIn 9999 89 (.int .u32 a) (.int .u32 c)).run Tryz.prog w = .ok (a == c) w := fun a c w => run_equalIn_int w 9998 89 .u32 .u32 a c u
 simp [Op.eqFields, part, hA, hz, e]
 by_cases h1 : a = c <;> by_cases h2 : b = d <;> simp [h1, h2]
instance : Go.Hy.Tab Tryz.prog := ⟨C7n, C2w, C7o, C2x, C7p, C2y, B3w, B1b, by kernel_rfl, 107, D7a, by kernel_rfl⟩
noncomputable def fC' : Array Field := match Tryz.prog.underlying 107 with | some (.struct fs) => fs | _ => #[]
noncomputable def fT' : Array Field := match Tryz.prog.underlying 26 with | some (.struct fs) => fs | _ => #[]
noncomputable def fB' : Array Field := match Tryz.prog.underlying 77 with | some (.struct fs) => fs | _ => #[]
noncomputable instance : Go.Hy.TyF Tryz.prog := { tI := 3, tS := 9, tU := 89, tC := 107, tT := 26, tB := 77, lC := 22, lT := 23, lB := 24, fC := fC', fT := fT', fB := fB', uI := Tryz.underlying3, uS := Tryz.underlying9, uU := Tryz.underlying89, uC := by kernel_rfl, uT := by kernel_rfl, uB := by kernel_rfl, ulC := Tryz.underlying22, ulT := Tryz.underlying23, ulB := Tryz.underlying24, pC := by kernel_rfl, pT := by kernel_rfl, pB := by kernel_rfl, c1 := ⟨by kernel_rfl, by kernel_rfl, by kernel_rfl, by kernel_rfl, by kernel_rfl, by kernel_rfl⟩, c2 := ⟨by kernel_rfl, by kernel_rfl, by kernel_rfl⟩, b2 := ⟨by kernel_rfl, by kernel_rfl, by kernel_rfl⟩ }
theorem laid' : laidOutB Tryz.prog = true := by kernel_rfl
noncomputable instance : Go.Hy.TabM Tryz.prog := { law := deep_law_laid laid' (m := 3) (by omega) (of_decide_eq_true (by kernel_rfl)) (by kernel_rfl) (by kernel_rfl), kt := by kernel_rfl, names := by kernel_rfl, npos := of_decide_eq_true (by kernel_rfl) }
end Go.Proofs.YtibignmpjeemeaaGreatDoor.Hy
namespace Go.Hy
theorem size_pos' (t : T) : 1 ≤ size t := by
 rw [size_eq]
 have : ∀ (l : List Part) (a : Nat), a ≤ l.foldl (fun a p => a + size p.1) a := by
  intro l
  induction l with
  | nil => intro a; exact Nat.le_refl _
  | cons p l ih => intro a; exact Nat.le_trans (Nat.le_add_right _ _) (ih _)
 exact this _ _
end Go.Hy
namespace Go.Hy
theorem M4 (k i : Int) : 0 ≤ (binds k i).1 ∧ (binds k i).1 ≤ 1 ∧ 0 ≤ (binds k i).2 ∧ (binds k i).2 ≤ 1 := by
 unfold binds
 repeat (first | split | (refine ⟨?_, ?_, ?_, ?_⟩ <;> simp))
theorem W6 {t : T} {p : Part} (h : p ∈ parts t) : 0 ≤ p.2.1 ∧ p.2.1 ≤ 1 ∧ 0 ≤ p.2.2 ∧ p.2.2 ≤ 1 := by
 unfold parts at h
 rcases List.mem_append.mp h with h | h
 ·have : ∀ (ks : List T) (i : Nat), p ∈ Da t.kind i ks → 0 ≤ p.2.1 ∧ p.2.1 ≤ 1 ∧ 0 ≤ p.2.2 ∧ p.2.2 ≤ 1 := by
   intro ks
   induction ks with
   | nil => intro i h; simp [Da] at h
   | cons k ks ih =>
    intro i h
    rcases List.mem_cons.mp h with e | h
    ·subst e; exact M4 _ _
    ·exact ih _ h
  exact this _ _ h
 ·have : ∀ (bs : List Br), p ∈ D6 t.kind bs → 0 ≤ p.2.1 ∧ p.2.1 ≤ 1 ∧ 0 ≤ p.2.2 ∧ p.2.2 ≤ 1 := by
   intro bs
   induction bs with
   | nil => intro h; simp [D6] at h
   | cons b bs ih =>
    intro h
    rcases List.mem_append.mp h with h | h
    ·obtain ⟨k, _, e⟩ := List.mem_map.mp h
     subst e
     show 0 ≤ (0 : Int) ∧ (0 : Int) ≤ 1 ∧ 0 ≤ more t.kind ∧ more t.kind ≤ 1
     unfold more
     split <;> omega
    ·exact ih h
  exact this _ h
theorem Mi {t : T} {p : Part} (h : p ∈ parts t) : size p.1 < size t := by
 obtain ⟨m, hm, e⟩ := List.mem_iff_getElem.mp h
 have h1 := B3z (t := t) (m := m) (p := p) (by rw [List.getElem?_eq_getElem hm, e])
 have h2 : 1 ≤ Bv t m := by
  unfold Bv Iy
  have : ∀ (l : List Part) (a : Nat), a ≤ l.foldl (fun a p => a + size p.1) a := by
   intro l
   induction l with
   | nil => intro a; exact Nat.le_refl _
   | cons p l ih => intro a; exact Nat.le_trans (Nat.le_add_right _ _) (ih _)
  exact this _ _
 omega
end Go.Hy
namespace Go.Hy
@[simp] theorem qE_def (q : QP) : qE q = RT q.1.1 q.1.2.1 q.1.2.2.1 q.1.2.2.2 := rfl
@[simp] theorem ipE_def (q : IP) : ipE q = IL q.1 q.2 := rfl
end Go.Hy
namespace Go.Hy
section
variable {α : Type} {B : C0} {Γ : List Fact} {Ms : List B3} {w : World} {E : α → Fact} {l : List α}
end
end Go.Hy
namespace Go.Hy
theorem Ip {t : T} (h : Ax t = 0) : size t ≤ 20000 := by
 unfold Ax at h
 split at h
 ·rename_i hs; exact absurd h hs
 ·rename_i hs
  simp only [ne_eq, Decidable.not_not, sized] at hs
  split at hs
  ·cases hs
  ·split at hs
   ·cases hs
   ·omega
theorem St.D3w {B : C0} {Γ : List Fact} {Ms : List B3} {w : World} {b : Nat} {e : TypeId} {cs : List Value} (l : List Int) (hs : St B Γ (Ag b cs e :: Ms) w) {hBp : Prop} (hB : hBp) (hc : cs = P7 l) (hn : l.length ≤ 1000) (hu : ∀ c, c ∈ l → Aw c) : St B (IL l (some ⟨b, 0, Option.none⟩, l.length) :: Γ) Ms w :=
 (hs.Iv (sz := 1) (m := l.length) (by rw [hc, K7 Sb l]) (by unfold maxLen; omega)).A3o hB hc rfl (by unfold reach; omega) hu
end Go.Hy
namespace Go.Hy
open Go Go.ChangeShapes Go.WideShapes Go.RowKit
variable {P : Program} {H : Type} {enc : TypeId × Value → H} {W : World} {base : Nat} {v : Value} {d : DataW H} {ps : List MemPlace} [TyF P]
theorem A6h : ∀ x, (Bq x).length = 1 := fun _ => rfl
theorem C2c {t tD : TypeId} {fs : Array Field} (hu : P.underlying t = some (.struct fs)) (hp : fs.toList.map (fun f => (f.offset, f.type)) = [(0, TyF.lT P), (1, tD)]) (hc : P.cellsOf t = 2) (hD : P.underlying tD = some (.slice (TyF.lC P))) (hDc : P.cellsOf tD = 1) (hDb : P.bytesOf (TyF.lC P) = 24) (hval : Value.okWide P W .any base t v) (h : DataW.Trod enc P W 0 (fun _ => true) true t v d ps) (hl : K4 P t d) : ∃ (l : List T) (a : SH) (m : List CP) (am : SH), v = .agg #[sl a l.length, sl am m.length] ∧ A3k (Zf W) l a W ∧ (Hf m am).f (Zf W) W := by
 obtain ⟨cs, rfl, _⟩ := okWide_struct hu hval
 obtain ⟨fuel, hf⟩ := h
 cases fuel with
 | zero => cases hf
 | succ fuel =>
  obtain ⟨h1, h2⟩ := Kq hu hp hf hl
  rw [hc] at h1
  obtain ⟨d0, p0, r0, l0⟩ := h2 0 _ rfl
  obtain ⟨d1, p1, r1, l1⟩ := h2 1 _ rfl
  obtain ⟨ks, vk, e0, hks⟩ := (Tm fuel).2.1 _ _ _ r0 l0
  cases fuel with
  | zero => cases r1
  | succ fuel =>
   obtain ⟨xs, am, e1, hm, hq⟩ := Rs (sp := fun _ => true) Bq (fun p : CP => Hu (Zf W) p.1 p.2 W) Cj A6h A3 hD TyF.c1.2.2.2.1 hDb (fun cs d ps h hl => by
    obtain ⟨l, a, h5, h6⟩ := A1o h hl
    exact ⟨(l, a), h5, h6⟩) r1 l1
   obtain ⟨c1, c2, c3, c4, c5, c6⟩ := TyF.c1 (P := P)
   simp only [c5, hDc] at e0 e1
   have f0 := Is e0
   have f1 := Is e1
   refine ⟨ks, vk, xs, am, ?_, hks, ⟨hm, hq⟩⟩
   have h3 : (Value.agg cs).cells.toList = [sl vk ks.length, sl am xs.length] := Kt (by rw [h1]; rfl) (fun i hi => by
    match i with
    | 0 => exact f0
    | 1 => exact f1
    | i + 2 => simp at hi; omega)
   have h4 : cs.toList = [sl vk ks.length, sl am xs.length] := by simpa [Value.cells] using h3
   rw [show cs = #[sl vk ks.length, sl am xs.length] from by rw [← Array.toArray_toList (xs := cs), h4]]
end Go.Hy
namespace Go.Hy
section
variable {tn : Bool} {pn : Nat} {P : Program} [Tab P] {f : FuncId} {R : Ending → World → Prop} {B : C0} {n : Fz} {K : List Item} {ops : Array Oper} {i : Nat} {l fin : List Nat} {σ : Nat → Value} {Γ : List Fact} {Ms Ms2 : List B3}
variable {dst : Option Tmp} {ty : TypeId}
theorem Kl {c : FuncId} {args cap al : List Value} {av : Array Operand} {ts : Array TypeId} {g : Operand} {pre : List Fact} {X : Type} {val : X → Value} {N : X → List Fact} {Ms1 : X → List B3}
  (hc : ∀ (args : Array Value) (w : World), (callFunc c args).run P w = .ok (.enter c args) w) (hsp : Spec P c al.toArray pre [] val N Ms1) (kk : ∀ x, NV tn pn P f R B n K ops fin l (Ak σ dst (val x)) (N x ++ Γ) (Ms1 x ++ Ms))
  (hg : ev σ g = .func (.func c) #[] cap.toArray := by rfl) (ha : av.toList.map (ev σ) = args := by rfl) (hal : args ++ cap = al := by rfl) (hpre : ∀ F, F ∈ pre → F ∈ Γ := by first | (simp; done) | (simp +contextual; done)) (hd : Ae n dst = true := by rfl) : Ir tn pn P f R B n K ops fin i l dst (.call { callee := .value g, args := av, argTypes := ts }) ty σ Γ Ms :=
 B1z (A9x hg ha hc) (hal ▸ hsp) hpre rfl rfl hd kk
end
end Go.Hy
namespace Go.Proofs
open Go.Shelf
def Tryz.Tc : Go.Shelf.Ren := ⟨fun | 6 => 201 | 15 => 253 | 14 => 252 | 28 => 289 | 29 => 290 | 20 => 281 | 21 => 282 | 22 => 283 | 23 => 284 | 24 => 285 | 25 => 286 | 26 => 287 | 27 => 288 | 46 => 300 | 47 => 301 | 48 => 302 | 49 => 303 | 50 => 304 | 57 => 307 | n => n, fun | 22 => 22 | 24 => 107 | 25 => 177 | 3 => 3 | 39 => 91 | 0 => 0 | 53 => 89 | 55 => 217 | 4 => 4 | 46 => 221 | 45 => 220 | 50 => 225 | 5 => 5 | 9 => 9 | 66 => 233 | 70 => 237 | 76 => 239 | 77 => 86 | n => n, fun | n => n⟩
theorem Tryz.C6d : Go.Proofs.SlLaysF0.n6 Tryz.prog Tryz.Tc := {
 mixed := by kernel_rfl
 f6 := ⟨Tryz.f201.name, by decide, Tryz.func201.trans (congrArg some (by kernel_rfl))⟩
 f14 := ⟨Tryz.f252.name, by decide, Tryz.func252.trans (congrArg some (by kernel_rfl))⟩
 f15 := Tryz.func253.trans (congrArg some (by kernel_rfl))
 f20 := ⟨Tryz.f281.name, by decide, Tryz.func281.trans (congrArg some (by kernel_rfl))⟩
 f21 := ⟨Tryz.f282.name, by decide, Tryz.func282.trans (congrArg some (by kernel_rfl))⟩
 f22 := ⟨Tryz.f283.name, by decide, Tryz.func283.trans (congrArg some (by kernel_rfl))⟩
 f23 := ⟨Tryz.f284.name, by decide, Tryz.func284.trans (congrArg some (by kernel_rfl))⟩
 f24 := ⟨Tryz.f285.name, by decide, Tryz.func285.trans (congrArg some (by kernel_rfl))⟩
 f25 := ⟨Tryz.f286.name, by decide, Tryz.func286.trans (congrArg some (by kernel_rfl))⟩
 f26 := ⟨Tryz.f287.name, by decide, Tryz.func287.trans (congrArg some (by kernel_rfl))⟩
 f27 := ⟨Tryz.f288.name, by decide, Tryz.func288.trans (congrArg some (by kernel_rfl))⟩
 f28 := Tryz.func289.trans (congrArg some (by kernel_rfl))
 f29 := Tryz.func290.trans (congrArg some (by kernel_rfl))
 f46 := ⟨Tryz.f300.name, by decide, Tryz.func300.trans (congrArg some (by kernel_rfl))⟩
 f47 := Tryz.func301.trans (congrArg some (by kernel_rfl))
 f48 := Tryz.func302.trans (congrArg some (by kernel_rfl))
 f49 := ⟨Tryz.f303.name, by decide, Tryz.func303.trans (congrArg some (by kernel_rfl))⟩
 f50 := ⟨Tryz.f304.name, by decide, Tryz.func304.trans (congrArg some (by kernel_rfl))⟩
 f57 := ⟨Tryz.f307.name, by decide, Tryz.func307.trans (congrArg some (by kernel_rfl))⟩
 t0 := Tryz.underlying0
 a0 := Tryz.isAgg0
 z0 := Tryz.sizeOf0
 v0 := Tryz.zeroValue0
 t3 := Tryz.underlying3
 a3 := Tryz.isAgg3
 z3 := Tryz.sizeOf3
 v3 := Tryz.zeroValue3
 t4 := Tryz.underlying4
 a4 := Tryz.isAgg4
 z4 := Tryz.sizeOf4
 v4 := Tryz.zeroValue4
 t5 := Tryz.underlying5
 a5 := Tryz.isAgg5
 z5 := Tryz.sizeOf5
 v5 := Tryz.zeroValue5
 t9 := Tryz.underlying9
 a9 := Tryz.isAgg9
 z9 := Tryz.sizeOf9
 v9 := Tryz.zeroValue9
 t22 := Tryz.underlying22
 a22 := Tryz.isAgg22
 z22 := Tryz.sizeOf22
 v22 := Tryz.zeroValue22
 t25 := Tryz.underlying177
 a25 := Tryz.isAgg177
 z25 := Tryz.sizeOf177
 v25 := Tryz.zeroValue177
 t39 := Tryz.underlying91
 a39 := Tryz.isAgg91
 z39 := Tryz.sizeOf91
 v39 := Tryz.zeroValue91
 t45 := Tryz.underlying220
 a45 := Tryz.isAgg220
 z45 := Tryz.sizeOf220
 v45 := Tryz.zeroValue220
 t46 := Tryz.underlying221
 a46 := Tryz.isAgg221
 z46 := Tryz.sizeOf221
 v46 := Tryz.zeroValue221
 t50 := Tryz.underlying225
 a50 := Tryz.isAgg225
 z50 := Tryz.sizeOf225
 v50 := Tryz.zeroValue225
 t53 := Tryz.underlying89
 a53 := Tryz.isAgg89
 z53 := Tryz.sizeOf89
 v53 := Tryz.zeroValue89
 t55 := Tryz.underlying217
 a55 := Tryz.isAgg217
 z55 := Tryz.sizeOf217
 v55 := Tryz.zeroValue217
 t66 := Tryz.underlying233
 a66 := Tryz.isAgg233
 z66 := Tryz.sizeOf233
 v66 := Tryz.zeroValue233
 t70 := Tryz.underlying237
 a70 := Tryz.isAgg237
 z70 := Tryz.sizeOf237
 v70 := Tryz.zeroValue237
 t76 := Tryz.underlying239
 a76 := Tryz.isAgg239
 z76 := Tryz.sizeOf239
 v76 := Tryz.zeroValue239
 t77 := Tryz.underlying86
 a77 := Tryz.isAgg86
 z77 := Tryz.sizeOf86
 v77 := Tryz.zeroValue86 }
end Go.Proofs
