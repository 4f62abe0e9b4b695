/- Contracts of functions of this program, one theorem each (printed by a program of this repository). -/
import Derived.Test.YtcofpfnnlageaaaHyTerm
import Derived.Test.YtcofpfnnlageaaaHyOps
namespace Go.Hy
set_option linter.unusedVariables false
set_option linter.unusedSimpArgs false
set_option linter.unusedSectionVars false
set_option linter.unusedVariables false
/-! ### Clauses, formulas -/
def meetC (c d : Cl) : Cl := ⟨c.pos ||| d.pos, c.neg ||| d.neg⟩
theorem below_meet (c d : Cl) : decide (meetC c d = c) = below c d := by
  obtain ⟨p, n⟩ := c
  obtain ⟨p', n'⟩ := d
  simp [meetC, below]
def orUpto (l : List Cl) (i : Nat) : Nat := (l.take i).foldl (fun a c => a ||| (c.pos ||| c.neg)) 0
theorem orUpto_succ {l : List Cl} {i : Nat} (h : i < l.length) : orUpto l (i + 1) = orUpto l i ||| ((l.getD i cl0).pos ||| (l.getD i cl0).neg) := by
  unfold orUpto; rw [take_succ_getD (d := cl0) h, List.foldl_append]; rfl
theorem orUpto_lt {l : List Cl} (h : ∀ c, c ∈ l → u32 c) : ∀ i, orUpto l i < 4294967296 := by
  intro i
  have : ∀ (m : List Cl) (a : Nat), (∀ c, c ∈ m → u32 c) → a < 4294967296 → m.foldl (fun a c => a ||| (c.pos ||| c.neg)) a < 4294967296 := by
    intro m
    induction m with
    | nil => intro a _ h; exact h
    | cons c m ih =>
      intro a hm ha
      have hc := hm c List.mem_cons_self
      exact ih _ (fun d hd => hm d (List.mem_cons_of_mem _ hd)) (Nat.or_lt_two_pow (n := 32) ha (Nat.or_lt_two_pow (n := 32) hc.1 hc.2))
  exact this _ 0 (fun c hc => h c (List.mem_of_mem_take hc)) (by omega)
theorem fDims_eq (l : List Cl) : fDims l = orUpto l l.length &&& 16777215 := by
  unfold fDims orUpto; rw [List.take_length]
theorem andNot_zero {s : Nat} (hs : s < 4294967296) : decide ((andNot32 s 16777215 : Int) = 0) = decide (s < 16777216) := by
  apply decide_eq_decide.mpr
  have h : andNot32 s 16777215 = s / 16777216 * 16777216 := by
    unfold andNot32
    have e : (BitVec.ofNat 32 s &&& ~~~ BitVec.ofNat 32 16777215).toNat = s / 16777216 * 16777216 := by
      apply Nat.eq_of_testBit_eq
      intro i
      rw [← BitVec.getLsbD, BitVec.getLsbD_and, BitVec.getLsbD_not, BitVec.getLsbD_ofNat, BitVec.getLsbD_ofNat]
      rw [show s / 16777216 * 16777216 = (s / 2 ^ 24) * 2 ^ 24 from rfl, Nat.testBit_mul_two_pow, Nat.testBit_div_two_pow]
      rw [show (16777215 : Nat) = 2 ^ 24 - 1 from rfl, Nat.testBit_two_pow_sub_one]
      by_cases h1 : i < 32
      · by_cases h2 : 24 ≤ i
        · simp [h1, h2, Nat.sub_add_cancel h2]
        · simp [h1, h2]; omega
      · have : s.testBit i = false := Nat.testBit_lt_two_pow (Nat.lt_of_lt_of_le hs (Nat.pow_le_pow_right (n := 2) (by omega) (show 32 ≤ i by omega)))
        have h2 : 24 ≤ i := by omega
        simp [h1, h2, Nat.sub_add_cancel h2, this]
    exact e
  omega
end Go.Hy
namespace Go.Hy
set_option linter.unusedVariables false
set_option linter.unusedSimpArgs false
set_option linter.unusedSectionVars false
/-! ### Least -/
def idxP (g : Cl → Bool) (l : List Cl) : Int := if l.any g then (l.findIdx g : Int) else -1
theorem getD_get {α : Type} {d : α} {l : List α} {i : Nat} (h : i < l.length) : l.getD i d = l[i] := by
  rw [List.getD_eq_getElem?_getD, List.getElem?_eq_getElem h]; rfl
theorem idxP_at {g : Cl → Bool} {l : List Cl} {i : Nat} (h : i < l.length) (hg : g (l.getD i cl0) = true) (hb : ∀ j, j < i → g (l.getD j cl0) = false) : idxP g l = i := by
  have hany : l.any g = true := List.any_eq_true.mpr ⟨_, getD_mem h, hg⟩
  have hidx : l.findIdx g = i := by
    rw [List.findIdx_eq h]
    refine ⟨by rw [← getD_get (d := cl0) h]; exact hg, fun j hj => ?_⟩
    have := hb j hj
    rwa [getD_get (d := cl0) (by omega)] at this
  unfold idxP
  rw [hany, hidx]; rfl
theorem idxP_none {g : Cl → Bool} {l : List Cl} (hb : ∀ j, j < l.length → g (l.getD j cl0) = false) : idxP g l = -1 := by
  have hany : l.any g = false := by
    rw [List.any_eq_false]
    intro x hx
    obtain ⟨j, hj, e⟩ := List.mem_iff_getElem.mp hx
    have := hb j hj
    rw [getD_get (d := cl0) hj, e] at this
    simp [this]
  unfold idxP; rw [hany]; rfl
theorem idxP_nonneg (g : Cl → Bool) (l : List Cl) : decide (0 ≤ idxP g l) = l.any g := by
  unfold idxP
  cases l.any g
  · rfl
  · simp
/-- Each once, in the order of the first. -/
def once (l : List Cl) : List Cl := l.foldl (fun o c => if c ∈ o then o else o ++ [c]) []
theorem once_snoc (l : List Cl) (c : Cl) : once (l ++ [c]) = if c ∈ once l then once l else once l ++ [c] := by
  unfold once; rw [List.foldl_append]; rfl
theorem once_gen (c : Cl) : ∀ (l o : List Cl), (c ∈ l.foldl (fun o c => if c ∈ o then o else o ++ [c]) o ↔ c ∈ o ∨ c ∈ l) ∧ (l.foldl (fun o c => if c ∈ o then o else o ++ [c]) o).length ≤ o.length + l.length
  | [], o => by simp
  | d :: l, o => by
    have ih := once_gen c l (if d ∈ o then o else o ++ [d])
    rw [List.foldl_cons]
    constructor
    · rw [ih.1, List.mem_cons]
      split
      · rename_i h
        constructor
        · rintro (h2 | h2)
          · exact .inl h2
          · exact .inr (.inr h2)
        · rintro (h2 | h2 | h2)
          · exact .inl h2
          · exact .inl (h2 ▸ h)
          · exact .inr h2
      · rw [List.mem_append, List.mem_singleton, or_assoc]
    · have h3 := ih.2
      have h4 : (if d ∈ o then o else o ++ [d]).length ≤ o.length + 1 := by split <;> simp
      simp only [List.length_cons]; omega
theorem once_mem (c : Cl) (l : List Cl) : c ∈ once l ↔ c ∈ l := by
  have := (once_gen c l []).1
  simpa [once] using this
theorem once_len (l : List Cl) : (once l).length ≤ l.length := by
  have := (once_gen cl0 l []).2
  simpa [once] using this
/-- Is a clause needless in a list? -/
def needless (l : List Cl) (c : Cl) : Bool := l.any fun d => !decide (c = d) && below c d
def kept (l : List Cl) : List Cl := (once l).filter fun c => !needless (once l) c
/-- Sorted, and the same clauses. -/
def SortOf (l l' : List Cl) : Prop := l'.Perm l ∧ l'.Pairwise fun a b => lessC b a = false
/-- What clause.Least tells: an error's number, and the clauses. -/
def LeastIs (l : List Cl) (r : Int × List Cl) : Prop :=
  if l.all right24 = false then r = (2, []) else if 64 < (kept l).length then r = (3, []) else r.1 = 0 ∧ SortOf (kept l) r.2
end Go.Hy
namespace Go.Hy
set_option linter.unusedVariables false
set_option linter.unusedSimpArgs false
set_option linter.unusedSectionVars false
theorem all_of {l : List Cl} {g : Cl → Bool} (h : ∀ j, j < l.length → g (l.getD j cl0) = true) : l.all g = true := by
  rw [List.all_eq_true]
  intro x hx
  obtain ⟨j, hj, e⟩ := List.mem_iff_getElem.mp hx
  have := h j hj
  rwa [getD_get (d := cl0) hj, e] at this
theorem all_not {l : List Cl} {g : Cl → Bool} {i : Nat} (hi : i < l.length) (h : g (l.getD i cl0) = false) : l.all g = false := by
  rw [List.all_eq_false]
  exact ⟨l.getD i cl0, getD_mem hi, by rw [h]; decide⟩
def keptUpto (l : List Cl) (i : Nat) : List Cl := ((once l).take i).filter fun c => !needless (once l) c
theorem keptUpto_zero (l : List Cl) : keptUpto l 0 = [] := by simp [keptUpto]
theorem keptUpto_succ {l : List Cl} {i : Nat} (h : i < (once l).length) : keptUpto l (i + 1) = if needless (once l) ((once l).getD i cl0) then keptUpto l i else keptUpto l i ++ [(once l).getD i cl0] := by
  unfold keptUpto
  rw [take_succ_getD (d := cl0) h, List.filter_append]
  cases hn : needless (once l) ((once l).getD i cl0)
  · rw [List.filter_cons_of_pos (by rw [hn]; rfl)]; simp
  · rw [List.filter_cons_of_neg (by rw [hn]; decide)]; simp
theorem keptUpto_all (l : List Cl) : keptUpto l (once l).length = kept l := by simp [keptUpto, kept]
theorem keptUpto_len (l : List Cl) (i : Nat) : (keptUpto l i).length ≤ l.length := by
  unfold keptUpto
  have h1 := List.length_filter_le (fun c => !needless (once l) c) ((once l).take i)
  have h2 := once_len l
  simp only [List.length_take] at h1
  omega
theorem once_take_succ {l : List Cl} {i : Nat} (h : i < l.length) : once (l.take (i + 1)) = if l.getD i cl0 ∈ once (l.take i) then once (l.take i) else once (l.take i) ++ [l.getD i cl0] := by
  rw [take_succ_getD (d := cl0) h, once_snoc]
theorem once_take_len (l : List Cl) (i : Nat) : (once (l.take i)).length ≤ l.length := by
  have := once_len (l.take i); simp only [List.length_take] at this; omega
theorem clFlat_snoc' (l : List Cl) (c : Cl) : (l ++ [c]).flatMap clCells = l.flatMap clCells ++ clCells c := by simp
theorem kept_mem {l : List Cl} {c : Cl} (h : c ∈ kept l) : c ∈ l := by
  unfold kept at h
  exact (once_mem c l).mp (List.mem_filter.mp h).1
end Go.Hy
