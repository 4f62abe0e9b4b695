/- Contracts of functions of this program, one theorem each (printed by a program of this repository). -/
import Derived.Test.YtcofpfnnlageaaaGreatHyLaw10
namespace Go.Hy
set_option linter.unusedVariables false
set_option linter.unusedSimpArgs false
set_option linter.unusedSectionVars false
set_option linter.unusedVariables false
/-! ### The dimensions of terms; a dimension taken out -/
def dropM (s : Nat) (i : Int) : Nat := if 0 ≤ i ∧ i < 24 then ((s &&& 16777215) &&& (2 ^ i.toNat - 1)) ||| ((s &&& 16777215) / 2 ^ (i.toNat + 1) * 2 ^ i.toNat) else s &&& 16777215
theorem and24_lt (s : Nat) : s &&& 16777215 < 16777216 := by rw [and24]; exact Nat.mod_lt _ (by decide)
theorem dropM_lt (s : Nat) (i : Int) : dropM s i < 16777216 := by
  have h := and24_lt s
  unfold dropM
  split
  · refine Nat.or_lt_two_pow (n := 24) (Nat.lt_of_le_of_lt Nat.and_le_left h) ?_
    generalize s &&& 16777215 = q at *
    have h1 : q / 2 ^ (i.toNat + 1) * 2 ^ i.toNat ≤ q / 2 ^ i.toNat * 2 ^ i.toNat := Nat.mul_le_mul_right _ (Nat.div_le_div_left (Nat.pow_le_pow_right (by omega) (by omega)) (Nat.pow_pos (by omega)))
    have h2 := Nat.div_mul_le_self q (2 ^ i.toNat)
    show _ < 16777216
    omega
  · exact h
def dimsF (t : T) (i : Nat) : Nat := (t.sys.take i).foldl (fun a b => a ||| fDims b.face) (fDims t.r)
def dimsPartG (p : Part × Nat) : Nat := if p.1.2.2 = 1 then dropM p.2 0 else p.2
def dimsG (t : T) (l : List (Part × Nat)) : Nat := l.foldl (fun a p => a ||| dimsPartG p) (dimsF t t.sys.length)
/-- The dimensions that a term has. -/
def dimsT : T → Nat := pf dimsG
def dimsPart (p : Part) : Nat := dimsPartG (p, dimsT p.1)
def dimsUpto (t : T) (m : Nat) : Nat := ((parts t).take m).foldl (fun a p => a ||| dimsPart p) (dimsF t t.sys.length)
theorem dimsUpto_zero (t : T) : dimsUpto t 0 = dimsF t t.sys.length := by simp [dimsUpto]
theorem dimsUpto_all (t : T) : dimsUpto t (parts t).length = dimsT t := by
  unfold dimsUpto
  rw [List.take_length]
  conv => rhs; rw [dimsT, pf_eq]
  unfold dimsG
  rw [List.foldl_map]
  rfl
theorem dimsUpto_succ {t : T} {m : Nat} {p : Part} (h : (parts t)[m]? = some p) : dimsUpto t (m + 1) = dimsUpto t m ||| dimsPart p := by
  unfold dimsUpto
  rw [List.take_add_one, h, List.foldl_append]; rfl
theorem dimsF_zero (t : T) : dimsF t 0 = fDims t.r := by simp [dimsF]
theorem dimsF_succ {t : T} {i : Nat} (h : i < t.sys.length) : dimsF t (i + 1) = dimsF t i ||| fDims (t.sys.getD i br0).face := by
  unfold dimsF; rw [take_succ_getD (d := br0) h, List.foldl_append]; rfl
theorem fDims_lt (l : List Cl) : fDims l < 16777216 := by rw [fDims_eq]; exact and24_lt _
theorem foldl_or_lt {α : Type} (f : α → Nat) : ∀ (l : List α) (a : Nat), a < 16777216 → (∀ x, x ∈ l → f x < 16777216) → l.foldl (fun a x => a ||| f x) a < 16777216
  | [], a, h, _ => h
  | x :: l, a, h, hx => foldl_or_lt f l _ (Nat.or_lt_two_pow (n := 24) h (hx x List.mem_cons_self)) (fun y hy => hx y (List.mem_cons_of_mem _ hy))
theorem dimsF_lt (t : T) (i : Nat) : dimsF t i < 16777216 := foldl_or_lt _ _ _ (fDims_lt _) (fun b _ => fDims_lt _)
theorem dims_lt : ∀ t, dimsT t < 16777216 := T.ind fun t ih => by
  rw [← dimsUpto_all]
  refine foldl_or_lt _ _ _ (dimsF_lt _ _) (fun p hp => ?_)
  have hp : p ∈ parts t := List.mem_of_mem_take hp
  unfold dimsPart dimsPartG
  split
  · exact dropM_lt _ _
  · exact ih p hp
theorem dimsUpto_lt (t : T) (m : Nat) : dimsUpto t m < 16777216 := by
  refine foldl_or_lt _ _ _ (dimsF_lt _ _) (fun p hp => ?_)
  unfold dimsPart dimsPartG
  split
  · exact dropM_lt _ _
  · exact dims_lt _
theorem dimsPart_lt (p : Part) : dimsPart p < 16777216 := by
  unfold dimsPart dimsPartG
  split
  · exact dropM_lt _ _
  · exact dims_lt _
end Go.Hy
