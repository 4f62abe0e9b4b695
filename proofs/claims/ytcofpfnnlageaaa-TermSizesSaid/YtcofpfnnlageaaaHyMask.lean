/- Contracts of functions of this program, one theorem each (printed by a program of this repository). -/
import Derived.Test.YtcofpfnnlageaaaHyLeast
import Derived.Test.YtcofpfnnlageaaaHyInt
namespace Go.Hy
set_option linter.unusedVariables false
set_option linter.unusedSimpArgs false
set_option linter.unusedSectionVars false
set_option linter.unusedVariables false
/-! ### Sets of dimensions as bits of a number, by the document's definitions -/
def hasM (s : Nat) (i : Int) : Bool := decide (0 ≤ i) && decide (i < 24) && s.testBit i.toNat
theorem hasM_eq (s : Nat) (i : Int) : hasM s i = (decide (0 ≤ i) && decide (i < 24) && decide (s / 2 ^ i.toNat % 2 = 1)) := by
  unfold hasM; rw [Nat.testBit_eq_decide_div_mod_eq]
/-- The dimensions of a set below a number, rising. -/
def listTo (s n : Nat) : List Int := ((List.range n).filter s.testBit).map fun (i : Nat) => (i : Int)
abbrev listM (s : Nat) : List Int := listTo s 24
theorem listTo_succ (s n : Nat) : listTo s (n + 1) = if s.testBit n then listTo s n ++ [(n : Int)] else listTo s n := by
  unfold listTo
  rw [List.range_succ, List.filter_append]
  cases h : s.testBit n <;> simp [h]
theorem listTo_in {s n : Nat} {x : Int} (h : x ∈ listTo s n) : 0 ≤ x ∧ x < n := by
  unfold listTo at h
  simp only [List.mem_map, List.mem_filter, List.mem_range] at h
  obtain ⟨i, ⟨h1, _⟩, rfl⟩ := h
  omega
theorem listTo_mem {s n : Nat} {x : Int} : x ∈ listTo s n ↔ 0 ≤ x ∧ x < n ∧ s.testBit x.toNat = true := by
  unfold listTo
  simp only [List.mem_map, List.mem_filter, List.mem_range]
  constructor
  · rintro ⟨i, ⟨h1, h2⟩, rfl⟩; exact ⟨by omega, by omega, by simpa using h2⟩
  · rintro ⟨h1, h2, h3⟩; exact ⟨x.toNat, ⟨by omega, h3⟩, by omega⟩
theorem listTo_len (s n : Nat) : (listTo s n).length ≤ n := by
  unfold listTo
  rw [List.length_map]
  have := List.length_filter_le s.testBit (List.range n)
  simpa using this
/-- The set of dimensions. -/
def setM (l : List Int) : Nat := (l.map fun x => 2 ^ x.toNat).sum
def setTo (l : List Int) (i : Nat) : Nat := setM (l.take i)
theorem setTo_zero (l : List Int) : setTo l 0 = 0 := by simp [setTo, setM]
theorem setTo_all (l : List Int) : setTo l l.length = setM l := by simp [setTo]
theorem setTo_succ {l : List Int} {i : Nat} (h : i < l.length) : setTo l (i + 1) = setTo l i + 2 ^ (l.getD i 0).toNat := by
  unfold setTo setM; rw [take_succ_getD (d := 0) h, List.map_append, List.sum_append]; simp
theorem setM_le {l : List Int} (h : ∀ x, x ∈ l → 0 ≤ x ∧ x < 24) : setM l ≤ l.length * 8388608 := by
  unfold setM
  induction l with
  | nil => simp
  | cons a l ih =>
    have h1 := ih (fun x hx => h x (List.mem_cons_of_mem _ hx))
    have h2 := h a List.mem_cons_self
    have h3 : 2 ^ a.toNat ≤ 8388608 := Nat.pow_le_pow_right (n := 2) (j := 23) (by omega) (by omega)
    simp only [List.map_cons, List.sum_cons, List.length_cons]
    generalize 2 ^ a.toNat = q at *
    omega
theorem setTo_le {l : List Int} (h : ∀ x, x ∈ l → 0 ≤ x ∧ x < 24) (i : Nat) : setTo l i ≤ l.length * 8388608 := by
  have h1 := setM_le (l := l.take i) (fun x hx => h x (List.mem_of_mem_take hx))
  have h2 : (l.take i).length ≤ l.length := by simp; omega
  exact Nat.le_trans h1 (Nat.mul_le_mul_right 8388608 h2)
theorem setM_listTo (s : Nat) : ∀ n, setM (listTo s n) = s % 2 ^ n
  | 0 => by
    have h : listTo s 0 = [] := by unfold listTo; rw [List.range_zero, List.filter_nil, List.map_nil]
    rw [h, Nat.pow_zero, Nat.mod_one, setM, List.map_nil, List.sum_nil]
  | n + 1 => by
    rw [listTo_succ, Nat.mod_pow_succ]
    have ih := setM_listTo s n
    have hb := Nat.testBit_eq_decide_div_mod_eq (x := s) (i := n)
    by_cases h : s / 2 ^ n % 2 = 1
    · rw [hb, decide_eq_true h, if_pos rfl, h]
      have e : setM (listTo s n ++ [(n : Int)]) = setM (listTo s n) + 2 ^ n := by simp [setM]
      rw [e, ih, Nat.mul_one]
    · have h0 : s / 2 ^ n % 2 = 0 := by omega
      rw [hb, decide_eq_false h, if_neg (by simp), h0, ih]; simp
theorem and24 (s : Nat) : s &&& 16777215 = s % 2 ^ 24 := by
  rw [show (16777215 : Nat) = 2 ^ 24 - 1 from rfl, Nat.and_two_pow_sub_one_eq_mod]
theorem setM_listM (s : Nat) : setM (listM s) = s &&& 16777215 := by rw [setM_listTo, and24]
end Go.Hy
