/- A term's parts, in plain Lean. -/
import Derived.Test.YtcofpfnnlageaaaHyFacts
namespace Go.Hy
set_option linter.unusedVariables false
set_option linter.unusedSimpArgs false
set_option linter.unusedSectionVars false
set_option linter.unusedVariables false
set_option linter.unusedSimpArgs false
/-! ### What the functions come to: kinds and parts -/
def binds (kind kid : Int) : Int × Int :=
  if kid = 1 ∧ (kind = 4 ∨ kind = 7) then (1, 0)
  else if kid = 0 ∧ (kind = 5 ∨ kind = 22 ∨ kind = 27) then (1, 0)
  else if kid = 0 ∧ (kind = 11 ∨ kind = 12 ∨ kind = 14) then (0, 1)
  else (0, 0)
def more (kind : Int) : Int := if kind = 15 then 1 else 0
abbrev Part := T × Int × Int
def kidParts (kind : Int) : Nat → List T → List Part
  | _, [] => []
  | i, k :: ks => (k, binds kind i) :: kidParts kind (i + 1) ks
def sysParts (kind : Int) : List Br → List Part
  | [] => []
  | b :: bs => b.kids.map (fun k => (k, 0, more kind)) ++ sysParts kind bs
def parts (t : T) : List Part := kidParts t.kind 0 t.kids ++ sysParts t.kind t.sys
def sysBefore : Nat → List Br → Nat
  | 0, _ => 0
  | _, [] => 0
  | i + 1, b :: bs => b.kids.length + sysBefore i bs
theorem kidParts_length (kind : Int) : ∀ (i : Nat) (ks : List T), (kidParts kind i ks).length = ks.length
  | _, [] => rfl
  | i, k :: ks => by simp [kidParts, kidParts_length kind (i + 1) ks]
theorem kidParts_get (kind : Int) : ∀ (s : Nat) (ks : List T) (i : Nat), i < ks.length → (kidParts kind s ks)[i]? = some (ks.getD i t0, binds kind ((s + i : Nat) : Int))
  | _, [], i, h => by simp at h
  | s, k :: ks, 0, _ => by simp [kidParts]
  | s, k :: ks, i + 1, h => by
    simp only [kidParts, List.getElem?_cons_succ]
    rw [kidParts_get kind (s + 1) ks i (by simpa using h)]
    simp only [List.getD_cons_succ]
    rw [show s + 1 + i = s + (i + 1) by omega]
theorem sysParts_length (kind : Int) : ∀ (bs : List Br), (sysParts kind bs).length = sysBefore bs.length bs
  | [] => rfl
  | b :: bs => by simp [sysParts, sysBefore, sysParts_length kind bs]
theorem sysParts_get (kind : Int) : ∀ (bs : List Br) (i j : Nat), i < bs.length → j < (bs.getD i br0).kids.length → (sysParts kind bs)[sysBefore i bs + j]? = some ((bs.getD i br0).kids.getD j t0, 0, more kind)
  | [], i, j, h, _ => by simp at h
  | b :: bs, 0, j, _, hj => by
    have hj : j < b.kids.length := by simpa using hj
    simp [sysParts, sysBefore, List.getElem?_append, hj, List.getD_eq_getElem?_getD]
  | b :: bs, i + 1, j, h, hj => by
    have hj : j < (bs.getD i br0).kids.length := by simpa using hj
    have ih := sysParts_get kind bs i j (by simpa using h) hj
    simp only [sysParts, sysBefore, List.getD_cons_succ]
    rw [List.getElem?_append_right (by simp; omega)]
    simp only [List.length_map]
    rw [show b.kids.length + sysBefore i bs + j - b.kids.length = sysBefore i bs + j by omega]
    exact ih
theorem sysBefore_succ : ∀ (i : Nat) (bs : List Br), i < bs.length → sysBefore (i + 1) bs = sysBefore i bs + (bs.getD i br0).kids.length
  | i, [], h => by simp at h
  | 0, b :: bs, _ => by simp [sysBefore]
  | i + 1, b :: bs, h => by
    have := sysBefore_succ i bs (by simpa using h)
    simp only [sysBefore, List.getD_cons_succ] at this ⊢
    omega
theorem sysBefore_le {i j : Nat} {bs : List Br} : i < bs.length → j < (bs.getD i br0).kids.length → sysBefore i bs + j < sysBefore bs.length bs := by
  induction bs generalizing i with
  | nil => intro h; simp at h
  | cons b bs ih =>
    intro h hj
    cases i with
    | zero => simp only [List.getD_cons_zero] at hj; simp only [sysBefore, List.length_cons]; omega
    | succ i =>
      have := ih (i := i) (by simpa using h) (by simpa using hj)
      simp only [sysBefore, List.length_cons]; omega
theorem parts_kid (t : T) (i : Nat) (h : i < t.kids.length) : (parts t)[i]? = some (t.kids.getD i t0, binds t.kind i) := by
  unfold parts
  rw [List.getElem?_append_left (by rw [kidParts_length]; exact h), kidParts_get _ _ _ _ h]
  simp
theorem parts_sys (t : T) (i j : Nat) (h : i < t.sys.length) (hj : j < (t.sys.getD i br0).kids.length) : (parts t)[t.kids.length + sysBefore i t.sys + j]? = some ((t.sys.getD i br0).kids.getD j t0, 0, more t.kind) := by
  unfold parts
  rw [List.getElem?_append_right (by rw [kidParts_length]; omega), kidParts_length]
  rw [show t.kids.length + sysBefore i t.sys + j - t.kids.length = sysBefore i t.sys + j by omega]
  exact sysParts_get _ _ _ _ h hj
theorem parts_length (t : T) : (parts t).length = t.kids.length + sysBefore t.sys.length t.sys := by
  unfold parts
  rw [List.length_append, kidParts_length, sysParts_length]
/-- The first of n that answers no; n: none. -/
def ff (β : Nat → Bool) : Nat → Nat
  | 0 => 0
  | n + 1 => if ff β n = n then (if β n then n + 1 else n) else ff β n
theorem ff_all {β : Nat → Bool} : ∀ {n : Nat}, (∀ j, j < n → β j = true) → ff β n = n
  | 0, _ => rfl
  | n + 1, h => by simp [ff, ff_all (n := n) (fun j hj => h j (by omega)), h n (by omega)]
theorem ff_stop {β : Nat → Bool} {m : Nat} (hb : β m = false) (h : ∀ j, j < m → β j = true) : ∀ {n : Nat}, m < n → ff β n = m
  | 0, hm => by omega
  | n + 1, hm => by
    unfold ff
    by_cases e : m = n
    · subst e; simp [ff_all h, hb]
    · rw [ff_stop hb h (n := n) (by omega)]; simp [e]
end Go.Hy
