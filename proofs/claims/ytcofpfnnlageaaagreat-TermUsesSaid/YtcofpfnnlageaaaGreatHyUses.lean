/- Contracts of functions of this program, one theorem each (printed by a program of this repository). -/
import Derived.Test.YtcofpfnnlageaaaGreatHyAll
namespace Go.Hy
set_option linter.unusedVariables false
set_option linter.unusedSimpArgs false
set_option linter.unusedSectionVars false
set_option linter.unusedVariables false
/-! ### The document's uses of variables and dimensions -/
def accK (b : Bool) (f : Nat → Bool) (m : Nat) : Bool := b || (List.range m).any f
theorem accK_zero (b : Bool) (f : Nat → Bool) : accK b f 0 = b := by simp [accK]
theorem accK_succ (b : Bool) (f : Nat → Bool) (m : Nat) : accK b f (m + 1) = (accK b f m || f m) := by
  unfold accK; rw [List.range_succ, List.any_append]; simp [Bool.or_assoc]
theorem accK_iff {b : Bool} {f : Nat → Bool} {m : Nat} : accK b f m = true ↔ b = true ∨ ∃ i, i < m ∧ f i = true := by
  unfold accK; simp [List.any_eq_true]
theorem accK_join (b c : Bool) (f g : Nat → Bool) (s m : Nat) (h : g s = (c || (List.range m).any f)) : accK (accK b g s || c) f m = accK b g (s + 1) := by
  rw [accK_succ, h]; unfold accK; simp [Bool.or_assoc]
def useK (t : T) (n : Int) (i : Nat) : Bool := uses (t.kids.getD i t0) (IntKind.i64.wrap (n + (binds t.kind (i : Int)).1))
def useJ (t : T) (n : Int) (s k : Nat) : Bool := uses ((t.sys.getD s br0).kids.getD k t0) n
def useS (t : T) (n : Int) (s : Nat) : Bool := (List.range (t.sys.getD s br0).kids.length).any (useJ t n s)
theorem part_cases {t : T} {p : Part} (hp : p ∈ parts t) : (∃ i, i < t.kids.length ∧ p = (t.kids.getD i t0, binds t.kind (i : Int))) ∨ ∃ s k, s < t.sys.length ∧ k < (t.sys.getD s br0).kids.length ∧ p = ((t.sys.getD s br0).kids.getD k t0, 0, more t.kind) := by
  unfold parts at hp
  rcases List.mem_append.mp hp with hp | hp
  · left
    have key : ∀ (ks : List T) (s : Nat), p ∈ kidParts t.kind s ks → ∃ i, i < ks.length ∧ p = (ks.getD i t0, binds t.kind ((s + i : Nat) : Int)) := by
      intro ks
      induction ks with
      | nil => intro s h; simp [kidParts] at h
      | cons k ks ih =>
        intro s h
        simp only [kidParts, List.mem_cons] at h
        rcases h with h | h
        · exact ⟨0, by simp, by simpa using h⟩
        · obtain ⟨i, hi, e⟩ := ih (s + 1) h
          exact ⟨i + 1, by simpa using hi, by rw [e]; simp only [List.getD_cons_succ]; rw [show s + 1 + i = s + (i + 1) by omega]⟩
    obtain ⟨i, hi, e⟩ := key t.kids 0 hp
    exact ⟨i, hi, by rw [e]; simp⟩
  · right
    have key : ∀ (bs : List Br), p ∈ sysParts t.kind bs → ∃ s k, s < bs.length ∧ k < (bs.getD s br0).kids.length ∧ p = ((bs.getD s br0).kids.getD k t0, 0, more t.kind) := by
      intro bs
      induction bs with
      | nil => intro h; simp [sysParts] at h
      | cons b bs ih =>
        intro h
        simp only [sysParts, List.mem_append, List.mem_map] at h
        rcases h with ⟨k, hk, e⟩ | h
        · obtain ⟨j, hj, e2⟩ := List.mem_iff_getElem.mp hk
          exact ⟨0, j, by simp, by simpa using hj, by rw [← e]; simp only [List.getD_cons_zero]; rw [getD_get (d := t0) hj, e2]⟩
        · obtain ⟨s, k, h1, h2, e⟩ := ih h
          exact ⟨s + 1, k, by simpa using h1, by simpa using h2, by rw [e]; simp⟩
    exact key t.sys hp
theorem uses_acc {t : T} {n : Int} (h0 : 0 ≤ n) (hn : in64 n) : accK (accK (decide (t.kind = 1) && decide (t.n = n)) (useK t n) t.kids.length) (useS t n) t.sys.length = uses t n := by
  rw [Bool.eq_iff_iff, accK_iff, accK_iff, uses_iff h0]
  simp only [Bool.and_eq_true, decide_eq_true_eq]
  constructor
  · intro h
    by_cases hk : t.kind = 1 ∧ t.n = n
    · exact .inl hk
    · refine .inr ⟨hk, ?_⟩
      rcases h with (h | ⟨i, hi, h⟩) | ⟨s, hs, h⟩
      · exact absurd h hk
      · exact ⟨_, parts_mem (parts_kid t i hi), h⟩
      · unfold useS at h
        rw [List.any_eq_true] at h
        obtain ⟨k, hk2, h⟩ := h
        have hk2 := List.mem_range.mp hk2
        exact ⟨_, parts_mem (parts_sys t s k hs hk2), by simp only [Int.add_zero, wrap_id hn]; exact h⟩
  · rintro (h | ⟨_, p, hp, h⟩)
    · exact .inl (.inl h)
    · rcases part_cases hp with ⟨i, hi, e⟩ | ⟨s, k, hs, hk, e⟩
      · subst e; exact .inl (.inr ⟨i, hi, h⟩)
      · subst e
        simp only [Int.add_zero, wrap_id hn] at h
        exact .inr ⟨s, hs, by unfold useS; rw [List.any_eq_true]; exact ⟨k, List.mem_range.mpr hk, h⟩⟩
theorem uses_neg {t : T} {n : Int} (h : n < 0) : uses t n = false := by
  rw [uses_eq]
  split
  · simp; omega
  · simp only [decide_eq_true h, Bool.true_or, Bool.not_eq_false']; simp
/-! Dimensions. -/
def hasD (t : T) (i : Int) : Bool := decide (i < 24) && (dimsT t).testBit i.toNat
def hasK (t : T) (i : Int) (k : Nat) : Bool := hasD (t.kids.getD k t0) (i + (binds t.kind (k : Int)).2)
def hasJ (t : T) (i : Int) (s k : Nat) : Bool := hasD ((t.sys.getD s br0).kids.getD k t0) (i + more t.kind)
def hasF (t : T) (i : Int) (s : Nat) : Bool := hasM (fDims (t.sys.getD s br0).face) i
def hasS (t : T) (i : Int) (s : Nat) : Bool := hasF t i s || (List.range (t.sys.getD s br0).kids.length).any (hasJ t i s)
theorem fold_bit {α : Type} (f : α → Nat) (i : Nat) : ∀ (l : List α) (a : Nat), (l.foldl (fun a x => a ||| f x) a).testBit i = true ↔ a.testBit i = true ∨ ∃ x, x ∈ l ∧ (f x).testBit i = true
  | [], a => by simp
  | x :: l, a => by
    rw [List.foldl_cons, fold_bit f i l, Nat.testBit_or]
    simp only [Bool.or_eq_true, List.mem_cons, exists_eq_or_imp, or_assoc]
theorem part_bit {p : Part} {i : Nat} (hi : i < 24) (hb : bindsIn p.2.1 p.2.2) : (dimsPart p).testBit i = hasD p.1 ((i : Int) + p.2.2) := by
  unfold dimsPart dimsPartG hasD
  unfold bindsIn at hb
  split
  · rename_i h
    simp only at h
    rw [drop0_bit _ _ (dims_lt _), h]
    by_cases h2 : (i : Int) + 1 < 24
    · rw [decide_eq_true h2, Bool.true_and]
      congr 1
    · rw [decide_eq_false h2, Bool.false_and]
      exact Nat.testBit_lt_two_pow (Nat.lt_of_lt_of_le (dims_lt p.1) (Nat.pow_le_pow_right (n := 2) (j := i + 1) (by omega) (show 24 ≤ i + 1 by omega)))
  · rename_i h
    simp only at h
    have h0 : p.2.2 = 0 := by omega
    rw [h0, Int.add_zero, decide_eq_true (show (i : Int) < 24 by omega), Bool.true_and]
    simp
theorem has_acc {t : T} {i : Int} (h0 : 0 ≤ i) (h : i < 24) : accK (accK (hasM (fDims t.r) i) (hasK t i) t.kids.length) (hasS t i) t.sys.length = hasD t i := by
  have hM : ∀ s, hasM s i = s.testBit i.toNat := fun s => by unfold hasM; rw [decide_eq_true h0, decide_eq_true h]; rfl
  have hi : ((i.toNat : Nat) : Int) = i := Int.toNat_of_nonneg h0
  have hp : ∀ p, p ∈ parts t → (dimsPart p).testBit i.toNat = hasD p.1 (i + p.2.2) := fun p hp => by
    have := part_bit (p := p) (i := i.toNat) (by omega) (parts_in (k := p.1) (v := p.2.1) (d := p.2.2) hp)
    rwa [hi] at this
  rw [Bool.eq_iff_iff, accK_iff, accK_iff]
  have e : hasD t i = (dimsT t).testBit i.toNat := by unfold hasD; rw [decide_eq_true h]; rfl
  rw [e, ← dimsUpto_all]
  unfold dimsUpto
  rw [List.take_length, fold_bit dimsPart]
  unfold dimsF
  rw [List.take_length, fold_bit (fun b : Br => fDims b.face)]
  constructor
  · rintro ((h1 | ⟨k, hk, h1⟩) | ⟨s, hs, h1⟩)
    · exact .inl (.inl (by rw [← hM]; exact h1))
    · exact .inr ⟨_, parts_mem (parts_kid t k hk), by rw [hp _ (parts_mem (parts_kid t k hk))]; exact h1⟩
    · unfold hasS at h1
      rw [Bool.or_eq_true, List.any_eq_true] at h1
      rcases h1 with h1 | ⟨k, hk, h1⟩
      · exact .inl (.inr ⟨t.sys.getD s br0, getD_mem hs, by rw [← hM]; exact h1⟩)
      · have hk := List.mem_range.mp hk
        exact .inr ⟨_, parts_mem (parts_sys t s k hs hk), by rw [hp _ (parts_mem (parts_sys t s k hs hk))]; exact h1⟩
  · rintro ((h1 | ⟨b, hb, h1⟩) | ⟨p, hpm, h1⟩)
    · exact .inl (.inl (by rw [hM]; exact h1))
    · obtain ⟨s, hs, e2⟩ := List.mem_iff_getElem.mp hb
      refine .inr ⟨s, hs, ?_⟩
      unfold hasS hasF
      rw [getD_get (d := br0) hs, e2, hM, h1]; rfl
    · rw [hp p hpm] at h1
      rcases part_cases hpm with ⟨k, hk, e2⟩ | ⟨s, k, hs, hk, e2⟩
      · subst e2; exact .inl (.inr ⟨k, hk, h1⟩)
      · subst e2
        refine .inr ⟨s, hs, ?_⟩
        unfold hasS
        rw [Bool.or_eq_true, List.any_eq_true]
        exact .inr ⟨k, List.mem_range.mpr hk, h1⟩
theorem dims_set {t : T} : setM (listM (dimsT t)) = dimsT t := by rw [setM_listM, and24]; exact Nat.mod_eq_of_lt (dims_lt t)
end Go.Hy
