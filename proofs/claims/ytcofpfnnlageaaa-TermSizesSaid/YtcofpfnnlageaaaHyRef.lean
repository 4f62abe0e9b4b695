/- Contracts of functions of this program, one theorem each (printed by a program of this repository). -/
import Derived.Test.YtcofpfnnlageaaaHyMask
namespace Go.Hy
set_option linter.unusedVariables false
set_option linter.unusedSimpArgs false
set_option linter.unusedSectionVars false
set_option linter.unusedVariables false
/-! ### The document's clauses and formulas -/
theorem succ_inv {p : Nat → Prop} {i : Nat} (h : ∀ j, j < i → p j) (hi : p i) : ∀ j, j < i + 1 → p j := fun j hj => by
  rcases Nat.lt_succ_iff_lt_or_eq.mp hj with h2 | h2
  · exact h j h2
  · exact h2 ▸ hi
theorem any_false_of {α : Type} {d : α} {l : List α} {g : α → Bool} (h : ∀ j, j < l.length → g (l.getD j d) = false) : l.any g = false := by
  rw [List.any_eq_false]
  intro x hx
  obtain ⟨j, hj, e⟩ := List.mem_iff_getElem.mp hx
  have := h j hj
  rw [getD_get (d := d) hj, e] at this
  simp [this]
theorem any_true_at {α : Type} {d : α} {l : List α} {g : α → Bool} {i : Nat} (hi : i < l.length) (h : g (l.getD i d) = true) : l.any g = true := List.any_eq_true.mpr ⟨_, getD_mem hi, h⟩
theorem all_true_of {α : Type} {d : α} {l : List α} {g : α → Bool} (h : ∀ j, j < l.length → g (l.getD j d) = true) : l.all g = true := by
  rw [List.all_eq_true]
  intro x hx
  obtain ⟨j, hj, e⟩ := List.mem_iff_getElem.mp hx
  have := h j hj
  rwa [getD_get (d := d) hj, e] at this
theorem all_false_at {α : Type} {d : α} {l : List α} {g : α → Bool} {i : Nat} (hi : i < l.length) (h : g (l.getD i d) = false) : l.all g = false := by
  rw [List.all_eq_false]
  exact ⟨l.getD i d, getD_mem hi, by rw [h]; decide⟩
def rclash (c : Cl) : Bool := (List.range 24).any fun i => hasM c.pos (i : Int) && hasM c.neg (i : Int)
theorem rclash_eq {c : Cl} (h : right24 c = true) : rclash c = clash c := by
  simp only [right24, Bool.and_eq_true, decide_eq_true_eq] at h
  rw [Bool.eq_iff_iff]
  unfold rclash clash
  rw [List.any_eq_true, decide_eq_true_eq]
  constructor
  · rintro ⟨i, hi, hb⟩ h0
    simp only [hasM, Bool.and_eq_true, decide_eq_true_eq, Int.toNat_natCast] at hb
    have := congrArg (fun n => Nat.testBit n i) h0
    simp only [Nat.testBit_and, Nat.zero_testBit] at this
    rw [hb.1.2, hb.2.2] at this
    cases this
  · intro h0
    obtain ⟨i, hi⟩ : ∃ i, (c.pos &&& c.neg).testBit i = true := by
      apply Classical.byContradiction
      intro hn
      exact h0 (Nat.eq_of_testBit_eq fun i => by
        rw [Nat.zero_testBit]
        cases hb : (c.pos &&& c.neg).testBit i
        · rfl
        · exact absurd ⟨i, hb⟩ hn)
    rw [Nat.testBit_and, Bool.and_eq_true] at hi
    have hlt : i < 24 := by
      apply Classical.byContradiction
      intro hge
      have : c.pos.testBit i = false := Nat.testBit_lt_two_pow (Nat.lt_of_lt_of_le h.1 (Nat.pow_le_pow_right (n := 2) (by omega) (show 24 ≤ i by omega)))
      rw [this] at hi; cases hi.1
    exact ⟨i, List.mem_range.mpr hlt, by simp [hasM, hi.1, hi.2]; omega⟩
/-! A clause is put in its place. -/
def insC (c : Cl) : List Cl → List Cl
  | [] => [c]
  | d :: l => if lessC d c then d :: insC c l else if d = c then d :: l else c :: d :: l
def rl (l : List Cl) (m : List Cl) : List Cl := m.foldl (fun o c => if needless l c then o else insC c o) []
def rlTo (l : List Cl) (i : Nat) : List Cl := rl l (l.take i)
abbrev refLeast (l : List Cl) : List Cl := rl l l
theorem rlTo_zero (l : List Cl) : rlTo l 0 = [] := by simp [rlTo, rl]
theorem rlTo_all (l : List Cl) : rlTo l l.length = refLeast l := by simp [rlTo]
theorem rlTo_succ {l : List Cl} {i : Nat} (h : i < l.length) : rlTo l (i + 1) = if needless l (l.getD i cl0) then rlTo l i else insC (l.getD i cl0) (rlTo l i) := by
  unfold rlTo rl; rw [take_succ_getD (d := cl0) h, List.foldl_append]; rfl
theorem insC_mem {c x : Cl} : ∀ {l : List Cl}, x ∈ insC c l ↔ x = c ∨ x ∈ l
  | [] => by simp [insC]
  | d :: l => by
    unfold insC
    split
    · rw [List.mem_cons, insC_mem (l := l), List.mem_cons]
      constructor
      · rintro (h | h | h)
        · exact .inr (.inl h)
        · exact .inl h
        · exact .inr (.inr h)
      · rintro (h | h | h)
        · exact .inr (.inl h)
        · exact .inl h
        · exact .inr (.inr h)
    · split
      · rename_i h
        subst h
        simp
      · simp
theorem insC_len (c : Cl) : ∀ l : List Cl, (insC c l).length ≤ l.length + 1
  | [] => by simp [insC]
  | d :: l => by
    unfold insC
    have := insC_len c l
    split
    · simp; omega
    · split <;> simp
theorem insC_sorted {c : Cl} : ∀ {l : List Cl}, (l.Pairwise fun a b => lessC a b = true) → (insC c l).Pairwise fun a b => lessC a b = true
  | [], _ => by simp [insC]
  | d :: l, h => by
    rw [List.pairwise_cons] at h
    unfold insC
    split
    · rename_i hd
      rw [List.pairwise_cons]
      refine ⟨fun x hx => ?_, insC_sorted h.2⟩
      rcases insC_mem.mp hx with e | e
      · exact e ▸ hd
      · exact h.1 x e
    · rename_i hd
      split
      · exact List.pairwise_cons.mpr h
      · rename_i hne
        have hcd : lessC c d = true := by
          rcases lessC_tri c d with h3 | h3 | h3
          · exact h3
          · exact absurd h3.symm hne
          · exact absurd h3 hd
        rw [List.pairwise_cons]
        refine ⟨fun x hx => ?_, List.pairwise_cons.mpr h⟩
        rcases List.mem_cons.mp hx with e | e
        · exact e ▸ hcd
        · exact lessC_trans hcd (h.1 x e)
theorem rl_sorted (l : List Cl) : ∀ (m o : List Cl), (o.Pairwise fun a b => lessC a b = true) → (m.foldl (fun o c => if needless l c then o else insC c o) o).Pairwise fun a b => lessC a b = true
  | [], o, h => h
  | c :: m, o, h => by
    rw [List.foldl_cons]
    apply rl_sorted l m
    split
    · exact h
    · exact insC_sorted h
theorem rl_mem (l : List Cl) (x : Cl) : ∀ (m o : List Cl), x ∈ m.foldl (fun o c => if needless l c then o else insC c o) o ↔ x ∈ o ∨ (x ∈ m ∧ needless l x = false)
  | [], o => by simp
  | c :: m, o => by
    rw [List.foldl_cons, rl_mem l x m]
    by_cases hn : needless l c = true
    · rw [if_pos hn, List.mem_cons]
      constructor
      · rintro (h | ⟨h, h2⟩)
        · exact .inl h
        · exact .inr ⟨.inr h, h2⟩
      · rintro (h | ⟨h | h, h2⟩)
        · exact .inl h
        · subst h; rw [hn] at h2; cases h2
        · exact .inr ⟨h, h2⟩
    · rw [if_neg hn, insC_mem, List.mem_cons]
      constructor
      · rintro ((h | h) | ⟨h, h2⟩)
        · subst h; exact .inr ⟨.inl rfl, by simpa using hn⟩
        · exact .inl h
        · exact .inr ⟨.inr h, h2⟩
      · rintro (h | ⟨h | h, h2⟩)
        · exact .inl (.inr h)
        · exact .inl (.inl h)
        · exact .inr ⟨h, h2⟩
theorem refLeast_mem {l : List Cl} {x : Cl} : x ∈ refLeast l ↔ x ∈ l ∧ needless l x = false := by
  have := rl_mem l x l []
  simpa [refLeast, rl] using this
theorem refLeast_sorted (l : List Cl) : (refLeast l).Pairwise fun a b => lessC a b = true := rl_sorted l l [] List.Pairwise.nil
theorem rlTo_len (l : List Cl) (i : Nat) : (rlTo l i).length ≤ i := by
  have : ∀ (m o : List Cl), (m.foldl (fun o c => if needless l c then o else insC c o) o).length ≤ o.length + m.length := by
    intro m
    induction m with
    | nil => intro o; simp
    | cons c m ih =>
      intro o
      rw [List.foldl_cons]
      have h1 := ih (if needless l c then o else insC c o)
      have h2 : (if needless l c = true then o else insC c o).length ≤ o.length + 1 := by
        split
        · omega
        · exact insC_len c o
      simp only [List.length_cons]; omega
  have := this (l.take i) []
  unfold rlTo rl
  simp at this ⊢
  omega
theorem rlTo_in {l : List Cl} {i : Nat} {c : Cl} (h : c ∈ rlTo l i) : c ∈ l := by
  have := (rl_mem l c (l.take i) []).mp h
  rcases this with h | h
  · cases h
  · exact List.mem_of_mem_take h.1
theorem strict_ext : ∀ {l m : List Cl}, (l.Pairwise fun a b => lessC a b = true) → (m.Pairwise fun a b => lessC a b = true) → (∀ x, x ∈ l ↔ x ∈ m) → l = m
  | [], [], _, _, _ => rfl
  | [], b :: m, _, _, h => by have := (h b).mpr List.mem_cons_self; cases this
  | a :: l, [], _, _, h => by have := (h a).mp List.mem_cons_self; cases this
  | a :: l, b :: m, h1, h2, h => by
    rw [List.pairwise_cons] at h1 h2
    have e : a = b := by
      rcases List.mem_cons.mp ((h a).mp List.mem_cons_self) with h3 | h3
      · exact h3
      · rcases List.mem_cons.mp ((h b).mpr List.mem_cons_self) with h4 | h4
        · exact h4.symm
        · have h5 := h2.1 a h3
          have h6 := h1.1 b h4
          rw [lessC_asym h5] at h6; cases h6
    subst e
    congr 1
    apply strict_ext h1.2 h2.2
    intro x
    have hx := h x
    rw [List.mem_cons, List.mem_cons] at hx
    constructor
    · intro h3
      rcases hx.mp (.inr h3) with h4 | h4
      · subst h4; have := h1.1 x h3; rw [lessC_irr] at this; cases this
      · exact h4
    · intro h3
      rcases hx.mpr (.inr h3) with h4 | h4
      · subst h4; have := h2.1 x h3; rw [lessC_irr] at this; cases this
      · exact h4
theorem needless_once (l : List Cl) (c : Cl) : needless (once l) c = needless l c := by
  unfold needless
  rw [Bool.eq_iff_iff, List.any_eq_true, List.any_eq_true]
  constructor
  · rintro ⟨d, h1, h2⟩; exact ⟨d, (once_mem d l).mp h1, h2⟩
  · rintro ⟨d, h1, h2⟩; exact ⟨d, (once_mem d l).mpr h1, h2⟩
theorem once_nodup (l : List Cl) : (once l).Nodup := by
  have : ∀ (m o : List Cl), o.Nodup → (m.foldl (fun o c => if c ∈ o then o else o ++ [c]) o).Nodup := by
    intro m
    induction m with
    | nil => intro o h; exact h
    | cons c m ih =>
      intro o h
      rw [List.foldl_cons]
      apply ih
      split
      · exact h
      · rename_i hn
        rw [List.nodup_append]
        refine ⟨h, by simp, ?_⟩
        intro a ha b hb e
        rw [List.mem_singleton] at hb
        exact hn (hb ▸ e ▸ ha)
  exact this l [] List.nodup_nil
theorem sortOf_ex (l : List Cl) : ∃ m, SortOf l m := by
  refine ⟨l.mergeSort (fun a b => !lessC b a), List.mergeSort_perm _ _, ?_⟩
  have := List.pairwise_mergeSort (le := fun a b => !lessC b a) (fun a b c h1 h2 => by
    simp only [Bool.not_eq_true'] at *
    simp only [lessC, Bool.or_eq_false_iff, Bool.and_eq_false_iff, decide_eq_false_iff_not] at *
    omega) (fun a b => by
    rcases lessC_tri a b with h | h | h
    · simp [lessC_asym h]
    · subst h; simp [lessC_irr]
    · simp [lessC_asym h]) l
  exact this.imp fun h => by simpa using h
theorem sortOf_eq {l m : List Cl} (h : SortOf (kept l) m) : m = refLeast l := by
  have hnd : m.Nodup := (h.1.nodup_iff).mpr (by unfold kept; exact (once_nodup l).filter _)
  have hb : m.Pairwise fun a b => lessC b a = false ∧ a ≠ b := h.2.and hnd
  refine strict_ext ?_ (refLeast_sorted l) (fun x => ?_)
  · exact hb.imp fun {a b} ⟨h3, h4⟩ => by
      rcases lessC_tri a b with h5 | h5 | h5
      · exact h5
      · exact absurd h5 h4
      · rw [h3] at h5; cases h5
  · rw [h.1.mem_iff, refLeast_mem]
    unfold kept
    rw [List.mem_filter, once_mem, needless_once]
    simp
/-- What Least tells: an error's number, and the clauses. -/
def leastF (l : List Cl) : Int × List Cl := if l.all right24 = false then (2, []) else if 64 < (refLeast l).length then (3, []) else (0, refLeast l)
theorem leastIs_eq {l : List Cl} {r : Int × List Cl} (h : LeastIs l r) : r = leastF l := by
  unfold LeastIs at h
  unfold leastF
  by_cases h1 : l.all right24 = false
  · rw [if_pos h1] at h ⊢; exact h
  · rw [if_neg h1] at h ⊢
    by_cases h2 : 64 < (kept l).length
    · have h3 : (kept l).length = (refLeast l).length := by
        obtain ⟨m, hm⟩ := sortOf_ex (kept l)
        rw [← hm.1.length_eq, sortOf_eq hm]
      rw [if_pos h2] at h
      rw [if_pos (by omega)]; exact h
    · rw [if_neg h2] at h
      have e := sortOf_eq h.2
      have h3 : (kept l).length = (refLeast l).length := by rw [← h.2.1.length_eq, e]
      rw [if_neg (by omega)]
      exact Prod.ext h.1 e
theorem leastF_right (l : List Cl) : (decide ((leastF l).1 = 0) && decide ((leastF l).2 = l)) = fRight l := by
  obtain ⟨r, hr⟩ : ∃ r, LeastIs l r := by
    unfold LeastIs
    by_cases h1 : l.all right24 = false
    · exact ⟨_, by rw [if_pos h1]⟩
    · by_cases h2 : 64 < (kept l).length
      · exact ⟨_, by rw [if_neg h1, if_pos h2]⟩
      · obtain ⟨m, hm⟩ := sortOf_ex (kept l)
        exact ⟨(0, m), by rw [if_neg h1, if_neg h2]; exact ⟨rfl, hm⟩⟩
  rw [← leastIs_eq hr]
  exact least_right hr
/-- A clause in its place, by the place. -/
theorem insC_at {c : Cl} : ∀ {l : List Cl} {k : Nat}, k ≤ l.length → (∀ j, j < k → lessC (l.getD j cl0) c = true) → (k < l.length → lessC (l.getD k cl0) c = false) → insC c l = if k < l.length ∧ l.getD k cl0 = c then l else l.take k ++ [c] ++ l.drop k
  | [], k, hk, h1, h2 => by simp at hk; subst hk; simp [insC]
  | d :: l, 0, hk, h1, h2 => by
    have h := h2 (by simp)
    simp only [List.getD_cons_zero] at h
    unfold insC
    rw [h, if_neg (by decide)]
    simp
  | d :: l, k + 1, hk, h1, h2 => by
    have h := h1 0 (by omega)
    simp only [List.getD_cons_zero] at h
    unfold insC
    rw [if_pos h, insC_at (l := l) (k := k) (by simpa using hk) (fun j hj => by simpa using h1 (j + 1) (by omega)) (fun hlt => by simpa using h2 (by simpa using hlt))]
    simp only [List.length_cons, List.getD_cons_succ, List.take_succ_cons, List.drop_succ_cons, List.cons_append, Nat.add_lt_add_iff_right]
    split <;> rfl
end Go.Hy
