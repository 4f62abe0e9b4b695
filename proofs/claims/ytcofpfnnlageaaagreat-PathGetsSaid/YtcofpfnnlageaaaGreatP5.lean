/- Contracts of this program's functions and the laws that they need: a separation logic over the machine's rules, one theorem each (partly printed by a program of this repository). -/
import Derived.Test.YtcofpfnnlageaaaGreatProg
import Derived.KernelRfl
import Derived.Test.YtcofpfnnlageaaaGreatP2
import Derived.Test.YtcofpfnnlageaaaGreatP3
import Derived.Test.YtcofpfnnlageaaaGreatP4
namespace Go.Hy
set_option linter.unusedVariables false
set_option linter.unusedSimpArgs false
set_option linter.unusedSectionVars false
set_option linter.unusedVariables false
/-! ### The document's clauses and formulas -/
theorem succ_inv {p : Nat → Prop} {i : Nat} (h : ∀ j, j < i → p j) (hi : p i) : ∀ j, j < i + 1 → p j := fun j hj => by
  rcases Nat.lt_succ_iff_lt_or_eq.mp hj with h2 | h2
  · exact h j h2
  · exact h2 ▸ hi
theorem any_false_of {α : Type} {d : α} {l : List α} {g : α → Bool} (h : ∀ j, j < l.length → g (l.getD j d) = false) : l.any g = false := by
  rw [List.any_eq_false]
  intro x hx
  obtain ⟨j, hj, e⟩ := List.mem_iff_getElem.mp hx
  have := h j hj
  rw [getD_get (d := d) hj, e] at this
  simp [this]
theorem any_true_at {α : Type} {d : α} {l : List α} {g : α → Bool} {i : Nat} (hi : i < l.length) (h : g (l.getD i d) = true) : l.any g = true := List.any_eq_true.mpr ⟨_, getD_mem hi, h⟩
theorem all_true_of {α : Type} {d : α} {l : List α} {g : α → Bool} (h : ∀ j, j < l.length → g (l.getD j d) = true) : l.all g = true := by
  rw [List.all_eq_true]
  intro x hx
  obtain ⟨j, hj, e⟩ := List.mem_iff_getElem.mp hx
  have := h j hj
  rwa [getD_get (d := d) hj, e] at this
theorem all_false_at {α : Type} {d : α} {l : List α} {g : α → Bool} {i : Nat} (hi : i < l.length) (h : g (l.getD i d) = false) : l.all g = false := by
  rw [List.all_eq_false]
  exact ⟨l.getD i d, getD_mem hi, by rw [h]; decide⟩
def rclash (c : Cl) : Bool := (List.range 24).any fun i => hasM c.pos (i : Int) && hasM c.neg (i : Int)
theorem rclash_eq {c : Cl} (h : right24 c = true) : rclash c = clash c := by
  simp only [right24, Bool.and_eq_true, decide_eq_true_eq] at h
  rw [Bool.eq_iff_iff]
  unfold rclash clash
  rw [List.any_eq_true, decide_eq_true_eq]
  constructor
  · rintro ⟨i, hi, hb⟩ h0
    simp only [hasM, Bool.and_eq_true, decide_eq_true_eq, Int.toNat_natCast] at hb
    have := congrArg (fun n => Nat.testBit n i) h0
    simp only [Nat.testBit_and, Nat.zero_testBit] at this
    rw [hb.1.2, hb.2.2] at this
    cases this
  · intro h0
    obtain ⟨i, hi⟩ : ∃ i, (c.pos &&& c.neg).testBit i = true := by
      apply Classical.byContradiction
      intro hn
      exact h0 (Nat.eq_of_testBit_eq fun i => by
        rw [Nat.zero_testBit]
        cases hb : (c.pos &&& c.neg).testBit i
        · rfl
        · exact absurd ⟨i, hb⟩ hn)
    rw [Nat.testBit_and, Bool.and_eq_true] at hi
    have hlt : i < 24 := by
      apply Classical.byContradiction
      intro hge
      have : c.pos.testBit i = false := Nat.testBit_lt_two_pow (Nat.lt_of_lt_of_le h.1 (Nat.pow_le_pow_right (n := 2) (by omega) (show 24 ≤ i by omega)))
      rw [this] at hi; cases hi.1
    exact ⟨i, List.mem_range.mpr hlt, by simp [hasM, hi.1, hi.2]; omega⟩
/-! A clause is put in its place. -/
def insC (c : Cl) : List Cl → List Cl
  | [] => [c]
  | d :: l => if lessC d c then d :: insC c l else if d = c then d :: l else c :: d :: l
def rl (l : List Cl) (m : List Cl) : List Cl := m.foldl (fun o c => if needless l c then o else insC c o) []
def rlTo (l : List Cl) (i : Nat) : List Cl := rl l (l.take i)
abbrev refLeast (l : List Cl) : List Cl := rl l l
theorem rlTo_zero (l : List Cl) : rlTo l 0 = [] := by simp [rlTo, rl]
theorem rlTo_all (l : List Cl) : rlTo l l.length = refLeast l := by simp [rlTo]
theorem rlTo_succ {l : List Cl} {i : Nat} (h : i < l.length) : rlTo l (i + 1) = if needless l (l.getD i cl0) then rlTo l i else insC (l.getD i cl0) (rlTo l i) := by
  unfold rlTo rl; rw [take_succ_getD (d := cl0) h, List.foldl_append]; rfl
theorem insC_mem {c x : Cl} : ∀ {l : List Cl}, x ∈ insC c l ↔ x = c ∨ x ∈ l
  | [] => by simp [insC]
  | d :: l => by
    unfold insC
    split
    · rw [List.mem_cons, insC_mem (l := l), List.mem_cons]
      constructor
      · rintro (h | h | h)
        · exact .inr (.inl h)
        · exact .inl h
        · exact .inr (.inr h)
      · rintro (h | h | h)
        · exact .inr (.inl h)
        · exact .inl h
        · exact .inr (.inr h)
    · split
      · rename_i h
        subst h
        simp
      · simp
theorem insC_len (c : Cl) : ∀ l : List Cl, (insC c l).length ≤ l.length + 1
  | [] => by simp [insC]
  | d :: l => by
    unfold insC
    have := insC_len c l
    split
    · simp; omega
    · split <;> simp
theorem insC_sorted {c : Cl} : ∀ {l : List Cl}, (l.Pairwise fun a b => lessC a b = true) → (insC c l).Pairwise fun a b => lessC a b = true
  | [], _ => by simp [insC]
  | d :: l, h => by
    rw [List.pairwise_cons] at h
    unfold insC
    split
    · rename_i hd
      rw [List.pairwise_cons]
      refine ⟨fun x hx => ?_, insC_sorted h.2⟩
      rcases insC_mem.mp hx with e | e
      · exact e ▸ hd
      · exact h.1 x e
    · rename_i hd
      split
      · exact List.pairwise_cons.mpr h
      · rename_i hne
        have hcd : lessC c d = true := by
          rcases lessC_tri c d with h3 | h3 | h3
          · exact h3
          · exact absurd h3.symm hne
          · exact absurd h3 hd
        rw [List.pairwise_cons]
        refine ⟨fun x hx => ?_, List.pairwise_cons.mpr h⟩
        rcases List.mem_cons.mp hx with e | e
        · exact e ▸ hcd
        · exact lessC_trans hcd (h.1 x e)
theorem rl_sorted (l : List Cl) : ∀ (m o : List Cl), (o.Pairwise fun a b => lessC a b = true) → (m.foldl (fun o c => if needless l c then o else insC c o) o).Pairwise fun a b => lessC a b = true
  | [], o, h => h
  | c :: m, o, h => by
    rw [List.foldl_cons]
    apply rl_sorted l m
    split
    · exact h
    · exact insC_sorted h
theorem rl_mem (l : List Cl) (x : Cl) : ∀ (m o : List Cl), x ∈ m.foldl (fun o c => if needless l c then o else insC c o) o ↔ x ∈ o ∨ (x ∈ m ∧ needless l x = false)
  | [], o => by simp
  | c :: m, o => by
    rw [List.foldl_cons, rl_mem l x m]
    by_cases hn : needless l c = true
    · rw [if_pos hn, List.mem_cons]
      constructor
      · rintro (h | ⟨h, h2⟩)
        · exact .inl h
        · exact .inr ⟨.inr h, h2⟩
      · rintro (h | ⟨h | h, h2⟩)
        · exact .inl h
        · subst h; rw [hn] at h2; cases h2
        · exact .inr ⟨h, h2⟩
    · rw [if_neg hn, insC_mem, List.mem_cons]
      constructor
      · rintro ((h | h) | ⟨h, h2⟩)
        · subst h; exact .inr ⟨.inl rfl, by simpa using hn⟩
        · exact .inl h
        · exact .inr ⟨.inr h, h2⟩
      · rintro (h | ⟨h | h, h2⟩)
        · exact .inl (.inr h)
        · exact .inl (.inl h)
        · exact .inr ⟨h, h2⟩
theorem refLeast_mem {l : List Cl} {x : Cl} : x ∈ refLeast l ↔ x ∈ l ∧ needless l x = false := by
  have := rl_mem l x l []
  simpa [refLeast, rl] using this
theorem refLeast_sorted (l : List Cl) : (refLeast l).Pairwise fun a b => lessC a b = true := rl_sorted l l [] List.Pairwise.nil
theorem rlTo_len (l : List Cl) (i : Nat) : (rlTo l i).length ≤ i := by
  have : ∀ (m o : List Cl), (m.foldl (fun o c => if needless l c then o else insC c o) o).length ≤ o.length + m.length := by
    intro m
    induction m with
    | nil => intro o; simp
    | cons c m ih =>
      intro o
      rw [List.foldl_cons]
      have h1 := ih (if needless l c then o else insC c o)
      have h2 : (if needless l c = true then o else insC c o).length ≤ o.length + 1 := by
        split
        · omega
        · exact insC_len c o
      simp only [List.length_cons]; omega
  have := this (l.take i) []
  unfold rlTo rl
  simp at this ⊢
  omega
theorem rlTo_in {l : List Cl} {i : Nat} {c : Cl} (h : c ∈ rlTo l i) : c ∈ l := by
  have := (rl_mem l c (l.take i) []).mp h
  rcases this with h | h
  · cases h
  · exact List.mem_of_mem_take h.1
theorem strict_ext : ∀ {l m : List Cl}, (l.Pairwise fun a b => lessC a b = true) → (m.Pairwise fun a b => lessC a b = true) → (∀ x, x ∈ l ↔ x ∈ m) → l = m
  | [], [], _, _, _ => rfl
  | [], b :: m, _, _, h => by have := (h b).mpr List.mem_cons_self; cases this
  | a :: l, [], _, _, h => by have := (h a).mp List.mem_cons_self; cases this
  | a :: l, b :: m, h1, h2, h => by
    rw [List.pairwise_cons] at h1 h2
    have e : a = b := by
      rcases List.mem_cons.mp ((h a).mp List.mem_cons_self) with h3 | h3
      · exact h3
      · rcases List.mem_cons.mp ((h b).mpr List.mem_cons_self) with h4 | h4
        · exact h4.symm
        · have h5 := h2.1 a h3
          have h6 := h1.1 b h4
          rw [lessC_asym h5] at h6; cases h6
    subst e
    congr 1
    apply strict_ext h1.2 h2.2
    intro x
    have hx := h x
    rw [List.mem_cons, List.mem_cons] at hx
    constructor
    · intro h3
      rcases hx.mp (.inr h3) with h4 | h4
      · subst h4; have := h1.1 x h3; rw [lessC_irr] at this; cases this
      · exact h4
    · intro h3
      rcases hx.mpr (.inr h3) with h4 | h4
      · subst h4; have := h2.1 x h3; rw [lessC_irr] at this; cases this
      · exact h4
theorem needless_once (l : List Cl) (c : Cl) : needless (once l) c = needless l c := by
  unfold needless
  rw [Bool.eq_iff_iff, List.any_eq_true, List.any_eq_true]
  constructor
  · rintro ⟨d, h1, h2⟩; exact ⟨d, (once_mem d l).mp h1, h2⟩
  · rintro ⟨d, h1, h2⟩; exact ⟨d, (once_mem d l).mpr h1, h2⟩
theorem once_nodup (l : List Cl) : (once l).Nodup := by
  have : ∀ (m o : List Cl), o.Nodup → (m.foldl (fun o c => if c ∈ o then o else o ++ [c]) o).Nodup := by
    intro m
    induction m with
    | nil => intro o h; exact h
    | cons c m ih =>
      intro o h
      rw [List.foldl_cons]
      apply ih
      split
      · exact h
      · rename_i hn
        rw [List.nodup_append]
        refine ⟨h, by simp, ?_⟩
        intro a ha b hb e
        rw [List.mem_singleton] at hb
        exact hn (hb ▸ e ▸ ha)
  exact this l [] List.nodup_nil
theorem sortOf_ex (l : List Cl) : ∃ m, SortOf l m := by
  refine ⟨l.mergeSort (fun a b => !lessC b a), List.mergeSort_perm _ _, ?_⟩
  have := List.pairwise_mergeSort (le := fun a b => !lessC b a) (fun a b c h1 h2 => by
    simp only [Bool.not_eq_true'] at *
    simp only [lessC, Bool.or_eq_false_iff, Bool.and_eq_false_iff, decide_eq_false_iff_not] at *
    omega) (fun a b => by
    rcases lessC_tri a b with h | h | h
    · simp [lessC_asym h]
    · subst h; simp [lessC_irr]
    · simp [lessC_asym h]) l
  exact this.imp fun h => by simpa using h
theorem sortOf_eq {l m : List Cl} (h : SortOf (kept l) m) : m = refLeast l := by
  have hnd : m.Nodup := (h.1.nodup_iff).mpr (by unfold kept; exact (once_nodup l).filter _)
  have hb : m.Pairwise fun a b => lessC b a = false ∧ a ≠ b := h.2.and hnd
  refine strict_ext ?_ (refLeast_sorted l) (fun x => ?_)
  · exact hb.imp fun {a b} ⟨h3, h4⟩ => by
      rcases lessC_tri a b with h5 | h5 | h5
      · exact h5
      · exact absurd h5 h4
      · rw [h3] at h5; cases h5
  · rw [h.1.mem_iff, refLeast_mem]
    unfold kept
    rw [List.mem_filter, once_mem, needless_once]
    simp
/-- What Least tells: an error's number, and the clauses. -/
def leastF (l : List Cl) : Int × List Cl := if l.all right24 = false then (2, []) else if 64 < (refLeast l).length then (3, []) else (0, refLeast l)
theorem leastIs_eq {l : List Cl} {r : Int × List Cl} (h : LeastIs l r) : r = leastF l := by
  unfold LeastIs at h
  unfold leastF
  by_cases h1 : l.all right24 = false
  · rw [if_pos h1] at h ⊢; exact h
  · rw [if_neg h1] at h ⊢
    by_cases h2 : 64 < (kept l).length
    · have h3 : (kept l).length = (refLeast l).length := by
        obtain ⟨m, hm⟩ := sortOf_ex (kept l)
        rw [← hm.1.length_eq, sortOf_eq hm]
      rw [if_pos h2] at h
      rw [if_pos (by omega)]; exact h
    · rw [if_neg h2] at h
      have e := sortOf_eq h.2
      have h3 : (kept l).length = (refLeast l).length := by rw [← h.2.1.length_eq, e]
      rw [if_neg (by omega)]
      exact Prod.ext h.1 e
theorem leastF_right (l : List Cl) : (decide ((leastF l).1 = 0) && decide ((leastF l).2 = l)) = fRight l := by
  obtain ⟨r, hr⟩ : ∃ r, LeastIs l r := by
    unfold LeastIs
    by_cases h1 : l.all right24 = false
    · exact ⟨_, by rw [if_pos h1]⟩
    · by_cases h2 : 64 < (kept l).length
      · exact ⟨_, by rw [if_neg h1, if_pos h2]⟩
      · obtain ⟨m, hm⟩ := sortOf_ex (kept l)
        exact ⟨(0, m), by rw [if_neg h1, if_neg h2]; exact ⟨rfl, hm⟩⟩
  rw [← leastIs_eq hr]
  exact least_right hr
/-- A clause in its place, by the place. -/
theorem insC_at {c : Cl} : ∀ {l : List Cl} {k : Nat}, k ≤ l.length → (∀ j, j < k → lessC (l.getD j cl0) c = true) → (k < l.length → lessC (l.getD k cl0) c = false) → insC c l = if k < l.length ∧ l.getD k cl0 = c then l else l.take k ++ [c] ++ l.drop k
  | [], k, hk, h1, h2 => by simp at hk; subst hk; simp [insC]
  | d :: l, 0, hk, h1, h2 => by
    have h := h2 (by simp)
    simp only [List.getD_cons_zero] at h
    unfold insC
    rw [h, if_neg (by decide)]
    simp
  | d :: l, k + 1, hk, h1, h2 => by
    have h := h1 0 (by omega)
    simp only [List.getD_cons_zero] at h
    unfold insC
    rw [if_pos h, insC_at (l := l) (k := k) (by simpa using hk) (fun j hj => by simpa using h1 (j + 1) (by omega)) (fun hlt => by simpa using h2 (by simpa using hlt))]
    simp only [List.length_cons, List.getD_cons_succ, List.take_succ_cons, List.drop_succ_cons, List.cons_append, Nat.add_lt_add_iff_right]
    split <;> rfl
end Go.Hy
namespace Go.Hy
set_option linter.unusedVariables false
set_option linter.unusedSimpArgs false
set_option linter.unusedSectionVars false
set_option linter.unusedVariables false
/-! ### How great a term is: nodes, clauses, bytes -/
def bulkG (t : T) (ks : List Nat) (bs : List (List Nat)) : Nat := 1 + t.r.length + t.name.size + ks.sum + ((t.sys.zip bs).map fun p => 1 + p.1.face.length + p.2.sum).sum
def bulk : T → Nat := tf bulkG
def brBulk (b : Br) : Nat := 1 + b.face.length + (b.kids.map bulk).sum
theorem bulk_eq (t : T) : bulk t = 1 + t.r.length + t.name.size + (t.kids.map bulk).sum + (t.sys.map brBulk).sum := by
  conv => lhs; rw [bulk, tf_eq]
  unfold bulkG
  congr 2
  generalize t.sys = l
  induction l with
  | nil => rfl
  | cons b l ih => simp only [List.map_cons, List.zip_cons_cons, List.map_cons]; rw [ih]; rfl
def bK (t : T) (i : Nat) : Nat := 1 + t.r.length + t.name.size + ((t.kids.take i).map bulk).sum
def bS (t : T) (i : Nat) : Nat := bK t t.kids.length + ((t.sys.take i).map brBulk).sum
def bJ (t : T) (i j : Nat) : Nat := bS t i + 1 + (t.sys.getD i br0).face.length + (((t.sys.getD i br0).kids.take j).map bulk).sum
theorem sum_take_succ {α : Type} (f : α → Nat) {l : List α} {i : Nat} {d : α} (h : i < l.length) : ((l.take (i + 1)).map f).sum = ((l.take i).map f).sum + f (l.getD i d) := by
  rw [take_succ_getD (d := d) h, List.map_append, List.sum_append]; simp
theorem sum_take_le {α : Type} (f : α → Nat) : ∀ (l : List α) (i : Nat), ((l.take i).map f).sum ≤ (l.map f).sum
  | [], i => by simp
  | a :: l, 0 => by simp
  | a :: l, i + 1 => by have := sum_take_le f l i; simp only [List.take_succ_cons, List.map_cons, List.sum_cons]; omega
theorem bK_zero (t : T) : bK t 0 = 1 + t.r.length + t.name.size := by simp [bK]
theorem bK_succ {t : T} {i : Nat} (h : i < t.kids.length) : bK t (i + 1) = bK t i + bulk (t.kids.getD i t0) := by
  unfold bK; rw [sum_take_succ bulk h (d := t0)]; omega
theorem bS_zero (t : T) : bS t 0 = bK t t.kids.length := by simp [bS]
theorem bJ_zero (t : T) (i : Nat) : bJ t i 0 = bS t i + 1 + (t.sys.getD i br0).face.length := by simp [bJ]
theorem bJ_succ {t : T} {i j : Nat} (h : j < (t.sys.getD i br0).kids.length) : bJ t i (j + 1) = bJ t i j + bulk ((t.sys.getD i br0).kids.getD j t0) := by
  unfold bJ; rw [sum_take_succ bulk h (d := t0)]; omega
theorem bS_succ {t : T} {i : Nat} (h : i < t.sys.length) : bS t (i + 1) = bJ t i (t.sys.getD i br0).kids.length := by
  unfold bS bJ bS; rw [sum_take_succ brBulk h (d := br0), List.take_length]; unfold brBulk; omega
theorem bS_all (t : T) : bS t t.sys.length = bulk t := by
  rw [bulk_eq]; unfold bS bK; rw [List.take_length, List.take_length]
theorem bS_le (t : T) (i : Nat) : bS t i ≤ bulk t := by
  rw [bulk_eq]; unfold bS bK; rw [List.take_length]; have := sum_take_le brBulk t.sys i; omega
theorem bK_le (t : T) (i : Nat) : bK t i ≤ bulk t := by
  rw [bulk_eq]; unfold bK; have := sum_take_le bulk t.kids i; omega
theorem bJ_le {t : T} {i j : Nat} (h : i < t.sys.length) : bJ t i j ≤ bulk t := by
  have h1 := bS_le t (i + 1)
  rw [bS_succ h] at h1
  unfold bJ at h1 ⊢
  rw [List.take_length] at h1
  have := sum_take_le bulk (t.sys.getD i br0).kids j
  omega
/-- What a count has come to, as far as 'most'. -/
def BulkIs (t : T) (part : Nat) (most n : Int) : Prop := 0 ≤ n ∧ n ≤ 2 * most + 1 ∧ ((n ≤ most ∧ n = part) ∨ (most < n ∧ most < bulk t))
theorem size_le_bulk : ∀ t, size t ≤ bulk t := T.ind fun t ih => by
  have hk : ∀ (F G : T → Nat) (l : List T), (∀ k, k ∈ l → F k ≤ G k) → (l.map F).sum ≤ (l.map G).sum := by
    intro F G l
    induction l with
    | nil => intro _; simp
    | cons a l ih => intro h; have := ih (fun k hk => h k (List.mem_cons_of_mem _ hk)); have := h a List.mem_cons_self; simp only [List.map_cons, List.sum_cons]; omega
  have e : size t = 1 + ((parts t).map fun p => size p.1).sum := by
    rw [size_eq]
    have : ∀ (l : List Part) (a : Nat), l.foldl (fun a p => a + size p.1) a = a + (l.map fun p => size p.1).sum := by
      intro l
      induction l with
      | nil => intro a; simp
      | cons b l ih => intro a; rw [List.foldl_cons, ih]; simp; omega
    exact this _ _
  rw [e, parts_map, bulk_eq, List.sum_append]
  have h1 := hk size bulk t.kids (fun k hk => by obtain ⟨p, hp, e⟩ := kid_mem_parts hk; exact e ▸ ih p hp)
  have h2 : ((t.sys.map fun b => b.kids.map size).flatten).sum ≤ (t.sys.map brBulk).sum := by
    have : ∀ (l : List Br), (∀ b, b ∈ l → b ∈ t.sys) → ((l.map fun b => b.kids.map size).flatten).sum ≤ (l.map brBulk).sum := by
      intro l
      induction l with
      | nil => intro _; simp
      | cons b l ih2 =>
        intro h
        have h3 := ih2 (fun b hb => h b (List.mem_cons_of_mem _ hb))
        have h4 := hk size bulk b.kids (fun k hk => by obtain ⟨p, hp, e⟩ := sys_mem_parts (h b List.mem_cons_self) hk; exact e ▸ ih p hp)
        simp only [List.map_cons, List.flatten_cons, List.sum_append, List.sum_cons]
        have hb : brBulk b = 1 + b.face.length + (b.kids.map bulk).sum := rfl
        rw [hb]
        omega
    exact this t.sys (fun _ h => h)
  omega
end Go.Hy
/- THE TYPES' TABLE of this seat's program, printed by mk_tab.py (a program of this repository): each row is checked by the kernel against the loaded program. -/
namespace Go.Proofs.YtcofpfnnlageaaaGreat.Hy
set_option linter.unusedVariables false
set_option linter.unusedSimpArgs false
set_option linter.unusedSectionVars false
open Go.Proofs
set_option maxRecDepth 100000
def tabU : Nat → Option (TypeDesc)
  | 1 => some (.func #[] #[] false)
  | 2 => some (.int .i64)
  | 3 => some (.int .i64)
  | 4 => some (.bool)
  | 5 => some (.int .u8)
  | 9 => some (.string)
  | 12 => some (.int .u64)
  | 21 => some (.int .i32)
  | 22 => some (.slice 89)
  | 23 => some (.slice 26)
  | 24 => some (.slice 71)
  | 27 => some (.func #[26] #[4] false)
  | 28 => some (.func #[26] #[3] false)
  | 29 => some (.func #[] #[4] false)
  | 30 => some (.func #[26, 3] #[4] false)
  | 31 => some (.int .u32)
  | 32 => some (.func #[26] #[31] false)
  | 33 => some (.slice 3)
  | 34 => some (.func #[26, 33] #[4] false)
  | 35 => some (.func #[26] #[26] false)
  | 36 => some (.int .i64)
  | 38 => some (.func #[26, 33, 26] #[26, 36] false)
  | 40 => some (.func #[26, 33, 26] #[26, 3] false)
  | 41 => some (.func #[26, 26] #[4] false)
  | 42 => some (.func #[26, 33, 26] #[4] false)
  | 46 => some (.func #[26, 33] #[44, 36] false)
  | 49 => some (.func #[26, 33] #[47, 3] false)
  | 50 => some (.func #[44, 47] #[4] false)
  | 51 => some (.slice 44)
  | 52 => some (.func #[26] #[51] false)
  | 53 => some (.slice 47)
  | 54 => some (.func #[26] #[53] false)
  | 55 => some (.slice 33)
  | 57 => some (.func #[26] #[55, 36] false)
  | 59 => some (.func #[26] #[55, 3] false)
  | 60 => some (.func #[33, 33] #[3] false)
  | 61 => some (.func #[33, 33] #[4] false)
  | 62 => some (.func #[26, 33, 33] #[4] false)
  | 63 => some (.func #[26, 3] #[3] false)
  | 64 => some (.func #[26, 3, 3, 4] #[4] false)
  | 65 => some (.func #[26, 3, 3] #[36] false)
  | 66 => some (.func #[26, 67] #[4] false)
  | 67 => some (.func #[26, 3, 3] #[4] false)
  | 69 => some (.func #[3, 3] #[3, 3] false)
  | 72 => some (.func #[22] #[31] false)
  | 73 => some (.func #[31, 3] #[31] false)
  | 74 => some (.func #[33] #[31] false)
  | 75 => some (.func #[26] #[36] false)
  | 76 => some (.func #[77, 33, 26] #[4] false)
  | 77 => some (.pointer 26)
  | 78 => some (.func #[26, 33, 26] #[26] false)
  | 79 => some (.func #[22, 22] #[4] false)
  | 80 => some (.func #[23, 23] #[4] false)
  | 81 => some (.func #[3] #[3] false)
  | 82 => some (.func #[55, 33, 26] #[55] false)
  | 83 => some (.func #[26] #[55] false)
  | 84 => some (.func #[3, 3] #[3] false)
  | 85 => some (.func #[9] #[4] false)
  | 86 => some (.func #[22] #[4] false)
  | 87 => some (.func #[22, 3] #[4] false)
  | 90 => some (.func #[23, 23, 41] #[4] false)
  | 91 => some (.func #[24, 24, 92] #[4] false)
  | 92 => some (.func #[71, 71] #[4] false)
  | 93 => some (.func #[22] #[22] false)
  | 94 => some (.func #[23] #[23] false)
  | 95 => some (.func #[3] #[4] false)
  | 96 => some (.func #[3] #[31] false)
  | 97 => some (.int .u64)
  | 98 => some (.func #[31, 3] #[4] false)
  | 99 => some (.func #[33] #[33] false)
  | 100 => some (.array 29 3)
  | 102 => some (.func #[22] #[22, 3] false)
  | 103 => some (.func #[89] #[4] false)
  | 104 => some (.func #[31] #[33] false)
  | 105 => some (.int .u64)
  | 106 => some (.func #[22, 89] #[4] false)
  | 107 => some (.func #[89, 89] #[4] false)
  | 108 => some (.func #[31] #[4] false)
  | 110 => some (.func #[22] #[22, 36] false)
  | 111 => some (.func #[22, 103] #[4] false)
  | 112 => some (.map 89 4)
  | 113 => some (.func #[22, 114] #[] false)
  | 114 => some (.func #[89, 89] #[3] false)
  | 115 => some (.func #[22, 103] #[3] false)
  | 116 => some (.func #[89, 89] #[89] false)
  | 117 => some (.func #[22, 3, 3, 3, 114] #[] false)
  | 118 => some (.func #[97] #[3] false)
  | 119 => some (.func #[31, 31] #[3] false)
  | 120 => some (.func #[22, 3, 3, 114] #[] false)
  | 121 => some (.int .i64)
  | 123 => some (.func #[22, 3, 3, 114] #[3, 121] false)
  | 124 => some (.func #[22, 3, 3, 114] #[4] false)
  | 125 => some (.func #[22, 3, 3, 3, 114] #[3] false)
  | 127 => some (.func #[22, 3, 3, 3, 114] #[3, 4] false)
  | 128 => some (.func #[31] #[3] false)
  | 129 => some (.func #[105] #[3] false)
  | 131 => some (.func #[3] #[97] false)
  | 132 => some (.func #[] #[105] false)
  | 133 => some (.func #[22, 3, 134, 114] #[3] false)
  | 134 => some (.pointer 3)
  | 135 => some (.func #[22, 3, 3, 3, 134, 114] #[3] false)
  | 137 => some (.func #[22, 3, 3, 134, 114] #[3, 3] false)
  | 138 => some (.func #[] #[9] false)
  | 144 => some (.func #[] #[3] false)
  | 148 => some (.pointer 5)
  | _ => none
def tabI : Nat → Option (Nat × Nat × Value)
  | 1 => some (1, 8, .nilFunc)
  | 2 => some (1, 8, .int .i64 0)
  | 3 => some (1, 8, .int .i64 0)
  | 4 => some (1, 1, .bool false)
  | 5 => some (1, 1, .int .u8 0)
  | 9 => some (1, 16, .string ⟨#[]⟩)
  | 12 => some (1, 8, .int .u64 0)
  | 20 => some (1, 16, .nilIface)
  | 21 => some (1, 4, .int .i32 0)
  | 22 => some (1, 24, .slice none 0 0)
  | 23 => some (1, 24, .slice none 0 0)
  | 24 => some (1, 24, .slice none 0 0)
  | 25 => some (6, 104, .agg #[.int .i64 0, .int .i64 0, .string ⟨#[]⟩, .slice none 0 0, .slice none 0 0, .slice none 0 0])
  | 26 => some (6, 104, .agg #[.int .i64 0, .int .i64 0, .string ⟨#[]⟩, .slice none 0 0, .slice none 0 0, .slice none 0 0])
  | 27 => some (1, 8, .nilFunc)
  | 28 => some (1, 8, .nilFunc)
  | 29 => some (1, 8, .nilFunc)
  | 30 => some (1, 8, .nilFunc)
  | 31 => some (1, 4, .int .u32 0)
  | 32 => some (1, 8, .nilFunc)
  | 33 => some (1, 24, .slice none 0 0)
  | 34 => some (1, 8, .nilFunc)
  | 35 => some (1, 8, .nilFunc)
  | 36 => some (1, 8, .int .i64 0)
  | 38 => some (1, 8, .nilFunc)
  | 40 => some (1, 8, .nilFunc)
  | 41 => some (1, 8, .nilFunc)
  | 42 => some (1, 8, .nilFunc)
  | 43 => some (8, 120, .agg #[.int .i64 0, .int .i64 0, .string ⟨#[]⟩, .slice none 0 0, .slice none 0 0, .slice none 0 0, .int .i64 0, .int .i64 0])
  | 44 => some (8, 120, .agg #[.int .i64 0, .int .i64 0, .string ⟨#[]⟩, .slice none 0 0, .slice none 0 0, .slice none 0 0, .int .i64 0, .int .i64 0])
  | 46 => some (1, 8, .nilFunc)
  | 47 => some (8, 120, .agg #[.int .i64 0, .int .i64 0, .string ⟨#[]⟩, .slice none 0 0, .slice none 0 0, .slice none 0 0, .int .i64 0, .int .i64 0])
  | 49 => some (1, 8, .nilFunc)
  | 50 => some (1, 8, .nilFunc)
  | 51 => some (1, 24, .slice none 0 0)
  | 52 => some (1, 8, .nilFunc)
  | 53 => some (1, 24, .slice none 0 0)
  | 54 => some (1, 8, .nilFunc)
  | 55 => some (1, 24, .slice none 0 0)
  | 57 => some (1, 8, .nilFunc)
  | 59 => some (1, 8, .nilFunc)
  | 60 => some (1, 8, .nilFunc)
  | 61 => some (1, 8, .nilFunc)
  | 62 => some (1, 8, .nilFunc)
  | 63 => some (1, 8, .nilFunc)
  | 64 => some (1, 8, .nilFunc)
  | 65 => some (1, 8, .nilFunc)
  | 66 => some (1, 8, .nilFunc)
  | 67 => some (1, 8, .nilFunc)
  | 69 => some (1, 8, .nilFunc)
  | 70 => some (2, 48, .agg #[.slice none 0 0, .slice none 0 0])
  | 71 => some (2, 48, .agg #[.slice none 0 0, .slice none 0 0])
  | 72 => some (1, 8, .nilFunc)
  | 73 => some (1, 8, .nilFunc)
  | 74 => some (1, 8, .nilFunc)
  | 75 => some (1, 8, .nilFunc)
  | 76 => some (1, 8, .nilFunc)
  | 77 => some (1, 8, .pointer none)
  | 78 => some (1, 8, .nilFunc)
  | 79 => some (1, 8, .nilFunc)
  | 80 => some (1, 8, .nilFunc)
  | 81 => some (1, 8, .nilFunc)
  | 82 => some (1, 8, .nilFunc)
  | 83 => some (1, 8, .nilFunc)
  | 84 => some (1, 8, .nilFunc)
  | 85 => some (1, 8, .nilFunc)
  | 86 => some (1, 8, .nilFunc)
  | 87 => some (1, 8, .nilFunc)
  | 88 => some (2, 8, .agg #[.int .u32 0, .int .u32 0])
  | 89 => some (2, 8, .agg #[.int .u32 0, .int .u32 0])
  | 90 => some (1, 8, .nilFunc)
  | 91 => some (1, 8, .nilFunc)
  | 92 => some (1, 8, .nilFunc)
  | 93 => some (1, 8, .nilFunc)
  | 94 => some (1, 8, .nilFunc)
  | 95 => some (1, 8, .nilFunc)
  | 96 => some (1, 8, .nilFunc)
  | 97 => some (1, 8, .int .u64 0)
  | 98 => some (1, 8, .nilFunc)
  | 99 => some (1, 8, .nilFunc)
  | 100 => some (29, 232, .agg #[.int .i64 0, .int .i64 0, .int .i64 0, .int .i64 0, .int .i64 0, .int .i64 0, .int .i64 0, .int .i64 0, .int .i64 0, .int .i64 0, .int .i64 0, .int .i64 0, .int .i64 0, .int .i64 0, .int .i64 0, .int .i64 0, .int .i64 0, .int .i64 0, .int .i64 0, .int .i64 0, .int .i64 0, .int .i64 0, .int .i64 0, .int .i64 0, .int .i64 0, .int .i64 0, .int .i64 0, .int .i64 0, .int .i64 0])
  | 102 => some (1, 8, .nilFunc)
  | 103 => some (1, 8, .nilFunc)
  | 104 => some (1, 8, .nilFunc)
  | 105 => some (1, 8, .int .u64 0)
  | 106 => some (1, 8, .nilFunc)
  | 107 => some (1, 8, .nilFunc)
  | 108 => some (1, 8, .nilFunc)
  | 110 => some (1, 8, .nilFunc)
  | 111 => some (1, 8, .nilFunc)
  | 112 => some (1, 8, .map none)
  | 113 => some (1, 8, .nilFunc)
  | 114 => some (1, 8, .nilFunc)
  | 115 => some (1, 8, .nilFunc)
  | 116 => some (1, 8, .nilFunc)
  | 117 => some (1, 8, .nilFunc)
  | 118 => some (1, 8, .nilFunc)
  | 119 => some (1, 8, .nilFunc)
  | 120 => some (1, 8, .nilFunc)
  | 121 => some (1, 8, .int .i64 0)
  | 123 => some (1, 8, .nilFunc)
  | 124 => some (1, 8, .nilFunc)
  | 125 => some (1, 8, .nilFunc)
  | 127 => some (1, 8, .nilFunc)
  | 128 => some (1, 8, .nilFunc)
  | 129 => some (1, 8, .nilFunc)
  | 131 => some (1, 8, .nilFunc)
  | 132 => some (1, 8, .nilFunc)
  | 133 => some (1, 8, .nilFunc)
  | 134 => some (1, 8, .pointer none)
  | 135 => some (1, 8, .nilFunc)
  | 137 => some (1, 8, .nilFunc)
  | 138 => some (1, 8, .nilFunc)
  | 144 => some (1, 8, .nilFunc)
  | 148 => some (1, 8, .pointer none)
  | _ => none
def tabL : Nat → Option (List (Nat × Nat))
  | 25 => some ([(0, 1), (1, 1), (2, 1), (3, 1), (4, 1), (5, 1)])
  | 26 => some ([(0, 1), (1, 1), (2, 1), (3, 1), (4, 1), (5, 1)])
  | 43 => some ([(0, 6), (6, 1), (7, 1)])
  | 44 => some ([(0, 6), (6, 1), (7, 1)])
  | 47 => some ([(0, 6), (6, 1), (7, 1)])
  | 70 => some ([(0, 1), (1, 1)])
  | 71 => some ([(0, 1), (1, 1)])
  | 88 => some ([(0, 1), (1, 1)])
  | 89 => some ([(0, 1), (1, 1)])
  | _ => none
def tabF (t j : Nat) : Option Nat := (tabL t).bind fun l => (l[j]?).map (·.1)
theorem inf1 : (Tryz.prog.info? 1).map (fun i => (i.size, i.bytes, i.zero)) = some (1, 8, some (.nilFunc)) := by kernel_rfl
theorem inf2 : (Tryz.prog.info? 2).map (fun i => (i.size, i.bytes, i.zero)) = some (1, 8, some (.int .i64 0)) := by kernel_rfl
theorem inf3 : (Tryz.prog.info? 3).map (fun i => (i.size, i.bytes, i.zero)) = some (1, 8, some (.int .i64 0)) := by kernel_rfl
theorem inf4 : (Tryz.prog.info? 4).map (fun i => (i.size, i.bytes, i.zero)) = some (1, 1, some (.bool false)) := by kernel_rfl
theorem inf5 : (Tryz.prog.info? 5).map (fun i => (i.size, i.bytes, i.zero)) = some (1, 1, some (.int .u8 0)) := by kernel_rfl
theorem inf9 : (Tryz.prog.info? 9).map (fun i => (i.size, i.bytes, i.zero)) = some (1, 16, some (.string ⟨#[]⟩)) := by kernel_rfl
theorem inf12 : (Tryz.prog.info? 12).map (fun i => (i.size, i.bytes, i.zero)) = some (1, 8, some (.int .u64 0)) := by kernel_rfl
theorem inf20 : (Tryz.prog.info? 20).map (fun i => (i.size, i.bytes, i.zero)) = some (1, 16, some (.nilIface)) := by kernel_rfl
theorem inf21 : (Tryz.prog.info? 21).map (fun i => (i.size, i.bytes, i.zero)) = some (1, 4, some (.int .i32 0)) := by kernel_rfl
theorem inf22 : (Tryz.prog.info? 22).map (fun i => (i.size, i.bytes, i.zero)) = some (1, 24, some (.slice none 0 0)) := by kernel_rfl
theorem inf23 : (Tryz.prog.info? 23).map (fun i => (i.size, i.bytes, i.zero)) = some (1, 24, some (.slice none 0 0)) := by kernel_rfl
theorem inf24 : (Tryz.prog.info? 24).map (fun i => (i.size, i.bytes, i.zero)) = some (1, 24, some (.slice none 0 0)) := by kernel_rfl
theorem inf25 : (Tryz.prog.info? 25).map (fun i => (i.size, i.bytes, i.zero)) = some (6, 104, some (.agg #[.int .i64 0, .int .i64 0, .string ⟨#[]⟩, .slice none 0 0, .slice none 0 0, .slice none 0 0])) := by kernel_rfl
theorem inf26 : (Tryz.prog.info? 26).map (fun i => (i.size, i.bytes, i.zero)) = some (6, 104, some (.agg #[.int .i64 0, .int .i64 0, .string ⟨#[]⟩, .slice none 0 0, .slice none 0 0, .slice none 0 0])) := by kernel_rfl
theorem inf27 : (Tryz.prog.info? 27).map (fun i => (i.size, i.bytes, i.zero)) = some (1, 8, some (.nilFunc)) := by kernel_rfl
theorem inf28 : (Tryz.prog.info? 28).map (fun i => (i.size, i.bytes, i.zero)) = some (1, 8, some (.nilFunc)) := by kernel_rfl
theorem inf29 : (Tryz.prog.info? 29).map (fun i => (i.size, i.bytes, i.zero)) = some (1, 8, some (.nilFunc)) := by kernel_rfl
theorem inf30 : (Tryz.prog.info? 30).map (fun i => (i.size, i.bytes, i.zero)) = some (1, 8, some (.nilFunc)) := by kernel_rfl
theorem inf31 : (Tryz.prog.info? 31).map (fun i => (i.size, i.bytes, i.zero)) = some (1, 4, some (.int .u32 0)) := by kernel_rfl
theorem inf32 : (Tryz.prog.info? 32).map (fun i => (i.size, i.bytes, i.zero)) = some (1, 8, some (.nilFunc)) := by kernel_rfl
theorem inf33 : (Tryz.prog.info? 33).map (fun i => (i.size, i.bytes, i.zero)) = some (1, 24, some (.slice none 0 0)) := by kernel_rfl
theorem inf34 : (Tryz.prog.info? 34).map (fun i => (i.size, i.bytes, i.zero)) = some (1, 8, some (.nilFunc)) := by kernel_rfl
theorem inf35 : (Tryz.prog.info? 35).map (fun i => (i.size, i.bytes, i.zero)) = some (1, 8, some (.nilFunc)) := by kernel_rfl
theorem inf36 : (Tryz.prog.info? 36).map (fun i => (i.size, i.bytes, i.zero)) = some (1, 8, some (.int .i64 0)) := by kernel_rfl
theorem inf38 : (Tryz.prog.info? 38).map (fun i => (i.size, i.bytes, i.zero)) = some (1, 8, some (.nilFunc)) := by kernel_rfl
theorem inf40 : (Tryz.prog.info? 40).map (fun i => (i.size, i.bytes, i.zero)) = some (1, 8, some (.nilFunc)) := by kernel_rfl
theorem inf41 : (Tryz.prog.info? 41).map (fun i => (i.size, i.bytes, i.zero)) = some (1, 8, some (.nilFunc)) := by kernel_rfl
theorem inf42 : (Tryz.prog.info? 42).map (fun i => (i.size, i.bytes, i.zero)) = some (1, 8, some (.nilFunc)) := by kernel_rfl
theorem inf43 : (Tryz.prog.info? 43).map (fun i => (i.size, i.bytes, i.zero)) = some (8, 120, some (.agg #[.int .i64 0, .int .i64 0, .string ⟨#[]⟩, .slice none 0 0, .slice none 0 0, .slice none 0 0, .int .i64 0, .int .i64 0])) := by kernel_rfl
theorem inf44 : (Tryz.prog.info? 44).map (fun i => (i.size, i.bytes, i.zero)) = some (8, 120, some (.agg #[.int .i64 0, .int .i64 0, .string ⟨#[]⟩, .slice none 0 0, .slice none 0 0, .slice none 0 0, .int .i64 0, .int .i64 0])) := by kernel_rfl
theorem inf46 : (Tryz.prog.info? 46).map (fun i => (i.size, i.bytes, i.zero)) = some (1, 8, some (.nilFunc)) := by kernel_rfl
theorem inf47 : (Tryz.prog.info? 47).map (fun i => (i.size, i.bytes, i.zero)) = some (8, 120, some (.agg #[.int .i64 0, .int .i64 0, .string ⟨#[]⟩, .slice none 0 0, .slice none 0 0, .slice none 0 0, .int .i64 0, .int .i64 0])) := by kernel_rfl
theorem inf49 : (Tryz.prog.info? 49).map (fun i => (i.size, i.bytes, i.zero)) = some (1, 8, some (.nilFunc)) := by kernel_rfl
theorem inf50 : (Tryz.prog.info? 50).map (fun i => (i.size, i.bytes, i.zero)) = some (1, 8, some (.nilFunc)) := by kernel_rfl
theorem inf51 : (Tryz.prog.info? 51).map (fun i => (i.size, i.bytes, i.zero)) = some (1, 24, some (.slice none 0 0)) := by kernel_rfl
theorem inf52 : (Tryz.prog.info? 52).map (fun i => (i.size, i.bytes, i.zero)) = some (1, 8, some (.nilFunc)) := by kernel_rfl
theorem inf53 : (Tryz.prog.info? 53).map (fun i => (i.size, i.bytes, i.zero)) = some (1, 24, some (.slice none 0 0)) := by kernel_rfl
theorem inf54 : (Tryz.prog.info? 54).map (fun i => (i.size, i.bytes, i.zero)) = some (1, 8, some (.nilFunc)) := by kernel_rfl
theorem inf55 : (Tryz.prog.info? 55).map (fun i => (i.size, i.bytes, i.zero)) = some (1, 24, some (.slice none 0 0)) := by kernel_rfl
theorem inf57 : (Tryz.prog.info? 57).map (fun i => (i.size, i.bytes, i.zero)) = some (1, 8, some (.nilFunc)) := by kernel_rfl
theorem inf59 : (Tryz.prog.info? 59).map (fun i => (i.size, i.bytes, i.zero)) = some (1, 8, some (.nilFunc)) := by kernel_rfl
theorem inf60 : (Tryz.prog.info? 60).map (fun i => (i.size, i.bytes, i.zero)) = some (1, 8, some (.nilFunc)) := by kernel_rfl
theorem inf61 : (Tryz.prog.info? 61).map (fun i => (i.size, i.bytes, i.zero)) = some (1, 8, some (.nilFunc)) := by kernel_rfl
theorem inf62 : (Tryz.prog.info? 62).map (fun i => (i.size, i.bytes, i.zero)) = some (1, 8, some (.nilFunc)) := by kernel_rfl
theorem inf63 : (Tryz.prog.info? 63).map (fun i => (i.size, i.bytes, i.zero)) = some (1, 8, some (.nilFunc)) := by kernel_rfl
theorem inf64 : (Tryz.prog.info? 64).map (fun i => (i.size, i.bytes, i.zero)) = some (1, 8, some (.nilFunc)) := by kernel_rfl
theorem inf65 : (Tryz.prog.info? 65).map (fun i => (i.size, i.bytes, i.zero)) = some (1, 8, some (.nilFunc)) := by kernel_rfl
theorem inf66 : (Tryz.prog.info? 66).map (fun i => (i.size, i.bytes, i.zero)) = some (1, 8, some (.nilFunc)) := by kernel_rfl
theorem inf67 : (Tryz.prog.info? 67).map (fun i => (i.size, i.bytes, i.zero)) = some (1, 8, some (.nilFunc)) := by kernel_rfl
theorem inf69 : (Tryz.prog.info? 69).map (fun i => (i.size, i.bytes, i.zero)) = some (1, 8, some (.nilFunc)) := by kernel_rfl
theorem inf70 : (Tryz.prog.info? 70).map (fun i => (i.size, i.bytes, i.zero)) = some (2, 48, some (.agg #[.slice none 0 0, .slice none 0 0])) := by kernel_rfl
theorem inf71 : (Tryz.prog.info? 71).map (fun i => (i.size, i.bytes, i.zero)) = some (2, 48, some (.agg #[.slice none 0 0, .slice none 0 0])) := by kernel_rfl
theorem inf72 : (Tryz.prog.info? 72).map (fun i => (i.size, i.bytes, i.zero)) = some (1, 8, some (.nilFunc)) := by kernel_rfl
theorem inf73 : (Tryz.prog.info? 73).map (fun i => (i.size, i.bytes, i.zero)) = some (1, 8, some (.nilFunc)) := by kernel_rfl
theorem inf74 : (Tryz.prog.info? 74).map (fun i => (i.size, i.bytes, i.zero)) = some (1, 8, some (.nilFunc)) := by kernel_rfl
theorem inf75 : (Tryz.prog.info? 75).map (fun i => (i.size, i.bytes, i.zero)) = some (1, 8, some (.nilFunc)) := by kernel_rfl
theorem inf76 : (Tryz.prog.info? 76).map (fun i => (i.size, i.bytes, i.zero)) = some (1, 8, some (.nilFunc)) := by kernel_rfl
theorem inf77 : (Tryz.prog.info? 77).map (fun i => (i.size, i.bytes, i.zero)) = some (1, 8, some (.pointer none)) := by kernel_rfl
theorem inf78 : (Tryz.prog.info? 78).map (fun i => (i.size, i.bytes, i.zero)) = some (1, 8, some (.nilFunc)) := by kernel_rfl
theorem inf79 : (Tryz.prog.info? 79).map (fun i => (i.size, i.bytes, i.zero)) = some (1, 8, some (.nilFunc)) := by kernel_rfl
theorem inf80 : (Tryz.prog.info? 80).map (fun i => (i.size, i.bytes, i.zero)) = some (1, 8, some (.nilFunc)) := by kernel_rfl
theorem inf81 : (Tryz.prog.info? 81).map (fun i => (i.size, i.bytes, i.zero)) = some (1, 8, some (.nilFunc)) := by kernel_rfl
theorem inf82 : (Tryz.prog.info? 82).map (fun i => (i.size, i.bytes, i.zero)) = some (1, 8, some (.nilFunc)) := by kernel_rfl
theorem inf83 : (Tryz.prog.info? 83).map (fun i => (i.size, i.bytes, i.zero)) = some (1, 8, some (.nilFunc)) := by kernel_rfl
theorem inf84 : (Tryz.prog.info? 84).map (fun i => (i.size, i.bytes, i.zero)) = some (1, 8, some (.nilFunc)) := by kernel_rfl
theorem inf85 : (Tryz.prog.info? 85).map (fun i => (i.size, i.bytes, i.zero)) = some (1, 8, some (.nilFunc)) := by kernel_rfl
theorem inf86 : (Tryz.prog.info? 86).map (fun i => (i.size, i.bytes, i.zero)) = some (1, 8, some (.nilFunc)) := by kernel_rfl
theorem inf87 : (Tryz.prog.info? 87).map (fun i => (i.size, i.bytes, i.zero)) = some (1, 8, some (.nilFunc)) := by kernel_rfl
theorem inf88 : (Tryz.prog.info? 88).map (fun i => (i.size, i.bytes, i.zero)) = some (2, 8, some (.agg #[.int .u32 0, .int .u32 0])) := by kernel_rfl
theorem inf89 : (Tryz.prog.info? 89).map (fun i => (i.size, i.bytes, i.zero)) = some (2, 8, some (.agg #[.int .u32 0, .int .u32 0])) := by kernel_rfl
theorem inf90 : (Tryz.prog.info? 90).map (fun i => (i.size, i.bytes, i.zero)) = some (1, 8, some (.nilFunc)) := by kernel_rfl
theorem inf91 : (Tryz.prog.info? 91).map (fun i => (i.size, i.bytes, i.zero)) = some (1, 8, some (.nilFunc)) := by kernel_rfl
theorem inf92 : (Tryz.prog.info? 92).map (fun i => (i.size, i.bytes, i.zero)) = some (1, 8, some (.nilFunc)) := by kernel_rfl
theorem inf93 : (Tryz.prog.info? 93).map (fun i => (i.size, i.bytes, i.zero)) = some (1, 8, some (.nilFunc)) := by kernel_rfl
theorem inf94 : (Tryz.prog.info? 94).map (fun i => (i.size, i.bytes, i.zero)) = some (1, 8, some (.nilFunc)) := by kernel_rfl
theorem inf95 : (Tryz.prog.info? 95).map (fun i => (i.size, i.bytes, i.zero)) = some (1, 8, some (.nilFunc)) := by kernel_rfl
theorem inf96 : (Tryz.prog.info? 96).map (fun i => (i.size, i.bytes, i.zero)) = some (1, 8, some (.nilFunc)) := by kernel_rfl
theorem inf97 : (Tryz.prog.info? 97).map (fun i => (i.size, i.bytes, i.zero)) = some (1, 8, some (.int .u64 0)) := by kernel_rfl
theorem inf98 : (Tryz.prog.info? 98).map (fun i => (i.size, i.bytes, i.zero)) = some (1, 8, some (.nilFunc)) := by kernel_rfl
theorem inf99 : (Tryz.prog.info? 99).map (fun i => (i.size, i.bytes, i.zero)) = some (1, 8, some (.nilFunc)) := by kernel_rfl
theorem inf100 : (Tryz.prog.info? 100).map (fun i => (i.size, i.bytes, i.zero)) = some (29, 232, some (.agg #[.int .i64 0, .int .i64 0, .int .i64 0, .int .i64 0, .int .i64 0, .int .i64 0, .int .i64 0, .int .i64 0, .int .i64 0, .int .i64 0, .int .i64 0, .int .i64 0, .int .i64 0, .int .i64 0, .int .i64 0, .int .i64 0, .int .i64 0, .int .i64 0, .int .i64 0, .int .i64 0, .int .i64 0, .int .i64 0, .int .i64 0, .int .i64 0, .int .i64 0, .int .i64 0, .int .i64 0, .int .i64 0, .int .i64 0])) := by kernel_rfl
theorem inf102 : (Tryz.prog.info? 102).map (fun i => (i.size, i.bytes, i.zero)) = some (1, 8, some (.nilFunc)) := by kernel_rfl
theorem inf103 : (Tryz.prog.info? 103).map (fun i => (i.size, i.bytes, i.zero)) = some (1, 8, some (.nilFunc)) := by kernel_rfl
theorem inf104 : (Tryz.prog.info? 104).map (fun i => (i.size, i.bytes, i.zero)) = some (1, 8, some (.nilFunc)) := by kernel_rfl
theorem inf105 : (Tryz.prog.info? 105).map (fun i => (i.size, i.bytes, i.zero)) = some (1, 8, some (.int .u64 0)) := by kernel_rfl
theorem inf106 : (Tryz.prog.info? 106).map (fun i => (i.size, i.bytes, i.zero)) = some (1, 8, some (.nilFunc)) := by kernel_rfl
theorem inf107 : (Tryz.prog.info? 107).map (fun i => (i.size, i.bytes, i.zero)) = some (1, 8, some (.nilFunc)) := by kernel_rfl
theorem inf108 : (Tryz.prog.info? 108).map (fun i => (i.size, i.bytes, i.zero)) = some (1, 8, some (.nilFunc)) := by kernel_rfl
theorem inf110 : (Tryz.prog.info? 110).map (fun i => (i.size, i.bytes, i.zero)) = some (1, 8, some (.nilFunc)) := by kernel_rfl
theorem inf111 : (Tryz.prog.info? 111).map (fun i => (i.size, i.bytes, i.zero)) = some (1, 8, some (.nilFunc)) := by kernel_rfl
theorem inf112 : (Tryz.prog.info? 112).map (fun i => (i.size, i.bytes, i.zero)) = some (1, 8, some (.map none)) := by kernel_rfl
theorem inf113 : (Tryz.prog.info? 113).map (fun i => (i.size, i.bytes, i.zero)) = some (1, 8, some (.nilFunc)) := by kernel_rfl
theorem inf114 : (Tryz.prog.info? 114).map (fun i => (i.size, i.bytes, i.zero)) = some (1, 8, some (.nilFunc)) := by kernel_rfl
theorem inf115 : (Tryz.prog.info? 115).map (fun i => (i.size, i.bytes, i.zero)) = some (1, 8, some (.nilFunc)) := by kernel_rfl
theorem inf116 : (Tryz.prog.info? 116).map (fun i => (i.size, i.bytes, i.zero)) = some (1, 8, some (.nilFunc)) := by kernel_rfl
theorem inf117 : (Tryz.prog.info? 117).map (fun i => (i.size, i.bytes, i.zero)) = some (1, 8, some (.nilFunc)) := by kernel_rfl
theorem inf118 : (Tryz.prog.info? 118).map (fun i => (i.size, i.bytes, i.zero)) = some (1, 8, some (.nilFunc)) := by kernel_rfl
theorem inf119 : (Tryz.prog.info? 119).map (fun i => (i.size, i.bytes, i.zero)) = some (1, 8, some (.nilFunc)) := by kernel_rfl
theorem inf120 : (Tryz.prog.info? 120).map (fun i => (i.size, i.bytes, i.zero)) = some (1, 8, some (.nilFunc)) := by kernel_rfl
theorem inf121 : (Tryz.prog.info? 121).map (fun i => (i.size, i.bytes, i.zero)) = some (1, 8, some (.int .i64 0)) := by kernel_rfl
theorem inf123 : (Tryz.prog.info? 123).map (fun i => (i.size, i.bytes, i.zero)) = some (1, 8, some (.nilFunc)) := by kernel_rfl
theorem inf124 : (Tryz.prog.info? 124).map (fun i => (i.size, i.bytes, i.zero)) = some (1, 8, some (.nilFunc)) := by kernel_rfl
theorem inf125 : (Tryz.prog.info? 125).map (fun i => (i.size, i.bytes, i.zero)) = some (1, 8, some (.nilFunc)) := by kernel_rfl
theorem inf127 : (Tryz.prog.info? 127).map (fun i => (i.size, i.bytes, i.zero)) = some (1, 8, some (.nilFunc)) := by kernel_rfl
theorem inf128 : (Tryz.prog.info? 128).map (fun i => (i.size, i.bytes, i.zero)) = some (1, 8, some (.nilFunc)) := by kernel_rfl
theorem inf129 : (Tryz.prog.info? 129).map (fun i => (i.size, i.bytes, i.zero)) = some (1, 8, some (.nilFunc)) := by kernel_rfl
theorem inf131 : (Tryz.prog.info? 131).map (fun i => (i.size, i.bytes, i.zero)) = some (1, 8, some (.nilFunc)) := by kernel_rfl
theorem inf132 : (Tryz.prog.info? 132).map (fun i => (i.size, i.bytes, i.zero)) = some (1, 8, some (.nilFunc)) := by kernel_rfl
theorem inf133 : (Tryz.prog.info? 133).map (fun i => (i.size, i.bytes, i.zero)) = some (1, 8, some (.nilFunc)) := by kernel_rfl
theorem inf134 : (Tryz.prog.info? 134).map (fun i => (i.size, i.bytes, i.zero)) = some (1, 8, some (.pointer none)) := by kernel_rfl
theorem inf135 : (Tryz.prog.info? 135).map (fun i => (i.size, i.bytes, i.zero)) = some (1, 8, some (.nilFunc)) := by kernel_rfl
theorem inf137 : (Tryz.prog.info? 137).map (fun i => (i.size, i.bytes, i.zero)) = some (1, 8, some (.nilFunc)) := by kernel_rfl
theorem inf138 : (Tryz.prog.info? 138).map (fun i => (i.size, i.bytes, i.zero)) = some (1, 8, some (.nilFunc)) := by kernel_rfl
theorem inf144 : (Tryz.prog.info? 144).map (fun i => (i.size, i.bytes, i.zero)) = some (1, 8, some (.nilFunc)) := by kernel_rfl
theorem inf148 : (Tryz.prog.info? 148).map (fun i => (i.size, i.bytes, i.zero)) = some (1, 8, some (.pointer none)) := by kernel_rfl
theorem inf_of {t s b : Nat} {z : Value} (h : (Tryz.prog.info? t).map (fun i => (i.size, i.bytes, i.zero)) = some (s, b, some z)) : ∃ i, Tryz.prog.info? t = some i ∧ i.size = s ∧ i.bytes = b ∧ i.zero = some z := by
  obtain ⟨i, h1, h2⟩ := Option.map_eq_some_iff.1 h
  simp only [Prod.mk.injEq] at h2
  exact ⟨i, h1, h2.1, h2.2.1, h2.2.2⟩
theorem tabU_ok : ∀ t d, tabU t = some d → Tryz.prog.underlying t = some d := by
  intro t d h
  unfold tabU at h
  split at h
  · cases h; exact Tryz.underlying1
  · cases h; exact Tryz.underlying2
  · cases h; exact Tryz.underlying3
  · cases h; exact Tryz.underlying4
  · cases h; exact Tryz.underlying5
  · cases h; exact Tryz.underlying9
  · cases h; exact Tryz.underlying12
  · cases h; exact Tryz.underlying21
  · cases h; exact Tryz.underlying22
  · cases h; exact Tryz.underlying23
  · cases h; exact Tryz.underlying24
  · cases h; exact Tryz.underlying27
  · cases h; exact Tryz.underlying28
  · cases h; exact Tryz.underlying29
  · cases h; exact Tryz.underlying30
  · cases h; exact Tryz.underlying31
  · cases h; exact Tryz.underlying32
  · cases h; exact Tryz.underlying33
  · cases h; exact Tryz.underlying34
  · cases h; exact Tryz.underlying35
  · cases h; exact Tryz.underlying36
  · cases h; exact Tryz.underlying38
  · cases h; exact Tryz.underlying40
  · cases h; exact Tryz.underlying41
  · cases h; exact Tryz.underlying42
  · cases h; exact Tryz.underlying46
  · cases h; exact Tryz.underlying49
  · cases h; exact Tryz.underlying50
  · cases h; exact Tryz.underlying51
  · cases h; exact Tryz.underlying52
  · cases h; exact Tryz.underlying53
  · cases h; exact Tryz.underlying54
  · cases h; exact Tryz.underlying55
  · cases h; exact Tryz.underlying57
  · cases h; exact Tryz.underlying59
  · cases h; exact Tryz.underlying60
  · cases h; exact Tryz.underlying61
  · cases h; exact Tryz.underlying62
  · cases h; exact Tryz.underlying63
  · cases h; exact Tryz.underlying64
  · cases h; exact Tryz.underlying65
  · cases h; exact Tryz.underlying66
  · cases h; exact Tryz.underlying67
  · cases h; exact Tryz.underlying69
  · cases h; exact Tryz.underlying72
  · cases h; exact Tryz.underlying73
  · cases h; exact Tryz.underlying74
  · cases h; exact Tryz.underlying75
  · cases h; exact Tryz.underlying76
  · cases h; exact Tryz.underlying77
  · cases h; exact Tryz.underlying78
  · cases h; exact Tryz.underlying79
  · cases h; exact Tryz.underlying80
  · cases h; exact Tryz.underlying81
  · cases h; exact Tryz.underlying82
  · cases h; exact Tryz.underlying83
  · cases h; exact Tryz.underlying84
  · cases h; exact Tryz.underlying85
  · cases h; exact Tryz.underlying86
  · cases h; exact Tryz.underlying87
  · cases h; exact Tryz.underlying90
  · cases h; exact Tryz.underlying91
  · cases h; exact Tryz.underlying92
  · cases h; exact Tryz.underlying93
  · cases h; exact Tryz.underlying94
  · cases h; exact Tryz.underlying95
  · cases h; exact Tryz.underlying96
  · cases h; exact Tryz.underlying97
  · cases h; exact Tryz.underlying98
  · cases h; exact Tryz.underlying99
  · cases h; exact Tryz.underlying100
  · cases h; exact Tryz.underlying102
  · cases h; exact Tryz.underlying103
  · cases h; exact Tryz.underlying104
  · cases h; exact Tryz.underlying105
  · cases h; exact Tryz.underlying106
  · cases h; exact Tryz.underlying107
  · cases h; exact Tryz.underlying108
  · cases h; exact Tryz.underlying110
  · cases h; exact Tryz.underlying111
  · cases h; exact Tryz.underlying112
  · cases h; exact Tryz.underlying113
  · cases h; exact Tryz.underlying114
  · cases h; exact Tryz.underlying115
  · cases h; exact Tryz.underlying116
  · cases h; exact Tryz.underlying117
  · cases h; exact Tryz.underlying118
  · cases h; exact Tryz.underlying119
  · cases h; exact Tryz.underlying120
  · cases h; exact Tryz.underlying121
  · cases h; exact Tryz.underlying123
  · cases h; exact Tryz.underlying124
  · cases h; exact Tryz.underlying125
  · cases h; exact Tryz.underlying127
  · cases h; exact Tryz.underlying128
  · cases h; exact Tryz.underlying129
  · cases h; exact Tryz.underlying131
  · cases h; exact Tryz.underlying132
  · cases h; exact Tryz.underlying133
  · cases h; exact Tryz.underlying134
  · cases h; exact Tryz.underlying135
  · cases h; exact Tryz.underlying137
  · cases h; exact Tryz.underlying138
  · cases h; exact Tryz.underlying144
  · cases h; exact Tryz.underlying148
  · cases h
theorem tabI_ok : ∀ t s b z, tabI t = some (s, b, z) → ∃ i, Tryz.prog.info? t = some i ∧ i.size = s ∧ i.bytes = b ∧ i.zero = some z := by
  intro t s b z h
  unfold tabI at h
  split at h
  · cases h; exact inf_of inf1
  · cases h; exact inf_of inf2
  · cases h; exact inf_of inf3
  · cases h; exact inf_of inf4
  · cases h; exact inf_of inf5
  · cases h; exact inf_of inf9
  · cases h; exact inf_of inf12
  · cases h; exact inf_of inf20
  · cases h; exact inf_of inf21
  · cases h; exact inf_of inf22
  · cases h; exact inf_of inf23
  · cases h; exact inf_of inf24
  · cases h; exact inf_of inf25
  · cases h; exact inf_of inf26
  · cases h; exact inf_of inf27
  · cases h; exact inf_of inf28
  · cases h; exact inf_of inf29
  · cases h; exact inf_of inf30
  · cases h; exact inf_of inf31
  · cases h; exact inf_of inf32
  · cases h; exact inf_of inf33
  · cases h; exact inf_of inf34
  · cases h; exact inf_of inf35
  · cases h; exact inf_of inf36
  · cases h; exact inf_of inf38
  · cases h; exact inf_of inf40
  · cases h; exact inf_of inf41
  · cases h; exact inf_of inf42
  · cases h; exact inf_of inf43
  · cases h; exact inf_of inf44
  · cases h; exact inf_of inf46
  · cases h; exact inf_of inf47
  · cases h; exact inf_of inf49
  · cases h; exact inf_of inf50
  · cases h; exact inf_of inf51
  · cases h; exact inf_of inf52
  · cases h; exact inf_of inf53
  · cases h; exact inf_of inf54
  · cases h; exact inf_of inf55
  · cases h; exact inf_of inf57
  · cases h; exact inf_of inf59
  · cases h; exact inf_of inf60
  · cases h; exact inf_of inf61
  · cases h; exact inf_of inf62
  · cases h; exact inf_of inf63
  · cases h; exact inf_of inf64
  · cases h; exact inf_of inf65
  · cases h; exact inf_of inf66
  · cases h; exact inf_of inf67
  · cases h; exact inf_of inf69
  · cases h; exact inf_of inf70
  · cases h; exact inf_of inf71
  · cases h; exact inf_of inf72
  · cases h; exact inf_of inf73
  · cases h; exact inf_of inf74
  · cases h; exact inf_of inf75
  · cases h; exact inf_of inf76
  · cases h; exact inf_of inf77
  · cases h; exact inf_of inf78
  · cases h; exact inf_of inf79
  · cases h; exact inf_of inf80
  · cases h; exact inf_of inf81
  · cases h; exact inf_of inf82
  · cases h; exact inf_of inf83
  · cases h; exact inf_of inf84
  · cases h; exact inf_of inf85
  · cases h; exact inf_of inf86
  · cases h; exact inf_of inf87
  · cases h; exact inf_of inf88
  · cases h; exact inf_of inf89
  · cases h; exact inf_of inf90
  · cases h; exact inf_of inf91
  · cases h; exact inf_of inf92
  · cases h; exact inf_of inf93
  · cases h; exact inf_of inf94
  · cases h; exact inf_of inf95
  · cases h; exact inf_of inf96
  · cases h; exact inf_of inf97
  · cases h; exact inf_of inf98
  · cases h; exact inf_of inf99
  · cases h; exact inf_of inf100
  · cases h; exact inf_of inf102
  · cases h; exact inf_of inf103
  · cases h; exact inf_of inf104
  · cases h; exact inf_of inf105
  · cases h; exact inf_of inf106
  · cases h; exact inf_of inf107
  · cases h; exact inf_of inf108
  · cases h; exact inf_of inf110
  · cases h; exact inf_of inf111
  · cases h; exact inf_of inf112
  · cases h; exact inf_of inf113
  · cases h; exact inf_of inf114
  · cases h; exact inf_of inf115
  · cases h; exact inf_of inf116
  · cases h; exact inf_of inf117
  · cases h; exact inf_of inf118
  · cases h; exact inf_of inf119
  · cases h; exact inf_of inf120
  · cases h; exact inf_of inf121
  · cases h; exact inf_of inf123
  · cases h; exact inf_of inf124
  · cases h; exact inf_of inf125
  · cases h; exact inf_of inf127
  · cases h; exact inf_of inf128
  · cases h; exact inf_of inf129
  · cases h; exact inf_of inf131
  · cases h; exact inf_of inf132
  · cases h; exact inf_of inf133
  · cases h; exact inf_of inf134
  · cases h; exact inf_of inf135
  · cases h; exact inf_of inf137
  · cases h; exact inf_of inf138
  · cases h; exact inf_of inf144
  · cases h; exact inf_of inf148
  · cases h
theorem lay25 : ∃ fs, Tryz.prog.underlying 25 = some (.struct fs) ∧ fs.toList.mapM (fun f => (Tryz.prog.info? f.type).map fun i => (f.offset, i.size)) = some [(0, 1), (1, 1), (2, 1), (3, 1), (4, 1), (5, 1)] := ⟨_, Tryz.underlying25, by kernel_rfl⟩
theorem lay26 : ∃ fs, Tryz.prog.underlying 26 = some (.struct fs) ∧ fs.toList.mapM (fun f => (Tryz.prog.info? f.type).map fun i => (f.offset, i.size)) = some [(0, 1), (1, 1), (2, 1), (3, 1), (4, 1), (5, 1)] := ⟨_, Tryz.underlying26, by kernel_rfl⟩
theorem lay43 : ∃ fs, Tryz.prog.underlying 43 = some (.struct fs) ∧ fs.toList.mapM (fun f => (Tryz.prog.info? f.type).map fun i => (f.offset, i.size)) = some [(0, 6), (6, 1), (7, 1)] := ⟨_, Tryz.underlying43, by kernel_rfl⟩
theorem lay44 : ∃ fs, Tryz.prog.underlying 44 = some (.struct fs) ∧ fs.toList.mapM (fun f => (Tryz.prog.info? f.type).map fun i => (f.offset, i.size)) = some [(0, 6), (6, 1), (7, 1)] := ⟨_, Tryz.underlying44, by kernel_rfl⟩
theorem lay47 : ∃ fs, Tryz.prog.underlying 47 = some (.struct fs) ∧ fs.toList.mapM (fun f => (Tryz.prog.info? f.type).map fun i => (f.offset, i.size)) = some [(0, 6), (6, 1), (7, 1)] := ⟨_, Tryz.underlying47, by kernel_rfl⟩
theorem lay70 : ∃ fs, Tryz.prog.underlying 70 = some (.struct fs) ∧ fs.toList.mapM (fun f => (Tryz.prog.info? f.type).map fun i => (f.offset, i.size)) = some [(0, 1), (1, 1)] := ⟨_, Tryz.underlying70, by kernel_rfl⟩
theorem lay71 : ∃ fs, Tryz.prog.underlying 71 = some (.struct fs) ∧ fs.toList.mapM (fun f => (Tryz.prog.info? f.type).map fun i => (f.offset, i.size)) = some [(0, 1), (1, 1)] := ⟨_, Tryz.underlying71, by kernel_rfl⟩
theorem lay88 : ∃ fs, Tryz.prog.underlying 88 = some (.struct fs) ∧ fs.toList.mapM (fun f => (Tryz.prog.info? f.type).map fun i => (f.offset, i.size)) = some [(0, 1), (1, 1)] := ⟨_, Tryz.underlying88, by kernel_rfl⟩
theorem lay89 : ∃ fs, Tryz.prog.underlying 89 = some (.struct fs) ∧ fs.toList.mapM (fun f => (Tryz.prog.info? f.type).map fun i => (f.offset, i.size)) = some [(0, 1), (1, 1)] := ⟨_, Tryz.underlying89, by kernel_rfl⟩
theorem tabL_ok : ∀ t l, tabL t = some l → ∃ fs, Tryz.prog.underlying t = some (.struct fs) ∧ fs.toList.mapM (fun f => (Tryz.prog.info? f.type).map fun i => (f.offset, i.size)) = some l := by
  intro t l h
  unfold tabL at h
  split at h
  · cases h; exact lay25
  · cases h; exact lay26
  · cases h; exact lay43
  · cases h; exact lay44
  · cases h; exact lay47
  · cases h; exact lay70
  · cases h; exact lay71
  · cases h; exact lay88
  · cases h; exact lay89
  · cases h
theorem tabL_pos : ∀ t l, tabL t = some l → l.all (fun x => x.2 != 0) = true := by
  intro t l h
  unfold tabL at h
  split at h
  · cases h; rfl
  · cases h; rfl
  · cases h; rfl
  · cases h; rfl
  · cases h; rfl
  · cases h; rfl
  · cases h; rfl
  · cases h; rfl
  · cases h; rfl
  · cases h
theorem mapM_get {P : Program} : ∀ (fs : List Field) (l : List (Nat × Nat)), fs.mapM (fun f => (P.info? f.type).map fun i => (f.offset, i.size)) = some l → ∀ (j : Nat) (x : Nat × Nat), l[j]? = some x → ∃ fl i, fs[j]? = some fl ∧ P.info? fl.type = some i ∧ fl.offset = x.1 ∧ i.size = x.2
  | [], l, h, j, x, hx => by simp at h; subst h; simp at hx
  | f :: fs, l, h, j, x, hx => by
    simp only [List.mapM_cons, Option.bind_eq_bind, Option.pure_def] at h
    cases hi : P.info? f.type with
    | none => simp [hi] at h
    | some i =>
      cases hr : fs.mapM (fun f => (P.info? f.type).map fun i => (f.offset, i.size)) with
      | none => simp [hi, hr] at h
      | some rest =>
        simp [hi, hr] at h
        subst h
        cases j with
        | zero => simp at hx; subst hx; exact ⟨f, i, rfl, hi, rfl, rfl⟩
        | succ j => simpa using mapM_get fs rest hr j x (by simpa using hx)
theorem tabF_ok : ∀ t j o, tabF t j = some o → ∃ fs fl i, Tryz.prog.underlying t = some (.struct fs) ∧ fs[j]? = some fl ∧ fl.offset = o ∧ Tryz.prog.info? fl.type = some i ∧ i.size ≠ 0 := by
  intro t j o h
  unfold tabF at h
  obtain ⟨l, h1, h2⟩ := Option.bind_eq_some_iff.1 h
  obtain ⟨x, h3, rfl⟩ := Option.map_eq_some_iff.1 h2
  obtain ⟨fs, h4, h5⟩ := tabL_ok t l h1
  obtain ⟨fl, i, h6, h7, h8, h9⟩ := mapM_get fs.toList l h5 j x h3
  refine ⟨fs, fl, i, h4, by simpa using h6, h8, h7, ?_⟩
  have := List.all_eq_true.1 (tabL_pos t l h1) x (List.mem_of_getElem? h3)
  rw [h9]
  simpa using this
theorem eqCl (a b c d : Int) (w : World) : (Op.equalIn 10000 89 (.agg #[.int .u32 a, .int .u32 b]) (.agg #[.int .u32 c, .int .u32 d])).run Tryz.prog w = .ok (a == c && b == d) w := by
  have u := Tryz.underlying31
  have hS : Tryz.prog.underlying 89 = some (.struct (Tryz.prog.fieldsOf 89)) := by kernel_rfl
  have hp : Tryz.prog.stoodInHeld 89 = false := by kernel_rfl
  obtain ⟨i, h1, h2⟩ : ∃ i, Tryz.prog.info? 31 = some i ∧ i.size = 1 := by
    obtain ⟨i, h1, h2⟩ := Option.map_eq_some_iff.1 (show (Tryz.prog.info? 31).map (fun i => i.size) = some 1 by kernel_rfl)
    exact ⟨i, h1, h2⟩
  have hz : ∀ w, (sizeOf 31).run Tryz.prog w = .ok 1 w := fun w => by simp [sizeOf, typeInfo, h1, h2]
  rw [show (10000 : Nat) = 9999 + 1 from rfl, run_equalIn_agg w 9999 89 _ _ hS hp]
  simp only [Program.fieldsOf, Tryz.underlying89]
  have hA : ∀ w, (isAgg 31).run Tryz.prog w = .ok false w := fun w => by simp [isAgg, run_underlying u]
  have e : ∀ (a c : Int) (w : World), (Op.equalIn 9999 31 (.int .u32 a) (.int .u32 c)).run Tryz.prog w = .ok (a == c) w := fun a c w => run_equalIn_int w 9998 31 .u32 .u32 a c u
  simp [Op.eqFields, part, hA, hz, e]
  by_cases h1 : a = c <;> by_cases h2 : b = d <;> simp [h1, h2]
instance : Go.Hy.Tab Tryz.prog := ⟨tabU, tabU_ok, tabI, tabI_ok, tabF, tabF_ok, tabL, tabL_ok, by kernel_rfl, 89, eqCl, by kernel_rfl⟩
noncomputable def fC' : Array Field := match Tryz.prog.underlying 89 with | some (.struct fs) => fs | _ => #[]
noncomputable def fT' : Array Field := match Tryz.prog.underlying 26 with | some (.struct fs) => fs | _ => #[]
noncomputable def fB' : Array Field := match Tryz.prog.underlying 71 with | some (.struct fs) => fs | _ => #[]
noncomputable instance : Go.Hy.TyF Tryz.prog := { tI := 3, tS := 9, tU := 31, tC := 89, tT := 26, tB := 71, lC := 22, lT := 23, lB := 24, fC := fC', fT := fT', fB := fB', uI := Tryz.underlying3, uS := Tryz.underlying9, uU := Tryz.underlying31, uC := by kernel_rfl, uT := by kernel_rfl, uB := by kernel_rfl, ulC := Tryz.underlying22, ulT := Tryz.underlying23, ulB := Tryz.underlying24, pC := by kernel_rfl, pT := by kernel_rfl, pB := by kernel_rfl, c1 := ⟨by kernel_rfl, by kernel_rfl, by kernel_rfl, by kernel_rfl, by kernel_rfl, by kernel_rfl⟩, c2 := ⟨by kernel_rfl, by kernel_rfl, by kernel_rfl⟩, b2 := ⟨by kernel_rfl, by kernel_rfl, by kernel_rfl⟩ }
theorem laid' : laidOutB Tryz.prog = true := by kernel_rfl
noncomputable instance : Go.Hy.TabM Tryz.prog := { law := deep_law_laid laid' (m := 3) (by omega) (of_decide_eq_true (by kernel_rfl)) (by kernel_rfl) (by kernel_rfl), kt := by kernel_rfl, names := by kernel_rfl, npos := of_decide_eq_true (by kernel_rfl) }
end Go.Proofs.YtcofpfnnlageaaaGreat.Hy
namespace Go.Hy
set_option linter.unusedVariables false
set_option linter.unusedSimpArgs false
set_option linter.unusedSectionVars false
open Go.Proofs
set_option linter.unusedVariables false
set_option linter.unusedSimpArgs false
set_option maxRecDepth 100000
/-- What a kid binds. -/
theorem binds_spec (k i : Int) : Spec Tryz.prog 72 #[.int .i64 k, .int .i64 i] [] [] (fun _ : Unit => .tuple #[.int .i64 (binds k i).1, .int .i64 (binds k i).2]) (fun _ => []) (fun _ => []) := by
  refine spec_go (args := [.int .i64 k, .int .i64 i]) Tryz.func72 Tryz.ntmps72 rfl (by exact Nat.le_of_ble_eq_true rfl) fun B hB => ?_
  refine go_seq ?_
  refine go_region ⟨_, Tryz.func72⟩ rfl ?_
  refine q0 rfl (o_assign ?_)
  refine q0 rfl (o_assign ?_)
  refine rg_nil ?_
  refine go_seq ?_
  refine go_seq ?_
  refine go_region ⟨_, Tryz.func72⟩ rfl ?_
  refine q0 rfl (o_move ?_)
  refine rg_nil ?_
  refine go_block ?_
  refine go_seq ?_
  refine go_block ?_
  refine go_seq ?_
  refine go_block ?_
  refine go_block ?_
  refine go_block ?_
  refine go_seq ?_
  refine go_block ?_
  refine go_seq ?_
  refine go_seq ?_
  refine go_seq ?_
  refine go_seq ?_
  refine go_region ⟨_, Tryz.func72⟩ rfl ?_
  refine q0 rfl (o_eqI ?_)
  refine q0 rfl (o_assign ?_)
  refine rg_nil ?_
  refine go_condI (fun h7 => ?_) (fun h7 => ?_)
  · refine go_skip ?_
    refine go_condT ?_
    refine go_exit rfl ?_
    refine go_seq ?_
    refine go_seq ?_
    refine go_region ⟨_, Tryz.func72⟩ rfl ?_
    refine q0 rfl (o_move ?_)
    refine q0 rfl (o_eqI ?_)
    refine rg_nil ?_
    refine go_condI (fun h21 => ?_) (fun h21 => ?_)
    · refine go_seq ?_
      refine go_region ⟨_, Tryz.func72⟩ rfl ?_
      refine q0 rfl (o_assign ?_)
      refine q0 rfl (o_assign ?_)
      refine rg_nil ?_
      refine ret2 Tryz.func72 Tryz.results72 wn_ wn_ () (by simp_all [binds]) (fun w hs => hs.none)
    · refine go_skip ?_
      refine go_exit rfl ?_
      refine go_seq ?_
      refine go_region ⟨_, Tryz.func72⟩ rfl ?_
      refine q0 rfl (o_assign ?_)
      refine q0 rfl (o_assign ?_)
      refine rg_nil ?_
      refine ret2 Tryz.func72 Tryz.results72 wn_ wn_ () (by simp_all [binds]) (fun w hs => hs.none)
  · refine go_region ⟨_, Tryz.func72⟩ rfl ?_
    refine q0 rfl (o_eqI ?_)
    refine q0 rfl (o_assign ?_)
    refine rg_nil ?_
    refine go_condI (fun h7 => ?_) (fun h7 => ?_)
    · refine go_exit rfl ?_
      refine go_seq ?_
      refine go_seq ?_
      refine go_region ⟨_, Tryz.func72⟩ rfl ?_
      refine q0 rfl (o_move ?_)
      refine q0 rfl (o_eqI ?_)
      refine rg_nil ?_
      refine go_condI (fun h21 => ?_) (fun h21 => ?_)
      · refine go_seq ?_
        refine go_region ⟨_, Tryz.func72⟩ rfl ?_
        refine q0 rfl (o_assign ?_)
        refine q0 rfl (o_assign ?_)
        refine rg_nil ?_
        refine ret2 Tryz.func72 Tryz.results72 wn_ wn_ () (by simp_all [binds]) (fun w hs => hs.none)
      · refine go_skip ?_
        refine go_exit rfl ?_
        refine go_seq ?_
        refine go_region ⟨_, Tryz.func72⟩ rfl ?_
        refine q0 rfl (o_assign ?_)
        refine q0 rfl (o_assign ?_)
        refine rg_nil ?_
        refine ret2 Tryz.func72 Tryz.results72 wn_ wn_ () (by simp_all [binds]) (fun w hs => hs.none)
    · refine go_skip ?_
      refine go_seq ?_
      refine go_seq ?_
      refine go_region ⟨_, Tryz.func72⟩ rfl ?_
      refine q0 rfl (o_eqI ?_)
      refine q0 rfl (o_assign ?_)
      refine rg_nil ?_
      refine go_condI (fun h10 => ?_) (fun h10 => ?_)
      · refine go_exit rfl ?_
        refine go_inBlock ?_
        refine go_inBlock ?_
        refine go_seq ?_
        refine go_seq ?_
        refine go_region ⟨_, Tryz.func72⟩ rfl ?_
        refine q0 rfl (o_move ?_)
        refine q0 rfl (o_eqI ?_)
        refine rg_nil ?_
        refine go_condI (fun h23 => ?_) (fun h23 => ?_)
        · refine go_seq ?_
          refine go_region ⟨_, Tryz.func72⟩ rfl ?_
          refine q0 rfl (o_assign ?_)
          refine q0 rfl (o_assign ?_)
          refine rg_nil ?_
          refine ret2 Tryz.func72 Tryz.results72 wn_ wn_ () (by simp_all [binds]) (fun w hs => hs.none)
        · refine go_skip ?_
          refine go_exit rfl ?_
          refine go_seq ?_
          refine go_region ⟨_, Tryz.func72⟩ rfl ?_
          refine q0 rfl (o_assign ?_)
          refine q0 rfl (o_assign ?_)
          refine rg_nil ?_
          refine ret2 Tryz.func72 Tryz.results72 wn_ wn_ () (by simp_all [binds]) (fun w hs => hs.none)
      · refine go_skip ?_
        refine go_seq ?_
        refine go_seq ?_
        refine go_region ⟨_, Tryz.func72⟩ rfl ?_
        refine q0 rfl (o_eqI ?_)
        refine q0 rfl (o_assign ?_)
        refine rg_nil ?_
        refine go_condI (fun h12 => ?_) (fun h12 => ?_)
        · refine go_exit rfl ?_
          refine go_inBlock ?_
          refine go_seq ?_
          refine go_seq ?_
          refine go_region ⟨_, Tryz.func72⟩ rfl ?_
          refine q0 rfl (o_move ?_)
          refine q0 rfl (o_eqI ?_)
          refine rg_nil ?_
          refine go_condI (fun h23 => ?_) (fun h23 => ?_)
          · refine go_seq ?_
            refine go_region ⟨_, Tryz.func72⟩ rfl ?_
            refine q0 rfl (o_assign ?_)
            refine q0 rfl (o_assign ?_)
            refine rg_nil ?_
            refine ret2 Tryz.func72 Tryz.results72 wn_ wn_ () (by simp_all [binds]) (fun w hs => hs.none)
          · refine go_skip ?_
            refine go_exit rfl ?_
            refine go_seq ?_
            refine go_region ⟨_, Tryz.func72⟩ rfl ?_
            refine q0 rfl (o_assign ?_)
            refine q0 rfl (o_assign ?_)
            refine rg_nil ?_
            refine ret2 Tryz.func72 Tryz.results72 wn_ wn_ () (by simp_all [binds]) (fun w hs => hs.none)
        · refine go_skip ?_
          refine go_seq ?_
          refine go_seq ?_
          refine go_region ⟨_, Tryz.func72⟩ rfl ?_
          refine q0 rfl (o_eqI ?_)
          refine q0 rfl (o_assign ?_)
          refine rg_nil ?_
          refine go_condI (fun h14 => ?_) (fun h14 => ?_)
          · refine go_exit rfl ?_
            refine go_seq ?_
            refine go_seq ?_
            refine go_region ⟨_, Tryz.func72⟩ rfl ?_
            refine q0 rfl (o_move ?_)
            refine q0 rfl (o_eqI ?_)
            refine rg_nil ?_
            refine go_condI (fun h23 => ?_) (fun h23 => ?_)
            · refine go_seq ?_
              refine go_region ⟨_, Tryz.func72⟩ rfl ?_
              refine q0 rfl (o_assign ?_)
              refine q0 rfl (o_assign ?_)
              refine rg_nil ?_
              refine ret2 Tryz.func72 Tryz.results72 wn_ wn_ () (by simp_all [binds]) (fun w hs => hs.none)
            · refine go_skip ?_
              refine go_exit rfl ?_
              refine go_seq ?_
              refine go_region ⟨_, Tryz.func72⟩ rfl ?_
              refine q0 rfl (o_assign ?_)
              refine q0 rfl (o_assign ?_)
              refine rg_nil ?_
              refine ret2 Tryz.func72 Tryz.results72 wn_ wn_ () (by simp_all [binds]) (fun w hs => hs.none)
          · refine go_skip ?_
            refine go_seq ?_
            refine go_seq ?_
            refine go_region ⟨_, Tryz.func72⟩ rfl ?_
            refine q0 rfl (o_eqI ?_)
            refine q0 rfl (o_assign ?_)
            refine rg_nil ?_
            refine go_condI (fun h16 => ?_) (fun h16 => ?_)
            · refine go_skip ?_
              refine go_condT ?_
              refine go_exit rfl ?_
              refine go_seq ?_
              refine go_seq ?_
              refine go_region ⟨_, Tryz.func72⟩ rfl ?_
              refine q0 rfl (o_move ?_)
              refine q0 rfl (o_eqI ?_)
              refine rg_nil ?_
              refine go_condI (fun h25 => ?_) (fun h25 => ?_)
              · refine go_seq ?_
                refine go_region ⟨_, Tryz.func72⟩ rfl ?_
                refine q0 rfl (o_assign ?_)
                refine q0 rfl (o_assign ?_)
                refine rg_nil ?_
                refine ret2 Tryz.func72 Tryz.results72 wn_ wn_ () (by simp_all [binds]) (fun w hs => hs.none)
              · refine go_skip ?_
                refine go_exit rfl ?_
                refine go_seq ?_
                refine go_region ⟨_, Tryz.func72⟩ rfl ?_
                refine q0 rfl (o_assign ?_)
                refine q0 rfl (o_assign ?_)
                refine rg_nil ?_
                refine ret2 Tryz.func72 Tryz.results72 wn_ wn_ () (by simp_all [binds]) (fun w hs => hs.none)
            · refine go_seq ?_
              refine go_region ⟨_, Tryz.func72⟩ rfl ?_
              refine q0 rfl (o_eqI ?_)
              refine q0 rfl (o_assign ?_)
              refine rg_nil ?_
              refine go_condI (fun h16 => ?_) (fun h16 => ?_)
              · refine go_skip ?_
                refine go_condT ?_
                refine go_exit rfl ?_
                refine go_seq ?_
                refine go_seq ?_
                refine go_region ⟨_, Tryz.func72⟩ rfl ?_
                refine q0 rfl (o_move ?_)
                refine q0 rfl (o_eqI ?_)
                refine rg_nil ?_
                refine go_condI (fun h25 => ?_) (fun h25 => ?_)
                · refine go_seq ?_
                  refine go_region ⟨_, Tryz.func72⟩ rfl ?_
                  refine q0 rfl (o_assign ?_)
                  refine q0 rfl (o_assign ?_)
                  refine rg_nil ?_
                  refine ret2 Tryz.func72 Tryz.results72 wn_ wn_ () (by simp_all [binds]) (fun w hs => hs.none)
                · refine go_skip ?_
                  refine go_exit rfl ?_
                  refine go_seq ?_
                  refine go_region ⟨_, Tryz.func72⟩ rfl ?_
                  refine q0 rfl (o_assign ?_)
                  refine q0 rfl (o_assign ?_)
                  refine rg_nil ?_
                  refine ret2 Tryz.func72 Tryz.results72 wn_ wn_ () (by simp_all [binds]) (fun w hs => hs.none)
              · refine go_region ⟨_, Tryz.func72⟩ rfl ?_
                refine q0 rfl (o_eqI ?_)
                refine q0 rfl (o_assign ?_)
                refine rg_nil ?_
                refine go_condI (fun h16 => ?_) (fun h16 => ?_)
                · refine go_exit rfl ?_
                  refine go_seq ?_
                  refine go_seq ?_
                  refine go_region ⟨_, Tryz.func72⟩ rfl ?_
                  refine q0 rfl (o_move ?_)
                  refine q0 rfl (o_eqI ?_)
                  refine rg_nil ?_
                  refine go_condI (fun h25 => ?_) (fun h25 => ?_)
                  · refine go_seq ?_
                    refine go_region ⟨_, Tryz.func72⟩ rfl ?_
                    refine q0 rfl (o_assign ?_)
                    refine q0 rfl (o_assign ?_)
                    refine rg_nil ?_
                    refine ret2 Tryz.func72 Tryz.results72 wn_ wn_ () (by simp_all [binds]) (fun w hs => hs.none)
                  · refine go_skip ?_
                    refine go_exit rfl ?_
                    refine go_seq ?_
                    refine go_region ⟨_, Tryz.func72⟩ rfl ?_
                    refine q0 rfl (o_assign ?_)
                    refine q0 rfl (o_assign ?_)
                    refine rg_nil ?_
                    refine ret2 Tryz.func72 Tryz.results72 wn_ wn_ () (by simp_all [binds]) (fun w hs => hs.none)
                · refine go_skip ?_
                  refine go_exit rfl ?_
                  refine go_seq ?_
                  refine go_region ⟨_, Tryz.func72⟩ rfl ?_
                  refine q0 rfl (o_assign ?_)
                  refine q0 rfl (o_assign ?_)
                  refine rg_nil ?_
                  refine ret2 Tryz.func72 Tryz.results72 wn_ wn_ () (by simp_all [binds]) (fun w hs => hs.none)
theorem each_spec (t : T) (vr vk vs : SH) (c : FuncId) (cap : List Value) (FΓ : List Fact) (SM SF : Nat → List Res) (β : Nat → Bool)
    (hc : ∀ (args : Array Value) (w : World), (callFunc c args).run Tryz.prog w = .ok (.enter c args) w)
    (hcl : ∀ m k v d, (parts t)[m]? = some (k, v, d) → (∀ j, j < m → β j = true) → ∀ vr vk vs, Spec Tryz.prog c (.agg (tc k vr vk vs).toArray :: .int .i64 v :: .int .i64 d :: cap).toArray (RT k vr vk vs :: FΓ) (SM m) (fun _ : Unit => .bool (β m)) (fun _ => []) (fun _ => if β m then SM (m + 1) else SF m)) :
    Spec Tryz.prog 37 #[.agg (tc t vr vk vs).toArray, .func (.func c) #[] cap.toArray] (RT t vr vk vs :: FΓ) (SM 0) (fun _ : Unit => .bool (ff β (parts t).length == (parts t).length)) (fun _ => []) (fun _ => if ff β (parts t).length = (parts t).length then SM (parts t).length else SF (ff β (parts t).length)) := by
  refine spec_go (args := [.agg (tc t vr vk vs).toArray, .func (.func c) #[] cap.toArray]) Tryz.func37 Tryz.ntmps37 rfl (by exact Nat.le_of_ble_eq_true rfl) fun B hB => ?_
  refine go_open (fun hk hn hnm => ?_)
  refine go_openTL (ts := t.kids) (fun VR VK VS hl1 hA1 => ?_)
  refine go_openBL (bs := t.sys) (fun VF VK2 hl2 hA2 => ?_)
  have hpl := parts_length t
  refine go_seq ?_
  refine go_region ⟨_, Tryz.func37⟩ rfl ?_
  refine q0 rfl (o_box fun b2 => ?_)
  refine q0 rfl (o_assign ?_)
  refine rg_nil ?_
  refine go_seq ?_
  refine go_seq ?_
  refine go_region ⟨_, Tryz.func37⟩ rfl ?_
  refine q0 rfl (o_fa ?_)
  refine q0 rfl (o_ld ?_)
  refine q0 rfl (o_len ?_)
  refine q0 rfl (o_move ?_)
  refine rg_nil ?_
  refine go_block ?_
  refine go_loopI (X := Nat) (fun i => i ≤ t.kids.length ∧ ∀ j, j < i → β j = true) (fun i => [(1, .func (.func c) #[] cap.toArray), (2, .pointer (some ⟨b2, 0, none⟩)), (15, sl vk t.kids.length), (16, .int .i64 (t.kids.length : Int)), (17, .int .i64 (i : Int))]) (fun i => TLx t.kids vk VR VK VS :: BLx t.sys vs VF VK2 :: RT t vr vk vs :: FΓ) (fun i => boxR b2 (tc t vr vk vs) 26 :: SM i) (fun i => t.kids.length - i) (0) (⟨Nat.zero_le _, fun j hj => by omega⟩) (by exact ⟨rfl, rfl, rfl, rfl, rfl, trivial⟩) ?_ ?_
  · exact fun w hs => hs.less (by simp +contextual)
  · intro i base0 ⟨hi, hβ⟩ next0
    refine go_seq ?_
    refine go_region ⟨_, Tryz.func37⟩ rfl ?_
    refine q0 rfl (o_lss ?_)
    refine rg_nil ?_
    refine go_seq ?_
    refine go_condI (fun h18 => ?_) (fun h18 => ?_)
    · have hlt : i < t.kids.length := by have := of_decide_eq_true h18; omega
      obtain ⟨bk, o, hav⟩ := hA1 (by omega)
      refine go_skip ?_
      refine go_seq ?_
      refine go_block ?_
      refine go_seq ?_
      refine go_region ⟨_, Tryz.func37⟩ rfl ?_
      refine q0 rfl (o_move ?_)
      refine q0 rfl (o_ixN ?_)
      refine q0 rfl (o_ldT ?_)
      refine q0 rfl (o_new fun b6 => ?_)
      refine q0 rfl (o_assign ?_)
      refine q0 rfl (o_st ?_)
      refine rg_nil ?_
      refine go_seq ?_
      refine go_kid i hlt ?_
      refine go_region ⟨_, Tryz.func37⟩ rfl ?_
      have hpk := parts_kid t i hlt
      refine q0 rfl (o_fa ?_)
      refine q0 rfl (o_ld ?_)
      refine q0 rfl (o_move ?_)
      refine q0 rfl (o_call Tryz.call72 (binds_spec t.kind i) (fun x26 => ?_))
      refine q0 rfl (o_move ?_)
      refine q0 rfl (o_extract ?_)
      refine q0 rfl (o_extract ?_)
      refine q0 rfl (o_assign ?_)
      refine q0 rfl (o_assign ?_)
      refine rg_nil ?_
      refine go_seq ?_
      refine go_region ⟨_, Tryz.func37⟩ rfl ?_
      refine q0 rfl (o_move ?_)
      refine q0 rfl (o_lds ?_)
      refine q0 rfl (o_move ?_)
      refine q0 rfl (o_move ?_)
      refine q0 rfl (o_callC hc (hcl i _ _ _ hpk hβ _ _ _) (fun x33 => ?_))
      refine q0 rfl (o_not ?_)
      refine rg_nil ?_
      refine go_condI (fun h34 => ?_) (fun h34 => ?_)
      · have hβf : β i = false := by simpa using h34
        refine go_seq ?_
        refine go_region ⟨_, Tryz.func37⟩ rfl ?_
        refine q0 rfl (o_assign ?_)
        refine rg_nil ?_
        have hff := ff_stop hβf hβ (n := (parts t).length) (by omega)
        refine ret1 Tryz.func37 Tryz.results37 wn_ () (by simp [hff]; omega) (fun w hs => by rw [hff, if_neg (by omega)]; simp only [hβf, Bool.false_eq_true, if_false] at hs; exact (hs.less (by simp)).dropR)
      · refine go_skip ?_
        refine go_inBlock ?_
        refine go_region ⟨_, Tryz.func37⟩ rfl ?_
        refine q0 rfl (o_add ?_)
        refine q0 rfl (o_move ?_)
        refine rg_nil ?_
        have hβt : β i = true := by simpa using h34
        refine go_state (fun w hs => ?_) (next0 (i + 1) _ ⟨hlt, fun j hj => (by rcases Nat.lt_succ_iff_lt_or_eq.mp hj with h | h; exact hβ j h; subst h; exact hβt)⟩ (by omega) ⟨rfl, rfl, rfl, rfl, rfl, trivial⟩)
        simp only [hβt, if_true] at hs
        exact ((hs.less (by simp +contextual)).perm List.perm_append_comm).drop
    · have hge : i = t.kids.length := by have := of_decide_eq_false h18; omega
      refine go_exit rfl ?_
      refine go_seq ?_
      refine go_region ⟨_, Tryz.func37⟩ rfl ?_
      refine q0 rfl (o_assign ?_)
      refine rg_nil ?_
      refine go_seq ?_
      refine go_seq ?_
      refine go_region ⟨_, Tryz.func37⟩ rfl ?_
      refine q0 rfl (o_fa ?_)
      refine q0 rfl (o_ld ?_)
      refine q0 rfl (o_eqI ?_)
      refine rg_nil ?_
      refine go_cutS ([(1, .func (.func c) #[] cap.toArray), (2, .pointer (some ⟨b2, 0, none⟩)), (9, .int .i64 (more t.kind))]) (fun hK => ?_) (fun base => ?_)
      · refine go_condI (fun h38 => ?_) (fun h38 => ?_)
        · refine go_region ⟨_, Tryz.func37⟩ rfl ?_
          refine q0 rfl (o_assign ?_)
          refine rg_nil ?_
          exact hK _ ⟨rfl, rfl, by first | (rw [more, if_pos (of_decide_eq_true h38)]; rfl) | (rw [more, if_neg (of_decide_eq_false h38)]; rfl), trivial⟩
        · refine go_skip ?_
          exact hK _ ⟨rfl, rfl, by first | (rw [more, if_pos (of_decide_eq_true h38)]; rfl) | (rw [more, if_neg (of_decide_eq_false h38)]; rfl), trivial⟩
      · refine go_seq ?_
        refine go_seq ?_
        refine go_region ⟨_, Tryz.func37⟩ rfl ?_
        refine q0 rfl (o_fa ?_)
        refine q0 rfl (o_ld ?_)
        refine q0 rfl (o_len ?_)
        refine q0 rfl (o_move ?_)
        refine rg_nil ?_
        refine go_block ?_
        refine go_loopI (X := Nat) (fun i2 => i2 ≤ t.sys.length ∧ ∀ j, j < t.kids.length + sysBefore i2 t.sys → β j = true) (fun i2 => [(1, .func (.func c) #[] cap.toArray), (9, .int .i64 (more t.kind)), (40, sl vs t.sys.length), (41, .int .i64 (t.sys.length : Int)), (42, .int .i64 (i2 : Int))]) (fun i2 => BLx t.sys vs VF VK2 :: FΓ) (fun i2 => SM (t.kids.length + sysBefore i2 t.sys)) (fun i2 => t.sys.length - i2) (0) (⟨Nat.zero_le _, fun j hj => hβ j (by simp [sysBefore] at hj; omega)⟩) (by exact ⟨rfl, rfl, rfl, rfl, rfl, trivial⟩) ?_ ?_
        · exact fun w hs => (by simpa [sysBefore, show i = t.kids.length by omega] using (hs.drop.less (Γ' := BLx t.sys vs VF VK2 :: FΓ) (by simp +contextual)))
        · intro i2 base1 ⟨hi2, hβ2⟩ next1
          refine go_seq ?_
          refine go_region ⟨_, Tryz.func37⟩ rfl ?_
          refine q0 rfl (o_lss ?_)
          refine rg_nil ?_
          refine go_seq ?_
          refine go_condI (fun h43 => ?_) (fun h43 => ?_)
          · have hlt2 : i2 < t.sys.length := by have := of_decide_eq_true h43; omega
            obtain ⟨bk2, o2, hav2⟩ := hA2 (by omega)
            refine go_skip ?_
            refine go_seq ?_
            refine go_block ?_
            refine go_seq ?_
            refine go_region ⟨_, Tryz.func37⟩ rfl ?_
            refine q0 rfl (o_ixN ?_)
            refine q0 rfl (o_ldB ?_)
            refine q0 rfl (o_new fun b11 => ?_)
            refine q0 rfl (o_st ?_)
            refine rg_nil ?_
            refine go_seq ?_
            refine go_region ⟨_, Tryz.func37⟩ rfl ?_
            refine q0 rfl (o_fa ?_)
            refine q0 rfl (o_ld ?_)
            refine q0 rfl (o_len ?_)
            refine q0 rfl (o_move ?_)
            refine rg_nil ?_
            refine go_block ?_
            refine go_branch i2 (by omega) ?_
            refine go_openTL (ts := (t.sys.getD i2 br0).kids) (fun VR3 VK3 VS3 hl3 hA3 => ?_)
            refine go_loopI (X := Nat) (fun j => j ≤ (t.sys.getD i2 br0).kids.length ∧ ∀ m, m < t.kids.length + sysBefore i2 t.sys + j → β m = true) (fun j => [(1, .func (.func c) #[] cap.toArray), (9, .int .i64 (more t.kind)), (40, sl vs t.sys.length), (41, .int .i64 (t.sys.length : Int)), (42, .int .i64 ((i2 : Nat) : Int)), (47, sl (VK2 i2) (t.sys.getD i2 br0).kids.length), (48, .int .i64 ((t.sys.getD i2 br0).kids.length : Int)), (49, .int .i64 (j : Int))]) (fun j => TLx (t.sys.getD i2 br0).kids (VK2 i2) VR3 VK3 VS3 :: BLx t.sys vs VF VK2 :: FΓ) (fun j => SM (t.kids.length + sysBefore i2 t.sys + j)) (fun j => (t.sys.getD i2 br0).kids.length - j) (0) (⟨Nat.zero_le _, hβ2⟩) (by exact ⟨rfl, rfl, rfl, rfl, rfl, rfl, rfl, rfl, trivial⟩) ?_ ?_
            · exact fun w hs => (hs.less (by simp +contextual)).drop
            · intro j base2 ⟨hj, hβ3⟩ next2
              refine go_seq ?_
              refine go_region ⟨_, Tryz.func37⟩ rfl ?_
              refine q0 rfl (o_lss ?_)
              refine rg_nil ?_
              refine go_seq ?_
              refine go_condI (fun h50 => ?_) (fun h50 => ?_)
              · have hlt3 : j < (t.sys.getD i2 br0).kids.length := by have := of_decide_eq_true h50; omega
                obtain ⟨bk3, o3, hav3⟩ := hA3 (by omega)
                have hps := parts_sys t i2 j hlt2 hlt3
                refine go_kid j hlt3 ?_
                refine go_skip ?_
                refine go_seq ?_
                refine go_block ?_
                refine go_seq ?_
                refine go_region ⟨_, Tryz.func37⟩ rfl ?_
                refine q0 rfl (o_ixN ?_)
                refine q0 rfl (o_ldT ?_)
                refine q0 rfl (o_new fun b13 => ?_)
                refine q0 rfl (o_st ?_)
                refine rg_nil ?_
                refine go_seq ?_
                refine go_region ⟨_, Tryz.func37⟩ rfl ?_
                refine q0 rfl (o_move ?_)
                refine q0 rfl (o_lds ?_)
                refine q0 rfl (o_move ?_)
                refine q0 rfl (o_callC hc (hcl _ _ _ _ hps hβ3 _ _ _) (fun x56 => ?_))
                refine q0 rfl (o_not ?_)
                refine rg_nil ?_
                refine go_condI (fun h57 => ?_) (fun h57 => ?_)
                · have hβf : β (t.kids.length + sysBefore i2 t.sys + j) = false := by simpa using h57
                  refine go_seq ?_
                  refine go_region ⟨_, Tryz.func37⟩ rfl ?_
                  refine q0 rfl (o_assign ?_)
                  refine rg_nil ?_
                  have hbd := sysBefore_le hlt2 hlt3
                  have hff := ff_stop hβf hβ3 (n := (parts t).length) (by omega)
                  refine ret1 Tryz.func37 Tryz.results37 wn_ () (by simp [hff]; omega) (fun w hs => by rw [hff, if_neg (by omega)]; simp only [hβf, Bool.false_eq_true, if_false] at hs; exact (hs.less (by simp)).dropR)
                · refine go_skip ?_
                  refine go_inBlock ?_
                  refine go_region ⟨_, Tryz.func37⟩ rfl ?_
                  refine q0 rfl (o_add ?_)
                  refine q0 rfl (o_move ?_)
                  refine rg_nil ?_
                  have hβt : β (t.kids.length + sysBefore i2 t.sys + j) = true := by simpa using h57
                  refine go_state (fun w hs => ?_) (next2 (j + 1) _ ⟨hlt3, fun j2 hj2 => (by rcases Nat.lt_succ_iff_lt_or_eq.mp hj2 with h | h; exact hβ3 j2 h; subst h; exact hβt)⟩ (by omega) ⟨rfl, rfl, rfl, rfl, rfl, rfl, rfl, rfl, trivial⟩)
                  simp only [hβt, if_true] at hs
                  exact (hs.less (by simp +contextual)).dropR
              · have hge3 : j = (t.sys.getD i2 br0).kids.length := by have := of_decide_eq_false h50; omega
                refine go_exit rfl ?_
                refine go_inBlock ?_
                refine go_region ⟨_, Tryz.func37⟩ rfl ?_
                refine q0 rfl (o_add ?_)
                refine q0 rfl (o_move ?_)
                refine rg_nil ?_
                refine go_state (fun w hs => ?_) (next1 (i2 + 1) _ ⟨hlt2, by rw [sysBefore_succ i2 t.sys hlt2]; rw [hge3] at hβ3; simpa [Nat.add_assoc] using hβ3⟩ (by omega) ⟨rfl, rfl, rfl, rfl, rfl, trivial⟩)
                rw [hge3] at hs
                simp only [sysBefore_succ i2 t.sys hlt2, ← Nat.add_assoc]
                exact hs.less (by simp +contextual)
          · refine go_exit rfl ?_
            refine go_seq ?_
            refine go_region ⟨_, Tryz.func37⟩ rfl ?_
            refine q0 rfl (o_assign ?_)
            refine rg_nil ?_
            have hie : i2 = t.sys.length := by have := of_decide_eq_false h43; omega
            have hff := ff_all (β := β) (n := (parts t).length) (by rw [hpl, ← hie]; exact hβ2)
            refine ret1 Tryz.func37 Tryz.results37 wn_ () (by simp [hff]) (fun w hs => by rw [hff, if_pos rfl, hpl, ← hie]; exact hs.less (by simp))
end Go.Hy
namespace Go.Hy
set_option linter.unusedVariables false
set_option linter.unusedSimpArgs false
set_option linter.unusedSectionVars false
open Go.Proofs
set_option linter.unusedVariables false
set_option linter.unusedSimpArgs false
set_option maxRecDepth 100000
theorem kids_spec (k : Int) : Spec Tryz.prog 95 #[.int .i64 k] [] [] (fun _ : Unit => .int .i64 (kidsN k)) (fun _ => []) (fun _ => []) := by
  refine spec_go (args := [.int .i64 k]) Tryz.func95 Tryz.ntmps95 rfl (by exact Nat.le_of_ble_eq_true rfl) fun B hB => ?_
  refine go_seq ?_
  refine go_region ⟨_, Tryz.func95⟩ rfl ?_
  refine q0 rfl (o_assign ?_)
  refine rg_nil ?_
  refine go_seq ?_
  refine go_seq ?_
  refine go_region ⟨_, Tryz.func95⟩ rfl ?_
  refine q0 rfl (o_move ?_)
  refine rg_nil ?_
  refine go_block ?_
  refine go_seq ?_
  refine go_seq ?_
  refine go_region ⟨_, Tryz.func95⟩ rfl ?_
  refine q0 rfl (o_eqI ?_)
  refine q0 rfl (o_assign ?_)
  refine rg_nil ?_
  refine go_condI (fun h4 => ?_) (fun h4 => ?_)
  · refine go_skip ?_
    refine go_condT ?_
    refine go_seq ?_
    refine go_region ⟨_, Tryz.func95⟩ rfl ?_
    refine q0 rfl (o_assign ?_)
    refine rg_nil ?_
    refine ret1 Tryz.func95 Tryz.results95 wn_ () (by simp_all [kidsN]) (fun w hs => hs.none)
  · refine go_seq ?_
    refine go_region ⟨_, Tryz.func95⟩ rfl ?_
    refine q0 rfl (o_eqI ?_)
    refine q0 rfl (o_assign ?_)
    refine rg_nil ?_
    refine go_condI (fun h4 => ?_) (fun h4 => ?_)
    · refine go_skip ?_
      refine go_condT ?_
      refine go_seq ?_
      refine go_region ⟨_, Tryz.func95⟩ rfl ?_
      refine q0 rfl (o_assign ?_)
      refine rg_nil ?_
      refine ret1 Tryz.func95 Tryz.results95 wn_ () (by simp_all [kidsN]) (fun w hs => hs.none)
    · refine go_seq ?_
      refine go_region ⟨_, Tryz.func95⟩ rfl ?_
      refine q0 rfl (o_eqI ?_)
      refine q0 rfl (o_assign ?_)
      refine rg_nil ?_
      refine go_condI (fun h4 => ?_) (fun h4 => ?_)
      · refine go_skip ?_
        refine go_condT ?_
        refine go_seq ?_
        refine go_region ⟨_, Tryz.func95⟩ rfl ?_
        refine q0 rfl (o_assign ?_)
        refine rg_nil ?_
        refine ret1 Tryz.func95 Tryz.results95 wn_ () (by simp_all [kidsN]) (fun w hs => hs.none)
      · refine go_seq ?_
        refine go_region ⟨_, Tryz.func95⟩ rfl ?_
        refine q0 rfl (o_eqI ?_)
        refine q0 rfl (o_assign ?_)
        refine rg_nil ?_
        refine go_condI (fun h4 => ?_) (fun h4 => ?_)
        · refine go_skip ?_
          refine go_condT ?_
          refine go_seq ?_
          refine go_region ⟨_, Tryz.func95⟩ rfl ?_
          refine q0 rfl (o_assign ?_)
          refine rg_nil ?_
          refine ret1 Tryz.func95 Tryz.results95 wn_ () (by simp_all [kidsN]) (fun w hs => hs.none)
        · refine go_seq ?_
          refine go_region ⟨_, Tryz.func95⟩ rfl ?_
          refine q0 rfl (o_eqI ?_)
          refine q0 rfl (o_assign ?_)
          refine rg_nil ?_
          refine go_condI (fun h4 => ?_) (fun h4 => ?_)
          · refine go_skip ?_
            refine go_condT ?_
            refine go_seq ?_
            refine go_region ⟨_, Tryz.func95⟩ rfl ?_
            refine q0 rfl (o_assign ?_)
            refine rg_nil ?_
            refine ret1 Tryz.func95 Tryz.results95 wn_ () (by simp_all [kidsN]) (fun w hs => hs.none)
          · refine go_seq ?_
            refine go_region ⟨_, Tryz.func95⟩ rfl ?_
            refine q0 rfl (o_eqI ?_)
            refine q0 rfl (o_assign ?_)
            refine rg_nil ?_
            refine go_condI (fun h4 => ?_) (fun h4 => ?_)
            · refine go_skip ?_
              refine go_condT ?_
              refine go_seq ?_
              refine go_region ⟨_, Tryz.func95⟩ rfl ?_
              refine q0 rfl (o_assign ?_)
              refine rg_nil ?_
              refine ret1 Tryz.func95 Tryz.results95 wn_ () (by simp_all [kidsN]) (fun w hs => hs.none)
            · refine go_seq ?_
              refine go_region ⟨_, Tryz.func95⟩ rfl ?_
              refine q0 rfl (o_eqI ?_)
              refine q0 rfl (o_assign ?_)
              refine rg_nil ?_
              refine go_condI (fun h4 => ?_) (fun h4 => ?_)
              · refine go_skip ?_
                refine go_condT ?_
                refine go_seq ?_
                refine go_region ⟨_, Tryz.func95⟩ rfl ?_
                refine q0 rfl (o_assign ?_)
                refine rg_nil ?_
                refine ret1 Tryz.func95 Tryz.results95 wn_ () (by simp_all [kidsN]) (fun w hs => hs.none)
              · refine go_region ⟨_, Tryz.func95⟩ rfl ?_
                refine q0 rfl (o_eqI ?_)
                refine q0 rfl (o_assign ?_)
                refine rg_nil ?_
                refine go_condI (fun h4 => ?_) (fun h4 => ?_)
                · refine go_seq ?_
                  refine go_region ⟨_, Tryz.func95⟩ rfl ?_
                  refine q0 rfl (o_assign ?_)
                  refine rg_nil ?_
                  refine ret1 Tryz.func95 Tryz.results95 wn_ () (by simp_all [kidsN]) (fun w hs => hs.none)
                · refine go_seq ?_
                  refine go_seq ?_
                  refine go_region ⟨_, Tryz.func95⟩ rfl ?_
                  refine q0 rfl (o_eqI ?_)
                  refine q0 rfl (o_assign ?_)
                  refine rg_nil ?_
                  refine go_condI (fun h13 => ?_) (fun h13 => ?_)
                  · refine go_skip ?_
                    refine go_condT ?_
                    refine go_seq ?_
                    refine go_region ⟨_, Tryz.func95⟩ rfl ?_
                    refine q0 rfl (o_assign ?_)
                    refine rg_nil ?_
                    refine ret1 Tryz.func95 Tryz.results95 wn_ () (by simp_all [kidsN]) (fun w hs => hs.none)
                  · refine go_seq ?_
                    refine go_region ⟨_, Tryz.func95⟩ rfl ?_
                    refine q0 rfl (o_eqI ?_)
                    refine q0 rfl (o_assign ?_)
                    refine rg_nil ?_
                    refine go_condI (fun h13 => ?_) (fun h13 => ?_)
                    · refine go_skip ?_
                      refine go_condT ?_
                      refine go_seq ?_
                      refine go_region ⟨_, Tryz.func95⟩ rfl ?_
                      refine q0 rfl (o_assign ?_)
                      refine rg_nil ?_
                      refine ret1 Tryz.func95 Tryz.results95 wn_ () (by simp_all [kidsN]) (fun w hs => hs.none)
                    · refine go_seq ?_
                      refine go_region ⟨_, Tryz.func95⟩ rfl ?_
                      refine q0 rfl (o_eqI ?_)
                      refine q0 rfl (o_assign ?_)
                      refine rg_nil ?_
                      refine go_condI (fun h13 => ?_) (fun h13 => ?_)
                      · refine go_skip ?_
                        refine go_condT ?_
                        refine go_seq ?_
                        refine go_region ⟨_, Tryz.func95⟩ rfl ?_
                        refine q0 rfl (o_assign ?_)
                        refine rg_nil ?_
                        refine ret1 Tryz.func95 Tryz.results95 wn_ () (by simp_all [kidsN]) (fun w hs => hs.none)
                      · refine go_seq ?_
                        refine go_region ⟨_, Tryz.func95⟩ rfl ?_
                        refine q0 rfl (o_eqI ?_)
                        refine q0 rfl (o_assign ?_)
                        refine rg_nil ?_
                        refine go_condI (fun h13 => ?_) (fun h13 => ?_)
                        · refine go_skip ?_
                          refine go_condT ?_
                          refine go_seq ?_
                          refine go_region ⟨_, Tryz.func95⟩ rfl ?_
                          refine q0 rfl (o_assign ?_)
                          refine rg_nil ?_
                          refine ret1 Tryz.func95 Tryz.results95 wn_ () (by simp_all [kidsN]) (fun w hs => hs.none)
                        · refine go_seq ?_
                          refine go_region ⟨_, Tryz.func95⟩ rfl ?_
                          refine q0 rfl (o_eqI ?_)
                          refine q0 rfl (o_assign ?_)
                          refine rg_nil ?_
                          refine go_condI (fun h13 => ?_) (fun h13 => ?_)
                          · refine go_skip ?_
                            refine go_condT ?_
                            refine go_seq ?_
                            refine go_region ⟨_, Tryz.func95⟩ rfl ?_
                            refine q0 rfl (o_assign ?_)
                            refine rg_nil ?_
                            refine ret1 Tryz.func95 Tryz.results95 wn_ () (by simp_all [kidsN]) (fun w hs => hs.none)
                          · refine go_seq ?_
                            refine go_region ⟨_, Tryz.func95⟩ rfl ?_
                            refine q0 rfl (o_eqI ?_)
                            refine q0 rfl (o_assign ?_)
                            refine rg_nil ?_
                            refine go_condI (fun h13 => ?_) (fun h13 => ?_)
                            · refine go_skip ?_
                              refine go_condT ?_
                              refine go_seq ?_
                              refine go_region ⟨_, Tryz.func95⟩ rfl ?_
                              refine q0 rfl (o_assign ?_)
                              refine rg_nil ?_
                              refine ret1 Tryz.func95 Tryz.results95 wn_ () (by simp_all [kidsN]) (fun w hs => hs.none)
                            · refine go_seq ?_
                              refine go_region ⟨_, Tryz.func95⟩ rfl ?_
                              refine q0 rfl (o_eqI ?_)
                              refine q0 rfl (o_assign ?_)
                              refine rg_nil ?_
                              refine go_condI (fun h13 => ?_) (fun h13 => ?_)
                              · refine go_skip ?_
                                refine go_condT ?_
                                refine go_seq ?_
                                refine go_region ⟨_, Tryz.func95⟩ rfl ?_
                                refine q0 rfl (o_assign ?_)
                                refine rg_nil ?_
                                refine ret1 Tryz.func95 Tryz.results95 wn_ () (by simp_all [kidsN]) (fun w hs => hs.none)
                              · refine go_seq ?_
                                refine go_region ⟨_, Tryz.func95⟩ rfl ?_
                                refine q0 rfl (o_eqI ?_)
                                refine q0 rfl (o_assign ?_)
                                refine rg_nil ?_
                                refine go_condI (fun h13 => ?_) (fun h13 => ?_)
                                · refine go_skip ?_
                                  refine go_condT ?_
                                  refine go_seq ?_
                                  refine go_region ⟨_, Tryz.func95⟩ rfl ?_
                                  refine q0 rfl (o_assign ?_)
                                  refine rg_nil ?_
                                  refine ret1 Tryz.func95 Tryz.results95 wn_ () (by simp_all [kidsN]) (fun w hs => hs.none)
                                · refine go_region ⟨_, Tryz.func95⟩ rfl ?_
                                  refine q0 rfl (o_eqI ?_)
                                  refine q0 rfl (o_assign ?_)
                                  refine rg_nil ?_
                                  refine go_condI (fun h13 => ?_) (fun h13 => ?_)
                                  · refine go_seq ?_
                                    refine go_region ⟨_, Tryz.func95⟩ rfl ?_
                                    refine q0 rfl (o_assign ?_)
                                    refine rg_nil ?_
                                    refine ret1 Tryz.func95 Tryz.results95 wn_ () (by simp_all [kidsN]) (fun w hs => hs.none)
                                  · refine go_seq ?_
                                    refine go_seq ?_
                                    refine go_region ⟨_, Tryz.func95⟩ rfl ?_
                                    refine q0 rfl (o_eqI ?_)
                                    refine q0 rfl (o_assign ?_)
                                    refine rg_nil ?_
                                    refine go_condI (fun h23 => ?_) (fun h23 => ?_)
                                    · refine go_skip ?_
                                      refine go_condT ?_
                                      refine go_seq ?_
                                      refine go_region ⟨_, Tryz.func95⟩ rfl ?_
                                      refine q0 rfl (o_assign ?_)
                                      refine rg_nil ?_
                                      refine ret1 Tryz.func95 Tryz.results95 wn_ () (by simp_all [kidsN]) (fun w hs => hs.none)
                                    · refine go_seq ?_
                                      refine go_region ⟨_, Tryz.func95⟩ rfl ?_
                                      refine q0 rfl (o_eqI ?_)
                                      refine q0 rfl (o_assign ?_)
                                      refine rg_nil ?_
                                      refine go_condI (fun h23 => ?_) (fun h23 => ?_)
                                      · refine go_skip ?_
                                        refine go_condT ?_
                                        refine go_seq ?_
                                        refine go_region ⟨_, Tryz.func95⟩ rfl ?_
                                        refine q0 rfl (o_assign ?_)
                                        refine rg_nil ?_
                                        refine ret1 Tryz.func95 Tryz.results95 wn_ () (by simp_all [kidsN]) (fun w hs => hs.none)
                                      · refine go_seq ?_
                                        refine go_region ⟨_, Tryz.func95⟩ rfl ?_
                                        refine q0 rfl (o_eqI ?_)
                                        refine q0 rfl (o_assign ?_)
                                        refine rg_nil ?_
                                        refine go_condI (fun h23 => ?_) (fun h23 => ?_)
                                        · refine go_skip ?_
                                          refine go_condT ?_
                                          refine go_seq ?_
                                          refine go_region ⟨_, Tryz.func95⟩ rfl ?_
                                          refine q0 rfl (o_assign ?_)
                                          refine rg_nil ?_
                                          refine ret1 Tryz.func95 Tryz.results95 wn_ () (by simp_all [kidsN]) (fun w hs => hs.none)
                                        · refine go_seq ?_
                                          refine go_region ⟨_, Tryz.func95⟩ rfl ?_
                                          refine q0 rfl (o_eqI ?_)
                                          refine q0 rfl (o_assign ?_)
                                          refine rg_nil ?_
                                          refine go_condI (fun h23 => ?_) (fun h23 => ?_)
                                          · refine go_skip ?_
                                            refine go_condT ?_
                                            refine go_seq ?_
                                            refine go_region ⟨_, Tryz.func95⟩ rfl ?_
                                            refine q0 rfl (o_assign ?_)
                                            refine rg_nil ?_
                                            refine ret1 Tryz.func95 Tryz.results95 wn_ () (by simp_all [kidsN]) (fun w hs => hs.none)
                                          · refine go_seq ?_
                                            refine go_region ⟨_, Tryz.func95⟩ rfl ?_
                                            refine q0 rfl (o_eqI ?_)
                                            refine q0 rfl (o_assign ?_)
                                            refine rg_nil ?_
                                            refine go_condI (fun h23 => ?_) (fun h23 => ?_)
                                            · refine go_skip ?_
                                              refine go_condT ?_
                                              refine go_seq ?_
                                              refine go_region ⟨_, Tryz.func95⟩ rfl ?_
                                              refine q0 rfl (o_assign ?_)
                                              refine rg_nil ?_
                                              refine ret1 Tryz.func95 Tryz.results95 wn_ () (by simp_all [kidsN]) (fun w hs => hs.none)
                                            · refine go_seq ?_
                                              refine go_region ⟨_, Tryz.func95⟩ rfl ?_
                                              refine q0 rfl (o_eqI ?_)
                                              refine q0 rfl (o_assign ?_)
                                              refine rg_nil ?_
                                              refine go_condI (fun h23 => ?_) (fun h23 => ?_)
                                              · refine go_skip ?_
                                                refine go_condT ?_
                                                refine go_seq ?_
                                                refine go_region ⟨_, Tryz.func95⟩ rfl ?_
                                                refine q0 rfl (o_assign ?_)
                                                refine rg_nil ?_
                                                refine ret1 Tryz.func95 Tryz.results95 wn_ () (by simp_all [kidsN]) (fun w hs => hs.none)
                                              · refine go_region ⟨_, Tryz.func95⟩ rfl ?_
                                                refine q0 rfl (o_eqI ?_)
                                                refine q0 rfl (o_assign ?_)
                                                refine rg_nil ?_
                                                refine go_condI (fun h23 => ?_) (fun h23 => ?_)
                                                · refine go_seq ?_
                                                  refine go_region ⟨_, Tryz.func95⟩ rfl ?_
                                                  refine q0 rfl (o_assign ?_)
                                                  refine rg_nil ?_
                                                  refine ret1 Tryz.func95 Tryz.results95 wn_ () (by simp_all [kidsN]) (fun w hs => hs.none)
                                                · refine go_seq ?_
                                                  refine go_seq ?_
                                                  refine go_region ⟨_, Tryz.func95⟩ rfl ?_
                                                  refine q0 rfl (o_eqI ?_)
                                                  refine q0 rfl (o_assign ?_)
                                                  refine rg_nil ?_
                                                  refine go_condI (fun h31 => ?_) (fun h31 => ?_)
                                                  · refine go_skip ?_
                                                    refine go_condT ?_
                                                    refine go_seq ?_
                                                    refine go_region ⟨_, Tryz.func95⟩ rfl ?_
                                                    refine q0 rfl (o_assign ?_)
                                                    refine rg_nil ?_
                                                    refine ret1 Tryz.func95 Tryz.results95 wn_ () (by simp_all [kidsN]) (fun w hs => hs.none)
                                                  · refine go_region ⟨_, Tryz.func95⟩ rfl ?_
                                                    refine q0 rfl (o_eqI ?_)
                                                    refine q0 rfl (o_assign ?_)
                                                    refine rg_nil ?_
                                                    refine go_condI (fun h31 => ?_) (fun h31 => ?_)
                                                    · refine go_seq ?_
                                                      refine go_region ⟨_, Tryz.func95⟩ rfl ?_
                                                      refine q0 rfl (o_assign ?_)
                                                      refine rg_nil ?_
                                                      refine ret1 Tryz.func95 Tryz.results95 wn_ () (by simp_all [kidsN]) (fun w hs => hs.none)
                                                    · refine go_seq ?_
                                                      refine go_region ⟨_, Tryz.func95⟩ rfl ?_
                                                      refine q0 rfl (o_eqI ?_)
                                                      refine q0 rfl (o_assign ?_)
                                                      refine rg_nil ?_
                                                      refine go_condI (fun h34 => ?_) (fun h34 => ?_)
                                                      · refine go_seq ?_
                                                        refine go_region ⟨_, Tryz.func95⟩ rfl ?_
                                                        refine q0 rfl (o_assign ?_)
                                                        refine rg_nil ?_
                                                        refine ret1 Tryz.func95 Tryz.results95 wn_ () (by simp_all [kidsN]) (fun w hs => hs.none)
                                                      · refine go_seq ?_
                                                        refine go_region ⟨_, Tryz.func95⟩ rfl ?_
                                                        refine q0 rfl (o_eqI ?_)
                                                        refine q0 rfl (o_assign ?_)
                                                        refine rg_nil ?_
                                                        refine go_condI (fun h36 => ?_) (fun h36 => ?_)
                                                        · refine go_seq ?_
                                                          refine go_region ⟨_, Tryz.func95⟩ rfl ?_
                                                          refine q0 rfl (o_assign ?_)
                                                          refine rg_nil ?_
                                                          refine ret1 Tryz.func95 Tryz.results95 wn_ () (by simp_all [kidsN]) (fun w hs => hs.none)
                                                        · refine go_skip ?_
                                                          refine go_inBlock ?_
                                                          refine go_seq ?_
                                                          refine go_region ⟨_, Tryz.func95⟩ rfl ?_
                                                          refine q0 rfl (o_assign ?_)
                                                          refine rg_nil ?_
                                                          refine ret1 Tryz.func95 Tryz.results95 wn_ () (by simp_all [kidsN]) (fun w hs => hs.none)
theorem parts_spec (k : Int) : Spec Tryz.prog 96 #[.int .i64 k] [] [] (fun _ : Unit => .int .i64 (partsN k)) (fun _ => []) (fun _ => []) := by
  refine spec_go (args := [.int .i64 k]) Tryz.func96 Tryz.ntmps96 rfl (by exact Nat.le_of_ble_eq_true rfl) fun B hB => ?_
  refine go_seq ?_
  refine go_region ⟨_, Tryz.func96⟩ rfl ?_
  refine q0 rfl (o_assign ?_)
  refine rg_nil ?_
  refine go_seq ?_
  refine go_seq ?_
  refine go_region ⟨_, Tryz.func96⟩ rfl ?_
  refine q0 rfl (o_move ?_)
  refine rg_nil ?_
  refine go_block ?_
  refine go_seq ?_
  refine go_seq ?_
  refine go_region ⟨_, Tryz.func96⟩ rfl ?_
  refine q0 rfl (o_eqI ?_)
  refine q0 rfl (o_assign ?_)
  refine rg_nil ?_
  refine go_condI (fun h4 => ?_) (fun h4 => ?_)
  · refine go_skip ?_
    refine go_condT ?_
    refine go_seq ?_
    refine go_region ⟨_, Tryz.func96⟩ rfl ?_
    refine q0 rfl (o_assign ?_)
    refine rg_nil ?_
    refine ret1 Tryz.func96 Tryz.results96 wn_ () (by simp_all [partsN]) (fun w hs => hs.none)
  · refine go_seq ?_
    refine go_region ⟨_, Tryz.func96⟩ rfl ?_
    refine q0 rfl (o_eqI ?_)
    refine q0 rfl (o_assign ?_)
    refine rg_nil ?_
    refine go_condI (fun h4 => ?_) (fun h4 => ?_)
    · refine go_skip ?_
      refine go_condT ?_
      refine go_seq ?_
      refine go_region ⟨_, Tryz.func96⟩ rfl ?_
      refine q0 rfl (o_assign ?_)
      refine rg_nil ?_
      refine ret1 Tryz.func96 Tryz.results96 wn_ () (by simp_all [partsN]) (fun w hs => hs.none)
    · refine go_region ⟨_, Tryz.func96⟩ rfl ?_
      refine q0 rfl (o_eqI ?_)
      refine q0 rfl (o_assign ?_)
      refine rg_nil ?_
      refine go_condI (fun h4 => ?_) (fun h4 => ?_)
      · refine go_seq ?_
        refine go_region ⟨_, Tryz.func96⟩ rfl ?_
        refine q0 rfl (o_assign ?_)
        refine rg_nil ?_
        refine ret1 Tryz.func96 Tryz.results96 wn_ () (by simp_all [partsN]) (fun w hs => hs.none)
      · refine go_seq ?_
        refine go_region ⟨_, Tryz.func96⟩ rfl ?_
        refine q0 rfl (o_eqI ?_)
        refine q0 rfl (o_assign ?_)
        refine rg_nil ?_
        refine go_condI (fun h8 => ?_) (fun h8 => ?_)
        · refine go_seq ?_
          refine go_region ⟨_, Tryz.func96⟩ rfl ?_
          refine q0 rfl (o_assign ?_)
          refine rg_nil ?_
          refine ret1 Tryz.func96 Tryz.results96 wn_ () (by simp_all [partsN]) (fun w hs => hs.none)
        · refine go_skip ?_
          refine go_inBlock ?_
          refine go_seq ?_
          refine go_region ⟨_, Tryz.func96⟩ rfl ?_
          refine q0 rfl (o_assign ?_)
          refine rg_nil ?_
          refine ret1 Tryz.func96 Tryz.results96 wn_ () (by simp_all [partsN]) (fun w hs => hs.none)
theorem rparts_spec (k : Int) : Spec Tryz.prog 58 #[.int .i64 k] [] [] (fun _ : Unit => .int .i64 (partsN k)) (fun _ => []) (fun _ => []) := by
  refine spec_go (args := [.int .i64 k]) Tryz.func58 Tryz.ntmps58 rfl (by exact Nat.le_of_ble_eq_true rfl) fun B hB => ?_
  refine go_seq ?_
  refine go_region ⟨_, Tryz.func58⟩ rfl ?_
  refine q0 rfl (o_assign ?_)
  refine rg_nil ?_
  refine go_seq ?_
  refine go_seq ?_
  refine go_region ⟨_, Tryz.func58⟩ rfl ?_
  refine q0 rfl (o_move ?_)
  refine q0 rfl (o_eqI ?_)
  refine rg_nil ?_
  refine go_condI (fun h4 => ?_) (fun h4 => ?_)
  · refine go_seq ?_
    refine go_region ⟨_, Tryz.func58⟩ rfl ?_
    refine q0 rfl (o_assign ?_)
    refine rg_nil ?_
    refine ret1 Tryz.func58 Tryz.results58 wn_ () (by simp_all [partsN]) (fun w hs => hs.none)
  · refine go_skip ?_
    refine go_seq ?_
    refine go_seq ?_
    refine go_region ⟨_, Tryz.func58⟩ rfl ?_
    refine q0 rfl (o_move ?_)
    refine q0 rfl (o_eqI ?_)
    refine q0 rfl (o_move ?_)
    refine qI rfl rfl rfl wl_ (fun hg7 => o_move ?_) (fun hg7 => ?_)
    · refine qT rfl rfl rfl (o_eqI ?_)
      refine q0 rfl (o_pickF ?_)
      refine q0 rfl (o_move ?_)
      refine qI rfl rfl rfl wl_ (fun hg11 => o_move ?_) (fun hg11 => ?_)
      · refine qT rfl rfl rfl (o_eqI ?_)
        refine q0 rfl (o_pickF ?_)
        refine rg_nil ?_
        refine go_condI (fun h14 => ?_) (fun h14 => ?_)
        · refine go_seq ?_
          refine go_region ⟨_, Tryz.func58⟩ rfl ?_
          refine q0 rfl (o_assign ?_)
          refine rg_nil ?_
          refine ret1 Tryz.func58 Tryz.results58 wn_ () (by simp_all [partsN]) (fun w hs => hs.none)
        · refine go_skip ?_
          refine go_seq ?_
          refine go_region ⟨_, Tryz.func58⟩ rfl ?_
          refine q0 rfl (o_assign ?_)
          refine rg_nil ?_
          refine ret1 Tryz.func58 Tryz.results58 wn_ () (by simp_all [partsN]) (fun w hs => hs.none)
      · refine qF rfl rfl rfl ?_
        refine q0 rfl (o_pickT ?_)
        refine rg_nil ?_
        refine go_condT ?_
        refine go_seq ?_
        refine go_region ⟨_, Tryz.func58⟩ rfl ?_
        refine q0 rfl (o_assign ?_)
        refine rg_nil ?_
        refine ret1 Tryz.func58 Tryz.results58 wn_ () (by simp_all [partsN]) (fun w hs => hs.none)
    · refine qF rfl rfl rfl ?_
      refine q0 rfl (o_pickT ?_)
      refine q0 rfl (o_move ?_)
      refine qF rfl rfl rfl ?_
      refine qF rfl rfl rfl ?_
      refine q0 rfl (o_pickT ?_)
      refine rg_nil ?_
      refine go_condT ?_
      refine go_seq ?_
      refine go_region ⟨_, Tryz.func58⟩ rfl ?_
      refine q0 rfl (o_assign ?_)
      refine rg_nil ?_
      refine ret1 Tryz.func58 Tryz.results58 wn_ () (by simp_all [partsN]) (fun w hs => hs.none)
theorem rmore_spec (k : Int) : Spec Tryz.prog 51 #[.int .i64 k] [] [] (fun _ : Unit => .int .i64 (more k)) (fun _ => []) (fun _ => []) := by
  refine spec_go (args := [.int .i64 k]) Tryz.func51 Tryz.ntmps51 rfl (by exact Nat.le_of_ble_eq_true rfl) fun B hB => ?_
  refine go_seq ?_
  refine go_region ⟨_, Tryz.func51⟩ rfl ?_
  refine q0 rfl (o_assign ?_)
  refine rg_nil ?_
  refine go_seq ?_
  refine go_seq ?_
  refine go_region ⟨_, Tryz.func51⟩ rfl ?_
  refine q0 rfl (o_move ?_)
  refine q0 rfl (o_eqI ?_)
  refine rg_nil ?_
  refine go_condI (fun h4 => ?_) (fun h4 => ?_)
  · refine go_seq ?_
    refine go_region ⟨_, Tryz.func51⟩ rfl ?_
    refine q0 rfl (o_assign ?_)
    refine rg_nil ?_
    refine ret1 Tryz.func51 Tryz.results51 wn_ () (by simp_all [more]) (fun w hs => hs.none)
  · refine go_skip ?_
    refine go_seq ?_
    refine go_region ⟨_, Tryz.func51⟩ rfl ?_
    refine q0 rfl (o_assign ?_)
    refine rg_nil ?_
    refine ret1 Tryz.func51 Tryz.results51 wn_ () (by simp_all [more]) (fun w hs => hs.none)
theorem rbinds_spec (k i : Int) : Spec Tryz.prog 39 #[.int .i64 k, .int .i64 i] [] [] (fun _ : Unit => .tuple #[.int .i64 (binds k i).1, .int .i64 (binds k i).2]) (fun _ => []) (fun _ => []) := by
  refine spec_go (args := [.int .i64 k, .int .i64 i]) Tryz.func39 Tryz.ntmps39 rfl (by exact Nat.le_of_ble_eq_true rfl) fun B hB => ?_
  refine go_seq ?_
  refine go_region ⟨_, Tryz.func39⟩ rfl ?_
  refine q0 rfl (o_assign ?_)
  refine q0 rfl (o_assign ?_)
  refine rg_nil ?_
  refine go_seq ?_
  refine go_seq ?_
  refine go_region ⟨_, Tryz.func39⟩ rfl ?_
  refine q0 rfl (o_move ?_)
  refine q0 rfl (o_eqI ?_)
  refine q0 rfl (o_move ?_)
  refine qI rfl rfl rfl wl_ (fun hg8 => o_move ?_) (fun hg8 => ?_)
  · refine qT rfl rfl rfl (o_eqI ?_)
    refine qT rfl rfl rfl (o_move ?_)
    refine qI rfl rfl rfl wl_ (fun hg11 => o_move ?_) (fun hg11 => ?_)
    · refine qT rfl rfl rfl (o_eqI ?_)
      refine qT rfl rfl rfl (o_pickF ?_)
      refine q0 rfl (o_pickT ?_)
      refine rg_nil ?_
      refine go_condI (fun h15 => ?_) (fun h15 => ?_)
      · refine go_seq ?_
        refine go_region ⟨_, Tryz.func39⟩ rfl ?_
        refine q0 rfl (o_assign ?_)
        refine q0 rfl (o_assign ?_)
        refine rg_nil ?_
        refine ret2 Tryz.func39 Tryz.results39 wn_ wn_ () (by simp_all [binds]) (fun w hs => hs.none)
      · refine go_skip ?_
        refine go_seq ?_
        refine go_seq ?_
        refine go_region ⟨_, Tryz.func39⟩ rfl ?_
        refine q0 rfl (o_move ?_)
        refine q0 rfl (o_eqI ?_)
        refine q0 rfl (o_move ?_)
        refine qI rfl rfl rfl wl_ (fun hg18 => o_move ?_) (fun hg18 => ?_)
        · refine qT rfl rfl rfl (o_eqI ?_)
          refine qT rfl rfl rfl (o_move ?_)
          refine qI rfl rfl rfl wl_ (fun hg21 => o_move ?_) (fun hg21 => ?_)
          · refine qT rfl rfl rfl (o_eqI ?_)
            refine qT rfl rfl rfl (o_pickF ?_)
            refine qT rfl rfl rfl (o_move ?_)
            refine qI rfl rfl rfl wl_ (fun hg25 => o_move ?_) (fun hg25 => ?_)
            · refine qT rfl rfl rfl (o_eqI ?_)
              refine qT rfl rfl rfl (o_pickF ?_)
              refine q0 rfl (o_pickT ?_)
              refine rg_nil ?_
              refine go_condI (fun h29 => ?_) (fun h29 => ?_)
              · refine go_seq ?_
                refine go_region ⟨_, Tryz.func39⟩ rfl ?_
                refine q0 rfl (o_assign ?_)
                refine q0 rfl (o_assign ?_)
                refine rg_nil ?_
                refine ret2 Tryz.func39 Tryz.results39 wn_ wn_ () (by simp_all [binds]) (fun w hs => hs.none)
              · refine go_skip ?_
                refine go_seq ?_
                refine go_seq ?_
                refine go_region ⟨_, Tryz.func39⟩ rfl ?_
                refine q0 rfl (o_move ?_)
                refine q0 rfl (o_eqI ?_)
                refine q0 rfl (o_move ?_)
                refine qI rfl rfl rfl wl_ (fun hg32 => o_move ?_) (fun hg32 => ?_)
                · refine qT rfl rfl rfl (o_eqI ?_)
                  refine qT rfl rfl rfl (o_move ?_)
                  refine qI rfl rfl rfl wl_ (fun hg35 => o_move ?_) (fun hg35 => ?_)
                  · refine qT rfl rfl rfl (o_eqI ?_)
                    refine qT rfl rfl rfl (o_pickF ?_)
                    refine qT rfl rfl rfl (o_move ?_)
                    refine qI rfl rfl rfl wl_ (fun hg39 => o_move ?_) (fun hg39 => ?_)
                    · refine qT rfl rfl rfl (o_eqI ?_)
                      refine qT rfl rfl rfl (o_pickF ?_)
                      refine q0 rfl (o_pickT ?_)
                      refine rg_nil ?_
                      refine go_condI (fun h43 => ?_) (fun h43 => ?_)
                      · refine go_seq ?_
                        refine go_region ⟨_, Tryz.func39⟩ rfl ?_
                        refine q0 rfl (o_assign ?_)
                        refine q0 rfl (o_assign ?_)
                        refine rg_nil ?_
                        refine ret2 Tryz.func39 Tryz.results39 wn_ wn_ () (by simp_all [binds]) (fun w hs => hs.none)
                      · refine go_skip ?_
                        refine go_seq ?_
                        refine go_region ⟨_, Tryz.func39⟩ rfl ?_
                        refine q0 rfl (o_assign ?_)
                        refine q0 rfl (o_assign ?_)
                        refine rg_nil ?_
                        refine ret2 Tryz.func39 Tryz.results39 wn_ wn_ () (by simp_all [binds]) (fun w hs => hs.none)
                    · refine qF rfl rfl rfl ?_
                      refine qT rfl rfl rfl (o_pickT ?_)
                      refine q0 rfl (o_pickT ?_)
                      refine rg_nil ?_
                      refine go_condT ?_
                      refine go_seq ?_
                      refine go_region ⟨_, Tryz.func39⟩ rfl ?_
                      refine q0 rfl (o_assign ?_)
                      refine q0 rfl (o_assign ?_)
                      refine rg_nil ?_
                      refine ret2 Tryz.func39 Tryz.results39 wn_ wn_ () (by simp_all [binds]) (fun w hs => hs.none)
                  · refine qF rfl rfl rfl ?_
                    refine qT rfl rfl rfl (o_pickT ?_)
                    refine qT rfl rfl rfl (o_move ?_)
                    refine qF rfl rfl rfl ?_
                    refine qF rfl rfl rfl ?_
                    refine qT rfl rfl rfl (o_pickT ?_)
                    refine q0 rfl (o_pickT ?_)
                    refine rg_nil ?_
                    refine go_condT ?_
                    refine go_seq ?_
                    refine go_region ⟨_, Tryz.func39⟩ rfl ?_
                    refine q0 rfl (o_assign ?_)
                    refine q0 rfl (o_assign ?_)
                    refine rg_nil ?_
                    refine ret2 Tryz.func39 Tryz.results39 wn_ wn_ () (by simp_all [binds]) (fun w hs => hs.none)
                · refine qF rfl rfl rfl ?_
                  refine qF rfl rfl rfl ?_
                  refine qU rfl rfl rfl ?_
                  refine qU rfl rfl rfl ?_
                  refine qF rfl rfl rfl ?_
                  refine qF rfl rfl rfl ?_
                  refine qU rfl rfl rfl ?_
                  refine qU rfl rfl rfl ?_
                  refine qF rfl rfl rfl ?_
                  refine q0 rfl (o_pickF ?_)
                  refine rg_nil ?_
                  refine go_condF ?_
                  refine go_skip ?_
                  refine go_seq ?_
                  refine go_region ⟨_, Tryz.func39⟩ rfl ?_
                  refine q0 rfl (o_assign ?_)
                  refine q0 rfl (o_assign ?_)
                  refine rg_nil ?_
                  refine ret2 Tryz.func39 Tryz.results39 wn_ wn_ () (by simp_all [binds]) (fun w hs => hs.none)
            · refine qF rfl rfl rfl ?_
              refine qT rfl rfl rfl (o_pickT ?_)
              refine q0 rfl (o_pickT ?_)
              refine rg_nil ?_
              refine go_condT ?_
              refine go_seq ?_
              refine go_region ⟨_, Tryz.func39⟩ rfl ?_
              refine q0 rfl (o_assign ?_)
              refine q0 rfl (o_assign ?_)
              refine rg_nil ?_
              refine ret2 Tryz.func39 Tryz.results39 wn_ wn_ () (by simp_all [binds]) (fun w hs => hs.none)
          · refine qF rfl rfl rfl ?_
            refine qT rfl rfl rfl (o_pickT ?_)
            refine qT rfl rfl rfl (o_move ?_)
            refine qF rfl rfl rfl ?_
            refine qF rfl rfl rfl ?_
            refine qT rfl rfl rfl (o_pickT ?_)
            refine q0 rfl (o_pickT ?_)
            refine rg_nil ?_
            refine go_condT ?_
            refine go_seq ?_
            refine go_region ⟨_, Tryz.func39⟩ rfl ?_
            refine q0 rfl (o_assign ?_)
            refine q0 rfl (o_assign ?_)
            refine rg_nil ?_
            refine ret2 Tryz.func39 Tryz.results39 wn_ wn_ () (by simp_all [binds]) (fun w hs => hs.none)
        · refine qF rfl rfl rfl ?_
          refine qF rfl rfl rfl ?_
          refine qU rfl rfl rfl ?_
          refine qU rfl rfl rfl ?_
          refine qF rfl rfl rfl ?_
          refine qF rfl rfl rfl ?_
          refine qU rfl rfl rfl ?_
          refine qU rfl rfl rfl ?_
          refine qF rfl rfl rfl ?_
          refine q0 rfl (o_pickF ?_)
          refine rg_nil ?_
          refine go_condF ?_
          refine go_skip ?_
          refine go_seq ?_
          refine go_seq ?_
          refine go_region ⟨_, Tryz.func39⟩ rfl ?_
          refine q0 rfl (o_move ?_)
          refine q0 rfl (o_eqI ?_)
          refine q0 rfl (o_move ?_)
          refine qI rfl rfl rfl wl_ (fun hg32 => o_move ?_) (fun hg32 => ?_)
          · refine qT rfl rfl rfl (o_eqI ?_)
            refine qT rfl rfl rfl (o_move ?_)
            refine qI rfl rfl rfl wl_ (fun hg35 => o_move ?_) (fun hg35 => ?_)
            · refine qT rfl rfl rfl (o_eqI ?_)
              refine qT rfl rfl rfl (o_pickF ?_)
              refine qT rfl rfl rfl (o_move ?_)
              refine qI rfl rfl rfl wl_ (fun hg39 => o_move ?_) (fun hg39 => ?_)
              · refine qT rfl rfl rfl (o_eqI ?_)
                refine qT rfl rfl rfl (o_pickF ?_)
                refine q0 rfl (o_pickT ?_)
                refine rg_nil ?_
                refine go_condI (fun h43 => ?_) (fun h43 => ?_)
                · refine go_seq ?_
                  refine go_region ⟨_, Tryz.func39⟩ rfl ?_
                  refine q0 rfl (o_assign ?_)
                  refine q0 rfl (o_assign ?_)
                  refine rg_nil ?_
                  refine ret2 Tryz.func39 Tryz.results39 wn_ wn_ () (by simp_all [binds]) (fun w hs => hs.none)
                · refine go_skip ?_
                  refine go_seq ?_
                  refine go_region ⟨_, Tryz.func39⟩ rfl ?_
                  refine q0 rfl (o_assign ?_)
                  refine q0 rfl (o_assign ?_)
                  refine rg_nil ?_
                  refine ret2 Tryz.func39 Tryz.results39 wn_ wn_ () (by simp_all [binds]) (fun w hs => hs.none)
              · refine qF rfl rfl rfl ?_
                refine qT rfl rfl rfl (o_pickT ?_)
                refine q0 rfl (o_pickT ?_)
                refine rg_nil ?_
                refine go_condT ?_
                refine go_seq ?_
                refine go_region ⟨_, Tryz.func39⟩ rfl ?_
                refine q0 rfl (o_assign ?_)
                refine q0 rfl (o_assign ?_)
                refine rg_nil ?_
                refine ret2 Tryz.func39 Tryz.results39 wn_ wn_ () (by simp_all [binds]) (fun w hs => hs.none)
            · refine qF rfl rfl rfl ?_
              refine qT rfl rfl rfl (o_pickT ?_)
              refine qT rfl rfl rfl (o_move ?_)
              refine qF rfl rfl rfl ?_
              refine qF rfl rfl rfl ?_
              refine qT rfl rfl rfl (o_pickT ?_)
              refine q0 rfl (o_pickT ?_)
              refine rg_nil ?_
              refine go_condT ?_
              refine go_seq ?_
              refine go_region ⟨_, Tryz.func39⟩ rfl ?_
              refine q0 rfl (o_assign ?_)
              refine q0 rfl (o_assign ?_)
              refine rg_nil ?_
              refine ret2 Tryz.func39 Tryz.results39 wn_ wn_ () (by simp_all [binds]) (fun w hs => hs.none)
          · refine qF rfl rfl rfl ?_
            refine qF rfl rfl rfl ?_
            refine qU rfl rfl rfl ?_
            refine qU rfl rfl rfl ?_
            refine qF rfl rfl rfl ?_
            refine qF rfl rfl rfl ?_
            refine qU rfl rfl rfl ?_
            refine qU rfl rfl rfl ?_
            refine qF rfl rfl rfl ?_
            refine q0 rfl (o_pickF ?_)
            refine rg_nil ?_
            refine go_condF ?_
            refine go_skip ?_
            refine go_seq ?_
            refine go_region ⟨_, Tryz.func39⟩ rfl ?_
            refine q0 rfl (o_assign ?_)
            refine q0 rfl (o_assign ?_)
            refine rg_nil ?_
            refine ret2 Tryz.func39 Tryz.results39 wn_ wn_ () (by simp_all [binds]) (fun w hs => hs.none)
    · refine qF rfl rfl rfl ?_
      refine qT rfl rfl rfl (o_pickT ?_)
      refine q0 rfl (o_pickT ?_)
      refine rg_nil ?_
      refine go_condT ?_
      refine go_seq ?_
      refine go_region ⟨_, Tryz.func39⟩ rfl ?_
      refine q0 rfl (o_assign ?_)
      refine q0 rfl (o_assign ?_)
      refine rg_nil ?_
      refine ret2 Tryz.func39 Tryz.results39 wn_ wn_ () (by simp_all [binds]) (fun w hs => hs.none)
  · refine qF rfl rfl rfl ?_
    refine qF rfl rfl rfl ?_
    refine qU rfl rfl rfl ?_
    refine qU rfl rfl rfl ?_
    refine qF rfl rfl rfl ?_
    refine q0 rfl (o_pickF ?_)
    refine rg_nil ?_
    refine go_condF ?_
    refine go_skip ?_
    refine go_seq ?_
    refine go_seq ?_
    refine go_region ⟨_, Tryz.func39⟩ rfl ?_
    refine q0 rfl (o_move ?_)
    refine q0 rfl (o_eqI ?_)
    refine q0 rfl (o_move ?_)
    refine qI rfl rfl rfl wl_ (fun hg18 => o_move ?_) (fun hg18 => ?_)
    · refine qT rfl rfl rfl (o_eqI ?_)
      refine qT rfl rfl rfl (o_move ?_)
      refine qI rfl rfl rfl wl_ (fun hg21 => o_move ?_) (fun hg21 => ?_)
      · refine qT rfl rfl rfl (o_eqI ?_)
        refine qT rfl rfl rfl (o_pickF ?_)
        refine qT rfl rfl rfl (o_move ?_)
        refine qI rfl rfl rfl wl_ (fun hg25 => o_move ?_) (fun hg25 => ?_)
        · refine qT rfl rfl rfl (o_eqI ?_)
          refine qT rfl rfl rfl (o_pickF ?_)
          refine q0 rfl (o_pickT ?_)
          refine rg_nil ?_
          refine go_condI (fun h29 => ?_) (fun h29 => ?_)
          · refine go_seq ?_
            refine go_region ⟨_, Tryz.func39⟩ rfl ?_
            refine q0 rfl (o_assign ?_)
            refine q0 rfl (o_assign ?_)
            refine rg_nil ?_
            refine ret2 Tryz.func39 Tryz.results39 wn_ wn_ () (by simp_all [binds]) (fun w hs => hs.none)
          · refine go_skip ?_
            refine go_seq ?_
            refine go_seq ?_
            refine go_region ⟨_, Tryz.func39⟩ rfl ?_
            refine q0 rfl (o_move ?_)
            refine q0 rfl (o_eqI ?_)
            refine q0 rfl (o_move ?_)
            refine qI rfl rfl rfl wl_ (fun hg32 => o_move ?_) (fun hg32 => ?_)
            · refine qT rfl rfl rfl (o_eqI ?_)
              refine qT rfl rfl rfl (o_move ?_)
              refine qI rfl rfl rfl wl_ (fun hg35 => o_move ?_) (fun hg35 => ?_)
              · refine qT rfl rfl rfl (o_eqI ?_)
                refine qT rfl rfl rfl (o_pickF ?_)
                refine qT rfl rfl rfl (o_move ?_)
                refine qI rfl rfl rfl wl_ (fun hg39 => o_move ?_) (fun hg39 => ?_)
                · refine qT rfl rfl rfl (o_eqI ?_)
                  refine qT rfl rfl rfl (o_pickF ?_)
                  refine q0 rfl (o_pickT ?_)
                  refine rg_nil ?_
                  refine go_condI (fun h43 => ?_) (fun h43 => ?_)
                  · refine go_seq ?_
                    refine go_region ⟨_, Tryz.func39⟩ rfl ?_
                    refine q0 rfl (o_assign ?_)
                    refine q0 rfl (o_assign ?_)
                    refine rg_nil ?_
                    refine ret2 Tryz.func39 Tryz.results39 wn_ wn_ () (by simp_all [binds]) (fun w hs => hs.none)
                  · refine go_skip ?_
                    refine go_seq ?_
                    refine go_region ⟨_, Tryz.func39⟩ rfl ?_
                    refine q0 rfl (o_assign ?_)
                    refine q0 rfl (o_assign ?_)
                    refine rg_nil ?_
                    refine ret2 Tryz.func39 Tryz.results39 wn_ wn_ () (by simp_all [binds]) (fun w hs => hs.none)
                · refine qF rfl rfl rfl ?_
                  refine qT rfl rfl rfl (o_pickT ?_)
                  refine q0 rfl (o_pickT ?_)
                  refine rg_nil ?_
                  refine go_condT ?_
                  refine go_seq ?_
                  refine go_region ⟨_, Tryz.func39⟩ rfl ?_
                  refine q0 rfl (o_assign ?_)
                  refine q0 rfl (o_assign ?_)
                  refine rg_nil ?_
                  refine ret2 Tryz.func39 Tryz.results39 wn_ wn_ () (by simp_all [binds]) (fun w hs => hs.none)
              · refine qF rfl rfl rfl ?_
                refine qT rfl rfl rfl (o_pickT ?_)
                refine qT rfl rfl rfl (o_move ?_)
                refine qF rfl rfl rfl ?_
                refine qF rfl rfl rfl ?_
                refine qT rfl rfl rfl (o_pickT ?_)
                refine q0 rfl (o_pickT ?_)
                refine rg_nil ?_
                refine go_condT ?_
                refine go_seq ?_
                refine go_region ⟨_, Tryz.func39⟩ rfl ?_
                refine q0 rfl (o_assign ?_)
                refine q0 rfl (o_assign ?_)
                refine rg_nil ?_
                refine ret2 Tryz.func39 Tryz.results39 wn_ wn_ () (by simp_all [binds]) (fun w hs => hs.none)
            · refine qF rfl rfl rfl ?_
              refine qF rfl rfl rfl ?_
              refine qU rfl rfl rfl ?_
              refine qU rfl rfl rfl ?_
              refine qF rfl rfl rfl ?_
              refine qF rfl rfl rfl ?_
              refine qU rfl rfl rfl ?_
              refine qU rfl rfl rfl ?_
              refine qF rfl rfl rfl ?_
              refine q0 rfl (o_pickF ?_)
              refine rg_nil ?_
              refine go_condF ?_
              refine go_skip ?_
              refine go_seq ?_
              refine go_region ⟨_, Tryz.func39⟩ rfl ?_
              refine q0 rfl (o_assign ?_)
              refine q0 rfl (o_assign ?_)
              refine rg_nil ?_
              refine ret2 Tryz.func39 Tryz.results39 wn_ wn_ () (by simp_all [binds]) (fun w hs => hs.none)
        · refine qF rfl rfl rfl ?_
          refine qT rfl rfl rfl (o_pickT ?_)
          refine q0 rfl (o_pickT ?_)
          refine rg_nil ?_
          refine go_condT ?_
          refine go_seq ?_
          refine go_region ⟨_, Tryz.func39⟩ rfl ?_
          refine q0 rfl (o_assign ?_)
          refine q0 rfl (o_assign ?_)
          refine rg_nil ?_
          refine ret2 Tryz.func39 Tryz.results39 wn_ wn_ () (by simp_all [binds]) (fun w hs => hs.none)
      · refine qF rfl rfl rfl ?_
        refine qT rfl rfl rfl (o_pickT ?_)
        refine qT rfl rfl rfl (o_move ?_)
        refine qF rfl rfl rfl ?_
        refine qF rfl rfl rfl ?_
        refine qT rfl rfl rfl (o_pickT ?_)
        refine q0 rfl (o_pickT ?_)
        refine rg_nil ?_
        refine go_condT ?_
        refine go_seq ?_
        refine go_region ⟨_, Tryz.func39⟩ rfl ?_
        refine q0 rfl (o_assign ?_)
        refine q0 rfl (o_assign ?_)
        refine rg_nil ?_
        refine ret2 Tryz.func39 Tryz.results39 wn_ wn_ () (by simp_all [binds]) (fun w hs => hs.none)
    · refine qF rfl rfl rfl ?_
      refine qF rfl rfl rfl ?_
      refine qU rfl rfl rfl ?_
      refine qU rfl rfl rfl ?_
      refine qF rfl rfl rfl ?_
      refine qF rfl rfl rfl ?_
      refine qU rfl rfl rfl ?_
      refine qU rfl rfl rfl ?_
      refine qF rfl rfl rfl ?_
      refine q0 rfl (o_pickF ?_)
      refine rg_nil ?_
      refine go_condF ?_
      refine go_skip ?_
      refine go_seq ?_
      refine go_seq ?_
      refine go_region ⟨_, Tryz.func39⟩ rfl ?_
      refine q0 rfl (o_move ?_)
      refine q0 rfl (o_eqI ?_)
      refine q0 rfl (o_move ?_)
      refine qI rfl rfl rfl wl_ (fun hg32 => o_move ?_) (fun hg32 => ?_)
      · refine qT rfl rfl rfl (o_eqI ?_)
        refine qT rfl rfl rfl (o_move ?_)
        refine qI rfl rfl rfl wl_ (fun hg35 => o_move ?_) (fun hg35 => ?_)
        · refine qT rfl rfl rfl (o_eqI ?_)
          refine qT rfl rfl rfl (o_pickF ?_)
          refine qT rfl rfl rfl (o_move ?_)
          refine qI rfl rfl rfl wl_ (fun hg39 => o_move ?_) (fun hg39 => ?_)
          · refine qT rfl rfl rfl (o_eqI ?_)
            refine qT rfl rfl rfl (o_pickF ?_)
            refine q0 rfl (o_pickT ?_)
            refine rg_nil ?_
            refine go_condI (fun h43 => ?_) (fun h43 => ?_)
            · refine go_seq ?_
              refine go_region ⟨_, Tryz.func39⟩ rfl ?_
              refine q0 rfl (o_assign ?_)
              refine q0 rfl (o_assign ?_)
              refine rg_nil ?_
              refine ret2 Tryz.func39 Tryz.results39 wn_ wn_ () (by simp_all [binds]) (fun w hs => hs.none)
            · refine go_skip ?_
              refine go_seq ?_
              refine go_region ⟨_, Tryz.func39⟩ rfl ?_
              refine q0 rfl (o_assign ?_)
              refine q0 rfl (o_assign ?_)
              refine rg_nil ?_
              refine ret2 Tryz.func39 Tryz.results39 wn_ wn_ () (by simp_all [binds]) (fun w hs => hs.none)
          · refine qF rfl rfl rfl ?_
            refine qT rfl rfl rfl (o_pickT ?_)
            refine q0 rfl (o_pickT ?_)
            refine rg_nil ?_
            refine go_condT ?_
            refine go_seq ?_
            refine go_region ⟨_, Tryz.func39⟩ rfl ?_
            refine q0 rfl (o_assign ?_)
            refine q0 rfl (o_assign ?_)
            refine rg_nil ?_
            refine ret2 Tryz.func39 Tryz.results39 wn_ wn_ () (by simp_all [binds]) (fun w hs => hs.none)
        · refine qF rfl rfl rfl ?_
          refine qT rfl rfl rfl (o_pickT ?_)
          refine qT rfl rfl rfl (o_move ?_)
          refine qF rfl rfl rfl ?_
          refine qF rfl rfl rfl ?_
          refine qT rfl rfl rfl (o_pickT ?_)
          refine q0 rfl (o_pickT ?_)
          refine rg_nil ?_
          refine go_condT ?_
          refine go_seq ?_
          refine go_region ⟨_, Tryz.func39⟩ rfl ?_
          refine q0 rfl (o_assign ?_)
          refine q0 rfl (o_assign ?_)
          refine rg_nil ?_
          refine ret2 Tryz.func39 Tryz.results39 wn_ wn_ () (by simp_all [binds]) (fun w hs => hs.none)
      · refine qF rfl rfl rfl ?_
        refine qF rfl rfl rfl ?_
        refine qU rfl rfl rfl ?_
        refine qU rfl rfl rfl ?_
        refine qF rfl rfl rfl ?_
        refine qF rfl rfl rfl ?_
        refine qU rfl rfl rfl ?_
        refine qU rfl rfl rfl ?_
        refine qF rfl rfl rfl ?_
        refine q0 rfl (o_pickF ?_)
        refine rg_nil ?_
        refine go_condF ?_
        refine go_skip ?_
        refine go_seq ?_
        refine go_region ⟨_, Tryz.func39⟩ rfl ?_
        refine q0 rfl (o_assign ?_)
        refine q0 rfl (o_assign ?_)
        refine rg_nil ?_
        refine ret2 Tryz.func39 Tryz.results39 wn_ wn_ () (by simp_all [binds]) (fun w hs => hs.none)
end Go.Hy
namespace Go.Hy
set_option linter.unusedVariables false
set_option linter.unusedSimpArgs false
set_option linter.unusedSectionVars false
open Go.Proofs
set_option linter.unusedVariables false
set_option linter.unusedSimpArgs false
set_option maxRecDepth 100000
theorem Int.ofNat_max' (a b : Nat) : ((max a b : Nat) : Int) = if (b : Int) > (a : Int) then (b : Int) else (a : Int) := by
  split <;> omega
end Go.Hy
