/- Contracts of functions of this program, one theorem each (printed by a program of this repository). -/
import Derived.Test.YtcofpfnnlageaaaHyRef
import Derived.Test.YtcofpfnnlageaaaHyBulk
import Derived.Test.YtcofpfnnlageaaaS6
namespace Go.Hy
set_option linter.unusedVariables false
set_option linter.unusedSimpArgs false
set_option linter.unusedSectionVars false
set_option linter.unusedVariables false
/-! ### Plain laws of terms: sizes, depths, what is wrong -/
def pairT (t u : T) : T := .mk 8 0 ⟨#[]⟩ [] [t, u] []
theorem foldl_size (l : List Part) (a : Nat) : l.foldl (fun a p => a + size p.1) a = a + (l.map fun p => size p.1).sum := by
  induction l generalizing a with
  | nil => simp
  | cons b l ih => rw [List.foldl_cons, ih]; simp; omega
theorem size_sum (t : T) : size t = 1 + ((parts t).map fun p => size p.1).sum := by rw [size_eq, foldl_size]
theorem size_kids_sys (t : T) : size t = 1 + (t.kids.map size).sum + ((t.sys.map fun b => b.kids.map size).flatten).sum := by
  rw [size_sum, parts_map, List.sum_append]; omega
theorem size_pair (t u : T) : size (pairT t u) = 1 + size t + size u := by
  rw [size_kids_sys]; simp [pairT, T.kids, T.sys]; omega
theorem depth_le_of (t : T) (n : Nat) : depth t ≤ n + 1 ↔ (∀ k, k ∈ t.kids → depth k ≤ n) ∧ ∀ b, b ∈ t.sys → ∀ k, k ∈ b.kids → depth k ≤ n := by
  rw [depth_le_iff]
  constructor
  · intro h
    exact ⟨fun k hk => by obtain ⟨p, hp, e⟩ := kid_mem_parts hk; exact e ▸ h p hp, fun b hb k hk => by obtain ⟨p, hp, e⟩ := sys_mem_parts hb hk; exact e ▸ h p hp⟩
  · rintro ⟨h1, h2⟩ p hp
    have : p.1 ∈ (parts t).map (fun p => id p.1) := List.mem_map.mpr ⟨p, hp, rfl⟩
    rw [parts_map] at this
    simp only [List.mem_append, List.mem_flatten, List.mem_map, id] at this
    rcases this with ⟨k, hk, e⟩ | ⟨l, ⟨b, hb, rfl⟩, hl⟩
    · exact e ▸ h1 k hk
    · obtain ⟨k, hk, e⟩ := List.mem_map.mp hl
      exact e ▸ h2 b hb k hk
theorem depth_pair (t u : T) : depth (pairT t u) = 1 + max (depth t) (depth u) := by
  have h := fun n => depth_le_of (pairT t u) n
  simp only [pairT, T.kids, T.sys, List.mem_cons, List.not_mem_nil, or_false, forall_eq_or_imp, forall_eq, false_imp_iff, implies_true, and_true] at h
  have h0 := depth_pos (pairT t u)
  have h1 := h (max (depth t) (depth u))
  have h2 := h (depth (pairT t u) - 1)
  have h3 : depth (pairT t u) = depth (T.mk 8 0 ⟨#[]⟩ [] [t, u] []) := rfl
  rw [← h3] at h1 h2
  have h4 := h1.mpr ⟨Nat.le_max_left _ _, Nat.le_max_right _ _⟩
  have h5 := h2.mp (by omega)
  omega
theorem wrap_id {n : Int} (h : in64 n) : IntKind.i64.wrap n = n := by rw [IntKind.wrap_i64]; unfold in64 at h; omega
theorem all_pair {t u : T} {v d : Int} {b : Bool} (hv : in64 v) : allP (pairT t u) v d b = (!(b && decide (24 < d)) && allP t v d b && allP u v d b) := by
  rw [allP_eq]
  have hp : parts (pairT t u) = [(t, 0, 0), (u, 0, 0)] := by simp [parts, pairT, T.kids, T.kind, T.sys, kidParts, sysParts, binds]
  have ho : ownP (pairT t u) v d = true := by
    have h1 : own1 (pairT t u) = false := by simp [own1, pairT, T.kind, T.kids, T.n, T.name, T.sys, kidsN, partsN]
    unfold ownP; rw [h1]; simp [pairT, T.kind, T.sys, T.r]
  rw [hp, ho]
  simp [wrap_id hv, Bool.and_assoc]
theorem sized_zero {t : T} : sized t = 0 ↔ depth t ≤ 200 ∧ size t ≤ 20000 := by
  unfold sized
  split
  · simp; omega
  · split
    · simp; omega
    · simp; omega
theorem right_zero {t : T} {v d : Int} : rightP t v d = 0 ↔ 0 ≤ v ∧ 0 ≤ d ∧ d ≤ 24 ∧ sized t = 0 ∧ allP t v d true = true := by
  unfold rightP
  split
  · rename_i h
    simp only [Bool.or_eq_true, decide_eq_true_eq] at h
    constructor
    · intro h2; cases h2
    · intro h2; omega
  · rename_i h
    simp only [Bool.or_eq_true, decide_eq_true_eq] at h
    split
    · rename_i h2; constructor
      · intro h3; exact absurd h3 h2
      · intro h3; exact absurd h3.2.2.2.1 h2
    · rename_i h2
      have h2 : sized t = 0 := by simpa using h2
      split
      · rename_i h3; simp only [h2, h3, and_self, and_true, true_iff]; omega
      · rename_i h3; simp only [h3]; constructor
        · intro h4; cases h4
        · intro h4; exact absurd h4.2.2.2.2 (by decide)
theorem right_pair {t u : T} {v d : Int} (hv : in64 v) (ht : size t ≤ 500) (hu : size u ≤ 500) (h1 : rightP (pairT t u) v d ≠ 62) (h2 : rightP (pairT t u) v d ≠ 2) : decide (rightP (pairT t u) v d = 0) = (decide (rightP t v d = 0) && decide (rightP u v d = 0)) := by
  have hs := size_pair t u
  have hd := depth_pair t u
  have hrange : 0 ≤ v ∧ 0 ≤ d ∧ d ≤ 24 := by
    unfold rightP at h2
    split at h2
    · exact absurd rfl h2
    · rename_i h; simp only [Bool.or_eq_true, decide_eq_true_eq] at h; omega
  have hdep : depth (pairT t u) ≤ 200 := by
    apply Classical.byContradiction
    intro hc
    apply h1
    unfold rightP
    rw [if_neg (by simp; omega)]
    have : sized (pairT t u) = 62 := by unfold sized; rw [if_pos (by omega)]
    rw [this]; rfl
  have h3 : sized (pairT t u) = 0 := sized_zero.mpr ⟨hdep, by omega⟩
  have h4 : sized t = 0 := sized_zero.mpr ⟨by omega, by omega⟩
  have h5 : sized u = 0 := sized_zero.mpr ⟨by omega, by omega⟩
  rw [Bool.eq_iff_iff, Bool.and_eq_true, decide_eq_true_eq, decide_eq_true_eq, decide_eq_true_eq, right_zero, right_zero, right_zero, all_pair hv]
  have h6 : decide (24 < d) = false := decide_eq_false (by omega)
  simp only [h3, h4, h5, h6, hrange, Bool.and_false, Bool.not_false, Bool.true_and, Bool.and_eq_true, true_and]
theorem formed_zero {t : T} : formedP t = 0 ↔ sized t = 0 ∧ allP t (-1) 24 false = true := by
  unfold formedP
  split
  · rename_i h; constructor
    · intro h2; exact absurd h2 h
    · intro h2; exact absurd h2.1 h
  · rename_i h
    have h : sized t = 0 := by simpa using h
    split
    · rename_i h3; simp [h, h3]
    · rename_i h3; simp [h3]
theorem within_big {l : List Cl} {d : Int} (h : 24 ≤ d) : within l d = true := by unfold within; rw [decide_eq_true h]; rfl
theorem own_big {t : T} {v d e : Int} (h : 24 ≤ d) (h2 : 24 ≤ e) : ownP t v d = ownP t v e := by
  unfold ownP
  rw [within_big h, within_big h2]
  have : ownB t d = ownB t e := by funext b; unfold ownB; rw [within_big h, within_big h2]
  rw [this]
/-- Without a bound, beyond all dimensions, more dimensions change nothing. -/
theorem all_big : ∀ (t : T) (v d e : Int), 24 ≤ d → 24 ≤ e → allP t v d false = allP t v e false := T.ind fun t ih v d e hd he => by
  rw [allP_eq, allP_eq, own_big hd he]
  simp only [Bool.false_and, Bool.false_or]
  congr 1
  rw [Bool.eq_iff_iff, List.all_eq_true, List.all_eq_true]
  have hx : ∀ p, p ∈ parts t → allP p.1 (IntKind.i64.wrap (v + if v < 0 then 0 else p.2.1)) (d + p.2.2) false = allP p.1 (IntKind.i64.wrap (v + if v < 0 then 0 else p.2.1)) (e + p.2.2) false := fun p hp => by
    have := parts_in (k := p.1) (v := p.2.1) (d := p.2.2) hp
    exact ih p hp _ _ _ (by unfold bindsIn at this; omega) (by unfold bindsIn at this; omega)
  exact ⟨fun h p hp => by rw [← hx p hp]; exact h p hp, fun h p hp => by rw [hx p hp]; exact h p hp⟩
theorem formed_part {t : T} {p : Part} (h : formedP t = 0) (hp : p ∈ parts t) : formedP p.1 = 0 := by
  rw [formed_zero, sized_zero] at h ⊢
  have h1 := depth_mem hp
  have h2 := size_mem hp
  refine ⟨⟨by omega, by omega⟩, ?_⟩
  have h3 := h.2
  rw [allP_eq, Bool.and_eq_true] at h3
  have h4 := List.all_eq_true.mp h3.2 p hp
  have h5 := parts_in (k := p.1) (v := p.2.1) (d := p.2.2) hp
  unfold bindsIn at h5
  rw [all_big p.1 _ 24 (24 + p.2.2) (by omega) (by omega)]
  simpa [show (-1 : Int) < 0 by omega, wrap_id (show in64 (-1) by unfold in64; omega)] using h4
theorem formed_kid {t k : T} (h : formedP t = 0) (hk : k ∈ t.kids) : formedP k = 0 := by obtain ⟨p, hp, e⟩ := kid_mem_parts hk; exact e ▸ formed_part h hp
theorem formed_sys {t k : T} {b : Br} (h : formedP t = 0) (hb : b ∈ t.sys) (hk : k ∈ b.kids) : formedP k = 0 := by obtain ⟨p, hp, e⟩ := sys_mem_parts hb hk; exact e ▸ formed_part h hp
theorem depth_kid {t k : T} (hk : k ∈ t.kids) : depth k < depth t := by obtain ⟨p, hp, e⟩ := kid_mem_parts hk; exact e ▸ depth_mem hp
theorem size_kid {t k : T} (hk : k ∈ t.kids) : size k < size t := by obtain ⟨p, hp, e⟩ := kid_mem_parts hk; exact e ▸ size_mem hp
def kidSum (t : T) (i : Nat) : Nat := 1 + ((t.kids.take i).map size).sum
theorem kidSum_succ {t : T} {i : Nat} (h : i < t.kids.length) : kidSum t (i + 1) = kidSum t i + size (t.kids.getD i t0) := by
  unfold kidSum; rw [sum_take_succ size h (d := t0)]; omega
theorem kidSum_le (t : T) (i : Nat) : kidSum t i ≤ size t := by
  rw [size_kids_sys]; unfold kidSum; have := sum_take_le size t.kids i; omega
theorem kidSum_all {t : T} (h : t.sys.length = 0) : kidSum t t.kids.length = size t := by
  rw [size_kids_sys, List.eq_nil_of_length_eq_zero h]; simp [kidSum]
end Go.Hy
