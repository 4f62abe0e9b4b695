/- Contracts of functions of this program, one theorem each (printed by a program of this repository). -/
import Derived.Test.YtcofpfnnlageaaaGreatHyMore
namespace Go.Hy
set_option linter.unusedVariables false
set_option linter.unusedSimpArgs false
set_option linter.unusedSectionVars false
set_option linter.unusedVariables false
/-! ### The document's check of all nodes -/
theorem listTo_sorted (s n : Nat) : (listTo s n).Pairwise fun a b => a < b := by
  unfold listTo
  rw [List.pairwise_map]
  refine (List.Pairwise.filter _ List.pairwise_lt_range).imp (fun h => by omega)
theorem last_max {l : List Int} (hs : l.Pairwise fun a b => a < b) {x : Int} (hx : x ∈ l) : x ≤ l.getD (l.length - 1) 0 := by
  obtain ⟨j, hj, e⟩ := List.mem_iff_getElem.mp hx
  have hs := List.pairwise_iff_getElem.mp hs
  have hl : l.length - 1 < l.length := by omega
  rw [getD_get (d := (0 : Int)) hl]
  rcases Nat.lt_or_ge j (l.length - 1) with h2 | h2
  · have := hs j (l.length - 1) hj hl h2
    rw [e] at this
    exact Int.le_of_lt this
  · have hje : j = l.length - 1 := by omega
    subst hje
    exact Int.le_of_eq e.symm
/-- Has a formula dimensions below so many alone, by its last one? -/
def lowP (l : List Cl) (d : Int) : Bool := decide (((listM (fDims l)).length : Int) = 0) || decide ((listM (fDims l)).getD ((listM (fDims l)).length - 1) 0 < d)
theorem low_within {l : List Cl} {d : Int} (h0 : 0 ≤ d) : lowP l d = within l d := by
  rw [Bool.eq_iff_iff, within_iff h0]
  unfold lowP
  rw [Bool.or_eq_true, decide_eq_true_eq, decide_eq_true_eq]
  have hlt := fDims_lt l
  constructor
  · intro h i hi
    apply Bool.eq_false_iff.mpr
    intro hb
    have hi24 : i < 24 := by
      apply Classical.byContradiction
      intro hc
      have := Nat.testBit_lt_two_pow (Nat.lt_of_lt_of_le hlt (Nat.pow_le_pow_right (n := 2) (by omega) (show 24 ≤ i by omega)))
      rw [this] at hb; cases hb
    have hm : ((i : Nat) : Int) ∈ listM (fDims l) := listTo_mem.mpr ⟨by omega, by omega, by simpa using hb⟩
    rcases h with h | h
    · have : listM (fDims l) = [] := List.eq_nil_of_length_eq_zero (by omega)
      rw [this] at hm; cases hm
    · have := last_max (l := listM (fDims l)) (listTo_sorted (fDims l) 24) hm
      omega
  · intro h
    by_cases hn : (listM (fDims l)).length = 0
    · exact .inl (by omega)
    · right
      have hmem : (listM (fDims l)).getD ((listM (fDims l)).length - 1) 0 ∈ listM (fDims l) := getD_mem (by omega)
      have hx := listTo_mem.mp hmem
      apply Classical.byContradiction
      intro hc
      have := h ((listM (fDims l)).getD ((listM (fDims l)).length - 1) 0).toNat (by omega)
      rw [this] at hx; cases hx.2.2
/-- The checks ahead of a node's parts. -/
structure Ahead (t : T) (v d : Int) (b : Bool) : Prop where
  bound : ¬ (b = true ∧ 24 < d)
  kids : kidsN t.kind = (t.kids.length : Int)
  sys : partsN t.kind = 0 → t.sys.length = 0
  n1 : if t.kind = 1 then 0 ≤ t.n ∧ (v < 0 ∨ t.n < v) else t.n = 0
  nm : if t.kind = 2 then nameOK t.name = true else (t.name.toList == (ByteArray.mk #[]).toList) = true
  r : if t.kind = 13 ∨ t.kind = 21 ∨ t.kind = 26 then fRight t.r = true else if t.kind = 14 then faceRight t.r = true else t.r.length = 0
  low : within t.r d = true
theorem ahead_own {t : T} {v d : Int} {b : Bool} (h : Ahead t v d b) (hs : ∀ x, x ∈ t.sys → ownB t d x = true) : ownP t v d = true := by
  rw [own_iff]
  have h1 := h.n1; have h2 := h.nm; have h3 := h.r
  refine ⟨?_, ?_⟩
  · simp only [own1, Bool.or_eq_false_iff, Bool.and_eq_false_iff, decide_eq_false_iff_not, Bool.not_eq_false']
    refine ⟨⟨⟨fun hc => hc h.kids, ?_⟩, ?_⟩, ?_⟩
    · by_cases hk : t.kind = 1
      · exact .inl (fun hc => hc hk)
      · rw [if_neg hk] at h1; exact .inr (fun hc => hc h1)
    · by_cases hk : t.kind = 2
      · exact .inl (fun hc => hc hk)
      · rw [if_neg hk] at h2; exact .inr h2
    · by_cases hk : partsN t.kind = 0
      · have := h.sys hk; exact .inr (by omega)
      · exact .inl hk
  · by_cases k1 : t.kind = 1
    · rw [if_pos k1] at h1 ⊢
      rw [if_neg (by omega), if_neg (by omega)] at h3
      exact ⟨h3, h1⟩
    · rw [if_neg k1]
      by_cases k2 : t.kind = 2
      · rw [if_pos k2] at h2 ⊢
        rw [if_neg (by omega), if_neg (by omega)] at h3
        exact ⟨h3, h2⟩
      · rw [if_neg k2]
        by_cases k3 : t.kind = 13 ∨ t.kind = 21 ∨ t.kind = 26
        · rw [if_pos k3] at h3 ⊢; exact ⟨h3, h.low⟩
        · rw [if_neg k3] at h3 ⊢
          by_cases k4 : t.kind = 14
          · rw [if_pos k4] at h3 ⊢; exact ⟨h3, h.low⟩
          · rw [if_neg k4] at h3 ⊢; exact ⟨hs, h3⟩
theorem own_ahead {t : T} {v d : Int} {b : Bool} (h0 : ¬ (b = true ∧ 24 < d)) (hd : 0 ≤ d) (h : ownP t v d = true) : Ahead t v d b := by
  rw [own_iff] at h
  obtain ⟨h1, h2⟩ := h
  have hsys := fun hp => sys_nil h1 hp
  simp only [own1, Bool.or_eq_false_iff, Bool.and_eq_false_iff, decide_eq_false_iff_not, Bool.not_eq_false', ne_eq, Decidable.not_not] at h1
  obtain ⟨⟨⟨a1, a2⟩, a3⟩, a4⟩ := h1
  have hwn : t.r.length = 0 → within t.r d = true := fun hr => by
    rw [List.eq_nil_of_length_eq_zero hr, within_iff hd]; intro i _; simp [fDims]
  refine ⟨h0, a1, fun hp => by rw [hsys hp]; rfl, ?_, ?_, ?_, ?_⟩
  · by_cases k1 : t.kind = 1
    · rw [if_pos k1] at h2 ⊢; exact h2.2
    · rw [if_neg k1]; exact a2.resolve_left k1
  · by_cases k2 : t.kind = 2
    · rw [if_neg (by omega), if_pos k2] at h2
      rw [if_pos k2]; exact h2.2
    · rw [if_neg k2]; exact a3.resolve_left k2
  · split at h2
    · rw [if_neg (by omega), if_neg (by omega)]; exact h2.1
    · split at h2
      · rw [if_neg (by omega), if_neg (by omega)]; exact h2.1
      · split at h2
        · rename_i k; rw [if_pos k]; exact h2.1
        · rename_i k; rw [if_neg k]
          split at h2
          · rename_i k; rw [if_pos k]; exact h2.1
          · rename_i k; rw [if_neg k]; exact h2.2
  · split at h2
    · exact hwn h2.1
    · split at h2
      · exact hwn h2.1
      · split at h2
        · exact h2.2
        · split at h2
          · exact h2.2
          · exact hwn h2.2
def kidOK (t : T) (v d : Int) (b : Bool) (i : Nat) : Bool := allP (t.kids.getD i t0) (IntKind.i64.wrap (v + if v < 0 then 0 else (binds t.kind i).1)) (d + (binds t.kind i).2) b
def brOK (t : T) (v d : Int) (b : Bool) (x : Br) : Bool := ownB t d x && x.kids.all fun k => allP k v (d + more t.kind) b
theorem ownB_sys {t : T} {v d : Int} (h : ownP t v d = true) : ∀ x, x ∈ t.sys → ownB t d x = true := by
  rw [own_iff] at h
  have h2 := h.2
  have hs := fun hp => sys_nil h.1 hp
  split at h2
  · rename_i k; rw [hs (by rw [k]; decide)]; intro x hx; cases hx
  · split at h2
    · rename_i k; rw [hs (by rw [k]; decide)]; intro x hx; cases hx
    · split at h2
      · rename_i k; rw [hs (by rcases k with k | k | k <;> rw [k] <;> decide)]; intro x hx; cases hx
      · split at h2
        · rename_i k; rw [hs (by rw [k]; decide)]; intro x hx; cases hx
        · exact h2.1
/-- All nodes: the checks ahead, the kids, the branches. -/
theorem all_steps {t : T} {v d : Int} {b : Bool} (hv : in64 v) (hd : 0 ≤ d) : allP t v d b = true ↔ Ahead t v d b ∧ (∀ i, i < t.kids.length → kidOK t v d b i = true) ∧ ∀ i, i < t.sys.length → brOK t v d b (t.sys.getD i br0) = true := by
  rw [all_iff]
  constructor
  · rintro ⟨h1, h2, h3⟩
    refine ⟨own_ahead h1 hd h2, fun i hi => ?_, fun i hi => ?_⟩
    · exact h3 _ (parts_mem (parts_kid t i hi))
    · unfold brOK
      rw [Bool.and_eq_true, List.all_eq_true]
      refine ⟨ownB_sys h2 _ (getD_mem hi), fun k hk => ?_⟩
      obtain ⟨j, hj, e⟩ := List.mem_iff_getElem.mp hk
      have := h3 _ (parts_mem (parts_sys t i j hi hj))
      simp only at this
      rw [show (if v < 0 then (0 : Int) else 0) = 0 by split <;> rfl, Int.add_zero, wrap_id hv] at this
      rwa [getD_get (d := t0) hj, e] at this
  · rintro ⟨h1, h2, h3⟩
    have hb : ∀ x, x ∈ t.sys → brOK t v d b x = true := fun x hx => by
      obtain ⟨i, hi, e⟩ := List.mem_iff_getElem.mp hx
      have := h3 i hi
      rwa [getD_get (d := br0) hi, e] at this
    refine ⟨h1.bound, ahead_own h1 (fun x hx => by have := hb x hx; unfold brOK at this; rw [Bool.and_eq_true] at this; exact this.1), fun p hp => ?_⟩
    obtain ⟨m, hm⟩ := List.mem_iff_getElem?.mp hp
    have hlt : m < (parts t).length := (List.getElem?_eq_some_iff.mp hm).1
    rcases Nat.lt_or_ge m t.kids.length with hmk | hmk
    · rw [parts_kid t m hmk] at hm
      injection hm with hm
      subst hm
      exact h2 m hmk
    · unfold parts at hp hm
      rw [List.getElem?_append_right (by rw [kidParts_length]; exact hmk)] at hm
      have hp2 : p ∈ sysParts t.kind t.sys := List.mem_iff_getElem?.mpr ⟨_, hm⟩
      have key : ∀ (bs : List Br), (∀ x, x ∈ bs → x ∈ t.sys) → p ∈ sysParts t.kind bs → allP p.1 (IntKind.i64.wrap (v + if v < 0 then 0 else p.2.1)) (d + p.2.2) b = true := by
        intro bs
        induction bs with
        | nil => intro _ h; simp [sysParts] at h
        | cons x bs ih =>
          intro hx h
          simp only [sysParts, List.mem_append, List.mem_map] at h
          rcases h with ⟨k, hk, e⟩ | h
          · subst e
            simp only
            rw [show (if v < 0 then (0 : Int) else 0) = 0 by split <;> rfl, Int.add_zero, wrap_id hv]
            have := hb x (hx x List.mem_cons_self)
            unfold brOK at this
            rw [Bool.and_eq_true, List.all_eq_true] at this
            exact this.2 k hk
          · exact ih (fun y hy => hx y (List.mem_cons_of_mem _ hy)) h
      exact key t.sys (fun _ h => h) hp2
theorem all_no1 {t : T} {v d : Int} {b : Bool} (hv : in64 v) (hd : 0 ≤ d) (hn : ¬ Ahead t v d b) : allP t v d b = false := Bool.eq_false_iff.mpr fun h => hn ((all_steps hv hd).mp h).1
theorem all_no2 {t : T} {v d : Int} {b : Bool} (hv : in64 v) (hd : 0 ≤ d) {i : Nat} (hi : i < t.kids.length) (hn : kidOK t v d b i = false) : allP t v d b = false := Bool.eq_false_iff.mpr fun h => by
  have h9 := ((all_steps hv hd).mp h).2.1 i hi
  rw [hn] at h9; cases h9
theorem all_no3 {t : T} {v d : Int} {b : Bool} (hv : in64 v) (hd : 0 ≤ d) {i : Nat} (hi : i < t.sys.length) (hn : brOK t v d b (t.sys.getD i br0) = false) : allP t v d b = false := Bool.eq_false_iff.mpr fun h => by
  have h9 := ((all_steps hv hd).mp h).2.2 i hi
  rw [hn] at h9; cases h9
end Go.Hy
