/- Contracts of functions of this program, one theorem each (printed by a program of this repository). -/
import Derived.Test.YtcofpfnnlageaaaGreatHyDims
namespace Go.Hy
set_option linter.unusedVariables false
set_option linter.unusedSimpArgs false
set_option linter.unusedSectionVars false
set_option linter.unusedVariables false
/-! ### More variables, more dimensions; what a term has that may be -/
theorem all_iff {t : T} {v d : Int} {b : Bool} : allP t v d b = true ↔ (¬ (b = true ∧ 24 < d)) ∧ ownP t v d = true ∧ ∀ p, p ∈ parts t → allP p.1 (IntKind.i64.wrap (v + if v < 0 then 0 else p.2.1)) (d + p.2.2) b = true := by
  rw [allP_eq, Bool.and_eq_true, List.all_eq_true]
  simp only [Bool.not_eq_true', Bool.or_eq_false_iff, Bool.and_eq_false_iff, decide_eq_false_iff_not, Bool.not_eq_false']
  constructor
  · rintro ⟨⟨h1, h2⟩, h3⟩
    refine ⟨?_, h2, h3⟩
    rintro ⟨h4, h5⟩
    rcases h1 with h1 | h1
    · rw [h1] at h4; cases h4
    · exact h1 h5
  · rintro ⟨h1, h2, h3⟩
    refine ⟨⟨?_, h2⟩, h3⟩
    cases b
    · exact .inl rfl
    · exact .inr (fun h => h1 ⟨rfl, h⟩)
/-- What a node of itself must be, row by row. -/
theorem own_iff {t : T} {v d : Int} : ownP t v d = true ↔ own1 t = false ∧
    (if t.kind = 1 then t.r.length = 0 ∧ 0 ≤ t.n ∧ (v < 0 ∨ t.n < v)
     else if t.kind = 2 then t.r.length = 0 ∧ nameOK t.name = true
     else if t.kind = 13 ∨ t.kind = 21 ∨ t.kind = 26 then fRight t.r = true ∧ within t.r d = true
     else if t.kind = 14 then faceRight t.r = true ∧ within t.r d = true
     else (∀ x, x ∈ t.sys → ownB t d x = true) ∧ t.r.length = 0) := by
  unfold ownP
  rw [Bool.and_eq_true, Bool.not_eq_true']
  apply and_congr Iff.rfl
  split
  · simp only [Bool.and_eq_true, decide_eq_true_eq, Bool.or_eq_true, and_assoc]; constructor <;> (rintro ⟨h1, h2⟩; exact ⟨by omega, h2⟩)
  · split
    · simp only [Bool.and_eq_true, decide_eq_true_eq]; constructor <;> (rintro ⟨h1, h2⟩; exact ⟨by omega, h2⟩)
    · split
      · simp only [Bool.and_eq_true]
      · split
        · simp only [Bool.and_eq_true]
        · simp only [Bool.and_eq_true, decide_eq_true_eq, List.all_eq_true]; constructor <;> (rintro ⟨h1, h2⟩; exact ⟨h1, by omega⟩)
theorem within_iff {l : List Cl} {d : Int} (h0 : 0 ≤ d) : within l d = true ↔ ∀ i : Nat, d ≤ (i : Int) → (fDims l).testBit i = false := by
  have hlt := fDims_lt l
  unfold within
  rw [Bool.or_eq_true, decide_eq_true_eq, decide_eq_true_eq]
  by_cases h24 : 24 ≤ d
  · constructor
    · intro _ i hi
      exact Nat.testBit_lt_two_pow (Nat.lt_of_lt_of_le hlt (Nat.pow_le_pow_right (n := 2) (by omega) (show 24 ≤ i by omega)))
    · intro _; exact .inl h24
  · have hm : min d.toNat 32 = d.toNat := by omega
    rw [hm]
    constructor
    · rintro (h | h) i hi
      · exact absurd h h24
      · have h1 : fDims l / 2 ^ d.toNat = 0 := by omega
        have h2 : fDims l < 2 ^ d.toNat := by
          have := Nat.div_eq_zero_iff.mp h1
          have hp : 0 < 2 ^ d.toNat := Nat.pow_pos (by omega)
          omega
        exact Nat.testBit_lt_two_pow (Nat.lt_of_lt_of_le h2 (Nat.pow_le_pow_right (n := 2) (by omega) (by omega)))
    · intro h
      right
      have h2 : fDims l < 2 ^ d.toNat := Nat.lt_pow_two_of_testBit _ (fun i hi => h i (by omega))
      rw [Nat.div_eq_of_lt h2]; rfl
theorem within_mono {l : List Cl} {d e : Int} (h0 : 0 ≤ d) (h : d ≤ e) (hw : within l d = true) : within l e = true :=
  (within_iff (by omega)).mpr fun i hi => (within_iff h0).mp hw i (by omega)
/-- Fewer demands: more variables (or no bound), more dimensions. -/
theorem own_weak {t : T} {v w d e : Int} (hv : w < 0 ∨ (0 ≤ v ∧ v ≤ w)) (h0 : 0 ≤ d) (h : d ≤ e) (ho : ownP t v d = true) : ownP t w e = true := by
  rw [own_iff] at ho ⊢
  refine ⟨ho.1, ?_⟩
  have h2 := ho.2
  split at h2
  · rename_i hk; rw [if_pos hk]; omega
  · rename_i hk; rw [if_neg hk]
    split at h2
    · rename_i hk; rw [if_pos hk]; exact h2
    · rename_i hk; rw [if_neg hk]
      split at h2
      · rename_i hk; rw [if_pos hk]; exact ⟨h2.1, within_mono h0 h h2.2⟩
      · rename_i hk; rw [if_neg hk]
        split at h2
        · rename_i hk; rw [if_pos hk]; exact ⟨h2.1, within_mono h0 h h2.2⟩
        · rename_i hk; rw [if_neg hk]
          refine ⟨fun x hx => ?_, h2.2⟩
          have := h2.1 x hx
          unfold ownB at this ⊢
          rw [Bool.and_eq_true] at this ⊢
          exact ⟨this.1, within_mono h0 h this.2⟩
theorem all_formed : ∀ (t : T) (v d e : Int) (b : Bool), 0 ≤ d → d ≤ e → 24 ≤ e → in64 v → allP t v d b = true → allP t (-1) e false = true := T.ind fun t ih v d e b h0 hde he hv h => by
  rw [all_iff] at h ⊢
  refine ⟨(fun h => by cases h.1), own_weak (.inl (by omega)) h0 hde h.2.1, fun p hp => ?_⟩
  have hb := parts_in (k := p.1) (v := p.2.1) (d := p.2.2) hp
  unfold bindsIn at hb
  have := ih p hp _ _ (e + p.2.2) b (by omega) (by omega) (by omega) (wrap_in _) (h.2.2 p hp)
  simpa [show (-1 : Int) < 0 by omega, wrap_id (show in64 (-1) by unfold in64; omega)] using this
theorem part_depth {t : T} {p : Part} (hp : p ∈ parts t) : depth p.1 + 1 ≤ depth t := depth_mem hp
theorem wrap_small {n : Int} (h : -1000000000 ≤ n) (h2 : n ≤ 1000000000000) : IntKind.i64.wrap n = n := wrap_id (by unfold in64; omega)
theorem all_more : ∀ (t : T) (v w d : Int) (b : Bool), 0 ≤ v → v ≤ w → w + depth t ≤ 1000000 → 0 ≤ d → allP t v d b = true → allP t w d b = true := T.ind fun t ih v w d b h0 hvw hw hd h => by
  rw [all_iff] at h ⊢
  refine ⟨h.1, own_weak (.inr ⟨h0, hvw⟩) hd (Int.le_refl _) h.2.1, fun p hp => ?_⟩
  have hb := parts_in (k := p.1) (v := p.2.1) (d := p.2.2) hp
  have hdp := part_depth hp
  unfold bindsIn at hb
  have h3 := h.2.2 p hp
  rw [if_neg (by omega), wrap_small (by omega) (by omega)] at h3 ⊢
  exact ih p hp _ _ _ b (by omega) (by omega) (by omega) (by omega) h3
theorem uses_iff {t : T} {n : Int} (h0 : 0 ≤ n) : uses t n = true ↔ (t.kind = 1 ∧ t.n = n) ∨ (¬ (t.kind = 1 ∧ t.n = n) ∧ ∃ p, p ∈ parts t ∧ uses p.1 (IntKind.i64.wrap (n + p.2.1)) = true) := by
  rw [uses_eq]
  split
  · rename_i h; simp [h, h0]
  · rename_i h
    rw [Bool.not_eq_true', List.all_eq_false]
    simp only [Bool.or_eq_true, decide_eq_true_eq, Bool.not_eq_true', not_or, Bool.not_eq_false]
    constructor
    · rintro ⟨p, hp, _, h2⟩; exact .inr ⟨h, p, hp, h2⟩
    · rintro (h2 | ⟨_, p, hp, h2⟩)
      · exact absurd h2 h
      · exact ⟨p, hp, by omega, h2⟩
/-- No variable beyond those that there are. -/
theorem no_use : ∀ (t : T) (v n d : Int) (b : Bool), 0 ≤ v → v ≤ n → n + depth t ≤ 1000000 → 0 ≤ d → allP t v d b = true → uses t n = false := T.ind fun t ih v n d b h0 hvn hn hd h => by
  rw [all_iff] at h
  apply Bool.eq_false_iff.mpr
  intro hu
  rw [uses_iff (by omega)] at hu
  rcases hu with ⟨hk, hn'⟩ | ⟨_, p, hp, hu⟩
  · have ho := (own_iff.mp h.2.1).2
    rw [if_pos hk] at ho
    omega
  · have hb := parts_in (k := p.1) (v := p.2.1) (d := p.2.2) hp
    have hdp := part_depth hp
    unfold bindsIn at hb
    have h3 := h.2.2 p hp
    rw [if_neg (by omega), wrap_small (by omega) (by omega)] at h3
    rw [wrap_small (by omega) (by omega)] at hu
    have := ih p hp _ (n + p.2.1) _ b (by omega) (by omega) (by omega) (by omega) h3
    rw [this] at hu; cases hu
/-- One variable less, just if the last one isn't used. -/
theorem all_less : ∀ (t : T) (v d : Int) (b : Bool), 1 ≤ v → v + depth t ≤ 1000000 → 0 ≤ d → allP t v d b = true → (allP t (v - 1) d b = true ↔ uses t (v - 1) = false) := T.ind fun t ih v d b h0 hv hd h => by
  rw [all_iff] at h
  have hpart : ∀ p, p ∈ parts t → (allP p.1 (IntKind.i64.wrap ((v - 1) + if v - 1 < 0 then 0 else p.2.1)) (d + p.2.2) b = true ↔ uses p.1 (IntKind.i64.wrap (v - 1 + p.2.1)) = false) := fun p hp => by
    have hb := parts_in (k := p.1) (v := p.2.1) (d := p.2.2) hp
    have hdp := part_depth hp
    unfold bindsIn at hb
    have h3 := h.2.2 p hp
    rw [if_neg (by omega), wrap_small (by omega) (by omega)] at h3
    rw [if_neg (by omega), wrap_small (by omega) (by omega)]
    have := ih p hp (v + p.2.1) (d + p.2.2) b (by omega) (by omega) (by omega) h3
    rw [show v + p.2.1 - 1 = v - 1 + p.2.1 by omega] at this
    exact this
  rw [all_iff, Bool.eq_false_iff, ne_eq, uses_iff (by omega)]
  constructor
  · rintro ⟨_, ho, hp⟩ hu
    rcases hu with ⟨hk, hn⟩ | ⟨_, p, hpm, hu⟩
    · have ho := (own_iff.mp ho).2
      rw [if_pos hk] at ho
      omega
    · rw [(hpart p hpm).mp (hp p hpm)] at hu; cases hu
  · intro hu
    refine ⟨h.1, ?_, fun p hp => (hpart p hp).mpr ?_⟩
    · have ho := h.2.1
      rw [own_iff] at ho ⊢
      refine ⟨ho.1, ?_⟩
      have h2 := ho.2
      split at h2
      · rename_i hk
        rw [if_pos hk]
        have : t.n ≠ v - 1 := fun e => hu (.inl ⟨hk, e⟩)
        omega
      · rename_i hk
        rw [if_neg hk]; exact h2
    · apply Bool.eq_false_iff.mpr
      intro h9
      by_cases hk : t.kind = 1 ∧ t.n = v - 1
      · exact hu (.inl hk)
      · exact hu (.inr ⟨hk, p, hp, h9⟩)
theorem or_bit {α : Type} (f : α → Nat) (i : Nat) : ∀ (l : List α) (a : Nat), a.testBit i = false → (∀ x, x ∈ l → (f x).testBit i = false) → (l.foldl (fun a x => a ||| f x) a).testBit i = false
  | [], a, h, _ => h
  | x :: l, a, h, hx => or_bit f i l _ (by rw [Nat.testBit_or, h, hx x List.mem_cons_self]; rfl) (fun y hy => hx y (List.mem_cons_of_mem _ hy))
theorem drop0_bit (s i : Nat) (h : s < 16777216) : (dropM s 0).testBit i = s.testBit (i + 1) := by
  have e : s &&& 16777215 = s := by rw [and24]; exact Nat.mod_eq_of_lt h
  unfold dropM
  rw [if_pos (by omega), e]
  simp [Nat.testBit_succ]
theorem sys_nil {t : T} (h : own1 t = false) (hp : partsN t.kind = 0) : t.sys = [] := by
  unfold own1 at h
  simp only [Bool.or_eq_false_iff, Bool.and_eq_false_iff, decide_eq_false_iff_not] at h
  rcases h.2 with h2 | h2
  · exact absurd hp h2
  · exact List.eq_nil_of_length_eq_zero (by omega)
/-- No dimension beyond those that there are. -/
theorem no_dim : ∀ (t : T) (v d : Int) (b : Bool) (i : Nat), 0 ≤ d → d ≤ (i : Int) → allP t v d b = true → (dimsT t).testBit i = false := T.ind fun t ih v d b i h0 hi h => by
  rw [all_iff] at h
  rw [← dimsUpto_all]
  have hf : (dimsF t t.sys.length).testBit i = false := by
    have ho := own_iff.mp h.2.1
    unfold dimsF
    rw [List.take_length]
    have hnil : t.r.length = 0 → (fDims t.r).testBit i = false := fun hr => by rw [List.eq_nil_of_length_eq_zero hr]; simp [fDims]
    have h2 := ho.2
    split at h2
    · rename_i hk
      rw [sys_nil ho.1 (by rw [hk]; decide)]
      exact hnil h2.1
    · split at h2
      · rename_i hk
        rw [sys_nil ho.1 (by rw [hk]; decide)]
        exact hnil h2.1
      · split at h2
        · rename_i hk
          rw [sys_nil ho.1 (by rcases hk with hk | hk | hk <;> rw [hk] <;> decide)]
          exact (within_iff h0).mp h2.2 i hi
        · split at h2
          · rename_i hk
            rw [sys_nil ho.1 (by rw [hk]; decide)]
            exact (within_iff h0).mp h2.2 i hi
          · refine or_bit (fun b : Br => fDims b.face) i _ _ (hnil h2.2) (fun x hx => ?_)
            have := h2.1 x hx
            unfold ownB at this
            rw [Bool.and_eq_true] at this
            exact (within_iff h0).mp this.2 i hi
  refine or_bit dimsPart i _ _ hf (fun p hp => ?_)
  have hp : p ∈ parts t := List.mem_of_mem_take hp
  have hb := parts_in (k := p.1) (v := p.2.1) (d := p.2.2) hp
  unfold bindsIn at hb
  have h3 := h.2.2 p hp
  unfold dimsPart dimsPartG
  split
  · rename_i h1
    simp only at h1
    rw [drop0_bit _ _ (dims_lt _)]
    exact ih p hp _ _ b (i + 1) (by omega) (by omega) h3
  · rename_i h1
    simp only at h1
    exact ih p hp _ _ b i (by omega) (by omega) h3
end Go.Hy
