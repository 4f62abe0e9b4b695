/- Contracts of functions of this program, one theorem each (printed by a program of this repository). -/
import Derived.Test.YtcofpfnnlageaaaHyClause
namespace Go.Hy
set_option linter.unusedVariables false
set_option linter.unusedSimpArgs false
set_option linter.unusedSectionVars false
set_option linter.unusedVariables false
/-! ### What Least tells of a formula that may be -/
theorem lessC_tri (a b : Cl) : lessC a b = true ∨ a = b ∨ lessC b a = true := by
  obtain ⟨p, n⟩ := a
  obtain ⟨p', n'⟩ := b
  simp only [lessC, Bool.or_eq_true, Bool.and_eq_true, decide_eq_true_eq, Cl.mk.injEq]
  omega
theorem lessC_asym {a b : Cl} (h : lessC a b = true) : lessC b a = false := by
  simp only [lessC, Bool.or_eq_true, Bool.and_eq_true, decide_eq_true_eq, Bool.or_eq_false_iff, Bool.and_eq_false_iff, decide_eq_false_iff_not] at *
  omega
theorem lessC_trans {a b c : Cl} (h : lessC a b = true) (h2 : lessC b c = true) : lessC a c = true := by
  simp only [lessC, Bool.or_eq_true, Bool.and_eq_true, decide_eq_true_eq] at *
  omega
theorem lessC_irr (a : Cl) : lessC a a = false := by simp [lessC]
theorem antis {a b : Cl} (h : lessC a b = false) (h2 : lessC b a = false) : a = b := by
  rcases lessC_tri a b with h3 | h3 | h3
  · rw [h] at h3; cases h3
  · exact h3
  · rw [h2] at h3; cases h3
/-- Two that are sorted, of the same clauses, are one. -/
theorem sorted_eq : ∀ {l m : List Cl}, l.Perm m → (l.Pairwise fun a b => lessC b a = false) → (m.Pairwise fun a b => lessC b a = false) → l = m
  | [], m, hp, _, _ => by have := hp.length_eq; cases m with | nil => rfl | cons _ _ => simp at this
  | a :: l, [], hp, _, _ => by have := hp.length_eq; simp at this
  | a :: l, b :: m, hp, h1, h2 => by
    rw [List.pairwise_cons] at h1 h2
    have ha : a ∈ b :: m := hp.mem_iff.mp List.mem_cons_self
    have hb : b ∈ a :: l := hp.mem_iff.mpr List.mem_cons_self
    have e : a = b := by
      rcases List.mem_cons.mp ha with h | h
      · exact h
      · rcases List.mem_cons.mp hb with h3 | h3
        · exact h3.symm
        · exact antis (h2.1 a h |> fun x => x) (h1.1 b h3) |> fun x => by exact x
    subst e
    rw [sorted_eq (List.Perm.cons_inv hp) h1.2 h2.2]
theorem sortedC_iff : ∀ {l : List Cl}, sortedC l = true ↔ l.Pairwise fun a b => lessC a b = true
  | [] => by simp [sortedC]
  | [a] => by simp [sortedC]
  | a :: b :: l => by
    rw [sortedC, Bool.and_eq_true, sortedC_iff (l := b :: l), List.pairwise_cons (a := a)]
    constructor
    · rintro ⟨h1, h2⟩
      refine ⟨fun c hc => ?_, h2⟩
      rcases List.mem_cons.mp hc with h | h
      · exact h ▸ h1
      · exact lessC_trans h1 ((List.pairwise_cons.mp h2).1 c h)
    · rintro ⟨h1, h2⟩
      exact ⟨h1 b List.mem_cons_self, h2⟩
theorem once_of_nodup {l : List Cl} (h : l.Pairwise fun a b => lessC a b = true) : once l = l := by
  have : ∀ (m o : List Cl), ((o ++ m).Pairwise fun a b => lessC a b = true) → m.foldl (fun o c => if c ∈ o then o else o ++ [c]) o = o ++ m := by
    intro m
    induction m with
    | nil => intro o _; simp
    | cons c m ih =>
      intro o h
      rw [List.foldl_cons]
      have hn : c ∉ o := by
        intro hc
        have := (List.pairwise_append.mp h).2.2 c hc c List.mem_cons_self
        rw [lessC_irr] at this; cases this
      rw [if_neg hn, ih (o ++ [c]) (by simpa using h)]
      simp
  have := this l [] (by simpa using h)
  simpa [once] using this
theorem apart_iff {l : List Cl} : apart l = true ↔ ∀ a, a ∈ l → ∀ b, b ∈ l → a = b ∨ below a b = false := by
  unfold apart
  simp only [List.all_eq_true, Bool.or_eq_true, decide_eq_true_eq, Bool.not_eq_true']
theorem needless_iff {l : List Cl} {c : Cl} : needless l c = false ↔ ∀ d, d ∈ l → c = d ∨ below c d = false := by
  unfold needless
  rw [List.any_eq_false]
  constructor
  · intro h d hd
    have := h d hd
    simp only [Bool.and_eq_true, Bool.not_eq_true', decide_eq_false_iff_not, not_and, Bool.not_eq_true] at this
    by_cases e : c = d
    · exact .inl e
    · exact .inr (this e)
  · intro h d hd
    simp only [Bool.and_eq_true, Bool.not_eq_true', decide_eq_false_iff_not, not_and, Bool.not_eq_true]
    intro e
    exact (h d hd).resolve_left e
theorem least_right {l : List Cl} {r : Int × List Cl} (h : LeastIs l r) : (decide (r.1 = 0) && decide (r.2 = l)) = fRight l := by
  rw [Bool.eq_iff_iff, Bool.and_eq_true, decide_eq_true_eq, decide_eq_true_eq]
  unfold LeastIs at h
  constructor
  · rintro ⟨h1, h2⟩
    split at h
    · rw [h] at h1; cases h1
    · rename_i hr
      split at h
      · rw [h] at h1; cases h1
      · rename_i h64
        obtain ⟨_, hp, hs⟩ := h
        rw [h2] at hp hs
        have hr' : l.all right24 = true := by simpa using hr
        have hlen := hp.length_eq
        have hk1 : (kept l).length ≤ (once l).length := by unfold kept; exact List.length_filter_le _ _
        have ho := once_len l
        have hkeep : kept l = once l := by
          have : (kept l).Sublist (once l) := by unfold kept; exact List.filter_sublist
          exact this.eq_of_length (by omega)
        have hnd : ∀ c, c ∈ l → needless (once l) c = false := by
          intro c hc
          have : c ∈ kept l := hp.mem_iff.mp hc
          unfold kept at this
          have := (List.mem_filter.mp this).2
          simpa using this
        have hap : apart l = true := apart_iff.mpr fun a ha b hb => needless_iff.mp (hnd a ha) b ((once_mem b l).mpr hb)
        have hnodup : (once l).Nodup := by
          have : ∀ (m o : List Cl), o.Nodup → (m.foldl (fun o c => if c ∈ o then o else o ++ [c]) o).Nodup := by
            intro m
            induction m with
            | nil => intro o h; exact h
            | cons c m ih =>
              intro o h
              rw [List.foldl_cons]
              apply ih
              split
              · exact h
              · rename_i hn
                rw [List.nodup_append]
                refine ⟨h, by simp, ?_⟩
                intro a ha b hb e
                rw [List.mem_singleton] at hb
                exact hn (hb ▸ e ▸ ha)
          exact this l [] List.nodup_nil
        have hln : l.Nodup := (hp.nodup_iff).mpr (hkeep ▸ hnodup)
        have hst : sortedC l = true := by
          rw [sortedC_iff]
          have hboth : l.Pairwise fun a b => lessC b a = false ∧ a ≠ b := hs.and hln
          exact hboth.imp fun {a b} ⟨h3, h4⟩ => by
            rcases lessC_tri a b with h5 | h5 | h5
            · exact h5
            · exact absurd h5 h4
            · rw [h3] at h5; cases h5
        unfold fRight
        rw [hr', hst, hap]
        simp; omega
  · intro hf
    unfold fRight at hf
    simp only [Bool.and_eq_true, decide_eq_true_eq] at hf
    obtain ⟨⟨⟨hr, hs⟩, ha⟩, h64⟩ := hf
    have hs' := sortedC_iff.mp hs
    have ho := once_of_nodup hs'
    have hk : kept l = l := by
      unfold kept
      rw [ho, List.filter_eq_self]
      intro c hc
      have : needless l c = false := needless_iff.mpr fun d hd => apart_iff.mp ha c hc d hd
      simp [this]
    rw [hr, if_neg (by decide), hk, if_neg (by omega)] at h
    exact ⟨h.1, sorted_eq h.2.1 h.2.2 (hs'.imp fun h => lessC_asym h)⟩
end Go.Hy
