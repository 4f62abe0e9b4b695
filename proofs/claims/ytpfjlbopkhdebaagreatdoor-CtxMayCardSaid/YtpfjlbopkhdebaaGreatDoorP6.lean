/- Contracts of this program's functions and the laws that they need: a separation logic over the machine's rules, one theorem each (partly printed by a program of this repository). -/
import Derived.Lib.TrailingZeros
import Derived.LaidMore
import Derived.OpenShut
import Derived.Stop.Joined
import Derived.MakeChecks
import Derived.Shelf.Spec.TrailingZeros
import Derived.Test.YtpfjlbopkhdebaaGreatDoorP3
import Derived.Test.YtpfjlbopkhdebaaGreatDoorP5
set_option linter.unusedVariables false
set_option linter.unusedSimpArgs false
set_option linter.unusedSectionVars false
namespace Go.Hy
/-! ### More variables, more dimensions; what a term has that may be -/
theorem all_iff {t : T} {v d : Int} {b : Bool} : allP t v d b = true ↔ (¬ (b = true ∧ 24 < d)) ∧ ownP t v d = true ∧ ∀ p, p ∈ parts t → allP p.1 (IntKind.i64.wrap (v + if v < 0 then 0 else p.2.1)) (d + p.2.2) b = true := by
  rw [allP_eq, Bool.and_eq_true, List.all_eq_true]
  simp only [Bool.not_eq_true', Bool.or_eq_false_iff, Bool.and_eq_false_iff, decide_eq_false_iff_not, Bool.not_eq_false']
  constructor
  · rintro ⟨⟨h1, h2⟩, h3⟩
    refine ⟨?_, h2, h3⟩
    rintro ⟨h4, h5⟩
    rcases h1 with h1 | h1
    · rw [h1] at h4; cases h4
    · exact h1 h5
  · rintro ⟨h1, h2, h3⟩
    refine ⟨⟨?_, h2⟩, h3⟩
    cases b
    · exact .inl rfl
    · exact .inr (fun h => h1 ⟨rfl, h⟩)
/-- What a node of itself must be, row by row. -/
theorem own_iff {t : T} {v d : Int} : ownP t v d = true ↔ own1 t = false ∧
    (if t.kind = 1 then t.r.length = 0 ∧ 0 ≤ t.n ∧ (v < 0 ∨ t.n < v)
     else if t.kind = 2 then t.r.length = 0 ∧ nameOK t.name = true
     else if t.kind = 13 ∨ t.kind = 21 ∨ t.kind = 26 then fRight t.r = true ∧ within t.r d = true
     else if t.kind = 14 then faceRight t.r = true ∧ within t.r d = true
     else (∀ x, x ∈ t.sys → ownB t d x = true) ∧ t.r.length = 0) := by
  unfold ownP
  rw [Bool.and_eq_true, Bool.not_eq_true']
  apply and_congr Iff.rfl
  split
  · simp only [Bool.and_eq_true, decide_eq_true_eq, Bool.or_eq_true, and_assoc]; constructor <;> (rintro ⟨h1, h2⟩; exact ⟨by omega, h2⟩)
  · split
    · simp only [Bool.and_eq_true, decide_eq_true_eq]; constructor <;> (rintro ⟨h1, h2⟩; exact ⟨by omega, h2⟩)
    · split
      · simp only [Bool.and_eq_true]
      · split
        · simp only [Bool.and_eq_true]
        · simp only [Bool.and_eq_true, decide_eq_true_eq, List.all_eq_true]; constructor <;> (rintro ⟨h1, h2⟩; exact ⟨h1, by omega⟩)
theorem within_iff {l : List Cl} {d : Int} (h0 : 0 ≤ d) : within l d = true ↔ ∀ i : Nat, d ≤ (i : Int) → (fDims l).testBit i = false := by
  have hlt := fDims_lt l
  unfold within
  rw [Bool.or_eq_true, decide_eq_true_eq, decide_eq_true_eq]
  by_cases h24 : 24 ≤ d
  · constructor
    · intro _ i hi
      exact Nat.testBit_lt_two_pow (Nat.lt_of_lt_of_le hlt (Nat.pow_le_pow_right (n := 2) (by omega) (show 24 ≤ i by omega)))
    · intro _; exact .inl h24
  · have hm : min d.toNat 32 = d.toNat := by omega
    rw [hm]
    constructor
    · rintro (h | h) i hi
      · exact absurd h h24
      · have h1 : fDims l / 2 ^ d.toNat = 0 := by omega
        have h2 : fDims l < 2 ^ d.toNat := by
          have := Nat.div_eq_zero_iff.mp h1
          have hp : 0 < 2 ^ d.toNat := Nat.pow_pos (by omega)
          omega
        exact Nat.testBit_lt_two_pow (Nat.lt_of_lt_of_le h2 (Nat.pow_le_pow_right (n := 2) (by omega) (by omega)))
    · intro h
      right
      have h2 : fDims l < 2 ^ d.toNat := Nat.lt_pow_two_of_testBit _ (fun i hi => h i (by omega))
      rw [Nat.div_eq_of_lt h2]; rfl
theorem part_depth {t : T} {p : Part} (hp : p ∈ parts t) : depth p.1 + 1 ≤ depth t := depth_mem hp
theorem drop0_bit (s i : Nat) (h : s < 16777216) : (dropM s 0).testBit i = s.testBit (i + 1) := by
  have e : s &&& 16777215 = s := by rw [and24]; exact Nat.mod_eq_of_lt h
  unfold dropM
  rw [if_pos (by omega), e]
  simp [Nat.testBit_succ]
end Go.Hy
namespace Go.Hy
/-! ### The document's check of all nodes -/
theorem listTo_sorted (s n : Nat) : (listTo s n).Pairwise fun a b => a < b := by
  unfold listTo
  rw [List.pairwise_map]
  refine (List.Pairwise.filter _ List.pairwise_lt_range).imp (fun h => by omega)
end Go.Hy
namespace Go.Hy
theorem part_cases {t : T} {p : Part} (hp : p ∈ parts t) : (∃ i, i < t.kids.length ∧ p = (t.kids.getD i t0, binds t.kind (i : Int))) ∨ ∃ s k, s < t.sys.length ∧ k < (t.sys.getD s br0).kids.length ∧ p = ((t.sys.getD s br0).kids.getD k t0, 0, more t.kind) := by
  unfold parts at hp
  rcases List.mem_append.mp hp with hp | hp
  · left
    have key : ∀ (ks : List T) (s : Nat), p ∈ kidParts t.kind s ks → ∃ i, i < ks.length ∧ p = (ks.getD i t0, binds t.kind ((s + i : Nat) : Int)) := by
      intro ks
      induction ks with
      | nil => intro s h; simp [kidParts] at h
      | cons k ks ih =>
        intro s h
        simp only [kidParts, List.mem_cons] at h
        rcases h with h | h
        · exact ⟨0, by simp, by simpa using h⟩
        · obtain ⟨i, hi, e⟩ := ih (s + 1) h
          exact ⟨i + 1, by simpa using hi, by rw [e]; simp only [List.getD_cons_succ]; rw [show s + 1 + i = s + (i + 1) by omega]⟩
    obtain ⟨i, hi, e⟩ := key t.kids 0 hp
    exact ⟨i, hi, by rw [e]; simp⟩
  · right
    have key : ∀ (bs : List Br), p ∈ sysParts t.kind bs → ∃ s k, s < bs.length ∧ k < (bs.getD s br0).kids.length ∧ p = ((bs.getD s br0).kids.getD k t0, 0, more t.kind) := by
      intro bs
      induction bs with
      | nil => intro h; simp [sysParts] at h
      | cons b bs ih =>
        intro h
        simp only [sysParts, List.mem_append, List.mem_map] at h
        rcases h with ⟨k, hk, e⟩ | h
        · obtain ⟨j, hj, e2⟩ := List.mem_iff_getElem.mp hk
          exact ⟨0, j, by simp, by simpa using hj, by rw [← e]; simp only [List.getD_cons_zero]; rw [getD_get (d := t0) hj, e2]⟩
        · obtain ⟨s, k, h1, h2, e⟩ := ih h
          exact ⟨s + 1, k, by simpa using h1, by simpa using h2, by rw [e]; simp⟩
    exact key t.sys hp
/-! Dimensions. -/
def hasD (t : T) (i : Int) : Bool := decide (i < 24) && (dimsT t).testBit i.toNat
theorem fold_bit {α : Type} (f : α → Nat) (i : Nat) : ∀ (l : List α) (a : Nat), (l.foldl (fun a x => a ||| f x) a).testBit i = true ↔ a.testBit i = true ∨ ∃ x, x ∈ l ∧ (f x).testBit i = true
  | [], a => by simp
  | x :: l, a => by
    rw [List.foldl_cons, fold_bit f i l, Nat.testBit_or]
    simp only [Bool.or_eq_true, List.mem_cons, exists_eq_or_imp, or_assoc]
theorem part_bit {p : Part} {i : Nat} (hi : i < 24) (hb : bindsIn p.2.1 p.2.2) : (dimsPart p).testBit i = hasD p.1 ((i : Int) + p.2.2) := by
  unfold dimsPart dimsPartG hasD
  unfold bindsIn at hb
  split
  · rename_i h
    simp only at h
    rw [drop0_bit _ _ (dims_lt _), h]
    by_cases h2 : (i : Int) + 1 < 24
    · rw [decide_eq_true h2, Bool.true_and]
      congr 1
    · rw [decide_eq_false h2, Bool.false_and]
      exact Nat.testBit_lt_two_pow (Nat.lt_of_lt_of_le (dims_lt p.1) (Nat.pow_le_pow_right (n := 2) (j := i + 1) (by omega) (show 24 ≤ i + 1 by omega)))
  · rename_i h
    simp only at h
    have h0 : p.2.2 = 0 := by omega
    rw [h0, Int.add_zero, decide_eq_true (show (i : Int) < 24 by omega), Bool.true_and]
    simp
end Go.Hy
namespace Go.Hy
/-! ### A term of which every node is as it may be -/
def headOK (k n : Int) (nm : ByteArray) (r : List Cl) : Prop :=
  (k ≠ 1 → n = 0) ∧ (k ≠ 2 → nm.toList = (ByteArray.mk #[]).toList) ∧ (k = 1 → r = [] ∧ 0 ≤ n) ∧ (k = 2 → r = [] ∧ nameOK nm = true) ∧ (k = 13 ∨ k = 21 ∨ k = 26 → fRight r = true) ∧ (k = 14 → faceRight r = true) ∧ (k ≠ 13 ∧ k ≠ 21 ∧ k ≠ 26 ∧ k ≠ 14 → r = [])
mutual
def fineT : T → Prop
  | .mk k n nm r ks ss => headOK k n nm r ∧ kidsN k = (ks.length : Int) ∧ (partsN k = 0 → ss = []) ∧ fineL ks ∧ fineB k ss
def fineL : List T → Prop
  | [] => True
  | t :: ts => fineT t ∧ fineL ts
def fineB (k : Int) : List Br → Prop
  | [] => True
  | .mk f ks :: bs => (ks.length : Int) = partsN k ∧ faceRight f = true ∧ fineL ks ∧ fineB k bs
end
theorem partsN_zero {k : Int} (h : k = 1 ∨ k = 2 ∨ k = 13 ∨ k = 21 ∨ k = 26 ∨ k = 14) : partsN k = 0 := by
  unfold partsN
  rcases h with h | h | h | h | h | h <;> subst h <;> decide
theorem within_24 (l : List Cl) {d : Int} (h : 24 ≤ d) : within l d = true := by unfold within; rw [decide_eq_true h]; rfl
theorem len_nil {α : Type} {l : List α} : ((l.length : Int) = 0) ↔ l = [] := by
  constructor
  · intro h; exact List.eq_nil_of_length_eq_zero (by omega)
  · rintro rfl; rfl
theorem own24_iff {k n : Int} {nm : ByteArray} {r : List Cl} {ks : List T} {ss : List Br} {d : Int} (hd : 24 ≤ d) : ownP (.mk k n nm r ks ss) (-1) d = true ↔ headOK k n nm r ∧ kidsN k = (ks.length : Int) ∧ (partsN k = 0 → ss = []) ∧ ∀ b, b ∈ ss → (b.kids.length : Int) = partsN k ∧ faceRight b.face = true := by
  have hB : ∀ b : Br, ownB (.mk k n nm r ks ss) d b = (decide ((b.kids.length : Int) = partsN k) && faceRight b.face) := fun b => by
    unfold ownB; rw [within_24 _ hd, Bool.and_true]; rfl
  have hL : (0 : Int) < (ss.length : Int) ↔ ss ≠ [] := by
    constructor
    · intro h e; subst e; simp at h
    · intro h; have := List.length_pos_iff.mpr h; omega
  have hs : ∀ p : Bool, (ss.all (ownB (.mk k n nm r ks ss) d) = true) ↔ ∀ b, b ∈ ss → (b.kids.length : Int) = partsN k ∧ faceRight b.face = true := fun _ => by
    rw [List.all_eq_true]
    exact forall_congr' fun b => forall_congr' fun _ => by rw [hB]; simp
  unfold ownP own1 headOK
  simp only [T.kind, T.n, T.name, T.r, T.kids, T.sys, within_24 _ hd, Bool.and_true, Bool.and_eq_true, Bool.not_eq_true', Bool.or_eq_false_iff, Bool.and_eq_false_iff, decide_eq_false_iff_not, Decidable.not_not, ne_eq, Int.not_lt, Bool.not_eq_false', beq_iff_eq]
  constructor
  · rintro ⟨⟨⟨⟨h1, h2⟩, h3⟩, h4⟩, h5⟩
    replace h1 : kidsN k = (ks.length : Int) := Decidable.not_not.mp (of_decide_eq_false h1)
    replace h2 : k = 1 ∨ n = 0 := h2.imp (fun h => Decidable.not_not.mp (of_decide_eq_false h)) (fun h => Decidable.not_not.mp (of_decide_eq_false h))
    replace h3 : k = 2 ∨ nm.toList = (ByteArray.mk #[]).toList := h3.imp (fun h => Decidable.not_not.mp (of_decide_eq_false h)) id
    replace h4 : ¬ partsN k = 0 ∨ ¬ (0 : Int) < (ss.length : Int) := h4.imp (fun h => of_decide_eq_false h) (fun h => of_decide_eq_false h)
    have hss : partsN k = 0 → ss = [] := by
      intro h
      rcases h4 with h4 | h4
      · exact absurd h h4
      · exact List.eq_nil_of_length_eq_zero (by omega)
    split at h5
    · rename_i hk
      have he := hss (partsN_zero (by omega))
      subst he
      simp only [Bool.and_eq_true, decide_eq_true_eq] at h5
      exact ⟨⟨by omega, fun _ => h3.resolve_left (by omega), fun _ => ⟨len_nil.mp (of_decide_eq_true h5.1.1), of_decide_eq_true h5.1.2⟩, by omega, by omega, by omega, fun _ => len_nil.mp (of_decide_eq_true h5.1.1)⟩, h1, hss, fun b hb => by cases hb⟩
    · split at h5
      · rename_i hk1 hk
        have he := hss (partsN_zero (by omega))
        subst he
        simp only [Bool.and_eq_true, decide_eq_true_eq] at h5
        exact ⟨⟨by omega, fun h => absurd hk h, by omega, fun _ => ⟨len_nil.mp (of_decide_eq_true h5.1), h5.2⟩, by omega, by omega, fun _ => len_nil.mp (of_decide_eq_true h5.1)⟩, h1, hss, fun b hb => by cases hb⟩
      · split at h5
        · rename_i hk1 hk2 hk
          have he := hss (partsN_zero (by omega))
          subst he
          exact ⟨⟨by omega, fun _ => h3.resolve_left (by omega), by omega, by omega, fun _ => h5, by omega, by omega⟩, h1, hss, fun b hb => by cases hb⟩
        · split at h5
          · rename_i hk1 hk2 hk3 hk
            have he := hss (partsN_zero (by omega))
            subst he
            exact ⟨⟨by omega, fun _ => h3.resolve_left (by omega), by omega, by omega, by omega, fun _ => h5, by omega⟩, h1, hss, fun b hb => by cases hb⟩
          · rename_i hk1 hk2 hk3 hk4
            simp only [Bool.and_eq_true, decide_eq_true_eq] at h5
            exact ⟨⟨by omega, fun _ => h3.resolve_left (by omega), by omega, by omega, by omega, by omega, fun _ => len_nil.mp (of_decide_eq_true h5.2)⟩, h1, hss, (hs true).mp h5.1⟩
  · rintro ⟨⟨a1, a2, a3, a4, a5, a6, a7⟩, b1, b2, b3⟩
    refine ⟨⟨⟨⟨decide_eq_false (Decidable.not_not.mpr b1), ?_⟩, ?_⟩, ?_⟩, ?_⟩
    · by_cases h : k = 1
      · exact .inl (decide_eq_false (Decidable.not_not.mpr h))
      · exact .inr (decide_eq_false (Decidable.not_not.mpr (a1 h)))
    · by_cases h : k = 2
      · exact .inl (decide_eq_false (Decidable.not_not.mpr h))
      · exact .inr (a2 h)
    · by_cases h : partsN k = 0
      · exact .inr (decide_eq_false (by rw [b2 h]; decide))
      · exact .inl (decide_eq_false h)
    · split
      · rename_i h; simp [(a3 h).1, (a3 h).2]
      · split
        · rename_i h; simp [(a4 h).1, (a4 h).2]
        · split
          · rename_i h; exact a5 h
          · split
            · rename_i h; exact a6 h
            · rename_i h1 h2 h3 h4
              rw [Bool.and_eq_true, (hs true)]
              exact ⟨b3, by simp [a7 (by omega)]⟩
theorem fineL_iff : ∀ {ts : List T}, fineL ts ↔ ∀ t, t ∈ ts → fineT t
  | [] => by simp [fineL]
  | t :: ts => by simp [fineL, fineL_iff (ts := ts)]
theorem fineB_iff {k : Int} : ∀ {bs : List Br}, fineB k bs ↔ ∀ b, b ∈ bs → (b.kids.length : Int) = partsN k ∧ faceRight b.face = true ∧ fineL b.kids
  | [] => by simp [fineB]
  | .mk f ks :: bs => by
    simp only [fineB, fineB_iff (bs := bs), List.forall_mem_cons, Br.kids, Br.face]
    constructor
    · rintro ⟨h1, h2, h3, h4⟩; exact ⟨⟨h1, h2, h3⟩, h4⟩
    · rintro ⟨⟨h1, h2, h3⟩, h4⟩; exact ⟨h1, h2, h3, h4⟩
theorem fineT_iff {t : T} : fineT t ↔ headOK t.kind t.n t.name t.r ∧ kidsN t.kind = (t.kids.length : Int) ∧ (partsN t.kind = 0 → t.sys = []) ∧ fineL t.kids ∧ fineB t.kind t.sys := by
  obtain ⟨k, n, nm, r, ks, ss⟩ := t
  simp only [fineT, T.kind, T.n, T.name, T.r, T.kids, T.sys]
theorem fine_parts {t : T} : fineT t ↔ (∀ d : Int, 24 ≤ d → ownP t (-1) d = true) ∧ ∀ p, p ∈ parts t → fineT p.1 := by
  rw [fineT_iff, fineL_iff, fineB_iff]
  have ho : ∀ d : Int, 24 ≤ d → (ownP t (-1) d = true ↔ headOK t.kind t.n t.name t.r ∧ kidsN t.kind = (t.kids.length : Int) ∧ (partsN t.kind = 0 → t.sys = []) ∧ ∀ b, b ∈ t.sys → (b.kids.length : Int) = partsN t.kind ∧ faceRight b.face = true) := by
    intro d hd
    obtain ⟨k, n, nm, r, ks, ss⟩ := t
    exact own24_iff hd
  constructor
  · rintro ⟨h1, h2, h3, h4, h5⟩
    refine ⟨fun d hd => (ho d hd).mpr ⟨h1, h2, h3, fun b hb => ⟨(h5 b hb).1, (h5 b hb).2.1⟩⟩, fun p hp => ?_⟩
    rcases part_cases hp with ⟨i, hi, rfl⟩ | ⟨s, k, hs, hk, rfl⟩
    · exact h4 _ (getD_mem hi)
    · exact fineL_iff.mp (h5 _ (getD_mem hs)).2.2 _ (getD_mem hk)
  · rintro ⟨h1, h2⟩
    obtain ⟨a1, a2, a3, a4⟩ := (ho 24 (by omega)).mp (h1 24 (by omega))
    refine ⟨a1, a2, a3, fun k hk => ?_, fun b hb => ⟨(a4 b hb).1, (a4 b hb).2, fineL_iff.mpr fun k hk => ?_⟩⟩
    · obtain ⟨p, hp, e⟩ := kid_mem_parts hk; exact e ▸ h2 p hp
    · obtain ⟨p, hp, e⟩ := sys_mem_parts hb hk; exact e ▸ h2 p hp
theorem all_fine : ∀ (t : T) (d : Int), 24 ≤ d → (allP t (-1) d false = true ↔ fineT t) := T.ind fun t ih d hd => by
  rw [all_iff, fine_parts]
  have hw : ∀ p : Part, IntKind.i64.wrap (-1 + if (-1 : Int) < 0 then 0 else p.2.1) = -1 := fun p => by rw [if_pos (by decide)]; decide
  constructor
  · rintro ⟨_, h2, h3⟩
    refine ⟨fun d' hd' => ?_, fun p hp => ?_⟩
    · obtain ⟨k, n, nm, r, ks, ss⟩ := t
      exact (own24_iff hd').mpr ((own24_iff hd).mp h2)
    · have h4 := h3 p hp
      rw [hw] at h4
      have h5 := parts_01 hp
      exact (ih p hp (d + p.2.2) (by omega)).mp h4
  · rintro ⟨h1, h2⟩
    refine ⟨by simp, h1 d hd, fun p hp => ?_⟩
    rw [hw]
    have h5 := parts_01 hp
    exact (ih p hp (d + p.2.2) (by omega)).mpr (h2 p hp)
theorem formed_fine {t : T} : formedP t = 0 ↔ sized t = 0 ∧ fineT t := by rw [formed_zero, all_fine t 24 (by omega)]
/-! ### What a way keeps -/
section
variable {C : Type} {A : Tr C}
mutual
theorem trav_fine (ho : ∀ c k n nm r p, headOK k n nm r → A.own c k n nm r = .ok (.inr p) → headOK k p.1 nm p.2) (hi : ∀ c k n nm r u, headOK k n nm r → A.own c k n nm r = .ok (.inl u) → fineT u) (hf : ∀ c f f', faceRight f = true → A.face c f = .ok (some f') → faceRight f' = true) : ∀ {t : T} {c : C} {u : T}, fineT t → trav A t c = .ok u → fineT u
  | .mk k n nm r ks ss, c, u, h, hu => by
    simp only [fineT] at h
    obtain ⟨h1, h2, h3, h4, h5⟩ := h
    rw [trav_eq] at hu
    simp only [T.kind, T.n, T.name, T.r, T.kids, T.sys] at hu
    obtain ⟨o, h9, hu⟩ := Res1.bind_ok hu
    cases o with
    | inl v => injection hu with hu; subst hu; exact hi _ _ _ _ _ _ h1 h9
    | inr p =>
      obtain ⟨ks', h10, hu⟩ := Res1.bind_ok hu
      obtain ⟨ss', h11, hu⟩ := Res1.bind_ok hu
      injection hu with hu
      subst hu
      simp only [fineT]
      refine ⟨ho _ _ _ _ _ _ h1 h9, by rw [travL_len h10]; exact h2, fun h => ?_, travL_fine ho hi hf h4 h10, travB_fine ho hi hf h5 h11⟩
      have h12 := travB_len h11
      rw [h3 h] at h12
      exact List.eq_nil_of_length_eq_zero (Nat.le_zero.mp h12)
theorem travL_fine (ho : ∀ c k n nm r p, headOK k n nm r → A.own c k n nm r = .ok (.inr p) → headOK k p.1 nm p.2) (hi : ∀ c k n nm r u, headOK k n nm r → A.own c k n nm r = .ok (.inl u) → fineT u) (hf : ∀ c f f', faceRight f = true → A.face c f = .ok (some f') → faceRight f' = true) {kd : Int} : ∀ {ts : List T} {i : Nat} {c : C} {us : List T}, fineL ts → travL A kd i ts c = .ok us → fineL us
  | [], i, c, us, h, hu => by rw [travL_nil] at hu; injection hu with hu; subst hu; simp only [fineL]
  | t :: ts, i, c, us, h, hu => by
    simp only [fineL] at h
    rw [travL_cons] at hu
    obtain ⟨c', _, hu⟩ := Res1.bind_ok hu
    obtain ⟨t', h2, hu⟩ := Res1.bind_ok hu
    obtain ⟨ts', h3, hu⟩ := Res1.bind_ok hu
    injection hu with hu
    subst hu
    simp only [fineL]
    exact ⟨trav_fine ho hi hf h.1 h2, travL_fine ho hi hf h.2 h3⟩
theorem travS_fine (ho : ∀ c k n nm r p, headOK k n nm r → A.own c k n nm r = .ok (.inr p) → headOK k p.1 nm p.2) (hi : ∀ c k n nm r u, headOK k n nm r → A.own c k n nm r = .ok (.inl u) → fineT u) (hf : ∀ c f f', faceRight f = true → A.face c f = .ok (some f') → faceRight f' = true) {kd : Int} : ∀ {ts : List T} {c : C} {us : List T}, fineL ts → travS A kd ts c = .ok us → fineL us
  | [], c, us, h, hu => by rw [travS_nil] at hu; injection hu with hu; subst hu; simp only [fineL]
  | t :: ts, c, us, h, hu => by
    simp only [fineL] at h
    rw [travS_cons] at hu
    obtain ⟨c', _, hu⟩ := Res1.bind_ok hu
    obtain ⟨t', h2, hu⟩ := Res1.bind_ok hu
    obtain ⟨ts', h3, hu⟩ := Res1.bind_ok hu
    injection hu with hu
    subst hu
    simp only [fineL]
    exact ⟨trav_fine ho hi hf h.1 h2, travS_fine ho hi hf h.2 h3⟩
theorem travB_fine (ho : ∀ c k n nm r p, headOK k n nm r → A.own c k n nm r = .ok (.inr p) → headOK k p.1 nm p.2) (hi : ∀ c k n nm r u, headOK k n nm r → A.own c k n nm r = .ok (.inl u) → fineT u) (hf : ∀ c f f', faceRight f = true → A.face c f = .ok (some f') → faceRight f' = true) {kd : Int} : ∀ {bs : List Br} {c : C} {us : List Br}, fineB kd bs → travB A kd bs c = .ok us → fineB kd us
  | [], c, us, h, hu => by rw [travB_nil] at hu; injection hu with hu; subst hu; simp only [fineB]
  | .mk f ks :: bs, c, us, h, hu => by
    simp only [fineB] at h
    obtain ⟨h1, h2, h3, h4⟩ := h
    rw [travB_cons] at hu
    simp only [Br.face, Br.kids] at hu
    obtain ⟨o, h5, hu⟩ := Res1.bind_ok hu
    cases o with
    | none => exact travB_fine ho hi hf h4 hu
    | some f' =>
      obtain ⟨ks', h6, hu⟩ := Res1.bind_ok hu
      obtain ⟨bs', h7, hu⟩ := Res1.bind_ok hu
      injection hu with hu
      subst hu
      simp only [fineB]
      exact ⟨by rw [travS_len h6]; exact h1, hf _ _ _ h2 h5, travS_fine ho hi hf h3 h6, travB_fine ho hi hf h4 h7⟩
end
end
/-! ### One way, and then another one -/
section
variable {CA CB CC : Type} {A : Tr CA} {B : Tr CB} {D : Tr CC} (R : CA → CB → CC → Prop)
variable {R}
end
/-! ### Where one way is told, another one is -/
section
variable {CA CC : Type} {A : Tr CA} {D : Tr CC} (R : CA → CC → Prop)
structure Told : Prop where
  inl : ∀ ca cc k n nm r u, R ca cc → headOK k n nm r → A.own ca k n nm r = .ok (.inl u) → ∃ w, D.own cc k n nm r = .ok (.inl w)
  inr : ∀ ca cc k n nm r p, R ca cc → headOK k n nm r → A.own ca k n nm r = .ok (.inr p) → ∃ w, D.own cc k n nm r = .ok w
  none : ∀ ca cc f, R ca cc → faceRight f = true → A.face ca f = .ok none → D.face cc f = .ok none
  some : ∀ ca cc f f', R ca cc → faceRight f = true → A.face ca f = .ok (some f') → ∃ w, D.face cc f = .ok w
  kid : ∀ ca cc b ca', R ca cc → A.kid ca b = .ok ca' → ∃ cc', D.kid cc b = .ok cc' ∧ R ca' cc'
variable {R}
theorem Res1.bind_ex {α β : Type} {x : Res1 α} {k : α → Res1 β} (h : ∃ a, x = .ok a) (h2 : ∀ a, x = .ok a → ∃ b, k a = .ok b) : ∃ b, x.bind k = .ok b := by
  obtain ⟨a, ha⟩ := h
  obtain ⟨b, hb⟩ := h2 a ha
  exact ⟨b, by rw [ha]; exact hb⟩
mutual
theorem told (F : Told (A := A) (D := D) R) : ∀ {t u : T} {ca : CA} {cc : CC}, fineT t → R ca cc → trav A t ca = .ok u → ∃ w, trav D t cc = .ok w
  | .mk k n nm r ks ss, u, ca, cc, h, hr, hu => by
    simp only [fineT] at h
    obtain ⟨h1, h2, h3, h4, h5⟩ := h
    rw [trav_eq] at hu
    simp only [T.kind, T.n, T.name, T.r, T.kids, T.sys] at hu
    obtain ⟨o, h9, hu⟩ := Res1.bind_ok hu
    rw [trav_eq]
    simp only [T.kind, T.n, T.name, T.r, T.kids, T.sys]
    cases o with
    | inl v =>
      obtain ⟨w, hw⟩ := F.inl _ _ _ _ _ _ _ hr h1 h9
      exact ⟨w, by rw [hw]; rfl⟩
    | inr p =>
      obtain ⟨ks', h10, hu⟩ := Res1.bind_ok hu
      obtain ⟨ss', h11, hu⟩ := Res1.bind_ok hu
      refine Res1.bind_ex (F.inr _ _ _ _ _ _ _ hr h1 h9) (fun o _ => ?_)
      cases o with
      | inl v => exact ⟨v, rfl⟩
      | inr q =>
        refine Res1.bind_ex (toldL F h4 hr h10) (fun a _ => Res1.bind_ex (toldB F h5 hr h11) (fun b _ => ⟨_, rfl⟩))
theorem toldL (F : Told (A := A) (D := D) R) {kd : Int} : ∀ {ts us : List T} {i : Nat} {ca : CA} {cc : CC}, fineL ts → R ca cc → travL A kd i ts ca = .ok us → ∃ w, travL D kd i ts cc = .ok w
  | [], us, i, ca, cc, h, hr, hu => ⟨[], travL_nil _ _ _⟩
  | t :: ts, us, i, ca, cc, h, hr, hu => by
    simp only [fineL] at h
    rw [travL_cons] at hu
    obtain ⟨c', h1, hu⟩ := Res1.bind_ok hu
    obtain ⟨t', h2, hu⟩ := Res1.bind_ok hu
    obtain ⟨ts', h3, hu⟩ := Res1.bind_ok hu
    obtain ⟨cc', e2, hr'⟩ := F.kid _ _ _ _ hr h1
    rw [travL_cons]
    refine Res1.bind_ex ⟨cc', e2⟩ (fun a9 ha => ?_)
    rw [e2] at ha
    injection ha with ha
    subst ha
    exact Res1.bind_ex (told F h.1 hr' h2) (fun a _ => Res1.bind_ex (toldL F h.2 hr h3) (fun b _ => ⟨_, rfl⟩))
theorem toldS (F : Told (A := A) (D := D) R) {kd : Int} : ∀ {ts us : List T} {ca : CA} {cc : CC}, fineL ts → R ca cc → travS A kd ts ca = .ok us → ∃ w, travS D kd ts cc = .ok w
  | [], us, ca, cc, h, hr, hu => ⟨[], travS_nil _ _⟩
  | t :: ts, us, ca, cc, h, hr, hu => by
    simp only [fineL] at h
    rw [travS_cons] at hu
    obtain ⟨c', h1, hu⟩ := Res1.bind_ok hu
    obtain ⟨t', h2, hu⟩ := Res1.bind_ok hu
    obtain ⟨ts', h3, hu⟩ := Res1.bind_ok hu
    obtain ⟨cc', e2, hr'⟩ := F.kid _ _ _ _ hr h1
    rw [travS_cons]
    refine Res1.bind_ex ⟨cc', e2⟩ (fun a9 ha => ?_)
    rw [e2] at ha
    injection ha with ha
    subst ha
    exact Res1.bind_ex (told F h.1 hr' h2) (fun a _ => Res1.bind_ex (toldS F h.2 hr h3) (fun b _ => ⟨_, rfl⟩))
theorem toldB (F : Told (A := A) (D := D) R) {kd : Int} : ∀ {bs us : List Br} {ca : CA} {cc : CC}, fineB kd bs → R ca cc → travB A kd bs ca = .ok us → ∃ w, travB D kd bs cc = .ok w
  | [], us, ca, cc, h, hr, hu => ⟨[], travB_nil _ _⟩
  | .mk f ks :: bs, us, ca, cc, h, hr, hu => by
    simp only [fineB] at h
    obtain ⟨h1, h2, h3, h4⟩ := h
    rw [travB_cons] at hu
    simp only [Br.face, Br.kids] at hu
    obtain ⟨o, h5, hu⟩ := Res1.bind_ok hu
    rw [travB_cons]
    simp only [Br.face, Br.kids]
    cases o with
    | none =>
      rw [F.none _ _ _ hr h2 h5]
      exact toldB F h4 hr hu
    | some f' =>
      obtain ⟨ks', h6, hu⟩ := Res1.bind_ok hu
      obtain ⟨bs', h7, hu⟩ := Res1.bind_ok hu
      refine Res1.bind_ex (F.some _ _ _ _ hr h2 h5) (fun o _ => ?_)
      cases o with
      | none => exact toldB F h4 hr h7
      | some q => exact Res1.bind_ex (toldS F h3 hr h6) (fun a _ => Res1.bind_ex (toldB F h4 hr h7) (fun b _ => ⟨_, rfl⟩))
end
end
end Go.Hy
namespace Go.Hy
theorem formed_size {t : T} (h : formedP t = 0) : size t ≤ 20000 := by
  unfold formedP at h
  split at h
  · rename_i hs; exact absurd h hs
  · rename_i hs
    simp only [ne_eq, Decidable.not_not, sized] at hs
    split at hs
    · cases hs
    · split at hs
      · cases hs
      · omega
end Go.Hy
namespace Go.Hy
/-! ### Masks, bit by bit -/
theorem maskLift_bit {s : Nat} {f b : Int} (h : (maskLift s f b).1 = 0) (i : Nat) : 0 ≤ f ∧ 0 ≤ b ∧ (maskLift s f b).2.testBit i = ((decide (i < min f.toNat 24) && (s &&& 16777215).testBit i) || (decide (min f.toNat 24 + b.toNat ≤ i) && (s &&& 16777215).testBit (i - b.toNat))) := by
  by_cases h0 : f < 0 ∨ b < 0
  · rw [maskLift, if_pos h0] at h; cases h
  · have hq : ∀ j, (s &&& 16777215).testBit j = true → j < 24 := fun j hj => by rw [and24_bit, Bool.and_eq_true, decide_eq_true_eq] at hj; exact hj.1
    refine ⟨by omega, by omega, ?_⟩
    generalize hF : min f.toNat 24 = F at *
    by_cases h1 : andNot32 (s &&& 16777215) (2 ^ (min f.toNat 24) - 1) = 0
    · rw [maskLift, if_neg h0, if_pos h1]
      show ((s &&& 16777215) &&& (2 ^ (min f.toNat 24) - 1)).testBit i = _
      rw [hF] at h1 ⊢
      rw [Nat.testBit_and, mask_bit]
      have h2 : (decide (F + b.toNat ≤ i) && (s &&& 16777215).testBit (i - b.toNat)) = false := by
        cases h3 : (s &&& 16777215).testBit (i - b.toNat) with
        | false => rw [Bool.and_false]
        | true =>
          rw [Bool.and_true]
          refine decide_eq_false (fun h4 => ?_)
          have h5 : (andNot32 (s &&& 16777215) (2 ^ F - 1)).testBit (i - b.toNat) = true := by
            rw [andNot32_bit, mask_bit, h3, decide_eq_true (by have := hq _ h3; omega), decide_eq_false (by omega)]; rfl
          rw [h1, Nat.zero_testBit] at h5
          cases h5
      rw [h2, Bool.or_false, Bool.and_comm]
    · by_cases h2 : 24 ≤ b ∨ 16777215 < andNot32 (s &&& 16777215) (2 ^ (min f.toNat 24) - 1) * 2 ^ b.toNat
      · rw [maskLift, if_neg h0, if_neg h1, if_pos h2] at h; cases h
      · rw [maskLift, if_neg h0, if_neg h1, if_neg h2]
        show (((s &&& 16777215) &&& (2 ^ (min f.toNat 24) - 1)) ||| (andNot32 (s &&& 16777215) (2 ^ (min f.toNat 24) - 1) * 2 ^ b.toNat)).testBit i = _
        rw [hF, Nat.testBit_or, Nat.testBit_and, mask_bit, Nat.testBit_mul_two_pow, andNot32_bit, mask_bit]
        cases h3 : (s &&& 16777215).testBit (i - b.toNat) with
        | false => simp [Bool.and_comm]
        | true =>
          have h4 := hq _ h3
          rw [decide_eq_true (show i - b.toNat < 32 by omega)]
          simp only [Bool.and_true, Bool.true_and]
          rw [Bool.and_comm]
          congr 1
          by_cases h5 : F + b.toNat ≤ i
          · rw [decide_eq_true (show b.toNat ≤ i by omega), decide_eq_false (show ¬ i - b.toNat < F by omega), decide_eq_true h5]; rfl
          · rw [decide_eq_false h5]
            by_cases h6 : b.toNat ≤ i
            · rw [decide_eq_true h6, decide_eq_true (show i - b.toNat < F by omega)]; rfl
            · rw [decide_eq_false h6]; rfl
theorem maskLift_clash {p q : Nat} {f b : Int} (hp : (maskLift p f b).1 = 0) (hq : (maskLift q f b).1 = 0) (h : p &&& q = 0) : (maskLift p f b).2 &&& (maskLift q f b).2 = 0 := by
  refine Nat.eq_of_testBit_eq (fun i => ?_)
  have hb : ∀ j, (p &&& 16777215).testBit j = true → (q &&& 16777215).testBit j = true → False := fun j h1 h2 => by
    rw [and24_bit, Bool.and_eq_true] at h1 h2
    have : (p &&& q).testBit j = true := by rw [Nat.testBit_and, h1.2, h2.2]; rfl
    rw [h, Nat.zero_testBit] at this
    cases this
  rw [Nat.testBit_and, (maskLift_bit hp i).2.2, (maskLift_bit hq i).2.2, Nat.zero_testBit]
  cases h1 : (p &&& 16777215).testBit i <;> cases h2 : (q &&& 16777215).testBit i <;> cases h3 : (p &&& 16777215).testBit (i - b.toNat) <;> cases h4 : (q &&& 16777215).testBit (i - b.toNat) <;> first
    | exact (hb _ h1 h2).elim
    | exact (hb _ h3 h4).elim
    | (simp only [Bool.and_true, Bool.and_false, Bool.or_false, Bool.false_or, Bool.and_eq_false_iff, decide_eq_false_iff_not]; done)
    | (by_cases h5 : i < min f.toNat 24
       · rw [decide_eq_true h5, decide_eq_false (show ¬ min f.toNat 24 + b.toNat ≤ i by omega)]; simp
       · rw [decide_eq_false h5]; simp)
/-! ### Clauses, formulas -/
theorem clLift_ok {c : Cl} {f b : Int} (h : (clLift c f b).1 = 0) : right24 c = true ∧ (maskLift c.pos f b).1 = 0 ∧ (maskLift c.neg f b).1 = 0 ∧ (clLift c f b).2 = ⟨(maskLift c.pos f b).2, (maskLift c.neg f b).2⟩ := by
  unfold clLift at h ⊢
  split at h
  · cases h
  · rename_i h1
    split at h
    · rename_i h2; exact absurd h h2
    · rename_i h2
      split at h
      · rename_i h3; exact absurd h h3
      · rename_i h3
        rw [if_neg h1, if_neg h2, if_neg h3]
        exact ⟨by simpa using h1, Decidable.not_not.mp h2, Decidable.not_not.mp h3, rfl⟩
theorem clLift_clash {c : Cl} {f b : Int} (h : (clLift c f b).1 = 0) (hc : clash c = false) : clash (clLift c f b).2 = false := by
  obtain ⟨_, h1, h2, h3⟩ := clLift_ok h
  rw [h3]
  unfold clash at hc ⊢
  have h4 : c.pos &&& c.neg = 0 := Decidable.not_not.mp (of_decide_eq_false hc)
  exact decide_eq_false (Decidable.not_not.mpr (maskLift_clash h1 h2 h4))
theorem leastF_cases (l : List Cl) : ((leastF l).1 = 0 ∧ l.all right24 = true ∧ (leastF l).2 = refLeast l ∧ (refLeast l).length ≤ 64) ∨ (leastF l).1 = 2 ∨ (leastF l).1 = 3 := by
  unfold leastF
  split
  · exact .inr (.inl rfl)
  · rename_i h1
    split
    · exact .inr (.inr rfl)
    · rename_i h2
      exact .inl ⟨rfl, by simpa using h1, rfl, by omega⟩
theorem leastF_fR {l : List Cl} (h : (leastF l).1 = 0) : fRight (leastF l).2 = true := by
  rcases leastF_cases l with ⟨_, h1, h2, h3⟩ | h1 | h1
  · rw [h2]
    unfold fRight
    rw [Bool.and_eq_true, Bool.and_eq_true, Bool.and_eq_true]
    refine ⟨⟨⟨List.all_eq_true.mpr fun c hc => List.all_eq_true.mp h1 c (refLeast_mem.mp hc).1, sortedC_iff.mpr (refLeast_sorted l)⟩, apart_iff.mpr fun a ha b hb => needless_iff.mp (refLeast_mem.mp ha).2 b (refLeast_mem.mp hb).1⟩, decide_eq_true h3⟩
  · rw [h1] at h; cases h
  · rw [h1] at h; cases h
theorem leastF_sub {l : List Cl} (h : (leastF l).1 = 0) {c : Cl} (hc : c ∈ (leastF l).2) : c ∈ l := by
  rcases leastF_cases l with ⟨_, h1, h2, h3⟩ | h1 | h1
  · rw [h2] at hc; exact (refLeast_mem.mp hc).1
  · rw [h1] at h; cases h
  · rw [h1] at h; cases h
theorem formLift_cases {l : List Cl} {f b : Int} (h : (formLift l f b).1 = 0) : fRight l = true ∧ (∀ c, c ∈ l → (clLift c f b).1 = 0) ∧ formLift l f b = leastF (l.map fun c => (clLift c f b).2) := by
  unfold formLift at h ⊢
  split at h
  · cases h
  · rename_i h1
    split at h
    · rename_i h2; exact absurd h h2
    · rename_i h2
      have h3 : (foldC (fun c => clLift c f b) l).1 = 0 := Decidable.not_not.mp h2
      rw [if_neg h1, if_neg h2]
      exact ⟨by simpa using h1, foldC_iff.mp h3, by rw [foldC_map h3]⟩
theorem formLift_fR {l : List Cl} {f b : Int} (h : (formLift l f b).1 = 0) : fRight (formLift l f b).2 = true := by
  obtain ⟨_, _, h3⟩ := formLift_cases h
  rw [h3] at h ⊢
  exact leastF_fR h
theorem formLift_face {l : List Cl} {f b : Int} (h : (formLift l f b).1 = 0) (hl : faceRight l = true) : faceRight (formLift l f b).2 = true := by
  obtain ⟨_, h2, h3⟩ := formLift_cases h
  have hf := formLift_fR h
  unfold faceRight at hl ⊢
  rw [Bool.and_eq_true, Bool.not_eq_true'] at hl ⊢
  refine ⟨hf, ?_⟩
  rw [List.any_eq_false]
  intro c hc
  rw [h3] at h hc
  obtain ⟨d, hd, rfl⟩ := List.mem_map.mp (leastF_sub h hc)
  have h4 := List.any_eq_false.mp hl.2 d hd
  rw [Bool.not_eq_true] at h4 ⊢
  exact clLift_clash (h2 d hd) h4
theorem rowLift_fR {l g : List Cl} {f b : Int} (h : rowLift b l f = .ok g) (hl : fRight l = true) : fRight g = true := by
  unfold rowLift at h
  split at h
  · injection h with h; subst h; exact hl
  · split at h
    · rename_i h2; injection h with h; subst h; exact formLift_fR h2
    · cases h
theorem rowLift_face {l g : List Cl} {f b : Int} (h : rowLift b l f = .ok g) (hl : faceRight l = true) : faceRight g = true := by
  unfold rowLift at h
  split at h
  · injection h with h; subst h; exact hl
  · split at h
    · rename_i h2; injection h with h; subst h; exact formLift_face h2 hl
    · cases h
theorem fRight_nil : fRight [] = true := by decide
theorem formLift_nil (f b : Int) : formLift [] f b = (0, []) := by
  unfold formLift
  rw [if_neg (by rw [fRight_nil]; decide)]
  have h : foldC (fun c => clLift c f b) [] = (0, []) := rfl
  rw [h, if_neg (by decide)]
  exact leastF_fRight.mp fRight_nil
theorem rowLift_nil (f b : Int) : rowLift b [] f = .ok [] := by
  unfold rowLift
  rw [formLift_nil]
  simp
/-! ### Lifted terms are formed -/
theorem lift_fine {vb db : Int} (hv : 0 ≤ vb) {t u : T} {c : Int × Int} (h : fineT t) (hu : trav (liftTr vb db) t c = .ok u) : fineT u := by
  refine trav_fine (A := liftTr vb db) ?_ ?_ ?_ h hu
  · intro c k n nm r p h ho
    obtain ⟨h1, h2, h3, h4, h5, h6, h7⟩ := h
    obtain ⟨g, hg, ho⟩ := Res1.bind_ok (x := rowLift db r c.2) ho
    have hnil : r = [] → g = [] := fun e => by rw [e, rowLift_nil] at hg; injection hg with hg; exact hg.symm
    have key : ∀ n', (k ≠ 1 → n' = n) → (k = 1 → 0 ≤ n') → headOK k n' nm g := fun n' e1 e2 =>
      ⟨fun hk => by rw [e1 hk]; exact h1 hk, h2, fun hk => ⟨hnil (h3 hk).1, e2 hk⟩, fun hk => ⟨hnil (h4 hk).1, (h4 hk).2⟩, fun hk => rowLift_fR hg (h5 hk), fun hk => rowLift_face hg (h6 hk), fun hk => hnil (h7 hk)⟩
    split at ho
    · rename_i hk
      split at ho
      · cases ho
      · injection ho with ho; injection ho with ho; subst ho
        exact key _ (fun h => absurd hk.1 h) (fun h => by have := (h3 h).2; dsimp only; omega)
    · injection ho with ho; injection ho with ho; subst ho
      exact key _ (fun _ => rfl) (fun h => (h3 h).2)
  · intro c k n nm r u _ ho
    exact absurd ho lift_own_inl
  · intro c f f' hf ho
    obtain ⟨g, hg, ho⟩ := Res1.bind_ok (x := rowLift db f c.2) ho
    injection ho with ho; injection ho with ho; subst ho
    exact rowLift_face hg hf
section
variable {C : Type} {A : Tr C}
theorem travL_of {k : Int} {c : C} : ∀ {ts us : List T} {i : Nat}, travL A k i ts c = .ok us → ∀ u, u ∈ us → ∃ t, t ∈ ts ∧ ∃ c', trav A t c' = .ok u
  | [], us, i, h, u, hu => by rw [travL_nil] at h; injection h with h; subst h; cases hu
  | t :: ts, us, i, h, u, hu => by
    rw [travL_cons] at h
    obtain ⟨c', _, h⟩ := Res1.bind_ok h
    obtain ⟨t', h2, h⟩ := Res1.bind_ok h
    obtain ⟨ts', h3, h⟩ := Res1.bind_ok h
    injection h with h
    subst h
    rcases List.mem_cons.mp hu with rfl | hu
    · exact ⟨t, List.mem_cons_self, c', h2⟩
    · obtain ⟨t9, h9, h10⟩ := travL_of h3 u hu
      exact ⟨t9, List.mem_cons_of_mem _ h9, h10⟩
theorem travS_of {k : Int} {c : C} : ∀ {ts us : List T}, travS A k ts c = .ok us → ∀ u, u ∈ us → ∃ t, t ∈ ts ∧ ∃ c', trav A t c' = .ok u
  | [], us, h, u, hu => by rw [travS_nil] at h; injection h with h; subst h; cases hu
  | t :: ts, us, h, u, hu => by
    rw [travS_cons] at h
    obtain ⟨c', _, h⟩ := Res1.bind_ok h
    obtain ⟨t', h2, h⟩ := Res1.bind_ok h
    obtain ⟨ts', h3, h⟩ := Res1.bind_ok h
    injection h with h
    subst h
    rcases List.mem_cons.mp hu with rfl | hu
    · exact ⟨t, List.mem_cons_self, c', h2⟩
    · obtain ⟨t9, h9, h10⟩ := travS_of h3 u hu
      exact ⟨t9, List.mem_cons_of_mem _ h9, h10⟩
theorem travB_of {k : Int} {c : C} : ∀ {bs us : List Br}, travB A k bs c = .ok us → ∀ u, u ∈ us → ∃ b, b ∈ bs ∧ ∀ x, x ∈ u.kids → ∃ t, t ∈ b.kids ∧ ∃ c', trav A t c' = .ok x
  | [], us, h, u, hu => by rw [travB_nil] at h; injection h with h; subst h; cases hu
  | .mk f ks :: bs, us, h, u, hu => by
    rw [travB_cons] at h
    obtain ⟨o, h1, h⟩ := Res1.bind_ok h
    cases o with
    | none =>
      obtain ⟨b, hb, h9⟩ := travB_of (bs := bs) h u hu
      exact ⟨b, List.mem_cons_of_mem _ hb, h9⟩
    | some f' =>
      obtain ⟨ks', h2, h⟩ := Res1.bind_ok h
      obtain ⟨bs', h3, h⟩ := Res1.bind_ok h
      injection h with h
      subst h
      rcases List.mem_cons.mp hu with rfl | hu
      · exact ⟨.mk f ks, List.mem_cons_self, fun x hx => travS_of h2 x hx⟩
      · obtain ⟨b, hb, h9⟩ := travB_of h3 u hu
        exact ⟨b, List.mem_cons_of_mem _ hb, h9⟩
end
theorem lift_depth {vb db : Int} : ∀ (t : T) {u : T} {c : Int × Int}, trav (liftTr vb db) t c = .ok u → depth u ≤ depth t := T.ind fun t ih u c hu => by
  have h0 := depth_pos t
  rw [show depth t = (depth t - 1) + 1 by omega, depth_le_iff]
  rw [trav_eq] at hu
  obtain ⟨o, h9, hu⟩ := Res1.bind_ok hu
  cases o with
  | inl v => exact absurd h9 lift_own_inl
  | inr p =>
    obtain ⟨ks', h10, hu⟩ := Res1.bind_ok hu
    obtain ⟨ss', h11, hu⟩ := Res1.bind_ok hu
    injection hu with hu
    subst hu
    intro q hq
    rcases part_cases hq with ⟨i, hi, rfl⟩ | ⟨s, k, hs, hk, rfl⟩
    · obtain ⟨x, hx, c', h12⟩ := travL_of h10 _ (getD_mem (d := t0) hi)
      obtain ⟨p', hp', e⟩ := kid_mem_parts hx
      have h13 := part_depth hp'
      have h14 := ih p' hp' (c := c') (by rw [e]; exact h12)
      exact Nat.le_trans h14 (by omega)
    · obtain ⟨b, hb, h12⟩ := travB_of h11 _ (getD_mem (d := br0) hs)
      obtain ⟨x, hx, c', h13⟩ := h12 _ (getD_mem (d := t0) hk)
      obtain ⟨p', hp', e⟩ := sys_mem_parts hb hx
      have h14 := part_depth hp'
      have h15 := ih p' hp' (c := c') (by rw [e]; exact h13)
      exact Nat.le_trans h15 (by omega)
theorem lift_formed {vb db : Int} (hv : 0 ≤ vb) {t u : T} {c : Int × Int} (h : formedP t = 0) (hu : trav (liftTr vb db) t c = .ok u) : formedP u = 0 := by
  obtain ⟨h1, h2⟩ := formed_fine.mp h
  obtain ⟨h3, h4⟩ := sized_zero.mp h1
  exact formed_fine.mpr ⟨sized_zero.mpr ⟨Nat.le_trans (lift_depth t hu) h3, by rw [lift_size hu]; exact h4⟩, lift_fine hv h2 hu⟩
/-! ### Lifts, one behind the other -/
theorem rowLift_zero (l : List Cl) (f : Int) : rowLift 0 l f = .ok l := by unfold rowLift; rw [if_pos (.inl rfl)]
/-- What liftTr makes of a node. -/
theorem lift_own_eq {vb db : Int} {c : Int × Int} {k n : Int} {nm : ByteArray} {r : List Cl} : (liftTr vb db).own c k n nm r = (rowLift db r c.2).bind fun r' => if k = 1 ∧ c.1 ≤ n ∧ 1000000000 - vb < n then .bad 100 else .ok (.inr (liftN vb c.1 k n, r')) := by
  simp only [liftTr, liftN]
  congr 1
  funext g
  by_cases h1 : k = 1 ∧ c.1 ≤ n
  · rw [if_pos h1, if_pos h1]
    by_cases h2 : 1000000000 - vb < n
    · rw [if_pos h2, if_pos ⟨h1.1, h1.2, h2⟩]
    · rw [if_neg h2, if_neg (fun h => h2 h.2.2)]
  · rw [if_neg h1, if_neg h1, if_neg (fun h => h1 ⟨h.1, h.2.1⟩)]
theorem lift_own_ok {vb db : Int} {c : Int × Int} {k n : Int} {nm : ByteArray} {r : List Cl} {p : Int × List Cl} (h : (liftTr vb db).own c k n nm r = .ok (.inr p)) : rowLift db r c.2 = .ok p.2 ∧ ¬ (k = 1 ∧ c.1 ≤ n ∧ 1000000000 - vb < n) ∧ p.1 = liftN vb c.1 k n := by
  rw [lift_own_eq] at h
  obtain ⟨g, hg, h⟩ := Res1.bind_ok h
  split at h
  · cases h
  · rename_i h1
    injection h with h; injection h with h; subst h
    exact ⟨hg, h1, rfl⟩
theorem lift_face_def {vb db : Int} {c : Int × Int} {f : List Cl} : (liftTr vb db).face c f = (rowLift db f c.2).bind fun f' => .ok (some f') := rfl
def asRes (r : Res1 T) : Int × T := match r with
  | .ok u => (0, u)
  | .bad e => (e, t0)
theorem most_in64 {b : Int} (h0 : 0 ≤ b) (h1 : b ≤ 1000000) : 0 ≤ most b := by rw [most_of (by unfold in64; omega) h0]; omega
end Go.Hy
namespace Go.Hy
/-! ### May a term be, node by node -/
def headM (v d : Int) (k n : Int) (r : List Cl) : Prop := d ≤ 24 ∧ (k = 1 → n < v) ∧ within r d = true
mutual
def mayT : T → Int → Int → Prop
  | .mk k n nm r ks ss, v, d => headM v d k n r ∧ mayL k 0 ks v d ∧ mayB k ss v d
def mayL (k : Int) : Nat → List T → Int → Int → Prop
  | _, [], _, _ => True
  | i, t :: ts, v, d => mayT t (v + (binds k i).1) (d + (binds k i).2) ∧ mayL k (i + 1) ts v d
def mayS (k : Int) : List T → Int → Int → Prop
  | [], _, _ => True
  | t :: ts, v, d => mayT t v (d + more k) ∧ mayS k ts v d
def mayB (k : Int) : List Br → Int → Int → Prop
  | [], _, _ => True
  | .mk f ks :: bs, v, d => within f d = true ∧ mayS k ks v d ∧ mayB k bs v d
end
theorem within_nil (d : Int) : within [] d = true := by
  unfold within
  rw [show fDims [] = 0 from rfl, Nat.zero_div]
  simp
theorem ownB_iff {t : T} {d : Int} {b : Br} : ownB t d b = true ↔ ((b.kids.length : Int) = partsN t.kind ∧ faceRight b.face = true) ∧ within b.face d = true := by
  unfold ownB
  rw [Bool.and_eq_true, Bool.and_eq_true, decide_eq_true_iff]
theorem own_link {t : T} {v d : Int} (hv : 0 ≤ v) : ownP t v d = true ↔ ownP t (-1) 24 = true ∧ (t.kind = 1 → t.n < v) ∧ within t.r d = true ∧ ∀ b, b ∈ t.sys → within b.face d = true := by
  rw [own_iff, own_iff]
  have hsys : ∀ (h : own1 t = false), partsN t.kind = 0 → t.sys = [] := fun h h0 => by
    unfold own1 at h
    rw [Bool.or_eq_false_iff, Bool.and_eq_false_iff] at h
    rcases h.2 with h2 | h2
    · exact absurd h0 (of_decide_eq_false h2)
    · exact List.eq_nil_of_length_eq_zero (by have := of_decide_eq_false h2; omega)
  have hw24 : ∀ l : List Cl, within l 24 = true := fun l => within_24 l (by omega)
  constructor
  · rintro ⟨h1, h2⟩
    refine (fun (h : (if t.kind = 1 then t.r.length = 0 ∧ 0 ≤ t.n ∧ ((-1 : Int) < 0 ∨ t.n < -1) else if t.kind = 2 then t.r.length = 0 ∧ nameOK t.name = true else if t.kind = 13 ∨ t.kind = 21 ∨ t.kind = 26 then fRight t.r = true ∧ within t.r 24 = true else if t.kind = 14 then faceRight t.r = true ∧ within t.r 24 = true else (∀ x, x ∈ t.sys → ownB t 24 x = true) ∧ t.r.length = 0) ∧ (t.kind = 1 → t.n < v) ∧ within t.r d = true ∧ ∀ b, b ∈ t.sys → within b.face d = true) => ⟨⟨h1, h.1⟩, h.2⟩) ?_
    split at h2
    · rename_i hk
      have hs := hsys h1 (partsN_zero (by omega))
      rw [hs, List.eq_nil_of_length_eq_zero h2.1]
      exact ⟨by rw [if_pos hk]; exact ⟨rfl, h2.2.1, .inl (by decide)⟩, fun _ => by omega, within_nil d, fun b hb => (by cases hb)⟩
    · rename_i hk1
      rw [if_neg hk1]
      split at h2
      · rename_i hk
        have hs := hsys h1 (partsN_zero (by omega))
        rw [hs, List.eq_nil_of_length_eq_zero h2.1]
        exact ⟨by rw [if_pos hk]; exact ⟨rfl, h2.2⟩, fun h => absurd h hk1, within_nil d, fun b hb => (by cases hb)⟩
      · rename_i hk2
        rw [if_neg hk2]
        split at h2
        · rename_i hk
          have hs := hsys h1 (partsN_zero (by omega))
          rw [hs]
          exact ⟨by rw [if_pos hk]; exact ⟨h2.1, hw24 _⟩, fun h => absurd h hk1, h2.2, fun b hb => (by cases hb)⟩
        · rename_i hk3
          rw [if_neg hk3]
          split at h2
          · rename_i hk
            have hs := hsys h1 (partsN_zero (by omega))
            rw [hs]
            exact ⟨by rw [if_pos hk]; exact ⟨h2.1, hw24 _⟩, fun h => absurd h hk1, h2.2, fun b hb => (by cases hb)⟩
          · rename_i hk4
            rw [if_neg hk4, List.eq_nil_of_length_eq_zero h2.2]
            exact ⟨⟨fun x hx => ownB_iff.mpr ⟨(ownB_iff.mp (h2.1 x hx)).1, hw24 _⟩, rfl⟩, fun h => absurd h hk1, within_nil d, fun b hb => (ownB_iff.mp (h2.1 b hb)).2⟩
  · rintro ⟨⟨h1, h2⟩, h3, h4, h5⟩
    refine ⟨h1, ?_⟩
    split at h2
    · rename_i hk; rw [if_pos hk]; exact ⟨h2.1, h2.2.1, .inr (h3 hk)⟩
    · rename_i hk1
      rw [if_neg hk1]
      split at h2
      · rename_i hk; rw [if_pos hk]; exact h2
      · rename_i hk2
        rw [if_neg hk2]
        split at h2
        · rename_i hk; rw [if_pos hk]; exact ⟨h2.1, h4⟩
        · rename_i hk3
          rw [if_neg hk3]
          split at h2
          · rename_i hk; rw [if_pos hk]; exact ⟨h2.1, h4⟩
          · rename_i hk4
            rw [if_neg hk4]
            exact ⟨fun x hx => ownB_iff.mpr ⟨(ownB_iff.mp (h2.1 x hx)).1, h5 x hx⟩, h2.2⟩
theorem mayL_iff {k v d : Int} : ∀ {ts : List T} {i : Nat}, mayL k i ts v d ↔ ∀ j, j < ts.length → mayT (ts.getD j t0) (v + (binds k ((i + j : Nat) : Int)).1) (d + (binds k ((i + j : Nat) : Int)).2)
  | [], i => by simp [mayL]
  | t :: ts, i => by
    simp only [mayL, mayL_iff (ts := ts) (i := i + 1)]
    constructor
    · rintro ⟨h1, h2⟩ j hj
      cases j with
      | zero => simpa using h1
      | succ j => rw [List.getD_cons_succ, show i + (j + 1) = i + 1 + j by omega]; exact h2 j (by simpa using hj)
    · intro h
      refine ⟨by simpa using h 0 (by simp), fun j hj => ?_⟩
      have := h (j + 1) (by simpa using hj)
      rw [List.getD_cons_succ, show i + (j + 1) = i + 1 + j by omega] at this
      exact this
theorem mayS_iff {k v d : Int} : ∀ {ts : List T}, mayS k ts v d ↔ ∀ j, j < ts.length → mayT (ts.getD j t0) v (d + more k)
  | [] => by simp [mayS]
  | t :: ts => by
    simp only [mayS, mayS_iff (ts := ts)]
    constructor
    · rintro ⟨h1, h2⟩ j hj
      cases j with
      | zero => simpa using h1
      | succ j => rw [List.getD_cons_succ]; exact h2 j (by simpa using hj)
    · intro h
      exact ⟨by simpa using h 0 (by simp), fun j hj => by have := h (j + 1) (by simpa using hj); rwa [List.getD_cons_succ] at this⟩
theorem mayB_iff {k v d : Int} : ∀ {bs : List Br}, mayB k bs v d ↔ ∀ b, b ∈ bs → within b.face d = true ∧ mayS k b.kids v d
  | [] => by simp [mayB]
  | .mk f ks :: bs => by
    simp only [mayB, mayB_iff (bs := bs), List.forall_mem_cons, Br.face, Br.kids, and_assoc]
theorem mayT_iff {t : T} {v d : Int} : mayT t v d ↔ headM v d t.kind t.n t.r ∧ (∀ b, b ∈ t.sys → within b.face d = true) ∧ ∀ p, p ∈ parts t → mayT p.1 (v + p.2.1) (d + p.2.2) := by
  have h : mayT t v d ↔ headM v d t.kind t.n t.r ∧ mayL t.kind 0 t.kids v d ∧ mayB t.kind t.sys v d := by
    obtain ⟨k, n, nm, r, ks, ss⟩ := t
    simp only [mayT, T.kind, T.n, T.r, T.kids, T.sys]
  rw [h, mayL_iff, mayB_iff]
  constructor
  · rintro ⟨h1, h2, h3⟩
    refine ⟨h1, fun b hb => (h3 b hb).1, fun p hp => ?_⟩
    rcases part_cases hp with ⟨i, hi, rfl⟩ | ⟨s, k, hs, hk, rfl⟩
    · have := h2 i hi; rw [Nat.zero_add] at this; exact this
    · have := mayS_iff.mp (h3 _ (getD_mem (d := br0) hs)).2 k hk; simpa using this
  · rintro ⟨h1, h2, h3⟩
    refine ⟨h1, fun j hj => ?_, fun b hb => ⟨h2 b hb, mayS_iff.mpr fun k hk => ?_⟩⟩
    · have := h3 _ (List.mem_of_getElem? (parts_kid t j hj)); rw [Nat.zero_add]; exact this
    · obtain ⟨s, hs, e⟩ := List.mem_iff_getElem.mp hb
      have e2 : t.sys.getD s br0 = b := by rw [getD_get (d := br0) hs]; exact e
      have := h3 _ (List.mem_of_getElem? (parts_sys t s k hs (by rw [e2]; exact hk)))
      rw [e2] at this
      simpa using this
theorem may_link : ∀ (t : T) (v d : Int), 0 ≤ v → v + size t ≤ 9000000000000000000 → (allP t v d true = true ↔ fineT t ∧ mayT t v d) := T.ind fun t ih v d h0 hb => by
  rw [all_iff, own_link h0, mayT_iff, fine_parts]
  have hown : ownP t (-1) 24 = true ↔ ∀ d' : Int, 24 ≤ d' → ownP t (-1) d' = true := by
    constructor
    · intro h d' hd'
      obtain ⟨k, n, nm, r, ks, ss⟩ := t
      exact (own24_iff hd').mpr ((own24_iff (by omega)).mp h)
    · intro h; exact h 24 (by omega)
  have key : ∀ p, p ∈ parts t → (allP p.1 (IntKind.i64.wrap (v + if v < 0 then 0 else p.2.1)) (d + p.2.2) true = true ↔ fineT p.1 ∧ mayT p.1 (v + p.2.1) (d + p.2.2)) := fun p hp => by
    have h1 := parts_01 hp
    have h2 := size_part_lt hp
    rw [if_neg (by omega), wrap_id (by unfold in64; omega)]
    exact ih p hp _ _ (by omega) (by omega)
  rw [hown]
  unfold headM
  constructor
  · rintro ⟨h1, ⟨h2, h3, h4, h5⟩, h6⟩
    exact ⟨⟨h2, fun p hp => ((key p hp).mp (h6 p hp)).1⟩, ⟨by simp at h1; omega, h3, h4⟩, h5, fun p hp => ((key p hp).mp (h6 p hp)).2⟩
  · rintro ⟨⟨h2, h6⟩, ⟨h1, h3, h4⟩, h5, h7⟩
    exact ⟨by simp; omega, ⟨h2, h3, h4, h5⟩, fun p hp => (key p hp).mpr ⟨h6 p hp, h7 p hp⟩⟩
theorem right_may {t : T} {v d : Int} (hv : 0 ≤ v) (hb : v ≤ 1000000000000) : rightP t v d = 0 ↔ 0 ≤ d ∧ d ≤ 24 ∧ sized t = 0 ∧ fineT t ∧ mayT t v d := by
  rw [right_zero]
  constructor
  · rintro ⟨_, h2, h3, h4, h5⟩
    have := (sized_zero.mp h4).2
    exact ⟨h2, h3, h4, (may_link t v d hv (by omega)).mp h5⟩
  · rintro ⟨h2, h3, h4, h5⟩
    have := (sized_zero.mp h4).2
    exact ⟨hv, h2, h3, h4, (may_link t v d hv (by omega)).mpr h5⟩
/-! ### A way is told where it is told of each part -/
section
variable {C : Type} {A : Tr C}
theorem travL_ex {k : Int} {c : C} : ∀ {ts : List T} {i : Nat}, (∀ j, j < ts.length → ∃ c' u, A.kid c (binds k ((i + j : Nat) : Int)) = .ok c' ∧ trav A (ts.getD j t0) c' = .ok u) → ∃ us, travL A k i ts c = .ok us
  | [], i, h => ⟨[], travL_nil _ _ _⟩
  | t :: ts, i, h => by
    obtain ⟨c', u, h1, h2⟩ := h 0 (by simp)
    obtain ⟨us, h3⟩ := travL_ex (ts := ts) (i := i + 1) (fun j hj => by
      have := h (j + 1) (by simpa using hj)
      rw [List.getD_cons_succ, show i + (j + 1) = i + 1 + j by omega] at this
      exact this)
    rw [Nat.add_zero] at h1
    rw [List.getD_cons_zero] at h2
    exact ⟨u :: us, by rw [travL_cons, h1]; simp only [Res1.bind]; rw [h2]; simp only; rw [h3]⟩
theorem travS_ex {k : Int} {c : C} : ∀ {ts : List T}, (∀ j, j < ts.length → ∃ c' u, A.kid c (0, more k) = .ok c' ∧ trav A (ts.getD j t0) c' = .ok u) → ∃ us, travS A k ts c = .ok us
  | [], h => ⟨[], travS_nil _ _⟩
  | t :: ts, h => by
    obtain ⟨c', u, h1, h2⟩ := h 0 (by simp)
    obtain ⟨us, h3⟩ := travS_ex (ts := ts) (fun j hj => by
      have := h (j + 1) (by simpa using hj)
      rw [List.getD_cons_succ] at this
      exact this)
    rw [List.getD_cons_zero] at h2
    exact ⟨u :: us, by rw [travS_cons, h1]; simp only [Res1.bind]; rw [h2]; simp only; rw [h3]⟩
end
/-! ### Variables of a term that may be are lifted -/
theorem var_told {a : Int} (ha : 0 ≤ a ∧ a ≤ 1000000) : ∀ (t : T) (v d : Int) (c : Int × Int), mayT t v d → v + size t ≤ 900000000 → ∃ u, trav (liftTr a 0) t c = .ok u := T.ind fun t ih v d c hm hb => by
  obtain ⟨h1, h2, h3⟩ := mayT_iff.mp hm
  have hsz := size_pos' t
  have hown : (liftTr a 0).own c t.kind t.n t.name t.r = .ok (.inr (liftN a c.1 t.kind t.n, t.r)) := by
    rw [lift_own_eq, rowLift_zero]
    simp only [Res1.bind]
    rw [if_neg]
    rintro ⟨h4, _, h5⟩
    have := h1.2.1 h4
    omega
  have hpart : ∀ p, p ∈ parts t → ∀ c', ∃ u, trav (liftTr a 0) p.1 c' = .ok u := fun p hp c' => by
    have h4 := parts_01 hp
    have h5 := size_part_lt hp
    exact ih p hp _ _ c' (h3 p hp) (by omega)
  obtain ⟨ks, hk⟩ := travL_ex (A := liftTr a 0) (k := t.kind) (c := c) (ts := t.kids) (i := 0) (fun j hj => by
    obtain ⟨u, hu⟩ := hpart _ (List.mem_of_getElem? (parts_kid t j hj)) (c.1 + (binds t.kind ((0 + j : Nat) : Int)).1, c.2 + (binds t.kind ((0 + j : Nat) : Int)).2)
    exact ⟨_, u, rfl, hu⟩)
  have hbr : ∀ bs : List Br, (∀ b, b ∈ bs → b ∈ t.sys) → ∃ us, travB (liftTr a 0) t.kind bs c = .ok us := by
    intro bs
    induction bs with
    | nil => intro _; exact ⟨[], travB_nil _ _⟩
    | cons b bs ihb =>
      intro hs
      obtain ⟨us, hus⟩ := ihb (fun x hx => hs x (List.mem_cons_of_mem _ hx))
      obtain ⟨s, hs1, e⟩ := List.mem_iff_getElem.mp (hs b List.mem_cons_self)
      have e2 : t.sys.getD s br0 = b := by rw [getD_get (d := br0) hs1]; exact e
      obtain ⟨xs, hx⟩ := travS_ex (A := liftTr a 0) (k := t.kind) (c := c) (ts := b.kids) (fun j hj => by
        obtain ⟨u, hu⟩ := hpart _ (List.mem_of_getElem? (parts_sys t s j hs1 (by rw [e2]; exact hj))) (c.1 + 0, c.2 + more t.kind)
        rw [e2] at hu
        exact ⟨_, u, rfl, hu⟩)
      exact ⟨.mk b.face xs :: us, by rw [travB_cons, lift_face_def, rowLift_zero]; simp only [Res1.bind]; rw [hx]; simp only; rw [hus]⟩
  obtain ⟨ss, hss⟩ := hbr t.sys (fun b hb => hb)
  exact ⟨_, trav_ok_of hown hk hss⟩
mutual
theorem lift_mayV {a : Int} (ha : 0 ≤ a) : ∀ {t u : T} {c : Int × Int} {v d : Int}, trav (liftTr a 0) t c = .ok u → mayT t v d → mayT u (v + a) d
  | .mk k n nm r ks ss, u, c, v, d, hu, hm => by
    rw [trav_eq] at hu
    simp only [T.kind, T.n, T.name, T.r, T.kids, T.sys] at hu
    obtain ⟨o, h9, hu⟩ := Res1.bind_ok hu
    cases o with
    | inl w => exact absurd h9 lift_own_inl
    | inr p =>
      obtain ⟨ks', h10, hu⟩ := Res1.bind_ok hu
      obtain ⟨ss', h11, hu⟩ := Res1.bind_ok hu
      injection hu with hu
      subst hu
      obtain ⟨h1, h2, h3⟩ := lift_own_ok h9
      rw [rowLift_zero] at h1
      injection h1 with h1
      simp only [mayT] at hm ⊢
      obtain ⟨⟨m1, m2, m3⟩, m4, m5⟩ := hm
      refine ⟨⟨m1, fun hk => ?_, by rw [← h1]; exact m3⟩, lift_mayVL ha h10 m4, lift_mayVB ha h11 m5⟩
      have := m2 hk
      rw [h3]
      unfold liftN
      split <;> omega
termination_by structural t => t
theorem lift_mayVL {a k : Int} (ha : 0 ≤ a) : ∀ {ts us : List T} {i : Nat} {c : Int × Int} {v d : Int}, travL (liftTr a 0) k i ts c = .ok us → mayL k i ts v d → mayL k i us (v + a) d
  | [], us, i, c, v, d, hu, hm => by rw [travL_nil] at hu; injection hu with hu; subst hu; simp only [mayL]
  | t :: ts, us, i, c, v, d, hu, hm => by
    rw [travL_cons, lift_kid] at hu
    obtain ⟨c', h1, hu⟩ := Res1.bind_ok hu
    obtain ⟨t', h2, hu⟩ := Res1.bind_ok hu
    obtain ⟨ts', h3, hu⟩ := Res1.bind_ok hu
    injection hu with hu
    subst hu
    simp only [mayL] at hm ⊢
    refine ⟨?_, lift_mayVL ha h3 hm.2⟩
    have := lift_mayV ha h2 hm.1
    rwa [show v + (binds k (i : Int)).1 + a = v + a + (binds k (i : Int)).1 by omega] at this
termination_by structural ts => ts
theorem lift_mayVS {a k : Int} (ha : 0 ≤ a) : ∀ {ts us : List T} {c : Int × Int} {v d : Int}, travS (liftTr a 0) k ts c = .ok us → mayS k ts v d → mayS k us (v + a) d
  | [], us, c, v, d, hu, hm => by rw [travS_nil] at hu; injection hu with hu; subst hu; simp only [mayS]
  | t :: ts, us, c, v, d, hu, hm => by
    rw [travS_cons, lift_kid] at hu
    obtain ⟨c', h1, hu⟩ := Res1.bind_ok hu
    obtain ⟨t', h2, hu⟩ := Res1.bind_ok hu
    obtain ⟨ts', h3, hu⟩ := Res1.bind_ok hu
    injection hu with hu
    subst hu
    simp only [mayS] at hm ⊢
    exact ⟨lift_mayV ha h2 hm.1, lift_mayVS ha h3 hm.2⟩
termination_by structural ts => ts
theorem lift_mayVB {a k : Int} (ha : 0 ≤ a) : ∀ {bs us : List Br} {c : Int × Int} {v d : Int}, travB (liftTr a 0) k bs c = .ok us → mayB k bs v d → mayB k us (v + a) d
  | [], us, c, v, d, hu, hm => by rw [travB_nil] at hu; injection hu with hu; subst hu; simp only [mayB]
  | .mk f ks :: bs, us, c, v, d, hu, hm => by
    rw [travB_cons, lift_face_def] at hu
    simp only [Br.face, Br.kids] at hu
    rw [rowLift_zero] at hu
    simp only [Res1.bind] at hu
    obtain ⟨ks', h7, hu⟩ := Res1.bind_ok (x := travS (liftTr a 0) k ks c) hu
    obtain ⟨bs', h8, hu⟩ := Res1.bind_ok hu
    injection hu with hu
    subst hu
    simp only [mayB] at hm ⊢
    exact ⟨hm.1, lift_mayVS ha h7 hm.2.1, lift_mayVB ha h8 hm.2.2⟩
termination_by structural bs => bs
end
end Go.Hy
namespace Go.Hy
/-! ### A contract whose result is only known to be so and so -/
theorem Spec.hide {P : Program} {k : FuncId} {args : Array Value} {pre : List Fact} {Ms0 : List Res} {α X : Type} (r : α) {val : α → X → Value} {N : α → X → List Fact} {Ms1 : α → X → List Res} (h : Spec P k args pre Ms0 (val r) (N r) (Ms1 r)) :
    Spec P k args pre Ms0 (fun x : {x : α × X // x.1 = r} => val x.1.1 x.1.2) (fun x => N x.1.1 x.1.2) (fun x => Ms1 x.1.1 x.1.2) := fun ok w hk hs => (h ok w hk hs).mono fun e w' hh => by
  obtain ⟨x, he, hs'⟩ := hh
  exact ⟨⟨(r, x), rfl⟩, he, hs'⟩
/-! ### What a way tells of the parts -/
section
variable {C : Type} {A : Tr C}
theorem travL_at {k : Int} {c : C} : ∀ {ts us : List T} {i : Nat}, travL A k i ts c = .ok us → us.length = ts.length ∧ ∀ j, j < us.length → ∃ c', A.kid c (binds k ((i + j : Nat) : Int)) = .ok c' ∧ trav A (ts.getD j t0) c' = .ok (us.getD j t0)
  | [], us, i, h => by rw [travL_nil] at h; injection h with h; subst h; exact ⟨rfl, fun j hj => absurd hj (by simp)⟩
  | t :: ts, us, i, h => by
    rw [travL_cons] at h
    obtain ⟨c', h1, h⟩ := Res1.bind_ok h
    obtain ⟨t', h2, h⟩ := Res1.bind_ok h
    obtain ⟨ts', h3, h⟩ := Res1.bind_ok h
    injection h with h
    subst h
    obtain ⟨h4, h5⟩ := travL_at h3
    refine ⟨by simp [h4], fun j hj => ?_⟩
    cases j with
    | zero => exact ⟨c', by simpa using h1, by simpa using h2⟩
    | succ j =>
      obtain ⟨d, h6, h7⟩ := h5 j (by simpa using hj)
      exact ⟨d, by rw [show i + (j + 1) = i + 1 + j by omega]; exact h6, by rw [List.getD_cons_succ, List.getD_cons_succ]; exact h7⟩
theorem travS_at {k : Int} {c : C} : ∀ {ts us : List T}, travS A k ts c = .ok us → us.length = ts.length ∧ ∀ j, j < us.length → ∃ c', A.kid c (0, more k) = .ok c' ∧ trav A (ts.getD j t0) c' = .ok (us.getD j t0)
  | [], us, h => by rw [travS_nil] at h; injection h with h; subst h; exact ⟨rfl, fun j hj => absurd hj (by simp)⟩
  | t :: ts, us, h => by
    rw [travS_cons] at h
    obtain ⟨c', h1, h⟩ := Res1.bind_ok h
    obtain ⟨t', h2, h⟩ := Res1.bind_ok h
    obtain ⟨ts', h3, h⟩ := Res1.bind_ok h
    injection h with h
    subst h
    obtain ⟨h4, h5⟩ := travS_at h3
    refine ⟨by simp [h4], fun j hj => ?_⟩
    cases j with
    | zero => exact ⟨c', h1, by simpa using h2⟩
    | succ j =>
      obtain ⟨d, h6, h7⟩ := h5 j (by simpa using hj)
      exact ⟨d, h6, by rw [List.getD_cons_succ, List.getD_cons_succ]; exact h7⟩
theorem travB_at {k : Int} {c : C} : ∀ {bs us : List Br}, travB A k bs c = .ok us → us.length ≤ bs.length ∧ ∀ u, u ∈ us → ∃ b, b ∈ bs ∧ A.face c b.face = .ok (some u.face) ∧ travS A k b.kids c = .ok u.kids
  | [], us, h => by rw [travB_nil] at h; injection h with h; subst h; exact ⟨Nat.le_refl _, fun u hu => (by cases hu)⟩
  | b :: bs, us, h => by
    rw [travB_cons] at h
    obtain ⟨o, h1, h⟩ := Res1.bind_ok h
    cases o with
    | none =>
      obtain ⟨h4, h5⟩ := travB_at h
      exact ⟨by simp only [List.length_cons]; omega, fun u hu => by obtain ⟨x, hx, h6⟩ := h5 u hu; exact ⟨x, List.mem_cons_of_mem _ hx, h6⟩⟩
    | some f' =>
      obtain ⟨ks', h2, h⟩ := Res1.bind_ok h
      obtain ⟨bs', h3, h⟩ := Res1.bind_ok h
      injection h with h
      subst h
      obtain ⟨h4, h5⟩ := travB_at h3
      refine ⟨by simp only [List.length_cons]; omega, fun u hu => ?_⟩
      rcases List.mem_cons.mp hu with rfl | hu
      · exact ⟨b, List.mem_cons_self, h1, h2⟩
      · obtain ⟨x, hx, h6⟩ := h5 u hu; exact ⟨x, List.mem_cons_of_mem _ hx, h6⟩
theorem mem_getD {α : Type} {d x : α} {l : List α} (h : x ∈ l) : ∃ i, i < l.length ∧ l.getD i d = x := by
  obtain ⟨i, hi, e⟩ := List.mem_iff_getElem.mp h
  exact ⟨i, hi, by rw [getD_get (d := d) hi]; exact e⟩
theorem trav_out {t u : T} {c : C} (h : trav A t c = .ok u) : A.own c t.kind t.n t.name t.r = .ok (.inl u) ∨ ∃ p, A.own c t.kind t.n t.name t.r = .ok (.inr p) ∧ (u.kind = t.kind ∧ u.n = p.1 ∧ u.name = t.name ∧ u.r = p.2) ∧
    (∀ q, q ∈ parts u → ∃ p, p ∈ parts t ∧ p.2 = q.2 ∧ ∃ c', A.kid c p.2 = .ok c' ∧ trav A p.1 c' = .ok q.1) ∧ ∀ b', b' ∈ u.sys → ∃ b, b ∈ t.sys ∧ A.face c b.face = .ok (some b'.face) := by
  rw [trav_eq] at h
  obtain ⟨o, h1, h⟩ := Res1.bind_ok h
  cases o with
  | inl v => injection h with h; subst h; exact .inl h1
  | inr p =>
    obtain ⟨ks', h2, h⟩ := Res1.bind_ok h
    obtain ⟨ss', h3, h⟩ := Res1.bind_ok h
    injection h with h
    subst h
    obtain ⟨l1, l2⟩ := travL_at h2
    obtain ⟨b1, b2⟩ := travB_at h3
    refine .inr ⟨p, h1, ⟨rfl, rfl, rfl, rfl⟩, fun q hq => ?_, fun b' hb' => ?_⟩
    · rcases part_cases hq with ⟨i, hi, rfl⟩ | ⟨s, j, hs, hj, rfl⟩
      · simp only [T.kids, T.kind] at hi ⊢
        obtain ⟨c', h4, h5⟩ := l2 i hi
        exact ⟨_, List.mem_of_getElem? (parts_kid t i (by omega)), rfl, c', by rw [Nat.zero_add] at h4; exact h4, h5⟩
      · simp only [T.sys, T.kind] at hs hj ⊢
        obtain ⟨b, hb, _, h6⟩ := b2 _ (getD_mem (d := br0) hs)
        obtain ⟨h7, h8⟩ := travS_at h6
        obtain ⟨c', h9, h10⟩ := h8 j hj
        obtain ⟨s', hs', e⟩ := mem_getD (d := br0) hb
        refine ⟨_, List.mem_of_getElem? (parts_sys t s' j hs' (by rw [e]; omega)), rfl, c', h9, ?_⟩
        rw [e]; exact h10
    · obtain ⟨b, hb, h6, _⟩ := b2 b' hb'
      exact ⟨b, hb, h6⟩
theorem travB_ex {k : Int} {c : C} : ∀ {bs : List Br}, (∀ b, b ∈ bs → A.face c b.face = .ok none ∨ ∃ f', A.face c b.face = .ok (some f') ∧ ∃ us, travS A k b.kids c = .ok us) → ∃ us, travB A k bs c = .ok us
  | [], h => ⟨[], travB_nil _ _⟩
  | b :: bs, h => by
    obtain ⟨us, hu⟩ := travB_ex (bs := bs) fun x hx => h x (List.mem_cons_of_mem _ hx)
    rcases h b List.mem_cons_self with h1 | ⟨f', h1, ks, h2⟩
    · exact ⟨us, by rw [travB_cons, h1]; simp only [Res1.bind]; exact hu⟩
    · exact ⟨.mk f' ks :: us, by rw [travB_cons, h1]; simp only [Res1.bind]; rw [h2]; simp only; rw [hu]⟩
theorem trav_ex {t : T} {c : C} {o : T ⊕ (Int × List Cl)} (h1 : A.own c t.kind t.n t.name t.r = .ok o) (h2 : ∀ b, b ∈ t.sys → ∃ f', A.face c b.face = .ok f') (h3 : ∀ p, p ∈ parts t → ∃ c' u, A.kid c p.2 = .ok c' ∧ trav A p.1 c' = .ok u) : ∃ u, trav A t c = .ok u := by
  rw [trav_eq, h1]
  cases o with
  | inl u => exact ⟨u, rfl⟩
  | inr p =>
    simp only [Res1.bind]
    obtain ⟨ks, hk⟩ := travL_ex (A := A) (k := t.kind) (c := c) (ts := t.kids) (i := 0) (fun j hj => by
      obtain ⟨c', u, h4, h5⟩ := h3 _ (List.mem_of_getElem? (parts_kid t j hj))
      exact ⟨c', u, by rw [Nat.zero_add]; exact h4, h5⟩)
    obtain ⟨ss, hs⟩ := travB_ex (A := A) (k := t.kind) (c := c) (bs := t.sys) (fun b hb => by
      obtain ⟨f', hf⟩ := h2 b hb
      cases f' with
      | none => exact .inl hf
      | some f' =>
        refine .inr ⟨f', hf, travS_ex fun j hj => ?_⟩
        obtain ⟨s, hs, e⟩ := mem_getD (d := br0) hb
        obtain ⟨c', u, h4, h5⟩ := h3 _ (List.mem_of_getElem? (parts_sys t s j hs (by rw [e]; exact hj)))
        rw [e] at h5
        exact ⟨c', u, h4, h5⟩)
    exact ⟨_, by rw [hk]; simp only; rw [hs]⟩
theorem bind_bad_of {α β : Type} {x : Res1 α} {k : α → Res1 β} {e : Int} (h : x.bind k = .bad e) : x = .bad e ∨ ∃ a, x = .ok a ∧ k a = .bad e := by
  cases x with
  | ok a => exact .inr ⟨a, rfl, h⟩
  | bad e' => injection h with h; subst h; exact .inl rfl
theorem travL_why {k : Int} {c : C} {e : Int} : ∀ {ts : List T} {i : Nat}, travL A k i ts c = .bad e → ∃ j, j < ts.length ∧ (A.kid c (binds k ((i + j : Nat) : Int)) = .bad e ∨ ∃ c', A.kid c (binds k ((i + j : Nat) : Int)) = .ok c' ∧ trav A (ts.getD j t0) c' = .bad e)
  | [], i, h => by rw [travL_nil] at h; cases h
  | t :: ts, i, h => by
    rw [travL_cons] at h
    rcases bind_bad_of h with h | ⟨c', h1, h⟩
    · exact ⟨0, by simp, .inl (by simpa using h)⟩
    · rcases bind_bad_of h with h | ⟨t', h2, h⟩
      · exact ⟨0, by simp, .inr ⟨c', by simpa using h1, by simpa using h⟩⟩
      · rcases bind_bad_of h with h | ⟨ts', h3, h⟩
        · obtain ⟨j, hj, h4⟩ := travL_why h
          refine ⟨j + 1, by simpa using hj, ?_⟩
          rw [List.getD_cons_succ, show i + (j + 1) = i + 1 + j by omega]; exact h4
        · cases h
theorem travS_why {k : Int} {c : C} {e : Int} : ∀ {ts : List T}, travS A k ts c = .bad e → ∃ j, j < ts.length ∧ (A.kid c (0, more k) = .bad e ∨ ∃ c', A.kid c (0, more k) = .ok c' ∧ trav A (ts.getD j t0) c' = .bad e)
  | [], h => by rw [travS_nil] at h; cases h
  | t :: ts, h => by
    rw [travS_cons] at h
    rcases bind_bad_of h with h | ⟨c', h1, h⟩
    · exact ⟨0, by simp, .inl h⟩
    · rcases bind_bad_of h with h | ⟨t', h2, h⟩
      · exact ⟨0, by simp, .inr ⟨c', h1, by simpa using h⟩⟩
      · rcases bind_bad_of h with h | ⟨ts', h3, h⟩
        · obtain ⟨j, hj, h4⟩ := travS_why h
          exact ⟨j + 1, by simpa using hj, by rw [List.getD_cons_succ]; exact h4⟩
        · cases h
theorem travB_why {k : Int} {c : C} {e : Int} : ∀ {bs : List Br}, travB A k bs c = .bad e → ∃ b, b ∈ bs ∧ (A.face c b.face = .bad e ∨ travS A k b.kids c = .bad e)
  | [], h => by rw [travB_nil] at h; cases h
  | b :: bs, h => by
    rw [travB_cons] at h
    rcases bind_bad_of h with h | ⟨o, h1, h⟩
    · exact ⟨b, List.mem_cons_self, .inl h⟩
    · cases o with
      | none => obtain ⟨x, hx, h⟩ := travB_why h; exact ⟨x, List.mem_cons_of_mem _ hx, h⟩
      | some f' =>
        rcases bind_bad_of h with h | ⟨ks, h2, h⟩
        · exact ⟨b, List.mem_cons_self, .inr h⟩
        · rcases bind_bad_of h with h | ⟨us, h3, h⟩
          · obtain ⟨x, hx, h⟩ := travB_why h; exact ⟨x, List.mem_cons_of_mem _ hx, h⟩
          · cases h
theorem trav_why {t : T} {c : C} {e : Int} (h : trav A t c = .bad e) : A.own c t.kind t.n t.name t.r = .bad e ∨ (∃ b, b ∈ t.sys ∧ A.face c b.face = .bad e) ∨ ∃ p, p ∈ parts t ∧ (A.kid c p.2 = .bad e ∨ ∃ c', A.kid c p.2 = .ok c' ∧ trav A p.1 c' = .bad e) := by
  rw [trav_eq] at h
  rcases bind_bad_of h with h | ⟨o, h1, h⟩
  · exact .inl h
  · cases o with
    | inl u => cases h
    | inr p =>
      rcases bind_bad_of h with h | ⟨ks, h2, h⟩
      · obtain ⟨j, hj, h3⟩ := travL_why h
        rw [Nat.zero_add] at h3
        exact .inr (.inr ⟨_, List.mem_of_getElem? (parts_kid t j hj), h3⟩)
      · rcases bind_bad_of h with h | ⟨ss, h3, h⟩
        · obtain ⟨b, hb, h4⟩ := travB_why h
          rcases h4 with h4 | h4
          · exact .inr (.inl ⟨b, hb, h4⟩)
          · obtain ⟨j, hj, h5⟩ := travS_why h4
            obtain ⟨s, hs, e2⟩ := mem_getD (d := br0) hb
            refine .inr (.inr ⟨_, List.mem_of_getElem? (parts_sys t s j hs (by rw [e2]; exact hj)), ?_⟩)
            rw [e2]; exact h5
        · cases h
end
end Go.Hy
namespace Go.Hy
/-! ### Dimensions, bit by bit -/
theorem fDims_bit {l : List Cl} {i : Nat} : (fDims l).testBit i = true ↔ i < 24 ∧ ∃ c, c ∈ l ∧ (c.pos ||| c.neg).testBit i = true := by
  unfold fDims
  rw [and24_bit, Bool.and_eq_true, decide_eq_true_eq, fold_bit (fun c : Cl => c.pos ||| c.neg)]
  simp
theorem dims_bit {t : T} {i : Nat} : (dimsT t).testBit i = true ↔ (fDims t.r).testBit i = true ∨ (∃ b, b ∈ t.sys ∧ (fDims b.face).testBit i = true) ∨ ∃ p, p ∈ parts t ∧ (dimsT p.1).testBit (i + p.2.2.toNat) = true := by
  have hbig : ∀ x : Nat, x < 16777216 → ∀ j, x.testBit j = true → j < 24 := fun x hx j hj => by
    refine Nat.lt_of_not_le fun h => ?_
    rw [Nat.testBit_lt_two_pow (Nat.lt_of_lt_of_le hx (Nat.pow_le_pow_right (n := 2) (i := 24) (by omega) h))] at hj
    cases hj
  by_cases hi : i < 24
  · rw [← dimsUpto_all]
    unfold dimsUpto
    rw [List.take_length, fold_bit dimsPart]
    unfold dimsF
    rw [List.take_length, fold_bit (fun b : Br => fDims b.face), or_assoc]
    refine or_congr Iff.rfl (or_congr Iff.rfl ?_)
    have key : ∀ p, p ∈ parts t → ((dimsPart p).testBit i = true ↔ (dimsT p.1).testBit (i + p.2.2.toNat) = true) := fun p hp => by
      have h1 := parts_01 hp
      rw [part_bit (p := p) hi (parts_in (k := p.1) (v := p.2.1) (d := p.2.2) hp)]
      unfold hasD
      rw [show ((i : Int) + p.2.2).toNat = i + p.2.2.toNat by omega, Bool.and_eq_true, decide_eq_true_eq]
      exact ⟨fun h => h.2, fun h => ⟨by have := hbig _ (dims_lt _) _ h; omega, h⟩⟩
    constructor
    · rintro ⟨p, hp, h⟩; exact ⟨p, hp, (key p hp).mp h⟩
    · rintro ⟨p, hp, h⟩; exact ⟨p, hp, (key p hp).mpr h⟩
  · constructor
    · intro h; exact absurd (hbig _ (dims_lt _) _ h) hi
    · rintro (h | ⟨b, _, h⟩ | ⟨p, _, h⟩)
      · exact absurd (hbig _ (fDims_lt _) _ h) hi
      · exact absurd (hbig _ (fDims_lt _) _ h) hi
      · exact absurd (hbig _ (dims_lt _) _ h) (by omega)
/-! ### What a lift does to the bits -/
theorem maskLift_from {s : Nat} {f b : Int} (h : (maskLift s f b).1 = 0) (i : Nat) (hi : (maskLift s f b).2.testBit i = true) : ∃ j, j < 24 ∧ s.testBit j = true ∧ (((j : Int) < f ∧ i = j) ∨ (f ≤ (j : Int) ∨ 24 ≤ j) ∧ (i : Int) = j + b) := by
  obtain ⟨h0, h1, h2⟩ := maskLift_bit h i
  rw [h2, Bool.or_eq_true, Bool.and_eq_true, Bool.and_eq_true, decide_eq_true_eq, decide_eq_true_eq, and24_bit, and24_bit, Bool.and_eq_true, Bool.and_eq_true, decide_eq_true_eq, decide_eq_true_eq] at hi
  rcases hi with ⟨h3, h4, h5⟩ | ⟨h3, h4, h5⟩
  · exact ⟨i, h4, h5, .inl ⟨by omega, rfl⟩⟩
  · exact ⟨i - b.toNat, h4, h5, .inr ⟨by omega, by omega⟩⟩
theorem fine_face {t : T} (h : fineT t) {b : Br} (hb : b ∈ t.sys) : faceRight b.face = true := (fineB_iff.mp (fineT_iff.mp h).2.2.2.2 b hb).2.1
theorem fine_part {t : T} (h : fineT t) {p : Part} (hp : p ∈ parts t) : fineT p.1 := (fine_parts.mp h).2 p hp
end Go.Hy
namespace Go.Hy
theorem St.litI {B : Base} {Γ : List Fact} {Ms : List Res} {w : World} {b : Nat} {e : TypeId} {cs : List Value} (l : List Int) (hs : St B Γ (boxR b cs e :: Ms) w) {hBp : Prop} (hB : hBp) (hc : cs = intFlat l) (hn : l.length ≤ 1000) (hu : ∀ c, c ∈ l → in64 c) : St B (IL l (some ⟨b, 0, Option.none⟩, l.length) :: Γ) Ms w :=
  (hs.boxRow (sz := 1) (m := l.length) (by rw [hc, flat_len intCells_len l]) (by unfold maxLen; omega)).settleIL hB hc rfl (by unfold reach; omega) hu
end Go.Hy
namespace Go.Hy
/-! ### The chapter's examples of lifts -/
def vE (n : Int) : T := .mk 1 n ⟨#[]⟩ [] [] []
theorem vars_okT {t : T} {f b : Int} (hb : in64 b) (h : okT t) : okT (varsRes t f b).2 := by
  refine guard_okT' (fun ha u hu => ?_)
  simp only [List.all_cons, List.all_nil, Bool.and_true, Bool.and_eq_true, decide_eq_true_eq] at ha
  exact lift_okT ⟨ha.2.1, most_le hb ha.2.1 ha.2.2⟩ h hu
theorem dims_okT {t : T} {f b : Int} (h : okT t) : okT (dimsRes t f b).2 := guard_okT' (fun _ u hu => lift_okT (by omega) h hu)
theorem guard_size {t : T} {ns : List Int} {r : Res1 T} (h : ∀ u, r = .ok u → size u = size t) : size (guardRes t ns r).2 ≤ size t := by
  have h0 : size t0 ≤ size t := by have := size_pos' t; rw [show size t0 = 1 by decide +kernel]; exact this
  unfold guardRes
  split
  · exact h0
  · split
    · exact h0
    · cases r with
      | ok u => exact Nat.le_of_eq (h u rfl)
      | bad e => exact h0
theorem vars_size (t : T) (f b : Int) : size (varsRes t f b).2 ≤ size t := guard_size fun u hu => lift_size hu
theorem dims_size (t : T) (f b : Int) : size (dimsRes t f b).2 ≤ size t := guard_size fun u hu => lift_size hu
end Go.Hy
namespace Go.Hy
/-! ### Sizes as sums -/
def sizeL : List T → Nat
  | [] => 0
  | t :: ts => size t + sizeL ts
def sizeB : List Br → Nat
  | [] => 0
  | b :: bs => sizeL b.kids + sizeB bs
theorem foldl_add {α : Type} (f : α → Nat) : ∀ (l : List α) (a : Nat), l.foldl (fun a p => a + f p) a = a + l.foldl (fun a p => a + f p) 0
  | [], a => rfl
  | x :: l, a => by rw [List.foldl_cons, List.foldl_cons, foldl_add f l (a + f x), foldl_add f l (0 + f x)]; omega
theorem size_sumLB (t : T) : size t = 1 + sizeL t.kids + sizeB t.sys := by
  have hk : ∀ (k : Int) (ts : List T) (i : Nat), (kidParts k i ts).foldl (fun a p => a + size p.1) 0 = sizeL ts := by
    intro k ts
    induction ts with
    | nil => intro i; rfl
    | cons t ts ih => intro i; rw [kidParts, List.foldl_cons, foldl_add, ih, sizeL]; simp only; omega
  have hm : ∀ (ts : List T) (b : Int × Int), (ts.map fun k => ((k, b.1, b.2) : Part)).foldl (fun a p => a + size p.1) 0 = sizeL ts := by
    intro ts b
    induction ts with
    | nil => rfl
    | cons t ts ih => rw [List.map_cons, List.foldl_cons, foldl_add, ih, sizeL]; simp only; omega
  have hs : ∀ (k : Int) (bs : List Br), (sysParts k bs).foldl (fun a p => a + size p.1) 0 = sizeB bs := by
    intro k bs
    induction bs with
    | nil => rfl
    | cons b bs ih => rw [sysParts, List.foldl_append, foldl_add, ih, hm b.kids (0, more k), sizeB]
  rw [size_eq, parts, List.foldl_append, foldl_add, hs, foldl_add, hk]
section
variable {t u : T} {n : Int}
end
end Go.Hy
namespace Go.Hy
/-! ### Lifted rows, clause by clause -/
theorem maskLift_iff {s : Nat} {f b : Int} (h : (maskLift s f b).1 = 0) (i : Nat) : (maskLift s f b).2.testBit i = true ↔ ∃ j, j < 24 ∧ s.testBit j = true ∧ (((j : Int) < f ∧ i = j) ∨ (f ≤ (j : Int) ∧ (i : Int) = j + b)) := by
  obtain ⟨h0, h1, h2⟩ := maskLift_bit h i
  constructor
  · intro hi
    obtain ⟨j, h3, h4, h5⟩ := maskLift_from h i hi
    exact ⟨j, h3, h4, by omega⟩
  · rintro ⟨j, h3, h4, h5⟩
    rw [h2, Bool.or_eq_true, Bool.and_eq_true, Bool.and_eq_true, decide_eq_true_eq, decide_eq_true_eq, and24_bit, and24_bit, Bool.and_eq_true, Bool.and_eq_true, decide_eq_true_eq, decide_eq_true_eq]
    rcases h5 with ⟨h5, rfl⟩ | ⟨h5, h6⟩
    · exact .inl ⟨by omega, h3, h4⟩
    · refine .inr ⟨by omega, ?_⟩
      rw [show i - b.toNat = j by omega]
      exact ⟨h3, h4⟩
theorem right24_iff {c : Cl} : right24 c = true ↔ c.pos < 16777216 ∧ c.neg < 16777216 := by unfold right24; rw [Bool.and_eq_true, decide_eq_true_eq, decide_eq_true_eq]
/-! ### Two ways and two others -/
section
variable {CA CB CC CD : Type} {A : Tr CA} {B : Tr CB} {C : Tr CC} {D : Tr CD} (R : CA → CB → CC → CD → Prop)
variable {R}
end
end Go.Hy
namespace Go.Hy
/-! ### The document's lift of a mask: its list, number by number -/
theorem sorted_ext : ∀ {l m : List Int}, (l.Pairwise fun a b => a < b) → (m.Pairwise fun a b => a < b) → (∀ x, x ∈ l ↔ x ∈ m) → l = m
  | [], [], _, _, _ => rfl
  | [], b :: m, _, _, h => by have := (h b).mpr List.mem_cons_self; cases this
  | a :: l, [], _, _, h => by have := (h a).mp List.mem_cons_self; cases this
  | a :: l, b :: m, hl, hm, h => by
    obtain ⟨l1, l2⟩ := List.pairwise_cons.mp hl
    obtain ⟨m1, m2⟩ := List.pairwise_cons.mp hm
    have hab : a = b := by
      rcases List.mem_cons.mp ((h a).mp List.mem_cons_self) with h1 | h1
      · exact h1
      · rcases List.mem_cons.mp ((h b).mpr List.mem_cons_self) with h2 | h2
        · exact h2.symm
        · have := l1 b h2; have := m1 a h1; omega
    subst hab
    have : l = m := sorted_ext l2 m2 fun x => by
      constructor
      · intro hx
        rcases List.mem_cons.mp ((h x).mp (List.mem_cons_of_mem _ hx)) with h1 | h1
        · subst h1; have := l1 x hx; omega
        · exact h1
      · intro hx
        rcases List.mem_cons.mp ((h x).mpr (List.mem_cons_of_mem _ hx)) with h1 | h1
        · subst h1; have := m1 x hx; omega
        · exact h1
    rw [this]
def shI (f b x : Int) : Int := if x < f then x else x + b
theorem mask_good {s : Nat} {f b : Int} (h0 : 0 ≤ f) (hb : 0 ≤ b) (h : ∀ x, x ∈ listM s → x < f ∨ x + b < 24) : maskLift s f b = (0, setM ((listM s).map (shI f b))) := by
  have h1 : (maskLift s f b).1 = 0 := by
    unfold maskLift
    rw [if_neg (by omega)]
    split
    · rfl
    · rename_i h2
      rw [if_neg]
      have hbits : ∀ i, (andNot32 (s &&& 16777215) (2 ^ (min f.toNat 24) - 1)).testBit i = true → (i : Int) + b < 24 := fun i hi => by
        rw [andNot32_bit, mask_bit, and24_bit] at hi
        simp only [Bool.and_eq_true, decide_eq_true_eq, Bool.not_eq_true', decide_eq_false_iff_not] at hi
        have hm : (i : Int) ∈ listM s := listTo_mem.mpr ⟨by omega, by omega, by simpa using hi.1.2.2⟩
        rcases h _ hm with h3 | h3 <;> omega
      obtain ⟨i, hi⟩ : ∃ i, (andNot32 (s &&& 16777215) (2 ^ (min f.toNat 24) - 1)).testBit i = true := by
        refine Classical.byContradiction fun hn => h2 (Nat.eq_of_testBit_eq fun i => ?_)
        rw [Nat.zero_testBit]
        cases hh : (andNot32 (s &&& 16777215) (2 ^ (min f.toNat 24) - 1)).testBit i with
        | false => rfl
        | true => exact absurd ⟨i, hh⟩ hn
      have hb24 := hbits i hi
      have hlt : andNot32 (s &&& 16777215) (2 ^ (min f.toNat 24) - 1) < 2 ^ (24 - b.toNat) := Nat.lt_pow_two_of_testBit _ fun j hj => by
        cases hh : (andNot32 (s &&& 16777215) (2 ^ (min f.toNat 24) - 1)).testBit j with
        | false => rfl
        | true => have := hbits j hh; omega
      rintro (h3 | h3)
      · omega
      · have h4 : andNot32 (s &&& 16777215) (2 ^ (min f.toNat 24) - 1) * 2 ^ b.toNat < 2 ^ (24 - b.toNat) * 2 ^ b.toNat := Nat.mul_lt_mul_of_pos_right hlt (Nat.pow_pos (by omega))
        rw [← Nat.pow_add, show 24 - b.toNat + b.toNat = 24 by omega] at h4
        have h5 : (2 : Nat) ^ 24 = 16777216 := by decide
        omega
  refine Prod.ext h1 ?_
  have hlt := maskLift_lt s f b
  have e1 : (maskLift s f b).2 = setM (listM (maskLift s f b).2) := by rw [setM_listM, and24]; exact (Nat.mod_eq_of_lt hlt).symm
  rw [e1]
  show setM _ = setM _
  congr 1
  refine sorted_ext (listTo_sorted _ _) ?_ fun x => ?_
  · rw [List.pairwise_map]
    refine (listTo_sorted s 24).imp fun {a c} hac => ?_
    unfold shI
    split <;> split <;> omega
  · rw [List.mem_map]
    constructor
    · intro hx
      obtain ⟨x0, x1, x2⟩ := listTo_mem.mp hx
      obtain ⟨j, h2, h3, h4⟩ := (maskLift_iff h1 x.toNat).mp x2
      refine ⟨(j : Int), listTo_mem.mpr ⟨by omega, by omega, by simpa using h3⟩, ?_⟩
      unfold shI
      split <;> omega
    · rintro ⟨y, hy, rfl⟩
      obtain ⟨y0, y1, y2⟩ := listTo_mem.mp hy
      have hsh : 0 ≤ shI f b y ∧ shI f b y < 24 := by
        unfold shI
        rcases h y hy with h2 | h2 <;> split <;> omega
      refine listTo_mem.mpr ⟨hsh.1, hsh.2, (maskLift_iff h1 _).mpr ⟨y.toNat, by omega, y2, ?_⟩⟩
      unfold shI at hsh ⊢
      split <;> omega
end Go.Hy
namespace Go.Hy
/-! ### A mask's least number, and the rest -/
theorem listM_sort (s : Nat) : (listM s).Pairwise fun a b => a < b := by
  unfold listM listTo
  rw [List.pairwise_map]
  refine List.Pairwise.filter _ ?_
  exact List.pairwise_lt_range.imp fun h => by omega
theorem listM_and (s : Nat) : listM (s &&& 16777215) = listM s := by
  refine sorted_ext (listM_sort _) (listM_sort _) fun x => ?_
  rw [listTo_mem, listTo_mem, and24_bit]
  constructor
  · rintro ⟨h1, h2, h3⟩
    rw [Bool.and_eq_true] at h3
    exact ⟨h1, h2, h3.2⟩
  · rintro ⟨h1, h2, h3⟩
    exact ⟨h1, h2, by rw [h3, decide_eq_true (by omega)]; rfl⟩
theorem low_split {r : Nat} (h0 : ¬ r = 0) (h : r < 4294967296) : ∃ m, r = 2 ^ Lib.ctz 32 r * (2 * m + 1) ∧ Lib.ctz 32 r < 32 := by
  obtain ⟨m, h1, h2⟩ := Lib.ctzFrom_spec 32 r (by omega) h
  have e : Lib.ctz 32 r = Lib.ctzFrom 32 r := by unfold Lib.ctz; rw [if_neg h0]
  rw [e]
  exact ⟨m, h1, h2⟩
theorem low_bit {r k m i : Nat} (h : r = 2 ^ k * (2 * m + 1)) : (r &&& (r - 1)).testBit i = (r.testBit i && decide (i ≠ k)) ∧ r.testBit k = true ∧ (i < k → r.testBit i = false) := by
  have hp : 0 < 2 ^ k := Nat.pow_pos (by decide)
  have e1 : r = 2 ^ (k + 1) * m + 2 ^ k := by rw [h, Nat.pow_succ, Nat.mul_add, Nat.mul_assoc]; simp
  have e2 : r - 1 = 2 ^ (k + 1) * m + (2 ^ k - 1) := by omega
  have hb1 : 2 ^ k < 2 ^ (k + 1) := by rw [Nat.pow_succ]; omega
  have hb2 : 2 ^ k - 1 < 2 ^ (k + 1) := by omega
  have t1 : ∀ j, r.testBit j = if j < k + 1 then (2 ^ k).testBit j else m.testBit (j - (k + 1)) := fun j => by rw [e1]; exact Nat.testBit_two_pow_mul_add m hb1 j
  have t2 : ∀ j, (r - 1).testBit j = if j < k + 1 then (2 ^ k - 1).testBit j else m.testBit (j - (k + 1)) := fun j => by rw [e2]; exact Nat.testBit_two_pow_mul_add m hb2 j
  refine ⟨?_, by rw [t1, if_pos (by omega), Nat.testBit_two_pow_self], fun hi => by rw [t1, if_pos (by omega), Nat.testBit_two_pow_of_ne (by omega)]⟩
  rw [Nat.testBit_and, t1, t2]
  by_cases hi : i < k + 1
  · rw [if_pos hi, if_pos hi, Nat.testBit_two_pow, Nat.testBit_two_pow_sub_one]
    by_cases hk : k = i
    · subst hk; simp
    · simp [hk]
  · rw [if_neg hi, if_neg hi]
    have : i ≠ k := by omega
    simp [this]
theorem listM_low {r : Nat} (h0 : ¬ r = 0) (h : r < 16777216) : Lib.ctz 32 r < 24 ∧ listM r = (Lib.ctz 32 r : Int) :: listM (r &&& (r - 1)) := by
  obtain ⟨m, h1, h2⟩ := low_split h0 (by omega)
  have hb := fun i => low_bit (i := i) h1
  have hk : Lib.ctz 32 r < 24 := Decidable.byContradiction fun hn => by
    have h3 := Nat.ge_two_pow_of_testBit (hb 0).2.1
    have h4 : 2 ^ 24 ≤ 2 ^ Lib.ctz 32 r := Nat.pow_le_pow_right (by decide) (by omega)
    omega
  refine ⟨hk, sorted_ext (listM_sort _) (List.pairwise_cons.mpr ⟨fun x hx => ?_, listM_sort _⟩) fun x => ?_⟩
  · obtain ⟨x0, x1, x2⟩ := listTo_mem.mp hx
    rw [(hb x.toNat).1, Bool.and_eq_true, decide_eq_true_eq] at x2
    have : ¬ x.toNat < Lib.ctz 32 r := fun hlt => by have := (hb x.toNat).2.2 hlt; rw [x2.1] at this; cases this
    omega
  · rw [List.mem_cons, listTo_mem, listTo_mem, (hb x.toNat).1, Bool.and_eq_true, decide_eq_true_eq]
    constructor
    · rintro ⟨x0, x1, x2⟩
      by_cases hx : x = (Lib.ctz 32 r : Int)
      · exact .inl hx
      · exact .inr ⟨x0, x1, x2, by omega⟩
    · rintro (rfl | ⟨x0, x1, x2, _⟩)
      · exact ⟨by omega, by omega, by rw [Int.toNat_natCast]; exact (hb 0).2.1⟩
      · exact ⟨x0, x1, x2⟩
theorem low_lt {r : Nat} (h0 : ¬ r = 0) : r &&& (r - 1) < r := Nat.lt_of_le_of_lt Nat.and_le_right (by omega)
end Go.Hy
namespace Go.Hy
/-! Counting bits: the library's table of bytes. -/
def popS : ByteArray := ⟨#[0, 1, 1, 2, 1, 2, 2, 3, 1, 2, 2, 3, 2, 3, 3, 4, 1, 2, 2, 3, 2, 3, 3, 4, 2, 3, 3, 4, 3, 4, 4, 5, 1, 2, 2, 3, 2, 3, 3, 4, 2, 3, 3, 4, 3, 4, 4, 5, 2, 3, 3, 4, 3, 4, 4, 5, 3, 4, 4, 5, 4, 5, 5, 6, 1, 2, 2, 3, 2, 3, 3, 4, 2, 3, 3, 4, 3, 4, 4, 5, 2, 3, 3, 4, 3, 4, 4, 5, 3, 4, 4, 5, 4, 5, 5, 6, 2, 3, 3, 4, 3, 4, 4, 5, 3, 4, 4, 5, 4, 5, 5, 6, 3, 4, 4, 5, 4, 5, 5, 6, 4, 5, 5, 6, 5, 6, 6, 7, 1, 2, 2, 3, 2, 3, 3, 4, 2, 3, 3, 4, 3, 4, 4, 5, 2, 3, 3, 4, 3, 4, 4, 5, 3, 4, 4, 5, 4, 5, 5, 6, 2, 3, 3, 4, 3, 4, 4, 5, 3, 4, 4, 5, 4, 5, 5, 6, 3, 4, 4, 5, 4, 5, 5, 6, 4, 5, 5, 6, 5, 6, 6, 7, 2, 3, 3, 4, 3, 4, 4, 5, 3, 4, 4, 5, 4, 5, 5, 6, 3, 4, 4, 5, 4, 5, 5, 6, 4, 5, 5, 6, 5, 6, 6, 7, 3, 4, 4, 5, 4, 5, 5, 6, 4, 5, 5, 6, 5, 6, 6, 7, 4, 5, 5, 6, 5, 6, 6, 7, 5, 6, 6, 7, 6, 7, 7, 8]⟩
def pop8 (j : Nat) : Nat := j % 2 + j / 2 % 2 + j / 4 % 2 + j / 8 % 2 + j / 16 % 2 + j / 32 % 2 + j / 64 % 2 + j / 128 % 2
theorem popTab : ∀ j, j < 256 → popS[j]? = some (UInt8.ofNat (pop8 j)) ∧ pop8 j ≤ 8 := by decide +kernel
def pop32 (s : Nat) : Nat := pop8 (s / 16777216) + pop8 (s / 65536 &&& 255) + pop8 (s / 256 &&& 255) + pop8 (s &&& 255)
theorem pop32_one : ∀ k, k < 24 → pop32 (2 ^ k) = 1 := by decide +kernel
theorem pop32_zero : pop32 0 = 0 := by decide
theorem and255 (s : Nat) : s &&& 255 < 256 := Nat.lt_of_le_of_lt Nat.and_le_right (by decide)
section
variable {tn : Bool} {pn : Nat} {P : Program} [Tab P] {f : FuncId} {R : Ending → World → Prop} {B : Base} {n : Fz} {K : List Item} {ops : Array Oper} {i : Nat} {l fin : List Nat} {σ : Nat → Value} {Γ : List Fact} {Ms Ms2 : List Res}
variable {dst : Option Tmp} {op : Op} {ty : TypeId} {pos : String} {after : Array Edge} {v : Value} {x y z : Operand}
theorem pe_indexPop {t : TypeId} {s : ByteArray} {j : Nat} (hu : Tab.und P t = some .string) (hx : ev σ x = .string s) (hs : s = popS) (hy : ev σ y = .int .u32 (j : Int)) (hj : j < 256) : PureE P σ (.index t x y) ty (.int .u8 (pop8 j : Nat)) := fun w => by
  subst hs
  have h := (popTab j hj)
  have e : ((UInt8.ofNat (pop8 j)).toNat : Int) = (pop8 j : Nat) := by
    rw [UInt8.toNat_ofNat']
    have := h.2
    omega
  simp [opr, execOp, hx, hy, Instr.index, asIntOf, run_und0 hu, h.1]
  have := h.2
  omega
theorem pe_addU8 {t t' : TypeId} {a b : Nat} (hx : ev σ x = .int .u8 (a : Nat)) (hy : ev σ y = .int .u8 (b : Nat)) (h : a + b < 256) : PureE P σ (.binOp .add t x y t') ty (.int .u8 ((a + b : Nat) : Int)) :=
  run_bin hx hy (fun w => eqGuard_int w) (fun w => by
    have e : IntKind.u8.wrap ((a : Int) + (b : Int)) = ((a + b : Nat) : Int) := by simp [IntKind.wrap, IntKind.signed, IntKind.bits]; omega
    show Result.ok (Value.int .u8 (IntKind.u8.wrap ((a : Int) + (b : Int)))) w = _
    rw [e])
theorem pe_convBI {s d : TypeId} {ds : TypeDesc} {a : Nat} (hs : Tab.und P s = some ds) (hd : Tab.und P d = some (.int .i64)) (hx : ev σ x = .int .u8 (a : Nat)) (ha : a < 256) : PureE P σ (.convert s d x) ty (.int .i64 (a : Int)) := by
  have h := pe_convert hs hd hx (ty := ty)
  rwa [show IntKind.i64.wrap (a : Int) = (a : Int) by rw [IntKind.wrap_i64]; omega] at h
theorem v_ixPop {t : TypeId} {s : ByteArray} {j : Nat} (k_ : NV tn pn P f R B n K ops fin l (putS σ dst (.int .u8 (pop8 j : Nat))) Γ Ms) (hx : ev σ x = .string s := by exact wn_) (hy : ev σ y = .int .u32 (j : Int) := by exact wn_) (hs : s = popS := by rfl) (hu : Tab.und P t = some .string := by rfl) (hj : j < 256 := by first | omega | exact and255 _) (hd : dstOk n dst = true := by rfl) : NvT tn pn P f R B n K ops fin i l dst (.index t x y) ty σ Γ Ms := nv_pure (pe_indexPop hu hx hs hy hj) hd k_
theorem v_addU8 {t t' : TypeId} {a b : Nat} (k_ : NV tn pn P f R B n K ops fin l (putS σ dst (.int .u8 ((a + b : Nat) : Int))) Γ Ms) (hx : ev σ x = .int .u8 (a : Nat) := by exact wn_) (hy : ev σ y = .int .u8 (b : Nat) := by exact wn_) (h : a + b < 256 := by omega) (hd : dstOk n dst = true := by rfl) : NvT tn pn P f R B n K ops fin i l dst (.binOp .add t x y t') ty σ Γ Ms := nv_pure (pe_addU8 hx hy h) hd k_
theorem v_convBI {s d : TypeId} {ds : TypeDesc} {a : Nat} (k_ : NV tn pn P f R B n K ops fin l (putS σ dst (.int .i64 (a : Int))) Γ Ms) (hx : ev σ x = .int .u8 (a : Nat) := by exact wn_) (hs : Tab.und P s = some ds := by rfl) (hd' : Tab.und P d = some (.int .i64) := by rfl) (ha : a < 256 := by omega) (hd : dstOk n dst = true := by rfl) : NvT tn pn P f R B n K ops fin i l dst (.convert s d x) ty σ Γ Ms := nv_pure (pe_convBI hs hd' hx ha) hd k_
end
end Go.Hy
namespace Go.Hy
/-! ### The document's lift against the program's -/
theorem leastF_snd {l : List Cl} (h : (leastF l).1 ≠ 0) : (leastF l).2 = [] := by
  unfold leastF at h ⊢
  split
  · rfl
  · rename_i h1
    rw [if_neg h1] at h
    split
    · rfl
    · rename_i h2
      rw [if_neg h2] at h
      exact absurd rfl h
end Go.Hy
namespace Go.Hy
/-! ### Formulas and faces: what the program makes of them -/
abbrev EL : Type := Int × List Cl
def bitM (i : Int) : Nat := if 0 ≤ i ∧ i < 24 then 2 ^ i.toNat else 0
def withM (s : Nat) (i : Int) : Nat := if 0 ≤ i ∧ i < 24 then (s &&& 16777215) ||| 2 ^ i.toNat else s &&& 16777215
def withoutM (s : Nat) (i : Int) : Nat := if 0 ≤ i ∧ i < 24 then andNot32 (s &&& 16777215) (2 ^ i.toNat) else s &&& 16777215
theorem withM_zero (i : Int) : withM 0 i = bitM i := by unfold withM bitM; split <;> simp
theorem bitM_lt (i : Int) : bitM i < 16777216 := by
  unfold bitM
  split
  · exact Nat.pow_lt_pow_right (n := 24) (a := 2) (by decide) (by omega)
  · decide
theorem withoutM_lt (s : Nat) (i : Int) : withoutM s i < 16777216 := by
  unfold withoutM
  split
  · rw [show (16777216 : Nat) = 2 ^ 24 from rfl]
    exact Nat.lt_pow_two_of_testBit _ fun j hj => by
      rw [andNot32_bit, and24_bit, decide_eq_false (show ¬ j < 24 by omega)]; simp
  · exact and24_lt s
theorem has_bits (s : Nat) (i : Int) : ((decide (0 ≤ i) && decide (i < 24)) && decide (((s / 2 ^ (min i.toNat 32) &&& 1 : Nat) : Int) = 1)) = hasM s i := by
  rw [hasM_eq, Nat.and_one_is_mod]
  by_cases h : 0 ≤ i ∧ i < 24
  · rw [show min i.toNat 32 = i.toNat by omega]
    congr 1
    exact decide_eq_decide.mpr (by omega)
  · have : (decide (0 ≤ i) && decide (i < 24)) = false := by simp; omega
    rw [this]; rfl
def isDim (i : Int) : Bool := decide (0 ≤ i) && decide (i < 24)
theorem pop_bit {i : Int} (h : isDim i = true) : pop32 (bitM i &&& 16777215) = 1 := by
  have h1 : 0 ≤ i ∧ i < 24 := by unfold isDim at h; simpa using h
  have h2 := bitM_lt i
  rw [and24, Nat.mod_eq_of_lt (by omega)]
  unfold bitM
  rw [if_pos h1]
  exact pop32_one _ (by omega)
theorem pop_none {i : Int} (h : isDim i = false) : pop32 (bitM i &&& 16777215) = 0 := by
  have h1 : ¬ (0 ≤ i ∧ i < 24) := by unfold isDim at h; simp at h; omega
  unfold bitM
  rw [if_neg h1]
  exact pop32_zero
theorem pop_dim (i : Int) : decide (((pop32 (bitM i &&& 16777215) : Nat) : Int) = 1) = isDim i := by
  cases h : isDim i
  · rw [pop_none h]; rfl
  · rw [pop_bit h]; rfl
theorem pop_dim0 (i : Int) : decide (((pop32 (bitM i &&& 16777215) : Nat) : Int) = 0) = !isDim i := by
  cases h : isDim i
  · rw [pop_none h]; rfl
  · rw [pop_bit h]; rfl
def bindE (x : EL) (k : List Cl → EL) : EL := if x.1 ≠ 0 then (x.1, []) else k x.2
theorem bindE_bad {x : EL} {k : List Cl → EL} (h : x.1 ≠ 0) : bindE x k = (x.1, []) := if_pos h
theorem bindE_ok {x : EL} {k : List Cl → EL} (h : x.1 = 0) : bindE x k = k x.2 := if_neg (by simp [h])
/-- On from a list, clause by clause. -/
def foldF (g : List Cl → Cl → EL) : List Cl → List Cl → EL
  | h, [] => (0, h)
  | h, c :: cs => bindE (g h c) fun h' => foldF g h' cs
theorem foldF_on {g : List Cl → Cl → EL} : ∀ {l m h h' : List Cl}, foldF g h l = (0, h') → foldF g h (l ++ m) = foldF g h' m
  | [], m, h, h', e => by
    rw [foldF, Prod.mk.injEq] at e
    rw [List.nil_append, e.2]
  | d :: l, m, h, h', e => by
    rw [foldF] at e
    by_cases h0 : (g h d).1 = 0
    · rw [bindE_ok h0] at e
      rw [List.cons_append, foldF, bindE_ok h0]
      exact foldF_on e
    · rw [bindE_bad h0, Prod.mk.injEq] at e
      exact absurd e.1 h0
theorem foldF_ok {g : List Cl → Cl → EL} {l h h' : List Cl} {i : Nat} (hi : i < l.length) (e : foldF g h (l.take i) = (0, h')) (h0 : (g h' (l.getD i cl0)).1 = 0) : foldF g h (l.take (i + 1)) = (0, (g h' (l.getD i cl0)).2) := by
  rw [take_succ_getD (d := cl0) hi, foldF_on e, foldF, bindE_ok h0, foldF]
theorem foldF_bad {g : List Cl → Cl → EL} {l h h' : List Cl} {i : Nat} (hi : i < l.length) (e : foldF g h (l.take i) = (0, h')) (h0 : (g h' (l.getD i cl0)).1 ≠ 0) : foldF g h l = ((g h' (l.getD i cl0)).1, []) := by
  have e2 : l = l.take i ++ l.getD i cl0 :: l.drop (i + 1) := by rw [getD_get (d := cl0) hi, List.getElem_cons_drop, List.take_append_drop]
  rw [e2, foldF_on e, ← e2, foldF, bindE_bad h0]
theorem foldF_all {g : List Cl → Cl → EL} {l h h' : List Cl} {i : Nat} (hi : i = l.length) (e : foldF g h (l.take i) = (0, h')) : foldF g h l = (0, h') := by
  rw [hi, List.take_length] at e
  exact e
/-! Formulas. -/
def joinF (f g : List Cl) : EL := leastF (f ++ g)
def meetL (f g : List Cl) : List Cl := f.flatMap fun a => g.map fun b => meetC a b
def meetF (f g : List Cl) : EL := leastF (meetL f g)
def oppL (c : Cl) : List Cl := ((listM c.pos).map fun i => (⟨0, bitM i⟩ : Cl)) ++ ((listM c.neg).map fun i => (⟨bitM i, 0⟩ : Cl))
def oppF (c : Cl) : EL := leastF (oppL c)
def notStep (h : List Cl) (c : Cl) : EL := bindE (oppF c) fun o => meetF h o
def notF (f : List Cl) : EL := foldF notStep [cl0] f
def notR (f : List Cl) : EL := if fRight f then notF f else (2, [])
def takeC (c : Cl) (i : Int) : Cl := ⟨withoutM c.pos i, withoutM c.neg i⟩
def putPos (i : Int) (r : List Cl) (c : Cl) : EL := if hasM c.pos i then meetF [takeC c i] r else (0, [takeC c i])
def putNeg (i : Int) (r : List Cl) (c : Cl) (g : List Cl) : EL := if hasM c.neg i then bindE (notF r) fun s => meetF g s else (0, g)
def putStep (i : Int) (r h : List Cl) (c : Cl) : EL := bindE (putPos i r c) fun g => bindE (putNeg i r c g) fun g => joinF h g
theorem putStep_bad1 {i : Int} {r h : List Cl} {c : Cl} {P : EL} (hP : putPos i r c = P) (h0 : P.1 ≠ 0) : putStep i r h c = (P.1, []) := by unfold putStep; rw [hP]; exact bindE_bad h0
theorem putStep_bad2 {i : Int} {r h : List Cl} {c : Cl} {P N : EL} (hP : putPos i r c = P) (h0 : P.1 = 0) (hN : putNeg i r c P.2 = N) (h1 : N.1 ≠ 0) : putStep i r h c = (N.1, []) := by unfold putStep; rw [hP, bindE_ok h0, hN]; exact bindE_bad h1
theorem putStep_end {i : Int} {r h : List Cl} {c : Cl} {P N : EL} (hP : putPos i r c = P) (h0 : P.1 = 0) (hN : putNeg i r c P.2 = N) (h1 : N.1 = 0) : putStep i r h c = joinF h N.2 := by unfold putStep; rw [hP, bindE_ok h0, hN]; exact bindE_ok h1
theorem putNeg_bad {i : Int} {r : List Cl} {c : Cl} {g : List Cl} {s : EL} (h : hasM c.neg i = true) (hs : s = notF r) (h0 : s.1 ≠ 0) : putNeg i r c g = (s.1, []) := by unfold putNeg; rw [if_pos h, ← hs]; exact bindE_bad h0
theorem putNeg_yes {i : Int} {r : List Cl} {c : Cl} {g : List Cl} {s m : EL} (h : hasM c.neg i = true) (hs : s = notF r) (h0 : s.1 = 0) (hm : m = meetF g s.2) : putNeg i r c g = m := by unfold putNeg; rw [if_pos h, ← hs, hm]; exact bindE_ok h0
theorem putNeg_no {i : Int} {r : List Cl} {c : Cl} {g : List Cl} (h : hasM c.neg i = false) : putNeg i r c g = (0, g) := by unfold putNeg; rw [if_neg (by simp [h])]
def formPut (f : List Cl) (i : Int) (r : List Cl) : EL := if (fRight f && fRight r) = false then (2, []) else if isDim i = false then (2, []) else foldF (putStep i r) [] f
/-! Faces. -/
def calmL (l : List Cl) : List Cl := l.filter fun c => !clash c
def ofF (f : List Cl) : EL := if fRight f then leastF (calmL f) else (2, [])
def ofZero (r : List Cl) : EL := bindE (notR r) ofF
def meetA (f g : List Cl) : EL := leastF (f.flatMap fun a => calmL (g.map fun b => meetC a b))
def facePart (i : Int) (r : List Cl) (c : Cl) : EL := if hasM c.pos i then bindE (ofF r) fun x => meetA [takeC c i] x else if hasM c.neg i then bindE (ofZero r) fun x => meetA [takeC c i] x else (0, [takeC c i])
def faceStep (i : Int) (r h : List Cl) (c : Cl) : EL := bindE (facePart i r c) fun g => joinF h g
theorem faceStep_ok {i : Int} {r h : List Cl} {c : Cl} {P : EL} (hP : facePart i r c = P) (h0 : P.1 = 0) : faceStep i r h c = joinF h P.2 := by unfold faceStep; rw [hP]; exact bindE_ok h0
theorem faceStep_bad {i : Int} {r h : List Cl} {c : Cl} {P : EL} (hP : facePart i r c = P) (h0 : P.1 ≠ 0) : faceStep i r h c = (P.1, []) := by unfold faceStep; rw [hP]; exact bindE_bad h0
theorem facePart_pos {i : Int} {r : List Cl} {c : Cl} {q m : EL} (h : hasM c.pos i = true) (hq : q = ofF r) (h0 : q.1 = 0) (hm : m = meetA [takeC c i] q.2) : facePart i r c = m := by unfold facePart; rw [if_pos h, ← hq, hm]; exact bindE_ok h0
theorem facePart_pose {i : Int} {r : List Cl} {c : Cl} {q : EL} (h : hasM c.pos i = true) (hq : q = ofF r) (h0 : q.1 ≠ 0) : facePart i r c = (q.1, []) := by unfold facePart; rw [if_pos h, ← hq]; exact bindE_bad h0
theorem facePart_neg {i : Int} {r : List Cl} {c : Cl} {q m : EL} (h1 : hasM c.pos i = false) (h : hasM c.neg i = true) (hq : q = ofZero r) (h0 : q.1 = 0) (hm : m = meetA [takeC c i] q.2) : facePart i r c = m := by unfold facePart; rw [if_neg (by simp [h1]), if_pos h, ← hq, hm]; exact bindE_ok h0
theorem facePart_nege {i : Int} {r : List Cl} {c : Cl} {q : EL} (h1 : hasM c.pos i = false) (h : hasM c.neg i = true) (hq : q = ofZero r) (h0 : q.1 ≠ 0) : facePart i r c = (q.1, []) := by unfold facePart; rw [if_neg (by simp [h1]), if_pos h, ← hq]; exact bindE_bad h0
theorem facePart_no {i : Int} {r : List Cl} {c : Cl} (h1 : hasM c.pos i = false) (h : hasM c.neg i = false) : facePart i r c = (0, [takeC c i]) := by unfold facePart; rw [if_neg (by simp [h1]), if_neg (by simp [h])]
def facePut (f : List Cl) (i : Int) (r : List Cl) : EL := if (faceRight f && isDim i && fRight r) = false then (2, []) else foldF (faceStep i r) [] f
def single (c : Cl) : Bool := right24 c && !clash c
/-! ### Rows that may lie in memory -/
abbrev okE (x : EL) : Prop := rowOk x.2
theorem rowOk_sub {l m : List Cl} (h : rowOk l) (hs : ∀ c, c ∈ m → c ∈ l) (hl : m.length ≤ l.length) : rowOk m := ⟨fun c hc => h.1 c (hs c hc), by have := h.2; omega⟩
theorem okE_least {l : List Cl} (h : ∀ c, c ∈ l → u32 c) : okE (leastF l) := leastF_ok h
theorem okE_bind {x : EL} {k : List Cl → EL} (h : x.1 = 0 → okE (k x.2)) : okE (bindE x k) := by
  by_cases h0 : x.1 = 0
  · rw [bindE_ok h0]; exact h h0
  · rw [bindE_bad h0]; exact rowOk_nil
theorem okE_fold {g : List Cl → Cl → EL} : ∀ {l h : List Cl}, (∀ h c, c ∈ l → rowOk h → okE (g h c)) → rowOk h → okE (foldF g h l)
  | [], h, _, h2 => h2
  | c :: l, h, h1, h2 => by
    rw [foldF]
    exact okE_bind fun _ => okE_fold (fun h' d hd => h1 h' d (List.mem_cons_of_mem _ hd)) (h1 h c List.mem_cons_self h2)
theorem u32_meet {a b : Cl} (h : u32 a) (h2 : u32 b) : u32 (meetC a b) := ⟨Nat.or_lt_two_pow (n := 32) h.1 h2.1, Nat.or_lt_two_pow (n := 32) h.2 h2.2⟩
theorem u32_join {f g : List Cl} (h : ∀ c, c ∈ f → u32 c) (h2 : ∀ c, c ∈ g → u32 c) : ∀ c, c ∈ f ++ g → u32 c := fun c hc => (List.mem_append.mp hc).elim (h c) (h2 c)
theorem u32_meetL {f g : List Cl} (h : ∀ c, c ∈ f → u32 c) (h2 : ∀ c, c ∈ g → u32 c) : ∀ c, c ∈ meetL f g → u32 c := fun c hc => by
  obtain ⟨a, ha, hc⟩ := List.mem_flatMap.mp hc
  obtain ⟨b, hb, rfl⟩ := List.mem_map.mp hc
  exact u32_meet (h a ha) (h2 b hb)
theorem u32_opp (c : Cl) : ∀ d, d ∈ oppL c → u32 d := fun d hd => by
  rcases List.mem_append.mp hd with hd | hd
  · obtain ⟨i, _, rfl⟩ := List.mem_map.mp hd
    exact ⟨by show (0 : Nat) < _; decide, by have := bitM_lt i; show bitM i < 4294967296; omega⟩
  · obtain ⟨i, _, rfl⟩ := List.mem_map.mp hd
    exact ⟨by have := bitM_lt i; show bitM i < 4294967296; omega, by show (0 : Nat) < _; decide⟩
theorem u32_take (c : Cl) (i : Int) : u32 (takeC c i) := ⟨by have := withoutM_lt c.pos i; show withoutM c.pos i < _; omega, by have := withoutM_lt c.neg i; show withoutM c.neg i < _; omega⟩
theorem rowOk_one {c : Cl} (h : u32 c) : rowOk [c] := ⟨fun d hd => by rw [List.mem_singleton] at hd; subst hd; exact h, by unfold reach; simp⟩
theorem okE_join {f g : List Cl} (h : rowOk f) (h2 : rowOk g) : okE (joinF f g) := okE_least (u32_join h.1 h2.1)
theorem okE_meet {f g : List Cl} (h : rowOk f) (h2 : rowOk g) : okE (meetF f g) := okE_least (u32_meetL h.1 h2.1)
theorem okE_opp (c : Cl) : okE (oppF c) := okE_least (u32_opp c)
theorem okE_notStep {h : List Cl} {c : Cl} (hh : rowOk h) : okE (notStep h c) := okE_bind fun _ => okE_meet hh (okE_opp c)
theorem rowOk_one0 : rowOk [cl0] := rowOk_one ⟨by decide, by decide⟩
theorem okE_not (f : List Cl) : okE (notF f) := okE_fold (fun h c _ hh => okE_notStep hh) rowOk_one0
theorem okE_notR (f : List Cl) : okE (notR f) := by unfold notR; split; exact okE_not f; exact rowOk_nil
theorem okE_putPos {i : Int} {r : List Cl} {c : Cl} (hr : rowOk r) : okE (putPos i r c) := by
  unfold putPos
  split
  · exact okE_meet (rowOk_one (u32_take c i)) hr
  · exact rowOk_one (u32_take c i)
theorem okE_putNeg {i : Int} {r : List Cl} {c : Cl} {g : List Cl} (hg : rowOk g) : okE (putNeg i r c g) := by
  unfold putNeg
  split
  · exact okE_bind fun _ => okE_meet hg (okE_not r)
  · exact hg
theorem okE_putStep {i : Int} {r h : List Cl} {c : Cl} (hr : rowOk r) (hh : rowOk h) : okE (putStep i r h c) := by
  unfold putStep
  refine okE_bind fun _ => okE_bind fun _ => okE_join hh ?_
  have h1 : okE (putPos i r c) := okE_putPos hr
  exact okE_putNeg h1
theorem okE_formPut {f r : List Cl} {i : Int} (hr : rowOk r) : okE (formPut f i r) := by
  unfold formPut
  split
  · exact rowOk_nil
  · split
    · exact rowOk_nil
    · exact okE_fold (fun h c _ hh => okE_putStep hr hh) rowOk_nil
theorem rowOk_calm {l : List Cl} (h : rowOk l) : rowOk (calmL l) := rowOk_sub h (fun c hc => (List.mem_filter.mp hc).1) (List.length_filter_le _ _)
theorem okE_of {f : List Cl} (h : rowOk f) : okE (ofF f) := by unfold ofF; split; exact okE_least (rowOk_calm h).1; exact rowOk_nil
theorem okE_ofZero (r : List Cl) : okE (ofZero r) := okE_bind fun _ => okE_of (okE_notR r)
theorem okE_meetA {f g : List Cl} (h : rowOk f) (h2 : rowOk g) : okE (meetA f g) := okE_least fun c hc => by
  obtain ⟨a, ha, hc⟩ := List.mem_flatMap.mp hc
  obtain ⟨b, hb, rfl⟩ := List.mem_map.mp (List.mem_filter.mp hc).1
  exact u32_meet (h.1 a ha) (h2.1 b hb)
theorem okE_facePart {i : Int} {r : List Cl} {c : Cl} (hr : rowOk r) : okE (facePart i r c) := by
  unfold facePart
  split
  · exact okE_bind fun _ => okE_meetA (rowOk_one (u32_take c i)) (okE_of hr)
  · split
    · exact okE_bind fun _ => okE_meetA (rowOk_one (u32_take c i)) (okE_ofZero r)
    · exact rowOk_one (u32_take c i)
theorem okE_faceStep {i : Int} {r h : List Cl} {c : Cl} (hr : rowOk r) (hh : rowOk h) : okE (faceStep i r h c) := okE_bind fun _ => okE_join hh (okE_facePart hr)
theorem okE_facePut {f r : List Cl} {i : Int} (hr : rowOk r) : okE (facePut f i r) := by
  unfold facePut
  split
  · exact rowOk_nil
  · exact okE_fold (fun h c _ hh => okE_faceStep hr hh) rowOk_nil
/-! No more than 64. -/
abbrev lenE (x : EL) : Prop := x.2.length ≤ 64
theorem len_least (l : List Cl) : lenE (leastF l) := by
  rcases leastF_cases l with ⟨_, _, h, h2⟩ | h | h
  · show (leastF l).2.length ≤ 64; rw [h]; exact h2
  · show (leastF l).2.length ≤ 64; rw [leastF_snd (by omega)]; decide
  · show (leastF l).2.length ≤ 64; rw [leastF_snd (by omega)]; decide
theorem len_bind {x : EL} {k : List Cl → EL} (h : x.1 = 0 → lenE (k x.2)) : lenE (bindE x k) := by
  by_cases h0 : x.1 = 0
  · rw [bindE_ok h0]; exact h h0
  · rw [bindE_bad h0]; show ([] : List Cl).length ≤ 64; decide
theorem len_fold {g : List Cl → Cl → EL} : ∀ {l h : List Cl}, (∀ h c, c ∈ l → h.length ≤ 64 → lenE (g h c)) → h.length ≤ 64 → lenE (foldF g h l)
  | [], h, _, h2 => h2
  | c :: l, h, h1, h2 => by
    rw [foldF]
    exact len_bind fun _ => len_fold (fun h' d hd => h1 h' d (List.mem_cons_of_mem _ hd)) (h1 h c List.mem_cons_self h2)
theorem len_notStep (h : List Cl) (c : Cl) : lenE (notStep h c) := len_bind fun _ => len_least _
theorem len_not (f : List Cl) : lenE (notF f) := len_fold (fun h c _ _ => len_notStep h c) (by decide)
theorem len_putStep (i : Int) (r h : List Cl) (c : Cl) : lenE (putStep i r h c) := len_bind fun _ => len_bind fun _ => len_least _
theorem len_of (f : List Cl) : lenE (ofF f) := by unfold ofF; split; exact len_least _; (show ([] : List Cl).length ≤ 64; decide)
theorem len_ofZero (r : List Cl) : lenE (ofZero r) := len_bind fun _ => len_of _
theorem len_right {f : List Cl} (h : fRight f = true) : f.length ≤ 64 := by
  unfold fRight at h
  simp only [Bool.and_eq_true, decide_eq_true_eq] at h
  exact h.2
theorem oppL_len (c : Cl) : (oppL c).length ≤ 48 := by
  unfold oppL
  rw [List.length_append, List.length_map, List.length_map]
  have h1 : (listM c.pos).length ≤ 24 := listTo_len _ _
  have h2 : (listM c.neg).length ≤ 24 := listTo_len _ _
  omega
theorem listM_at {s i : Nat} (h : i < (listM s).length) : 0 ≤ (listM s).getD i 0 ∧ (listM s).getD i 0 < 24 := by
  have h1 := listTo_in (getD_mem (d := (0 : Int)) h)
  exact ⟨h1.1, by have := h1.2; exact_mod_cast this⟩
theorem listM_in {s i : Nat} (h : i < (listM s).length) : in64 ((listM s).getD i 0) := by have := listM_at h; unfold in64; omega
theorem meetL_len (f g : List Cl) : (meetL f g).length = f.length * g.length := by
  unfold meetL
  induction f with
  | nil => simp
  | cons a f ih => rw [List.flatMap_cons, List.length_append, ih, List.length_map, List.length_cons, Nat.succ_mul]; omega
theorem meetL_snoc (f g : List Cl) (a : Cl) : meetL (f ++ [a]) g = meetL f g ++ g.map fun b => meetC a b := by unfold meetL; rw [List.flatMap_append]; simp
theorem rowOk_CL {ok : Nat → Prop} {l : List Cl} {a : SH} {w : World} (h : clsAt ok l a w) : rowOk l := ⟨h.2, h.1.2.1⟩
def dimF (i : Int) : EL := if isDim i then (0, [⟨bitM i, 0⟩]) else (2, [])
/-! ### From an own row to what is known -/
theorem St.litCC2 {B : Base} {Γ : List Fact} {Ms : List Res} {w : World} {e : TypeId} {b : Nat} {l m : List Cl} {a a' : SH} (hs : St B Γ (boxR b [sl a l.length, sl a' m.length] e :: Ms) w) {hBp : Prop} (hB : hBp) (hF : CL l a ∈ Γ) (hG : CL m a' ∈ Γ) : St B (CCF [(l, a), (m, a')] (some ⟨b, 0, Option.none⟩, 2) :: Γ) Ms w := by
  have h1 := ((hs.boxRow (sz := 1) (m := 2) rfl (by decide)).allNil cpE).allAdd (x := (l, a)) List.mem_cons_self (List.mem_cons_of_mem _ hF)
  have h2 := h1.allAdd (x := (m, a')) List.mem_cons_self (List.mem_cons_of_mem _ (List.mem_cons_of_mem _ hG))
  exact (h2.settleRow (F := cpCells) (E := cpE) (d := cp0) (bt := 24) (l := [(l, a), (m, a')]) (fun _ => rfl) hB List.mem_cons_self rfl rfl (by decide)).less (by simp +contextual)
theorem St.lit1C {B : Base} {Γ : List Fact} {Ms : List Res} {w : World} {b : Nat} {e : TypeId} {cs : List Value} {c : Cl} (hs : St B Γ (boxR b cs e :: Ms) w) {hBp : Prop} (hB : hBp) (hc : cs = clCells c) (hu : u32 c) : St B (CL [c] (some ⟨b, 0, Option.none⟩, 1) :: Γ) Ms w :=
  (hs.boxRow (sz := 2) (m := 1) (by rw [hc]; rfl) (by decide)).settleCL (l := [c]) hB (by rw [hc]; simp [clFlat]) rfl (rowOk_one hu).2 (rowOk_one hu).1
theorem Spec.rowF {P : Program} {k : FuncId} {args : Array Value} {pre : List Fact} {e : TypeId} {r r' : EL} (he : r' = r) (h : Spec P k args pre [] (fun x : SH => .tuple #[sl x r.2.length, .int .i64 r.1]) (fun _ => []) (fun x => [rowS 2 e x r.2.length (clFlat r.2)])) (hr : okE r) :
    Spec P k args pre [] (fun x : SH => .tuple #[sl x r'.2.length, .int .i64 r'.1]) (fun x => [CL r'.2 x]) (fun _ => []) := by
  subst he
  exact fun ok w hok hst => (h ok w hok hst).mono fun e w' hh => by
    obtain ⟨x, he, hs⟩ := hh
    exact ⟨x, he, hs.settleCL trivial rfl rfl hr.2 hr.1⟩
theorem Spec.rowH {P : Program} {k : FuncId} {args : Array Value} {pre : List Fact} {e : TypeId} {r r' : EL} (he : r' = r) (h : Spec P k args pre [] (fun x : SH => .tuple #[sl x r.2.length, .int .i64 r.1]) (fun _ => []) (fun x => [rowS 2 e x r.2.length (clFlat r.2)])) :
    Spec P k args pre [] (fun x : SH => .tuple #[sl x r'.2.length, .int .i64 r'.1]) (fun _ => []) (fun x => [rowS 2 e x r'.2.length (clFlat r'.2)]) := by
  subst he
  exact h
end Go.Hy
namespace Go.Hy
/-! ### A way through a term that changes rows alone -/
structure RowsW where
  form : Int → List Cl → EL
  face : Int → List Cl → EL
def elR (x : EL) : Res1 (List Cl) := if x.1 = 0 then .ok x.2 else .bad x.1
theorem elR_ok {x : EL} (h : x.1 = 0) : elR x = .ok x.2 := if_pos h
theorem elR_bad {x : EL} (h : x.1 ≠ 0) : elR x = .bad x.1 := if_neg h
theorem elR_ok_iff {x : EL} {g : List Cl} : elR x = .ok g ↔ x = (0, g) := by
  unfold elR
  split
  · rename_i h
    constructor
    · intro h2; injection h2 with h2; exact Prod.ext h h2
    · rintro rfl; rfl
  · rename_i h
    constructor
    · intro h2; cases h2
    · rintro rfl; exact absurd rfl h
theorem elR_bad_iff {x : EL} {e : Int} : elR x = .bad e ↔ x.1 = e ∧ e ≠ 0 := by
  unfold elR
  split
  · rename_i h
    constructor
    · intro h2; cases h2
    · rintro ⟨h2, h3⟩; exact absurd (h2.symm.trans h) h3
  · rename_i h
    constructor
    · intro h2; injection h2 with h2; exact ⟨h2, h2 ▸ h⟩
    · rintro ⟨h2, h3⟩; rw [h2]
def RowsW.row (W : RowsW) (k d : Int) (r : List Cl) : EL := if k = 14 then W.face d r else W.form d r
def rowsTr (W : RowsW) : Tr Int where
  own d k n _ r := (elR (W.row k d r)).bind fun g => .ok (.inr (n, g))
  face d f := (elR (W.face d f)).bind fun g => .ok (if g.length = 0 then none else some g)
  kid d b := .ok (d + b.2)
theorem rows_kid {W : RowsW} {d : Int} {b : Int × Int} : (rowsTr W).kid d b = .ok (d + b.2) := rfl
theorem rows_own_ok {W : RowsW} {d k n : Int} {nm : ByteArray} {r : List Cl} (h : (W.row k d r).1 = 0) : (rowsTr W).own d k n nm r = .ok (.inr (n, (W.row k d r).2)) := by
  show (elR _).bind _ = _; rw [elR_ok h]; rfl
theorem rows_own_bad {W : RowsW} {d k n : Int} {nm : ByteArray} {r : List Cl} (h : (W.row k d r).1 ≠ 0) : (rowsTr W).own d k n nm r = .bad (W.row k d r).1 := by
  show (elR _).bind _ = _; rw [elR_bad h]; rfl
theorem rows_own_inr {W : RowsW} {d k n : Int} {nm : ByteArray} {r : List Cl} {p : Int × List Cl} : (rowsTr W).own d k n nm r = .ok (.inr p) ↔ W.row k d r = (0, p.2) ∧ p.1 = n := by
  constructor
  · intro h
    obtain ⟨g, hg, h2⟩ := Res1.bind_ok (x := elR (W.row k d r)) h
    injection h2 with h2; injection h2 with h2; subst h2
    exact ⟨elR_ok_iff.mp hg, rfl⟩
  · rintro ⟨h1, h2⟩
    rw [rows_own_ok (by rw [h1]), h1, ← h2]
theorem rows_own_inl {W : RowsW} {d k n : Int} {nm : ByteArray} {r : List Cl} {u : T} : (rowsTr W).own d k n nm r ≠ .ok (.inl u) := by
  intro h
  obtain ⟨g, hg, h2⟩ := Res1.bind_ok (x := elR (W.row k d r)) h
  injection h2 with h2; cases h2
theorem rows_own_bad_iff {W : RowsW} {d k n e : Int} {nm : ByteArray} {r : List Cl} : (rowsTr W).own d k n nm r = .bad e ↔ (W.row k d r).1 = e ∧ e ≠ 0 := by
  rw [← elR_bad_iff]
  show (elR _).bind _ = _ ↔ _
  cases elR (W.row k d r) with
  | ok g => constructor <;> (intro h; cases h)
  | bad e' => exact Iff.intro (fun h => by injection h with h; rw [h]) (fun h => by injection h with h; rw [h]; rfl)
theorem rows_face_none {W : RowsW} {d : Int} {f : List Cl} (h : (W.face d f).1 = 0) (h2 : (W.face d f).2.length = 0) : (rowsTr W).face d f = .ok none := by
  show (elR _).bind _ = _; rw [elR_ok h]; show Res1.ok (if _ then _ else _) = _; rw [if_pos h2]
theorem rows_face_some {W : RowsW} {d : Int} {f : List Cl} (h : (W.face d f).1 = 0) (h2 : (W.face d f).2.length ≠ 0) : (rowsTr W).face d f = .ok (some (W.face d f).2) := by
  show (elR _).bind _ = _; rw [elR_ok h]; show Res1.ok (if _ then _ else _) = _; rw [if_neg h2]
theorem rows_face_bad {W : RowsW} {d : Int} {f : List Cl} (h : (W.face d f).1 ≠ 0) : (rowsTr W).face d f = .bad (W.face d f).1 := by
  show (elR _).bind _ = _; rw [elR_bad h]; rfl
theorem rows_face_some_iff {W : RowsW} {d : Int} {f g : List Cl} : (rowsTr W).face d f = .ok (some g) ↔ W.face d f = (0, g) ∧ g ≠ [] := by
  constructor
  · intro h
    obtain ⟨g', hg, h2⟩ := Res1.bind_ok (x := elR (W.face d f)) h
    injection h2 with h2
    split at h2
    · cases h2
    · rename_i h3
      injection h2 with h2; subst h2
      exact ⟨elR_ok_iff.mp hg, fun h => h3 (by rw [h]; rfl)⟩
  · rintro ⟨h, h2⟩
    have h3 := rows_face_some (W := W) (d := d) (f := f) (by rw [h]) (by rw [h]; intro h4; exact h2 (List.eq_nil_of_length_eq_zero h4))
    rw [h3, h]
theorem rows_face_bad_iff {W : RowsW} {d e : Int} {f : List Cl} : (rowsTr W).face d f = .bad e ↔ (W.face d f).1 = e ∧ e ≠ 0 := by
  rw [← elR_bad_iff]
  show (elR _).bind _ = _ ↔ _
  cases elR (W.face d f) with
  | ok g => constructor <;> (intro h; cases h)
  | bad e' => exact Iff.intro (fun h => by injection h with h; rw [h]) (fun h => by injection h with h; rw [h]; rfl)
/-! Terms of a list, one by one. -/
def eachT (g : Nat → T → Res1 T) : Nat → List T → Res1 (List T)
  | _, [] => .ok []
  | i, t :: ts => (g i t).bind fun t' => (eachT g (i + 1) ts).bind fun ts' => .ok (t' :: ts')
section
variable {g : Nat → T → Res1 T}
theorem eachT_snoc : ∀ (i : Nat) (l : List T) (t : T), eachT g i (l ++ [t]) = (eachT g i l).bind fun l' => (g (i + l.length) t).bind fun t' => .ok (l' ++ [t'])
  | i, [], t => by
    simp only [List.nil_append, eachT, Res1.bind, List.length_nil, Nat.add_zero]
  | i, a :: l, t => by
    simp only [List.cons_append, eachT, eachT_snoc (i + 1) l t, List.length_cons]
    rw [show i + 1 + l.length = i + (l.length + 1) by omega]
    cases g i a with
    | bad e => rfl
    | ok a' =>
      simp only [Res1.bind]
      cases eachT g (i + 1) l with
      | bad e => rfl
      | ok l' =>
        simp only
        cases g (i + (l.length + 1)) t with
        | bad e => rfl
        | ok c2 => rfl
theorem eachT_bad {e : Int} : ∀ {l m : List T} {i : Nat}, eachT g i l = .bad e → eachT g i (l ++ m) = .bad e
  | [], m, i, h => by rw [eachT] at h; cases h
  | a :: l, m, i, h => by
    rw [List.cons_append, eachT]
    rw [eachT] at h
    cases h1 : g i a with
    | bad e' => rw [h1] at h; exact h
    | ok a' =>
      rw [h1] at h
      simp only [Res1.bind] at h ⊢
      cases h3 : eachT g (i + 1) l with
      | bad e' => rw [h3] at h; rw [eachT_bad h3]; exact h
      | ok l' => rw [h3] at h; cases h
theorem eachT_at_ok {l us : List T} {i : Nat} {u : T} (hi : i < l.length) (h : eachT g 0 (l.take i) = .ok us) (hu : g i (l.getD i t0) = .ok u) : eachT g 0 (l.take (i + 1)) = .ok (us ++ [u]) := by
  rw [take_succ_getD (d := t0) hi, eachT_snoc, h]
  simp only [Res1.bind, List.length_take, Nat.zero_add, Nat.min_eq_left (Nat.le_of_lt hi)]
  rw [hu]
theorem eachT_at_bad {l us : List T} {i : Nat} {e : Int} (hi : i < l.length) (h : eachT g 0 (l.take i) = .ok us) (hu : g i (l.getD i t0) = .bad e) : eachT g 0 l = .bad e := by
  have h1 : eachT g 0 (l.take (i + 1)) = .bad e := by
    rw [take_succ_getD (d := t0) hi, eachT_snoc, h]
    simp only [Res1.bind, List.length_take, Nat.zero_add, Nat.min_eq_left (Nat.le_of_lt hi)]
    rw [hu]
  have h2 := eachT_bad (m := l.drop (i + 1)) h1
  rwa [List.take_append_drop] at h2
theorem eachT_len : ∀ {l us : List T} {i : Nat}, eachT g i l = .ok us → us.length = l.length
  | [], us, i, h => by rw [eachT] at h; injection h with h; subst h; rfl
  | a :: l, us, i, h => by
    rw [eachT] at h
    obtain ⟨a', _, h⟩ := Res1.bind_ok h
    obtain ⟨l', h2, h⟩ := Res1.bind_ok h
    injection h with h; subst h
    simp [eachT_len h2]
theorem eachT_why {e : Int} : ∀ {l : List T} {i : Nat}, eachT g i l = .bad e → ∃ j t, t ∈ l ∧ g j t = .bad e
  | [], i, h => by rw [eachT] at h; cases h
  | a :: l, i, h => by
    rw [eachT] at h
    cases h1 : g i a with
    | bad e' => rw [h1] at h; injection h with h; subst h; exact ⟨i, a, List.mem_cons_self, h1⟩
    | ok a' =>
      rw [h1] at h
      simp only [Res1.bind] at h
      cases h3 : eachT g (i + 1) l with
      | bad e' => rw [h3] at h; injection h with h; subst h; obtain ⟨j, t, ht, hj⟩ := eachT_why h3; exact ⟨j, t, List.mem_cons_of_mem _ ht, hj⟩
      | ok l' => rw [h3] at h; cases h
end
theorem travL_map {W : RowsW} {k d : Int} : ∀ {i : Nat} {ts : List T}, travL (rowsTr W) k i ts d = eachT (fun j t => trav (rowsTr W) t (d + (binds k j).2)) i ts
  | i, [] => by rw [travL_nil, eachT]
  | i, t :: ts => by rw [travL_cons, eachT, rows_kid, travL_map (i := i + 1) (ts := ts)]; rfl
theorem travS_map {W : RowsW} {k d : Int} : ∀ {i : Nat} {ts : List T}, travS (rowsTr W) k ts d = eachT (fun _ t => trav (rowsTr W) t (d + more k)) i ts
  | i, [] => by rw [travS_nil, eachT]
  | i, t :: ts => by rw [travS_cons, eachT, rows_kid, travS_map (i := i + 1) (ts := ts)]; rfl
theorem travB_at_none {C : Type} {A : Tr C} {k : Int} {c : C} {ss : List Br} {s : Nat} {bs : List Br} (hs : s < ss.length) (hb : travB A k (ss.take s) c = .ok bs) (hf : A.face c (ss.getD s br0).face = .ok none) : travB A k (ss.take (s + 1)) c = .ok bs := by
  rw [take_succ_getD (d := br0) hs, travB_snoc, hb]
  simp only [Res1.bind]
  rw [hf]
theorem trav_kids_bad {C : Type} {A : Tr C} {t : T} {c : C} {e : Int} {p : Int × List Cl} (h : A.own c t.kind t.n t.name t.r = .ok (.inr p)) (hl : travL A t.kind 0 t.kids c = .bad e) : trav A t c = .bad e := by
  rw [trav_eq, h]; simp only [Res1.bind]; rw [hl]
def asResL (r : Res1 (List T)) : Int × List T := match r with
  | .ok u => (0, u)
  | .bad e => (e, [])
theorem asRes_bad {r : Res1 T} (h : (asRes r).1 ≠ 0) : r = .bad (asRes r).1 := by
  cases r with
  | ok u => exact absurd rfl h
  | bad e => rfl
theorem asRes_ok {r : Res1 T} (hb : ∀ e, r = .bad e → e ≠ 0) (h : (asRes r).1 = 0) : r = .ok (asRes r).2 := by
  cases r with
  | ok u => rfl
  | bad e => exact absurd h (hb e rfl)
theorem asResL_bad {r : Res1 (List T)} (h : (asResL r).1 ≠ 0) : r = .bad (asResL r).1 := by
  cases r with
  | ok u => exact absurd rfl h
  | bad e => rfl
theorem asResL_ok {r : Res1 (List T)} (hb : ∀ e, r = .bad e → e ≠ 0) (h : (asResL r).1 = 0) : r = .ok (asResL r).2 := by
  cases r with
  | ok u => rfl
  | bad e => exact absurd h (hb e rfl)
theorem rows_bad_ne {W : RowsW} : ∀ (t : T) {d e : Int}, trav (rowsTr W) t d = .bad e → e ≠ 0 := T.ind fun t ih d e h => by
  rcases trav_why h with h1 | ⟨b, _, h1⟩ | ⟨p, hp, h1 | ⟨c', _, h2⟩⟩
  · exact (rows_own_bad_iff.mp h1).2
  · exact (rows_face_bad_iff.mp h1).2
  · cases h1
  · exact ih p hp h2
theorem eachT_bad_ne {W : RowsW} {b : Nat → Int} {l : List T} {i : Nat} {e d : Int} (h : eachT (fun j t => trav (rowsTr W) t (d + b j)) i l = .bad e) : e ≠ 0 := by
  obtain ⟨j, t, _, h1⟩ := eachT_why h
  exact rows_bad_ne t h1
abbrev walkR (W : RowsW) (t : T) (d : Int) : Int × T := asRes (trav (rowsTr W) t d)
abbrev walkL (W : RowsW) (b : Nat → Int) (l : List T) (d : Int) : Int × List T := asResL (eachT (fun j t => trav (rowsTr W) t (d + b j)) 0 l)
/-! Rows with a formula in a dimension's place; rows without a dimension. -/
def rowPut (P : List Cl → Int → List Cl → EL) (i : Int) (r : List Cl) (d : Int) (f : List Cl) : EL := if hasM (fDims f) (i + d) = false then (0, f) else bindE (formLift r 0 d) fun s => P f (i + d) s
def putW (i : Int) (r : List Cl) : RowsW := ⟨rowPut formPut i r, rowPut facePut i r⟩
theorem size_kid_mem {t k : T} (h : k ∈ t.kids) : size k < size t := by obtain ⟨p, hp, e⟩ := kid_mem_parts h; exact e ▸ size_part_lt hp
theorem size_sys_mem {t k : T} {b : Br} (h : b ∈ t.sys) (h2 : k ∈ b.kids) : size k < size t := by obtain ⟨p, hp, e⟩ := sys_mem_parts h h2; exact e ▸ size_part_lt hp
/-! What a call tells, under another name. -/
theorem Spec.treeH {P : Program} {k : FuncId} {args : Array Value} {pre : List Fact} {Ms0 : List Res} {y : Tys} {r r' : Int × T} (he : r' = r) (h : Spec P k args pre Ms0 (fun x : {h : HT // h.er = r.2} => .tuple #[.agg (tc r.2 x.1.vr x.1.vk x.1.vs).toArray, .int .i64 r.1]) (fun _ => []) (fun x => [bigR (treeR y x.1)])) :
    Spec P k args pre Ms0 (fun x : {h : HT // h.er = r'.2} => .tuple #[.agg (tc r'.2 x.1.vr x.1.vk x.1.vs).toArray, .int .i64 r'.1]) (fun _ => []) (fun x => [bigR (treeR y x.1)]) := by
  subst he
  exact h
theorem Spec.listH {P : Program} {k : FuncId} {args : Array Value} {pre : List Fact} {Ms0 : List Res} {y : Tys} {e : TypeId} {r r' : Int × List T} (he : r' = r) (h : Spec P k args pre Ms0 (fun x : {p : List HT × SH // p.1.map HT.er = r.2} => .tuple #[sl x.1.2 r.2.length, .int .i64 r.1]) (fun _ => []) (fun x => [rowS 6 e x.1.2 r.2.length (tpFlat (x.1.1.map HT.tp)), bigR (kidsR y x.1.1)])) :
    Spec P k args pre Ms0 (fun x : {p : List HT × SH // p.1.map HT.er = r'.2} => .tuple #[sl x.1.2 r'.2.length, .int .i64 r'.1]) (fun _ => []) (fun x => [rowS 6 e x.1.2 r'.2.length (tpFlat (x.1.1.map HT.tp)), bigR (kidsR y x.1.1)]) := by
  subst he
  exact h
end Go.Hy
namespace Go.Hy
/-! ### dims: what the program makes of a term -/
section
variable {W : RowsW}
mutual
theorem walk_size : ∀ {t u : T} {d : Int}, trav (rowsTr W) t d = .ok u → size u ≤ size t
  | .mk k n nm r ks ss, u, d, hu => by
    rw [trav_eq] at hu
    simp only [T.kind, T.n, T.name, T.r, T.kids, T.sys] at hu
    obtain ⟨o, h9, hu⟩ := Res1.bind_ok hu
    cases o with
    | inl v => exact absurd h9 rows_own_inl
    | inr p =>
      obtain ⟨ks', h10, hu⟩ := Res1.bind_ok hu
      obtain ⟨ss', h11, hu⟩ := Res1.bind_ok hu
      injection hu with hu
      subst hu
      rw [size_sumLB, size_sumLB]
      simp only [T.kids, T.sys]
      have h1 := walkL_size h10
      have h2 := walkB_size h11
      omega
theorem walkL_size {k : Int} : ∀ {ts us : List T} {i : Nat} {d : Int}, travL (rowsTr W) k i ts d = .ok us → sizeL us ≤ sizeL ts
  | [], us, i, d, hu => by rw [travL_nil] at hu; injection hu with hu; subst hu; exact Nat.le_refl _
  | t :: ts, us, i, d, hu => by
    rw [travL_cons] at hu
    obtain ⟨c', _, hu⟩ := Res1.bind_ok hu
    obtain ⟨t', h2, hu⟩ := Res1.bind_ok hu
    obtain ⟨ts', h3, hu⟩ := Res1.bind_ok hu
    injection hu with hu
    subst hu
    have h4 := walk_size h2
    have h5 := walkL_size h3
    simp only [sizeL]
    omega
theorem walkS_size {k : Int} : ∀ {ts us : List T} {d : Int}, travS (rowsTr W) k ts d = .ok us → sizeL us ≤ sizeL ts
  | [], us, d, hu => by rw [travS_nil] at hu; injection hu with hu; subst hu; exact Nat.le_refl _
  | t :: ts, us, d, hu => by
    rw [travS_cons] at hu
    obtain ⟨c', _, hu⟩ := Res1.bind_ok hu
    obtain ⟨t', h2, hu⟩ := Res1.bind_ok hu
    obtain ⟨ts', h3, hu⟩ := Res1.bind_ok hu
    injection hu with hu
    subst hu
    have h4 := walk_size h2
    have h5 := walkS_size h3
    simp only [sizeL]
    omega
theorem walkB_size {k : Int} : ∀ {bs us : List Br} {d : Int}, travB (rowsTr W) k bs d = .ok us → sizeB us ≤ sizeB bs
  | [], us, d, hu => by rw [travB_nil] at hu; injection hu with hu; subst hu; exact Nat.le_refl _
  | .mk f ks :: bs, us, d, hu => by
    rw [travB_cons] at hu
    simp only [Br.face, Br.kids] at hu
    obtain ⟨o, h5, hu⟩ := Res1.bind_ok hu
    cases o with
    | none => have h6 := walkB_size hu; simp only [sizeB]; omega
    | some g =>
      obtain ⟨ks', h7, hu⟩ := Res1.bind_ok hu
      obtain ⟨bs', h8, hu⟩ := Res1.bind_ok hu
      injection hu with hu
      subst hu
      have h1 := walkS_size h7
      have h2 := walkB_size h8
      simp only [sizeB, Br.kids]
      omega
end
theorem walk_okT (hW : ∀ d f, rowOk f → okE (W.form d f) ∧ okE (W.face d f)) {t u : T} {d : Int} (h : okT t) (hu : trav (rowsTr W) t d = .ok u) : okT u := by
  refine trav_okT (A := rowsTr W) ?_ ?_ ?_ t d u h hu
  · intro c k n nm r p _ hn hr ho
    obtain ⟨h1, h2⟩ := rows_own_inr.mp ho
    have h3 := hW c r hr
    have h4 : okE (W.row k c r) := by unfold RowsW.row; split; exact h3.2; exact h3.1
    unfold okE at h4
    rw [h1] at h4
    exact ⟨by rw [h2]; exact hn, h4⟩
  · intro c k n nm r u ho
    exact absurd ho rows_own_inl
  · intro c f f' hr ho
    obtain ⟨h1, _⟩ := rows_face_some_iff.mp ho
    have h3 := (hW c f hr).2
    unfold okE at h3
    rw [h1] at h3
    exact h3
theorem size_t0 : size t0 = 1 := by decide
theorem asRes_size {t : T} {d : Int} : size (walkR W t d).2 ≤ size t := by
  unfold walkR
  cases h : trav (rowsTr W) t d with
  | ok u => exact walk_size h
  | bad e => show size t0 ≤ size t; rw [size_t0]; exact size_pos' t
theorem asRes_okT (hW : ∀ d f, rowOk f → okE (W.form d f) ∧ okE (W.face d f)) {t : T} {d : Int} (h : okT t) : okT (walkR W t d).2 := by
  unfold walkR
  cases hu : trav (rowsTr W) t d with
  | ok u => exact walk_okT hW h hu
  | bad e => exact okT_t0
end
theorem okE_rowPut {P : List Cl → Int → List Cl → EL} (hP : ∀ f i r, rowOk f → rowOk r → okE (P f i r)) {i d : Int} {r f : List Cl} (hf : rowOk f) : okE (rowPut P i r d f) := by
  unfold rowPut
  split
  · exact hf
  · exact okE_bind fun _ => hP _ _ _ hf (formLift_ok r 0 d)
theorem okW_put (i : Int) (r : List Cl) : ∀ d f, rowOk f → okE ((putW i r).form d f) ∧ okE ((putW i r).face d f) := fun d f hf =>
  ⟨okE_rowPut (fun f i r _ hr => okE_formPut hr) hf, okE_rowPut (fun f i r _ hr => okE_facePut hr) hf⟩
def thenT (x : Int × T) (k : T → Int × T) : Int × T := if x.1 ≠ 0 then (x.1, t0) else k x.2
theorem thenT_bad {x : Int × T} {k : T → Int × T} (h : x.1 ≠ 0) : thenT x k = (x.1, t0) := if_pos h
theorem thenT_ok {x : Int × T} {k : T → Int × T} (h : x.1 = 0) : thenT x k = k x.2 := if_neg (by simp [h])
def foldT {α : Type} (g : α → T → Int × T) : List α → T → Int × T
  | [], t => (0, t)
  | a :: l, t => thenT (g a t) fun u => foldT g l u
section
variable {α : Type} {g : α → T → Int × T}
theorem foldT_on : ∀ {l m : List α} {t u : T}, foldT g l t = (0, u) → foldT g (l ++ m) t = foldT g m u
  | [], m, t, u, e => by
    rw [foldT, Prod.mk.injEq] at e
    rw [List.nil_append, e.2]
  | a :: l, m, t, u, e => by
    rw [foldT] at e
    by_cases h0 : (g a t).1 = 0
    · rw [thenT_ok h0] at e
      rw [List.cons_append, foldT, thenT_ok h0]
      exact foldT_on e
    · rw [thenT_bad h0, Prod.mk.injEq] at e
      exact absurd e.1 h0
theorem foldT_ok {l : List α} {d : α} {t u : T} {i : Nat} (hi : i < l.length) (e : foldT g (l.take i) t = (0, u)) (h0 : (g (l.getD i d) u).1 = 0) : foldT g (l.take (i + 1)) t = (0, (g (l.getD i d) u).2) := by
  rw [take_succ_getD (d := d) hi, foldT_on e, foldT, thenT_ok h0, foldT]
theorem foldT_bad {l : List α} {d : α} {t u : T} {i : Nat} (hi : i < l.length) (e : foldT g (l.take i) t = (0, u)) (h0 : (g (l.getD i d) u).1 ≠ 0) : foldT g l t = ((g (l.getD i d) u).1, t0) := by
  have e2 : l = l.take i ++ l.getD i d :: l.drop (i + 1) := by rw [getD_get (d := d) hi, List.getElem_cons_drop, List.take_append_drop]
  rw [e2, foldT_on e, ← e2, foldT, thenT_bad h0]
theorem foldT_all {l : List α} {t u : T} {i : Nat} (hi : i = l.length) (e : foldT g (l.take i) t = (0, u)) : foldT g l t = (0, u) := by
  rw [hi, List.take_length] at e
  exact e
theorem foldT_t0 : ∀ {l : List α} {t : T}, (foldT g l t).1 ≠ 0 → (foldT g l t).2 = t0
  | [], t, h => absurd rfl h
  | a :: l, t, h => by
    rw [foldT] at h ⊢
    by_cases h1 : (g a t).1 = 0
    · rw [thenT_ok h1] at h ⊢; exact foldT_t0 h
    · rw [thenT_bad h1]
theorem foldT_keep {p : T → Prop} (h0 : p t0) (hg : ∀ a u, p u → p (g a u).2) : ∀ {l : List α} {t : T}, p t → p (foldT g l t).2
  | [], t, h => h
  | a :: l, t, h => by
    rw [foldT]
    by_cases h1 : (g a t).1 = 0
    · rw [thenT_ok h1]; exact foldT_keep h0 hg (hg a t h)
    · rw [thenT_bad h1]; exact h0
end
def putsT (r : List Cl) (l : List Int) (t : T) : Int × T := foldT (fun i u => walkR (putW i r) u 0) l t
abbrev EP : Type := Nat × List Cl × SH
def epCells (p : EP) : List Value := [.int .u32 (p.1 : Int), sl p.2.2 p.2.1.length]
abbrev epE (p : EP) : Fact := CL p.2.1 p.2.2
def ep0 : EP := (0, [], none, 0)
abbrev ENF (l : List EP) (a : SH) : Fact := RowF 2 32 epCells epE ep0 l a
def endsT (l : List EP) (t : T) : Int × T := foldT (fun (p : EP) u => putsT p.2.1 (listM p.1) u) l t
def dimsUnder (t : T) (c : Cl) : Int × T := if formedP t ≠ 0 then (formedP t, t0) else if single c = false then (2, t0) else thenT (putsT [cl0] (listM c.pos) t) fun u => putsT [] (listM c.neg) u
theorem endsT_two {c : Cl} {a : SH} {t : T} : endsT [(c.pos, [cl0], a), (c.neg, [], none, 0)] t = thenT (putsT [cl0] (listM c.pos) t) fun u => putsT [] (listM c.neg) u := by
  unfold endsT
  simp only [foldT]
  congr 1
  funext u
  by_cases h : (putsT [] (listM c.neg) u).1 = 0
  · rw [thenT_ok h]; exact Prod.ext h.symm rfl
  · rw [thenT_bad h]
    unfold putsT at h ⊢
    refine Prod.ext rfl ?_
    show t0 = _
    exact (foldT_t0 h).symm
theorem putsT_okT {r : List Cl} {l : List Int} {t : T} (h : okT t) : okT (putsT r l t).2 := foldT_keep okT_t0 (fun i u hu => asRes_okT (okW_put i r) hu) h
theorem putsT_size {r : List Cl} {l : List Int} {t : T} {n : Nat} (hn : 1 ≤ n) (h : size t ≤ n) : size (putsT r l t).2 ≤ n := foldT_keep (p := fun u => size u ≤ n) (by rw [size_t0]; exact hn) (fun i u hu => Nat.le_trans asRes_size hu) h
section
variable {P : Program} [Tab P] {f : FuncId} {R : Ending → World → Prop} {B : Base} {n : Fz} {K : List Item} {ops : Array Oper} {l : List Nat} {σ : Nat → Value} {Γ : List Fact} {Ms : List Res} {dst : Option Tmp} {ty : TypeId} {x : Operand}
theorem o_ldEN {t : TypeId} {l' : List (Nat × Nat)} {bt bk o i' : Nat} {a : SH} {zv : Value} {ls : List EP} (k_ : RgT P f R B n K ops l (putS σ dst (.agg (epCells (ls.getD i' ep0)).toArray)) Γ Ms) (hF : ENF ls a ∈ Γ := by repeat (first | exact List.mem_cons_self | apply List.mem_cons_of_mem))
    (hx : ev σ x = .pointer (some ⟨bk, o + i' * 2, none⟩) := by exact wn_) (ha : a.1 = some ⟨bk, o, none⟩ := by assumption) (hu : Tab.lay P t = some l' := by rfl) (hi : Tab.inf P t = some (2, bt, zv) := by rfl) (hlt : i' < ls.length := by first | omega | (simp; omega)) (hd : dstOk n dst = true := by rfl) : OpT P f R B n K ops l (opr dst (.load t x) ty) σ Γ Ms :=
  sq_load (le_rowE (F := epCells) (fun _ => rfl) hx hF ha hu hi hlt) hd k_
end
/-! From what holds to what is asked. -/
theorem Spec.conj2 {P : Program} {k : FuncId} {args : Array Value} {pre L : List Fact} {G : Fact} {Ms0 : List Res} {X : Type} {val : X → Value} {N : X → List Fact} {Ms1 : X → List Res} (hp : ∀ F, F ∈ pre → F ∈ G :: L) (h : Spec P k args pre Ms0 val N Ms1) : Spec P k args [AllFs L, G] Ms0 val N Ms1 := fun ok w hok hs =>
  h ok w hok ⟨hs.chg, fun F hF => by
    rcases List.mem_cons.mp (hp F hF) with e | e
    · subst e; exact hs.facts _ (List.mem_cons_of_mem _ List.mem_cons_self)
    · exact hs.facts (AllFs L) List.mem_cons_self F e, hs.res, hs.lt, hs.disj⟩
theorem Spec.unconj2 {P : Program} {k : FuncId} {args : Array Value} {pre L : List Fact} {G : Fact} {Ms0 : List Res} {X : Type} {val : X → Value} {N : X → List Fact} {Ms1 : X → List Res} (hL : ∀ F, F ∈ L → F ∈ pre) (hG : G ∈ pre) (h : Spec P k args [AllFs L, G] Ms0 val N Ms1) : Spec P k args pre Ms0 val N Ms1 := fun ok w hok hs =>
  h ok w hok ⟨hs.chg, fun F hF => by
    rcases List.mem_cons.mp hF with e | e
    · subst e; exact fun F' hF' => hs.facts F' (hL F' hF')
    · rw [List.mem_singleton] at e; subst e; exact hs.facts _ hG, hs.res, hs.lt, hs.disj⟩
theorem St.litEN {B : Base} {Γ : List Fact} {Ms : List Res} {w : World} {e : TypeId} {b : Nat} {p q : EP} (hs : St B Γ (boxR b (epCells p ++ epCells q) e :: Ms) w) {hBp : Prop} (hB : hBp) (hF : epE p ∈ Γ) (hG : epE q ∈ Γ) : St B (ENF [p, q] (some ⟨b, 0, Option.none⟩, 2) :: Γ) Ms w := by
  have h1 := ((hs.boxRow (sz := 2) (m := 2) rfl (by decide)).allNil epE).allAdd (x := p) List.mem_cons_self (List.mem_cons_of_mem _ hF)
  have h2 := h1.allAdd (x := q) List.mem_cons_self (List.mem_cons_of_mem _ (List.mem_cons_of_mem _ hG))
  exact (h2.settleRow (F := epCells) (E := epE) (d := ep0) (bt := 32) (l := [p, q]) (fun _ => rfl) hB List.mem_cons_self (by simp) rfl (by decide)).less (by simp +contextual)
end Go.Hy
namespace Go.Hy
open Go Go.ChangeShapes Go.WideShapes Go.RowKit Go.Shelf Go.Proofs
/-! ### A law whose row lists a package-level table -/
theorem law_lifted_laid {C : Checked} {os : Os} {f : FuncId} {fn : Func} {s : ChangeSpec} {conds : List PathCond} {ts : List TypeId} {tb : TypeId} {H : Type} {enc : TypeId × Value → H} {L : List (String × DataW Unit)}
    (own : ownKnob C.prog.godebug = none) (started : os.Started) (noInit : C.prog.inits.idxOf? f = none) (hfn : C.prog.funcs[f]? = some fn)
    (witness : ∃ (w : World) (tape : Tape) (i : Input), w.os = os ∧ (w.forCall tape i).Shaped C.prog ∧ i.vars = [] ∧ Input.okWide C.prog (w.forCall tape i) .any w.heap.size f i ∧
      ((s.pre enc C.prog fn conds false (w.forCall tape i).memory i.args ∧ laidMetH C.prog L (w.forCall tape i).memory) ∧ sizedMet enc C.prog fn (OpenSpec.ofChange s) false (w.forCall tape i).memory i.args) ∧ Assume.holds {} C.prog (lone (Frame.enter C.prog f i.args .normal) [] (w.forCall tape i)))
    (laid : laidOutB C.prog = true) (hps : fn.params.toList = ts) (hread : ts.all (fun t => C.prog.readableRec t && decide (t < C.prog.types.size)) = true) (hres : fn.resultTypes = #[tb]) (hbool : C.prog.underlying tb = some .bool) (hvars : s.vars = [])
    (hsays : ∀ ds : List (DataW H), ds.length = ts.length → s.fn H ds = { results := [.lit (.bool true)], args := ds })
    (hcall : ∀ (W : World) (base : Nat) (args : Array Value) (ds : List (DataW H)) (p : List MemPlace), (∀ (j : Nat) t v, ts[j]? = some t → args[j]? = some v → Value.okWide C.prog W .any base t v) →
      DataW.TrodAll enc C.prog W 0 (fun _ => true) true ts args.toList ds p → (∀ x, x ∈ DataW.weightsEach C.prog ts ds → x ≤ reach) → laidMetH C.prog L W →
      Calls C.prog f args W fun e W' => e = .returned (.bool true) ∧ Below W.heap.size W W') :
    ReturnsInHanded {} C os f .any (fun w args => (s.pre enc C.prog fn conds false w args ∧ laidMetH C.prog L w) ∧ sizedMet enc C.prog fn (OpenSpec.ofChange s) false w args) (s.post enc C.prog fn false true false false) := by
  refine returnsInHanded_of_change_and (X := fun w _ => laidMetH C.prog L w) (fun _ _ _ hh h => h.of_heap hh) own started noInit hfn witness ?_
  intro W base args ds gs before hval hW hcnd hwt hL _
  have hW' := hW
  obtain ⟨p, q, hA, hV, rfl, hfz, hnd⟩ := hW
  rw [hvars] at hV
  obtain ⟨rfl, rfl⟩ := trodVars_none hV
  rw [hps] at hA hwt
  have hlen : ∀ {ts : List TypeId} {vs : List Value} {ds : List (DataW H)} {ps : List MemPlace}, DataW.TrodAll enc C.prog W 0 (fun _ => true) true ts vs ds ps → ds.length = ts.length := by
    intro ts
    induction ts with
    | nil => intro vs ds ps h; obtain ⟨_, rfl, _⟩ := trodAll_nil h; rfl
    | cons t ts ih =>
      intro vs ds ps h
      obtain ⟨v, vs1, d, ds1, a, b, rfl, rfl, rfl, _, h2⟩ := trodAll_cons h
      simp [ih h2]
  have hvt : s.plain.varTypes C.prog = [] := by
    have : s.plain.vars = [] := hvars
    unfold DataSpec.varTypes; rw [this]; rfl
  have hw2 : ∀ x, x ∈ DataW.weightsEach C.prog ts ds → x ≤ reach := by
    intro x hx
    rw [List.append_nil, hvt, List.append_nil] at hwt
    have := List.all_eq_true.mp hwt x hx
    exact of_decide_eq_true this
  refine (hcall W base args ds p (fun j t v ht hv => hval j t v (by rw [← Array.getElem?_toList, hps]; exact ht) hv) hA hw2 hL).mono ?_
  intro e W' ⟨he, hb⟩
  have hlt : ∀ x ∈ p, x.block < W.heap.size := fun x hx => hW'.lt x (by simpa using hx)
  refine ⟨.bool true, he, ds, [], p ++ [], [], p, [], hW', ?_, ?_, ?_, hb.frame _, fun h => by cases h⟩
  · rw [List.append_nil, hsays ds (hlen hA), hres]
    exact ⟨[], [], ⟨1, by simp [DataW.trod, Value.cells, hbool]⟩, rfl, rfl⟩
  · rw [List.append_nil, hsays ds (hlen hA), hps]
    refine trodAll_stays laid hb (fun t ht => ?_) hA hlt
    have := List.all_eq_true.mp hread t ht
    simpa using this
  · rw [List.append_nil, hsays ds (hlen hA), hvars]
    rfl
/-- What the row's condition gives the walks: the table's cells. -/
theorem tab_laid {P : Program} {W : World} {nm : String} {t e : TypeId} {tab : List Nat} (hg : P.globalNamed nm = some 0) (ht : (P.globals[0]?).map (·.type) = some t) (hu : P.underlying t = some (.array tab.length e)) (he : P.underlying e = some (.int .u8)) (hc : P.cellsOf e = 1) (hc2 : P.cellsOf t = tab.length) (hpos : 0 < tab.length)
    (hp : ([(nm, (DataW.agg (tab.map fun (v : Nat) => .lit (.int .u8 (v : Int))) : DataW Unit))].all fun x => x.2.handleName?.isNone) = true) (h : laidMetH P [(nm, .agg (tab.map fun (v : Nat) => .lit (.int .u8 (v : Int))))] W) : TabAt 0 tab W ∧ 0 < W.heap.size := by
  rw [MakeChecks.laidMetH_plain _ _ _ hp] at h
  obtain ⟨ps, ⟨g0, t0, cs0, f0, p0, q0, hg0, ht0, hv0, hd0, _⟩, _⟩ := h
  obtain rfl := Option.some.inj (hg.symm.trans hg0)
  obtain rfl := Option.some.inj (ht.symm.trans ht0)
  obtain ⟨xs, m1, rfl, hx1, hlen, hn3, hel⟩ := DataW.trod_array hu hd0
  simp only [Prod.mk.injEq, DataW.agg.injEq] at hx1
  have hcell : ∀ j, j < tab.length → W.cell? ⟨0, j, none⟩ = some (.int .u8 (tab.getD j 0)) := by
    intro j hj
    have h1 := hel j hj
    rw [hc, Nat.mul_one, List.getElem?_eq_getElem (by omega)] at h1
    obtain ⟨n, e1, e2, _⟩ := DataW.trod_int he h1
    have h2 := World.var?_cell hg0 hv0 j
    have h3 : cs0[j]? = some (.int .u8 n) := by
      have h4 := congrArg (fun l => l[0]?) e1
      simp only [List.getElem?_take, List.getElem?_drop, List.getElem?_cons_zero] at h4
      simpa using h4
    rw [h2, h3]
    have h5 : (tab.map fun (v : Nat) => (DataW.lit (.int .u8 (v : Int)) : DataW Unit))[j]? = (xs.map (·.1))[j]? := by rw [hx1.1]
    rw [List.getElem?_map, List.getElem?_map, List.getElem?_eq_getElem hj, List.getElem?_eq_getElem (show j < xs.length by omega)] at h5
    simp only [Option.map_some, Option.some.injEq] at h5
    rw [e2] at h5
    simp only [DataW.lit.injEq, Lit.int.injEq, true_and] at h5
    rw [List.getD_eq_getElem?_getD, List.getElem?_eq_getElem hj]
    simp [← h5]
  refine ⟨hcell, ?_⟩
  have h6 := hcell 0 hpos
  refine Nat.lt_of_not_le fun hz => ?_
  unfold World.cell? at h6
  rw [Array.getElem?_eq_none (show W.heap.size ≤ 0 from hz)] at h6
  simp at h6
theorem tab_fact {W : World} {tab : List Nat} (h : TabAt 0 tab W ∧ 0 < W.heap.size) : (At 0 0 (tab.map fun (v : Nat) => Value.int .u8 (v : Int))).f (okw W) W := by
  refine ⟨h.2, fun j v hj => ?_⟩
  rw [List.getElem?_map] at hj
  cases hq : tab[j]? with
  | none => rw [hq] at hj; cases hj
  | some k =>
    rw [hq] at hj
    injection hj with hj
    subst hj
    have hlt : j < tab.length := by
      refine Nat.lt_of_not_le fun hn => ?_
      rw [List.getElem?_eq_none hn] at hq
      cases hq
    have h1 := h.1 j hlt
    rw [List.getD_eq_getElem?_getD, hq] at h1
    rw [Nat.zero_add]
    exact h1
end Go.Hy
namespace Go.Hy
open Go Go.ChangeShapes Go.WideShapes Go.RowKit
variable {P : Program} {H : Type} {enc : TypeId × Value → H} {W : World} {base : Nat} {v : Value} {d : DataW H} {ps : List MemPlace} [TyF P]
/-- A list of terms, and a number: a context. -/
theorem arg_X {t : TypeId} {fs : Array Field} (hu : P.underlying t = some (.struct fs)) (hp : fs.toList.map (fun f => (f.offset, f.type)) = [(0, TyF.lT P), (1, TyF.tI P)]) (hc : P.cellsOf t = 2) (hval : Value.okWide P W .any base t v) (h : DataW.Trod enc P W 0 (fun _ => true) true t v d ps) (hl : light P t d) : ∃ (l : List T) (a : SH) (n : Int), v = .agg #[sl a l.length, .int .i64 n] ∧ tlAt (okw W) l a W ∧ in64 n := by
  obtain ⟨cs, rfl, _⟩ := okWide_struct hu hval
  obtain ⟨fuel, hf⟩ := h
  cases fuel with
  | zero => cases hf
  | succ fuel =>
    obtain ⟨h1, h2⟩ := open_struct hu hp hf hl
    rw [hc] at h1
    obtain ⟨d0, p0, r0, l0⟩ := h2 0 _ rfl
    obtain ⟨d1, p1, r1, l1⟩ := h2 1 _ rfl
    obtain ⟨ks, vk, e0, hks⟩ := (open_both fuel).2.1 _ _ _ r0 l0
    obtain ⟨n, e1, hn⟩ := open_intI TyF.uI r1
    obtain ⟨c1, c2, c3, c4, c5, c6⟩ := TyF.c1 (P := P)
    simp only [c1, c5] at e0 e1
    have f0 := one_of e0
    have f1 := one_of e1
    refine ⟨ks, vk, n, ?_, hks, hn⟩
    have h3 : (Value.agg cs).cells.toList = [sl vk ks.length, .int .i64 n] := list_of_get (by rw [h1]; rfl) (fun i hi => by
      match i with
      | 0 => exact f0
      | 1 => exact f1
      | i + 2 => simp at hi; omega)
    have h4 : cs.toList = [sl vk ks.length, .int .i64 n] := by simpa [Value.cells] using h3
    rw [show cs = #[sl vk ks.length, .int .i64 n] from by rw [← Array.toArray_toList (xs := cs), h4]]
end Go.Hy
