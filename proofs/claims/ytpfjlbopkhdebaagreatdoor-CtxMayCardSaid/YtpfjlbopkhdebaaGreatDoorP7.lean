/- Contracts of this program's functions and the laws that they need: a separation logic over the machine's rules, one theorem each (partly printed by a program of this repository). -/
import Derived.RangeFuncNested
import Derived.RangeFuncBound
import Derived.RangeFuncCalls
import Derived.RangeFuncLeaves
import Derived.RangeFuncBox
import Derived.Shelf.Abstract
import Derived.Shelf.RegionOpen
import Derived.WalkKit
import Derived.OwnWalkIn
import Derived.TacticsInMore
import Derived.LoopNIn
import Derived.LoopIn
import Derived.Maps.AppendAt
import Derived.Shelf.Spec.TrailingZeros
import Derived.Shelf.SlSortCmp.WholeK
import Derived.Shelf.SlGeneric
import Derived.Ground.SlsfProg
import Derived.Test.YtpfjlbopkhdebaaGreatDoorProg
import Derived.Test.YtpfjlbopkhdebaaGreatDoorP3
import Derived.Test.YtpfjlbopkhdebaaGreatDoorP4
import Derived.Test.YtpfjlbopkhdebaaGreatDoorP5
import Derived.Test.YtpfjlbopkhdebaaGreatDoorP6
set_option linter.unusedVariables false
set_option linter.unusedSimpArgs false
set_option linter.unusedSectionVars false
namespace Go.Hy
/-! ### What a row says in a world: dimensions that are so, and dimensions whose opposites are so -/
abbrev Wd : Type := Nat → Prop
def satC (c : Cl) (P N : Wd) : Prop := (∀ i, c.pos.testBit i = true → P i) ∧ ∀ i, c.neg.testBit i = true → N i
def sat (l : List Cl) (P N : Wd) : Prop := ∃ c, c ∈ l ∧ satC c P N
def bitsW (s : Nat) : Wd := fun i => s.testBit i = true
def calmW (P N : Wd) : Prop := ∀ i, ¬ (P i ∧ N i)
theorem or_sub {a b : Nat} : a ||| b = a ↔ ∀ i, b.testBit i = true → a.testBit i = true := by
  constructor
  · intro h i hi
    rw [← h, Nat.testBit_or, hi, Bool.or_true]
  · intro h
    refine Nat.eq_of_testBit_eq fun i => ?_
    rw [Nat.testBit_or]
    cases hb : b.testBit i with
    | false => simp
    | true => rw [h i hb]; rfl
theorem below_sat {a b : Cl} : below a b = true ↔ satC b (bitsW a.pos) (bitsW a.neg) := by
  unfold below satC bitsW
  rw [Bool.and_eq_true, decide_eq_true_eq, decide_eq_true_eq, or_sub, or_sub]
theorem satC_self (c : Cl) : satC c (bitsW c.pos) (bitsW c.neg) := ⟨fun i h => h, fun i h => h⟩
theorem sat_of_below {a b : Cl} {P N : Wd} (h : below a b = true) (hs : satC a P N) : satC b P N := by
  have h1 := below_sat.mp h
  exact ⟨fun i hi => hs.1 i (h1.1 i hi), fun i hi => hs.2 i (h1.2 i hi)⟩
theorem below_refl (c : Cl) : below c c = true := below_sat.mpr (satC_self c)
theorem below_trans {a b c : Cl} (h : below a b = true) (h2 : below b c = true) : below a c = true := below_sat.mpr (sat_of_below h2 (below_sat.mp h))
theorem needless_true {l : List Cl} {c : Cl} (h : needless l c = true) : ∃ d, d ∈ l ∧ c ≠ d ∧ below c d = true := by
  unfold needless at h
  obtain ⟨d, hd, h2⟩ := List.any_eq_true.mp h
  rw [Bool.and_eq_true] at h2
  exact ⟨d, hd, by simpa using h2.1, h2.2⟩
theorem least_cover {l : List Cl} : ∀ (n : Nat) (c : Cl), c.pos + c.neg ≤ n → c ∈ l → ∃ d, d ∈ refLeast l ∧ below c d = true
  | n, c, hn, hc => by
    cases h : needless l c with
    | false => exact ⟨c, refLeast_mem.mpr ⟨hc, h⟩, below_refl c⟩
    | true =>
      obtain ⟨d, hd, hne, hb⟩ := needless_true h
      have h1 : c.pos ||| d.pos = c.pos ∧ c.neg ||| d.neg = c.neg := by
        unfold below at hb
        rw [Bool.and_eq_true, decide_eq_true_eq, decide_eq_true_eq] at hb
        exact hb
      have h2 : d.pos ≤ c.pos := by have := Nat.right_le_or (n := c.pos) (m := d.pos); omega
      have h3 : d.neg ≤ c.neg := by have := Nat.right_le_or (n := c.neg) (m := d.neg); omega
      have h4 : d.pos + d.neg < c.pos + c.neg := by
        refine Nat.lt_of_le_of_ne (by omega) fun he => hne ?_
        have e1 : c.pos = d.pos := by omega
        have e2 : c.neg = d.neg := by omega
        cases c; cases d; simp_all
      obtain ⟨e, he, h5⟩ := least_cover (d.pos + d.neg) d (Nat.le_refl _) hd
      exact ⟨e, he, below_trans hb h5⟩
termination_by n c => c.pos + c.neg
theorem sat_refLeast {l : List Cl} {P N : Wd} : sat (refLeast l) P N ↔ sat l P N := by
  constructor
  · rintro ⟨c, hc, h⟩; exact ⟨c, (refLeast_mem.mp hc).1, h⟩
  · rintro ⟨c, hc, h⟩
    obtain ⟨d, hd, hb⟩ := least_cover _ c (Nat.le_refl _) hc
    exact ⟨d, hd, sat_of_below hb h⟩
theorem sat_least {l : List Cl} {P N : Wd} (h : (leastF l).1 = 0) : sat (leastF l).2 P N ↔ sat l P N := by
  rcases leastF_cases l with ⟨_, _, h2, _⟩ | h2 | h2
  · rw [h2]; exact sat_refLeast
  · rw [h2] at h; cases h
  · rw [h2] at h; cases h
theorem fR_all {l : List Cl} (h : fRight l = true) : l.all right24 = true := by
  unfold fRight at h
  simp only [Bool.and_eq_true] at h
  exact h.1.1.1
theorem clash_iff {c : Cl} : clash c = false ↔ calmW (bitsW c.pos) (bitsW c.neg) := by
  unfold clash calmW bitsW
  rw [decide_eq_false_iff_not, Decidable.not_not]
  constructor
  · rintro h i ⟨h1, h2⟩
    have h3 : (c.pos &&& c.neg).testBit i = true := by rw [Nat.testBit_and, h1, h2]; rfl
    rw [h, Nat.zero_testBit] at h3
    cases h3
  · intro h
    refine Nat.eq_of_testBit_eq fun i => ?_
    rw [Nat.testBit_and, Nat.zero_testBit]
    cases h1 : c.pos.testBit i with
    | false => rfl
    | true => cases h2 : c.neg.testBit i with
      | false => rfl
      | true => exact absurd ⟨h1, h2⟩ (h i)
theorem face_calm {l : List Cl} (h : faceRight l = true) : fRight l = true ∧ ∀ c, c ∈ l → clash c = false := by
  unfold faceRight at h
  rw [Bool.and_eq_true, Bool.not_eq_true'] at h
  refine ⟨h.1, fun c hc => ?_⟩
  cases hq : clash c with
  | false => rfl
  | true => rw [List.any_eq_true.mpr ⟨c, hc, hq⟩] at h; cases h.2
theorem calm_face {l : List Cl} (h : fRight l = true) (h2 : ∀ c, c ∈ l → clash c = false) : faceRight l = true := by
  unfold faceRight
  rw [Bool.and_eq_true, Bool.not_eq_true', h]
  refine ⟨rfl, ?_⟩
  cases hq : l.any clash with
  | false => rfl
  | true => obtain ⟨c, hc, h3⟩ := List.any_eq_true.mp hq; rw [h2 c hc] at h3; cases h3
/-! Joins, meets, opposites. -/
section
variable {f g l : List Cl} {P N : Wd} {a b c : Cl}
theorem sat_nil : ¬ sat [] P N := by rintro ⟨c, hc, _⟩; cases hc
theorem sat_append : sat (f ++ g) P N ↔ sat f P N ∨ sat g P N := by
  unfold sat
  simp only [List.mem_append]
  constructor
  · rintro ⟨c, h | h, h2⟩
    · exact .inl ⟨c, h, h2⟩
    · exact .inr ⟨c, h, h2⟩
  · rintro (⟨c, h, h2⟩ | ⟨c, h, h2⟩)
    · exact ⟨c, .inl h, h2⟩
    · exact ⟨c, .inr h, h2⟩
theorem sat_single : sat [c] P N ↔ satC c P N := by
  unfold sat
  constructor
  · rintro ⟨d, hd, h⟩; rw [List.mem_singleton] at hd; subst hd; exact h
  · intro h; exact ⟨c, List.mem_singleton.mpr rfl, h⟩
theorem satC_cl0 : satC cl0 P N := ⟨fun i hi => by simp [cl0] at hi, fun i hi => by simp [cl0] at hi⟩
theorem sat_one : sat [cl0] P N := sat_single.mpr satC_cl0
theorem satC_meet : satC (meetC a b) P N ↔ satC a P N ∧ satC b P N := by
  unfold satC meetC
  simp only [Nat.testBit_or, Bool.or_eq_true]
  constructor
  · rintro ⟨h1, h2⟩; exact ⟨⟨fun i hi => h1 i (.inl hi), fun i hi => h2 i (.inl hi)⟩, fun i hi => h1 i (.inr hi), fun i hi => h2 i (.inr hi)⟩
  · rintro ⟨h1, h2⟩; exact ⟨fun i hi => hi.elim (h1.1 i) (h2.1 i), fun i hi => hi.elim (h1.2 i) (h2.2 i)⟩
theorem sat_meetL : sat (meetL f g) P N ↔ sat f P N ∧ sat g P N := by
  unfold sat meetL
  simp only [List.mem_flatMap, List.mem_map]
  constructor
  · rintro ⟨c, ⟨a, ha, b, hb, rfl⟩, h⟩
    have h2 := satC_meet.mp h
    exact ⟨⟨a, ha, h2.1⟩, b, hb, h2.2⟩
  · rintro ⟨⟨a, ha, h1⟩, b, hb, h2⟩
    exact ⟨_, ⟨a, ha, b, hb, rfl⟩, satC_meet.mpr ⟨h1, h2⟩⟩
theorem sat_calm (hw : calmW P N) : sat (calmL l) P N ↔ sat l P N := by
  unfold sat calmL
  constructor
  · rintro ⟨c, hc, h⟩; exact ⟨c, (List.mem_filter.mp hc).1, h⟩
  · rintro ⟨c, hc, h⟩
    refine ⟨c, List.mem_filter.mpr ⟨hc, ?_⟩, h⟩
    rw [Bool.not_eq_true', clash_iff]
    rintro i ⟨h1, h2⟩
    exact hw i ⟨h.1 i h1, h.2 i h2⟩
end
theorem bitM_bit {i : Int} {j : Nat} : (bitM i).testBit j = true ↔ (0 ≤ i ∧ i < 24) ∧ (j : Int) = i := by
  unfold bitM
  split
  · rename_i h
    rw [Nat.testBit_two_pow, decide_eq_true_eq]
    omega
  · rename_i h
    rw [Nat.zero_testBit]
    constructor
    · intro h2; cases h2
    · rintro ⟨h2, _⟩; exact absurd h2 h
theorem withoutM_bit {s : Nat} {i : Int} {j : Nat} : (withoutM s i).testBit j = true ↔ j < 24 ∧ s.testBit j = true ∧ (j : Int) ≠ i := by
  unfold withoutM
  split
  · rename_i h
    rw [andNot32_bit, and24_bit, Nat.testBit_two_pow]
    simp only [Bool.and_eq_true, decide_eq_true_eq, Bool.not_eq_true', decide_eq_false_iff_not]
    constructor
    · rintro ⟨⟨_, h2, h3⟩, h4⟩; exact ⟨h2, h3, by omega⟩
    · rintro ⟨h1, h2, h3⟩; exact ⟨⟨by omega, h1, h2⟩, by omega⟩
  · rename_i h
    rw [and24_bit]
    simp only [Bool.and_eq_true, decide_eq_true_eq]
    constructor
    · rintro ⟨h1, h2⟩; exact ⟨h1, h2, by omega⟩
    · rintro ⟨h1, h2, _⟩; exact ⟨h1, h2⟩
theorem right24_bits {c : Cl} (h : right24 c = true) : (∀ i, c.pos.testBit i = true → i < 24) ∧ ∀ i, c.neg.testBit i = true → i < 24 := by
  obtain ⟨h1, h2⟩ := right24_iff.mp h
  have key : ∀ s i : Nat, s < 16777216 → s.testBit i = true → i < 24 := fun s i hs hi => by
    refine Decidable.byContradiction fun hn => ?_
    have h3 : s < 2 ^ i := Nat.lt_of_lt_of_le (show s < 2 ^ 24 by omega) (Nat.pow_le_pow_right (by omega) (by omega))
    rw [Nat.testBit_lt_two_pow h3] at hi
    cases hi
  exact ⟨fun i hi => key _ i h1 hi, fun i hi => key _ i h2 hi⟩
theorem satC_take {c : Cl} {i : Int} {P N : Wd} (hc : right24 c = true) : satC (takeC c i) P N ↔ (∀ j : Nat, c.pos.testBit j = true → (j : Int) ≠ i → P j) ∧ ∀ j : Nat, c.neg.testBit j = true → (j : Int) ≠ i → N j := by
  obtain ⟨h1, h2⟩ := right24_bits hc
  unfold satC takeC
  simp only [withoutM_bit]
  exact ⟨fun h => ⟨fun j hj hn => h.1 j ⟨h1 j hj, hj, hn⟩, fun j hj hn => h.2 j ⟨h2 j hj, hj, hn⟩⟩, fun h => ⟨fun j hj => h.1 j hj.2.1 hj.2.2, fun j hj => h.2 j hj.2.1 hj.2.2⟩⟩
theorem mem_listM {s : Nat} {x : Int} : x ∈ listM s ↔ 0 ≤ x ∧ x < 24 ∧ s.testBit x.toNat = true := listTo_mem
theorem sat_opp {c : Cl} {P N : Wd} (hc : right24 c = true) : sat (oppL c) P N ↔ (∃ i, c.pos.testBit i = true ∧ N i) ∨ ∃ i, c.neg.testBit i = true ∧ P i := by
  obtain ⟨b1, b2⟩ := right24_bits hc
  unfold oppL
  rw [sat_append]
  have one : ∀ (s : Nat) (hs : ∀ i, s.testBit i = true → i < 24) (mk : Nat → Cl) (Q : Wd) (hq : ∀ x : Int, 0 ≤ x → x < 24 → (satC (mk (bitM x)) P N ↔ Q x.toNat)), sat ((listM s).map fun i => mk (bitM i)) P N ↔ ∃ i, s.testBit i = true ∧ Q i := by
    intro s hs mk Q hq
    unfold sat
    simp only [List.mem_map]
    constructor
    · rintro ⟨_, ⟨x, hx, rfl⟩, h⟩
      obtain ⟨x0, x1, x2⟩ := mem_listM.mp hx
      exact ⟨x.toNat, x2, (hq x x0 x1).mp h⟩
    · rintro ⟨i, hi, h⟩
      have h3 := hs i hi
      exact ⟨_, ⟨(i : Int), mem_listM.mpr ⟨by omega, by omega, by simpa using hi⟩, rfl⟩, (hq (i : Int) (by omega) (by omega)).mpr (by simpa using h)⟩
  have e1 := one c.pos b1 (fun s => ⟨0, s⟩) N (fun x x0 x1 => by
    unfold satC
    simp only [Nat.zero_testBit, bitM_bit]
    constructor
    · intro h; exact h.2 x.toNat ⟨⟨x0, x1⟩, by omega⟩
    · intro h; exact ⟨fun i hi => (by cases hi), fun i hi => (show i = x.toNat by omega) ▸ h⟩)
  have e2 := one c.neg b2 (fun s => ⟨s, 0⟩) P (fun x x0 x1 => by
    unfold satC
    simp only [Nat.zero_testBit, bitM_bit]
    constructor
    · intro h; exact h.1 x.toNat ⟨⟨x0, x1⟩, by omega⟩
    · intro h; exact ⟨fun i hi => (show i = x.toNat by omega) ▸ h, fun i hi => (by cases hi)⟩)
  exact or_congr e1 e2
/-! Folds that are told. -/
theorem foldF_inv {g : List Cl → Cl → EL} {L : List Cl} {I : List Cl → List Cl → Prop} (hs : ∀ pre c h, c ∈ L → I pre h → (g h c).1 = 0 → I (pre ++ [c]) (g h c).2) : ∀ (m pre h : List Cl), I pre h → (∀ c, c ∈ m → c ∈ L) → (foldF g h m).1 = 0 → I (pre ++ m) (foldF g h m).2
  | [], pre, h, hi, _, _ => by rw [List.append_nil]; exact hi
  | c :: m, pre, h, hi, hm, h0 => by
    rw [foldF] at h0 ⊢
    by_cases h1 : (g h c).1 = 0
    · rw [bindE_ok h1] at h0 ⊢
      have h2 := foldF_inv hs m (pre ++ [c]) _ (hs pre c h (hm c List.mem_cons_self) hi h1) (fun d hd => hm d (List.mem_cons_of_mem _ hd)) h0
      rwa [List.append_assoc] at h2
    · rw [bindE_bad h1] at h0
      exact absurd h0 h1
theorem bindE_zero {x : EL} {k : List Cl → EL} (h : (bindE x k).1 = 0) : x.1 = 0 ∧ (k x.2).1 = 0 ∧ bindE x k = k x.2 := by
  by_cases h1 : x.1 = 0
  · rw [bindE_ok h1] at h ⊢; exact ⟨h1, h, rfl⟩
  · rw [bindE_bad h1] at h; exact absurd h h1
def coW (P : Wd) : Wd := fun i => ¬ P i
theorem sat_not {f : List Cl} {P N : Wd} (hf : ∀ c, c ∈ f → right24 c = true) (h : (notF f).1 = 0) : sat (notF f).2 P N ↔ ¬ sat f (coW N) (coW P) := by
  have h2 := foldF_inv (g := notStep) (L := f) (I := fun pre h => ∀ P N, sat h P N ↔ ∀ c, c ∈ pre → ¬ satC c (coW N) (coW P)) (fun pre c h hc hi h0 P N => by
    unfold notStep at h0 ⊢
    obtain ⟨a1, a2, a3⟩ := bindE_zero h0
    rw [a3]
    unfold meetF at a2 ⊢
    rw [sat_least a2, sat_meetL, hi]
    unfold oppF at a1 ⊢
    rw [sat_least a1, sat_opp (hf c hc)]
    simp only [List.mem_append, List.mem_singleton, or_imp, forall_and, forall_eq]
    refine and_congr Iff.rfl ?_
    unfold satC coW
    constructor
    · rintro (⟨i, hi, hn⟩ | ⟨i, hi, hn⟩) ⟨h1, h2⟩
      · exact h1 i hi hn
      · exact h2 i hi hn
    · intro h1
      refine Classical.byContradiction fun h2 => h1 ⟨fun i hi hn => h2 (.inl ⟨i, hi, hn⟩), fun i hi hn => h2 (.inr ⟨i, hi, hn⟩)⟩) f [] [cl0] (fun P N => ⟨fun _ c hc => (by cases hc), fun _ => sat_one⟩) (fun c hc => hc) h P N
  rw [List.nil_append] at h2
  unfold notF
  rw [h2]
  unfold sat
  constructor
  · rintro h3 ⟨c, hc, h4⟩; exact h3 c hc h4
  · intro h3 c hc h4; exact h3 ⟨c, hc, h4⟩
/-! A formula in a dimension's place. -/
def ovr (P : Wd) (i : Int) (A : Prop) : Wd := fun j => if (j : Int) = i then A else P j
theorem satC_ovr {c : Cl} {i : Int} {P N : Wd} {A A' : Prop} (hc : right24 c = true) : satC c (ovr P i A) (ovr N i A') ↔ satC (takeC c i) P N ∧ (hasM c.pos i = true → A) ∧ (hasM c.neg i = true → A') := by
  obtain ⟨b1, b2⟩ := right24_bits hc
  rw [satC_take hc]
  unfold satC ovr hasM
  simp only [Bool.and_eq_true, decide_eq_true_eq]
  constructor
  · rintro ⟨h1, h2⟩
    refine ⟨⟨fun j hj hn => ?_, fun j hj hn => ?_⟩, ?_, ?_⟩
    · have := h1 j hj; rwa [if_neg hn] at this
    · have := h2 j hj; rwa [if_neg hn] at this
    · rintro ⟨⟨h3, h4⟩, h5⟩; have := h1 _ h5; rwa [if_pos (by omega)] at this
    · rintro ⟨⟨h3, h4⟩, h5⟩; have := h2 _ h5; rwa [if_pos (by omega)] at this
  · rintro ⟨⟨h1, h2⟩, h3, h4⟩
    refine ⟨fun j hj => ?_, fun j hj => ?_⟩
    · split
      · rename_i h; have := b1 j hj; exact h3 ⟨⟨by omega, by omega⟩, by rw [← h]; simpa using hj⟩
      · rename_i h; exact h1 j hj h
    · split
      · rename_i h; have := b2 j hj; exact h4 ⟨⟨by omega, by omega⟩, by rw [← h]; simpa using hj⟩
      · rename_i h; exact h2 j hj h
theorem right24_take (c : Cl) (i : Int) : right24 (takeC c i) = true := right24_iff.mpr ⟨withoutM_lt _ _, withoutM_lt _ _⟩
end Go.Hy
namespace Go.Hy
theorem sat_of {r : List Cl} {P N : Wd} (hw : calmW P N) (h : (ofF r).1 = 0) : sat (ofF r).2 P N ↔ sat r P N := by
  unfold ofF at h ⊢
  split at h
  · rename_i h1
    rw [if_pos h1, sat_least h, sat_calm hw]
  · cases h
theorem sat_ofZero {r : List Cl} {P N : Wd} (hw : calmW P N) (h : (ofZero r).1 = 0) : sat (ofZero r).2 P N ↔ ¬ sat r (coW N) (coW P) := by
  unfold ofZero at h ⊢
  obtain ⟨a1, a2, a3⟩ := bindE_zero h
  rw [a3, sat_of hw a2]
  unfold notR at a1 ⊢
  split at a1
  · rename_i h1
    rw [if_pos h1, sat_not (fun c hc => List.all_eq_true.mp (fR_all h1) c hc) a1]
  · cases a1
theorem meetA_one {c : Cl} {x : List Cl} : meetA [c] x = leastF (calmL (x.map fun b => meetC c b)) := by
  unfold meetA
  simp
theorem sat_map_meet {c : Cl} {x : List Cl} {P N : Wd} : sat (x.map fun b => meetC c b) P N ↔ satC c P N ∧ sat x P N := by
  have h := sat_meetL (f := [c]) (g := x) (P := P) (N := N)
  rw [sat_single] at h
  rw [← h]
  unfold meetL
  simp
theorem clash_take {c : Cl} {i : Int} (h : clash c = false) : clash (takeC c i) = false := by
  rw [clash_iff] at h ⊢
  rintro j ⟨h1, h2⟩
  exact h j ⟨(withoutM_bit.mp h1).2.1, (withoutM_bit.mp h2).2.1⟩
theorem has_both {c : Cl} {i : Int} (h : clash c = false) (h1 : hasM c.pos i = true) : hasM c.neg i = false := by
  cases h2 : hasM c.neg i with
  | false => rfl
  | true =>
    unfold hasM at h1 h2
    simp only [Bool.and_eq_true] at h1 h2
    exact absurd ⟨h1.2, h2.2⟩ (clash_iff.mp h _)
theorem sat_part {c : Cl} {r : List Cl} {i : Int} {P N : Wd} (hw : calmW P N) (hcl : clash c = false) (h : (facePart i r c).1 = 0) : sat (facePart i r c).2 P N ↔ satC (takeC c i) P N ∧ (hasM c.pos i = true → sat r P N) ∧ (hasM c.neg i = true → ¬ sat r (coW N) (coW P)) := by
  unfold facePart at h ⊢
  split at h
  · rename_i h1
    rw [if_pos h1]
    obtain ⟨a1, a2, a3⟩ := bindE_zero h
    rw [a3]
    rw [meetA_one] at a2 ⊢
    rw [sat_least a2, sat_calm hw, sat_map_meet, sat_of hw a1]
    have h2 := has_both hcl h1
    exact ⟨fun h => ⟨h.1, fun _ => h.2, fun h3 => by rw [h2] at h3; cases h3⟩, fun h => ⟨h.1, h.2.1 h1⟩⟩
  · rename_i h1
    rw [if_neg h1]
    split at h
    · rename_i h2
      rw [if_pos h2]
      obtain ⟨a1, a2, a3⟩ := bindE_zero h
      rw [a3]
      rw [meetA_one] at a2 ⊢
      rw [sat_least a2, sat_calm hw, sat_map_meet, sat_ofZero hw a1]
      exact ⟨fun h => ⟨h.1, fun h3 => absurd h3 h1, fun _ => h.2⟩, fun h => ⟨h.1, h.2.2 h2⟩⟩
    · rename_i h2
      rw [if_neg h2, sat_single]
      exact ⟨fun h => ⟨h, fun h3 => absurd h3 h1, fun h3 => absurd h3 h2⟩, fun h => h.1⟩
theorem part_calm {c : Cl} {r : List Cl} {i : Int} (hcl : clash c = false) (h : (facePart i r c).1 = 0) : ∀ d, d ∈ (facePart i r c).2 → clash d = false := by
  have key : ∀ x : List Cl, (meetA [takeC c i] x).1 = 0 → ∀ d, d ∈ (meetA [takeC c i] x).2 → clash d = false := by
    intro x hx d hd
    rw [meetA_one] at hx hd
    have h2 := leastF_sub hx hd
    unfold calmL at h2
    simpa using (List.mem_filter.mp h2).2
  unfold facePart at h ⊢
  split at h
  · rename_i h1
    rw [if_pos h1]
    obtain ⟨a1, a2, a3⟩ := bindE_zero h
    rw [a3]
    exact key _ a2
  · rename_i h1
    rw [if_neg h1]
    split at h
    · rename_i h2
      rw [if_pos h2]
      obtain ⟨a1, a2, a3⟩ := bindE_zero h
      rw [a3]
      exact key _ a2
    · rename_i h2
      rw [if_neg h2]
      intro d hd
      rw [List.mem_singleton] at hd
      subst hd
      exact clash_take hcl
theorem sat_facePut {f r : List Cl} {i : Int} (h : (facePut f i r).1 = 0) : faceRight f = true ∧ fRight r = true ∧ (0 ≤ i ∧ i < 24) ∧ faceRight (facePut f i r).2 = true ∧ ∀ P N, calmW P N → (sat (facePut f i r).2 P N ↔ sat f (ovr P i (sat r P N)) (ovr N i (¬ sat r (coW N) (coW P)))) := by
  unfold facePut at h ⊢
  split at h
  · cases h
  · rename_i h1
    rw [if_neg h1]
    simp only [Bool.not_eq_false, Bool.and_eq_true] at h1
    obtain ⟨⟨hf, hi⟩, hr⟩ := h1
    have h3 : 0 ≤ i ∧ i < 24 := by unfold isDim at hi; simpa using hi
    obtain ⟨hff, hfc⟩ := face_calm hf
    have hf24 := fR_all hff
    refine ⟨hf, hr, h3, ?_⟩
    have h4 := foldF_inv (g := faceStep i r) (L := f) (I := fun pre h => faceRight h = true ∧ ∀ P N, calmW P N → (sat h P N ↔ ∃ c, c ∈ pre ∧ satC c (ovr P i (sat r P N)) (ovr N i (¬ sat r (coW N) (coW P))))) (fun pre c h hc hi h0 => by
      unfold faceStep at h0 ⊢
      obtain ⟨a1, a2, a3⟩ := bindE_zero h0
      rw [a3]
      unfold joinF at a2 ⊢
      have hcl := hfc c hc
      refine ⟨calm_face (leastF_fR a2) fun d hd => ?_, fun P N hw => ?_⟩
      · rcases List.mem_append.mp (leastF_sub a2 hd) with hd | hd
        · exact (face_calm hi.1).2 d hd
        · exact part_calm hcl a1 d hd
      · rw [sat_least a2, sat_append, hi.2 P N hw, sat_part hw hcl a1]
        have hc24 := List.all_eq_true.mp hf24 c hc
        simp only [List.mem_append, List.mem_singleton]
        constructor
        · rintro (⟨d, hd, hs⟩ | hs)
          · exact ⟨d, .inl hd, hs⟩
          · exact ⟨c, .inr rfl, (satC_ovr hc24).mpr hs⟩
        · rintro ⟨d, hd | hd, hs⟩
          · exact .inl ⟨d, hd, hs⟩
          · subst hd
            exact .inr ((satC_ovr hc24).mp hs)) f [] [] ⟨by decide, fun P N _ => ⟨fun h => absurd h sat_nil, fun ⟨c, hc, _⟩ => (by cases hc)⟩⟩ (fun c hc => hc) h
    rw [List.nil_append] at h4
    exact h4
theorem formPut_fR {f r : List Cl} {i : Int} (h : (formPut f i r).1 = 0) : fRight (formPut f i r).2 = true := by
  unfold formPut at h ⊢
  split at h
  · cases h
  · rename_i h1
    split at h
    · cases h
    · rename_i h2
      rw [if_neg h1, if_neg h2]
      exact foldF_inv (g := putStep i r) (L := f) (I := fun pre h => fRight h = true) (fun pre c h hc hi h0 => by
        unfold putStep at h0 ⊢
        obtain ⟨a1, a2, a3⟩ := bindE_zero h0
        rw [a3]
        obtain ⟨b1, b2, b3⟩ := bindE_zero a2
        rw [b3]
        exact leastF_fR b2) f [] [] (by decide) (fun c hc => hc) h
theorem single_iff {c : Cl} : single c = true ↔ right24 c = true ∧ clash c = false := by
  unfold single
  rw [Bool.and_eq_true, Bool.not_eq_true']
theorem rlLen (l : List Cl) : (refLeast l).length ≤ l.length := by
  have := rlTo_len l l.length
  rwa [rlTo_all] at this
theorem leastF_told {l : List Cl} (h : l.all right24 = true) (h2 : l.length ≤ 64) : (leastF l).1 = 0 := by
  unfold leastF
  rw [if_neg (by simp [h]), if_neg (by have := rlLen l; omega)]
end Go.Hy
namespace Go.Hy
/-! ### Where a clause is so: one dimension behind another one -/
abbrev Stp : Type := Int × List Cl
def stepT (p : Stp) (u : T) : Int × T := walkR (putW p.1 p.2) u 0
def stepsC (c : Cl) : List Stp := ((listM c.pos).map fun i => (i, [cl0])) ++ ((listM c.neg).map fun i => (i, []))
theorem foldT_append {α : Type} {g : α → T → Int × T} : ∀ {l m : List α} {t : T}, foldT g (l ++ m) t = thenT (foldT g l t) fun u => foldT g m u
  | [], m, t => by rw [List.nil_append, foldT, thenT_ok rfl]
  | a :: l, m, t => by
    rw [List.cons_append, foldT, foldT]
    by_cases h : (g a t).1 = 0
    · rw [thenT_ok h, thenT_ok h]; exact foldT_append
    · rw [thenT_bad h, thenT_bad h, thenT_bad (x := ((g a t).1, t0)) h]
theorem foldT_map {α β : Type} {g : α → T → Int × T} {f : β → α} : ∀ {l : List β} {t : T}, foldT g (l.map f) t = foldT (fun b u => g (f b) u) l t
  | [], t => rfl
  | b :: l, t => by rw [List.map_cons, foldT, foldT]; congr 1; funext u; exact foldT_map
theorem under_steps {t : T} {c : Cl} (hf : formedP t = 0) (hc : single c = true) : dimsUnder t c = foldT stepT (stepsC c) t := by
  unfold dimsUnder stepsC
  rw [if_neg (by simp [hf]), if_neg (by simp [hc]), foldT_append, foldT_map]
  congr 1
  funext u
  rw [foldT_map]
  rfl
theorem has_free {f : List Cl} {i : Int} (hf : f.all right24 = true) (h : hasM (fDims f) i = false) {c : Cl} (hc : c ∈ f) (j : Nat) (hj : (c.pos ||| c.neg).testBit j = true) : (j : Int) ≠ i := by
  intro e
  subst e
  obtain ⟨b1, b2⟩ := right24_bits (List.all_eq_true.mp hf c hc)
  have hlt : j < 24 := by
    rw [Nat.testBit_or, Bool.or_eq_true] at hj
    exact hj.elim (b1 j) (b2 j)
  unfold hasM at h
  rw [decide_eq_true (show (0 : Int) ≤ (j : Int) by omega), decide_eq_true (show (j : Int) < 24 by omega)] at h
  simp only [Bool.true_and, Int.toNat_natCast] at h
  rw [fDims_bit.mpr ⟨hlt, c, hc, hj⟩] at h
  cases h
theorem listM_nat {s j : Nat} (hj : j < 24) : (j : Int) ∈ listM s ↔ s.testBit j = true := by
  rw [mem_listM]
  simp only [Int.toNat_natCast]
  constructor
  · rintro ⟨_, _, h⟩; exact h
  · intro h; exact ⟨by omega, by omega, h⟩
end Go.Hy
namespace Go.Hy
def uE : T := .mk 3 0 ⟨#[]⟩ [] [] []
def aE (t u : T) : T := .mk 6 0 ⟨#[]⟩ [] [t, u] []
end Go.Hy
namespace Go.Hy
def hcF : T := .mk 15 0 ⟨#[]⟩ [] [uE, uE] []
theorem thenT_okT {x : Int × T} {k : T → Int × T} (hx : okT x.2) (h : ∀ u, okT u → okT (k u).2) : okT (thenT x k).2 := by
  by_cases h1 : x.1 = 0
  · rw [thenT_ok h1]; exact h _ hx
  · rw [thenT_bad h1]; exact okT_t0
theorem dimsUnder_okT {t : T} {c : Cl} (h : okT t) : okT (dimsUnder t c).2 := by
  unfold dimsUnder
  split
  · exact okT_t0
  · split
    · exact okT_t0
    · exact thenT_okT (putsT_okT h) fun u hu => putsT_okT hu
theorem thenT_size {x : Int × T} {k : T → Int × T} {n : Nat} (hn : 1 ≤ n) (hx : size x.2 ≤ n) (h : ∀ u, size u ≤ n → size (k u).2 ≤ n) : size (thenT x k).2 ≤ n := by
  by_cases h1 : x.1 = 0
  · rw [thenT_ok h1]; exact h _ hx
  · rw [thenT_bad h1]; show size t0 ≤ n; rw [size_t0]; exact hn
theorem dimsUnder_size {t : T} {c : Cl} : size (dimsUnder t c).2 ≤ size t := by
  have hp := size_pos' t
  unfold dimsUnder
  split
  · show size t0 ≤ _; rw [size_t0]; exact hp
  · split
    · show size t0 ≤ _; rw [size_t0]; exact hp
    · exact thenT_size hp (putsT_size hp (Nat.le_refl _)) fun u hu => putsT_size hp hu
end Go.Hy
namespace Go.Hy
/-! ### Terms in which a face is never -/
mutual
def neverT : T → Bool
  | .mk _ _ _ _ ks ss => neverL ks || neverB ss
def neverL : List T → Bool
  | [] => false
  | t :: ts => neverT t || neverL ts
def neverB : List Br → Bool
  | [] => false
  | .mk f ks :: bs => (decide (f = []) || neverL ks) || neverB bs
end
theorem neverL_mem : ∀ {ts : List T}, neverL ts = true ↔ ∃ t, t ∈ ts ∧ neverT t = true
  | [] => by simp [neverL]
  | t :: ts => by simp [neverL, neverL_mem (ts := ts)]
theorem neverB_mem : ∀ {bs : List Br}, neverB bs = true ↔ ∃ b, b ∈ bs ∧ (b.face = [] ∨ neverL b.kids = true)
  | [] => by simp [neverB]
  | .mk f ks :: bs => by simp [neverB, neverB_mem (bs := bs), Br.face, Br.kids]
theorem neverT_iff {t : T} : neverT t = true ↔ neverL t.kids = true ∨ neverB t.sys = true := by
  obtain ⟨k, n, nm, r, ks, ss⟩ := t
  simp only [neverT, T.kids, T.sys, Bool.or_eq_true]
theorem never_kid {t : T} {i : Nat} (hi : i < t.kids.length) (h : neverT (t.kids.getD i t0) = true) : neverT t = true := neverT_iff.mpr (.inl (neverL_mem.mpr ⟨_, getD_mem hi, h⟩))
theorem never_face {t : T} {s : Nat} (hs : s < t.sys.length) (h : (t.sys.getD s br0).face = []) : neverT t = true := neverT_iff.mpr (.inr (neverB_mem.mpr ⟨_, getD_mem hs, .inl h⟩))
theorem never_sys {t : T} {s k : Nat} (hs : s < t.sys.length) (hk : k < (t.sys.getD s br0).kids.length) (h : neverT ((t.sys.getD s br0).kids.getD k t0) = true) : neverT t = true := neverT_iff.mpr (.inr (neverB_mem.mpr ⟨_, getD_mem hs, .inr (neverL_mem.mpr ⟨_, getD_mem hk, h⟩)⟩))
theorem neverL_none {ts : List T} (h : ∀ k, k < ts.length → neverT (ts.getD k t0) = false) : neverL ts = false := by
  cases hn : neverL ts with
  | false => rfl
  | true =>
    obtain ⟨t, ht, h2⟩ := neverL_mem.mp hn
    obtain ⟨i, hi, rfl⟩ := List.mem_iff_getElem.mp ht
    have := h i hi
    rw [getD_get (d := t0) hi, h2] at this
    cases this
theorem never_none {t : T} (h1 : ∀ i, i < t.kids.length → neverT (t.kids.getD i t0) = false) (h2 : ∀ s, s < t.sys.length → (t.sys.getD s br0).face ≠ [] ∧ neverL (t.sys.getD s br0).kids = false) : neverT t = false := by
  cases hn : neverT t with
  | false => rfl
  | true =>
    rcases neverT_iff.mp hn with h | h
    · rw [neverL_none h1] at h; cases h
    · obtain ⟨b, hb, h3⟩ := neverB_mem.mp h
      obtain ⟨i, hi, rfl⟩ := List.mem_iff_getElem.mp hb
      have h4 := h2 i hi
      rw [getD_get (d := br0) hi] at h4
      rcases h3 with h3 | h3
      · exact absurd h3 h4.1
      · rw [h4.2] at h3; cases h3
/-! ### One way, and then another one, where no face is never -/
section
variable {CA CB CC : Type} {A : Tr CA} {B : Tr CB} {D : Tr CC} (R : CA → CB → CC → Prop)
variable {R}
end
end Go.Hy
namespace Go.Hy
/-! ### Small formulas in a dimension's place are always told -/
theorem foldF_told {g : List Cl → Cl → EL} {L : List Cl} {I : Nat → List Cl → Prop} (hs : ∀ n c h, c ∈ L → n < L.length → I n h → (g h c).1 = 0 ∧ I (n + 1) (g h c).2) : ∀ (m : List Cl) (n : Nat) (h : List Cl), I n h → (∀ c, c ∈ m → c ∈ L) → n + m.length ≤ L.length → (foldF g h m).1 = 0 ∧ I (n + m.length) (foldF g h m).2
  | [], n, h, hi, _, _ => ⟨rfl, hi⟩
  | c :: m, n, h, hi, hm, hl => by
    rw [List.length_cons] at hl
    obtain ⟨h1, h2⟩ := hs n c h (hm c List.mem_cons_self) (by omega) hi
    rw [foldF, bindE_ok h1]
    obtain ⟨h3, h4⟩ := foldF_told hs m (n + 1) _ h2 (fun d hd => hm d (List.mem_cons_of_mem _ hd)) (by omega)
    refine ⟨h3, ?_⟩
    rw [List.length_cons, show n + (m.length + 1) = n + 1 + m.length by omega]
    exact h4
def tiny (x : EL) : Prop := x.1 = 0 ∧ x.2.length ≤ 1 ∧ x.2.all right24 = true
theorem least_all {l : List Cl} (h : l.all right24 = true) (h0 : (leastF l).1 = 0) : (leastF l).2.all right24 = true ∧ (leastF l).2.length ≤ l.length := by
  rcases leastF_cases l with ⟨_, _, h2, _⟩ | h2 | h2
  · rw [h2]
    exact ⟨List.all_eq_true.mpr fun c hc => List.all_eq_true.mp h c (refLeast_mem.mp hc).1, rlLen l⟩
  · rw [h2] at h0; cases h0
  · rw [h2] at h0; cases h0
theorem tiny_least {l : List Cl} (h : l.all right24 = true) (h2 : l.length ≤ 1) : tiny (leastF l) := by
  have h0 := leastF_told h (by omega)
  obtain ⟨h3, h4⟩ := least_all h h0
  exact ⟨h0, by omega, h3⟩
theorem right24_meet {a b : Cl} (h : right24 a = true) (h2 : right24 b = true) : right24 (meetC a b) = true := by
  obtain ⟨a1, a2⟩ := right24_iff.mp h
  obtain ⟨b1, b2⟩ := right24_iff.mp h2
  exact right24_iff.mpr ⟨Nat.or_lt_two_pow (n := 24) a1 b1, Nat.or_lt_two_pow (n := 24) a2 b2⟩
theorem all_meetL {f g : List Cl} (h : f.all right24 = true) (h2 : g.all right24 = true) : (meetL f g).all right24 = true := List.all_eq_true.mpr fun c hc => by
  obtain ⟨a, ha, hc⟩ := List.mem_flatMap.mp hc
  obtain ⟨b, hb, rfl⟩ := List.mem_map.mp hc
  exact right24_meet (List.all_eq_true.mp h a ha) (List.all_eq_true.mp h2 b hb)
theorem tiny_meet {f g : List Cl} (h : f.all right24 = true) (h2 : g.all right24 = true) (l1 : f.length ≤ 1) (l2 : g.length ≤ 1) : tiny (meetF f g) :=
  tiny_least (all_meetL h h2) (by rw [meetL_len]; exact Nat.le_trans (Nat.mul_le_mul l1 l2) (by omega))
theorem one_all (c : Cl) (i : Int) : [takeC c i].all right24 = true := by simp [right24_take]
theorem all_app {f g : List Cl} (h : f.all right24 = true) (h2 : g.all right24 = true) : (f ++ g).all right24 = true := by rw [List.all_append, h, h2]; rfl
theorem all_calm {f : List Cl} (h : f.all right24 = true) : (calmL f).all right24 = true ∧ (calmL f).length ≤ f.length := ⟨List.all_eq_true.mpr fun c hc => List.all_eq_true.mp h c (List.mem_filter.mp hc).1, List.length_filter_le _ _⟩
theorem formPut_told {f r : List Cl} {i : Int} (hf : fRight f = true) (hi : 0 ≤ i ∧ i < 24) (hr : fRight r = true) (h1 : r.length ≤ 1) (h2 : tiny (notF r)) : (formPut f i r).1 = 0 := by
  unfold formPut
  rw [if_neg (by simp [hf, hr]), if_neg (by unfold isDim; simp; omega)]
  have hr24 := fR_all hr
  refine (foldF_told (g := putStep i r) (L := f) (I := fun n h => h.length ≤ n ∧ h.all right24 = true) (fun n c h hc hn hi => ?_) f 0 [] ⟨Nat.le_refl _, rfl⟩ (fun c hc => hc) (by omega)).1
  have hlen := len_right hf
  have a1 : tiny (putPos i r c) := by
    unfold putPos
    split
    · exact tiny_meet (one_all c i) hr24 (by simp) h1
    · exact ⟨rfl, by simp, one_all c i⟩
  have a2 : tiny (putNeg i r c (putPos i r c).2) := by
    unfold putNeg
    split
    · rw [bindE_ok h2.1]; exact tiny_meet a1.2.2 h2.2.2 a1.2.1 h2.2.1
    · exact ⟨rfl, a1.2⟩
  unfold putStep
  rw [bindE_ok a1.1, bindE_ok a2.1]
  unfold joinF
  have h3 := all_app hi.2 a2.2.2
  have h4 : (leastF (h ++ (putNeg i r c (putPos i r c).2).2)).1 = 0 := leastF_told h3 (by rw [List.length_append]; have := a2.2.1; have := hi.1; omega)
  obtain ⟨h5, h6⟩ := least_all h3 h4
  refine ⟨h4, ?_, h5⟩
  rw [List.length_append] at h6
  have := a2.2.1
  have := hi.1
  omega
theorem notF_right {f : List Cl} (h : (notF f).1 = 0) : fRight (notF f).2 = true :=
  foldF_inv (g := notStep) (L := f) (I := fun pre h => fRight h = true) (fun pre c h hc hi h0 => by
    unfold notStep at h0 ⊢
    obtain ⟨a1, a2, a3⟩ := bindE_zero h0
    rw [a3]
    exact leastF_fR a2) f [] [cl0] (by decide) (fun c hc => hc) h
theorem facePut_told {f r : List Cl} {i : Int} (hf : faceRight f = true) (hi : 0 ≤ i ∧ i < 24) (hr : fRight r = true) (h1 : r.length ≤ 1) (h2 : tiny (notF r)) : (facePut f i r).1 = 0 := by
  unfold facePut
  rw [if_neg (by unfold isDim; simp [hf, hr]; omega)]
  have hr24 := fR_all hr
  have hff := (face_calm hf).1
  have hlen := len_right hff
  refine (foldF_told (g := faceStep i r) (L := f) (I := fun n h => h.length ≤ n ∧ h.all right24 = true) (fun n c h hc hn hi => ?_) f 0 [] ⟨Nat.le_refl _, rfl⟩ (fun c hc => hc) (by omega)).1
  have key : ∀ x : EL, tiny x → tiny (meetA [takeC c i] x.2) := fun x hx => by
    rw [meetA_one]
    have h3 : (x.2.map fun b => meetC (takeC c i) b).all right24 = true := List.all_eq_true.mpr fun d hd => by
      obtain ⟨b, hb, rfl⟩ := List.mem_map.mp hd
      exact right24_meet (right24_take c i) (List.all_eq_true.mp hx.2.2 b hb)
    have h4 := all_calm h3
    exact tiny_least h4.1 (Nat.le_trans h4.2 (by rw [List.length_map]; exact hx.2.1))
  have ofT : ∀ x : List Cl, fRight x = true → x.length ≤ 1 → tiny (ofF x) := fun x hx hl => by
    unfold ofF
    rw [if_pos hx]
    have h4 := all_calm (fR_all hx)
    exact tiny_least h4.1 (Nat.le_trans h4.2 hl)
  have zeroT : tiny (ofZero r) := by
    unfold ofZero notR
    rw [if_pos hr, bindE_ok h2.1]
    exact ofT _ (notF_right h2.1) h2.2.1
  have a1 : tiny (facePart i r c) := by
    unfold facePart
    split
    · rw [bindE_ok (ofT r hr h1).1]; exact key _ (ofT r hr h1)
    · split
      · rw [bindE_ok zeroT.1]; exact key _ zeroT
      · exact ⟨rfl, by simp, one_all c i⟩
  unfold faceStep
  rw [bindE_ok a1.1]
  unfold joinF
  have h3 := all_app hi.2 a1.2.2
  have h4 : (leastF (h ++ (facePart i r c).2)).1 = 0 := leastF_told h3 (by rw [List.length_append]; have := a1.2.1; have := hi.1; omega)
  obtain ⟨h5, h6⟩ := least_all h3 h4
  refine ⟨h4, ?_, h5⟩
  rw [List.length_append] at h6
  have := a1.2.1
  have := hi.1
  omega
theorem tiny_one {o : List Cl} (h : o.all right24 = true) (h2 : o.length ≤ 1) : tiny (bindE (leastF o) fun x => meetF [cl0] x) := by
  have h1 := tiny_least h h2
  rw [bindE_ok h1.1]
  exact tiny_meet (by decide) h1.2.2 (by simp) h1.2.1
theorem tiny_single {c : Cl} (h : (oppL c).length ≤ 1) (h2 : (oppL c).all right24 = true) : tiny (notF [c]) := by
  have h3 := tiny_one h2 h
  have e : notF [c] = bindE (notStep [cl0] c) fun h' => foldF notStep h' [] := rfl
  have e2 : notStep [cl0] c = bindE (leastF (oppL c)) fun x => meetF [cl0] x := rfl
  rw [e, e2, bindE_ok h3.1]
  exact ⟨rfl, h3.2⟩
theorem tiny_not_one : tiny (notF [cl0]) := tiny_single (by decide) (by decide)
theorem tiny_not_nil : tiny (notF []) := ⟨rfl, by decide, by decide⟩
theorem lift_one (d : Int) (hd : 0 ≤ d) : formLift [cl0] 0 d = (0, [cl0]) := by
  have h1 : maskLift 0 0 d = (0, 0) := by
    rw [mask_good (by omega) hd (fun x hx => by have : listM 0 = [] := by decide
                                                rw [this] at hx; cases hx), show listM 0 = [] by decide]
    rfl
  have h2 : clLift cl0 0 d = (0, cl0) := by
    unfold clLift
    rw [if_neg (by decide), show cl0.pos = 0 from rfl, show cl0.neg = 0 from rfl, h1]
    simp [cl0]
  have h3 : foldC (fun c => clLift c 0 d) [cl0] = (0, [cl0]) := by
    rw [foldC_ok (fun j hj => by have : j = 0 := by simpa using hj
                                 subst this; rw [show ([cl0] : List Cl).getD 0 cl0 = cl0 from rfl, h2]), List.map_cons, List.map_nil, h2]
  unfold formLift
  rw [if_neg (by decide), h3, if_neg (by simp)]
  exact leastF_fRight.mp (by decide)
/-- A row of a node that may be. -/
theorem head_cases {k n : Int} {nm : ByteArray} {r : List Cl} (h : headOK k n nm r) : (k = 14 → faceRight r = true) ∧ fRight r = true := by
  obtain ⟨_, _, h3, h4, h5, h6, h7⟩ := h
  refine ⟨h6, ?_⟩
  by_cases e : k = 13 ∨ k = 21 ∨ k = 26
  · exact h5 e
  · by_cases e2 : k = 14
    · exact (face_calm (h6 e2)).1
    · rw [h7 (by omega)]; decide
end Go.Hy
namespace Go.Hy
theorem put_none {P : List Cl → Int → List Cl → EL} {i d : Int} {r f : List Cl} (h : hasM (fDims f) (i + d) = false) : rowPut P i r d f = (0, f) := by
  unfold rowPut
  rw [if_pos h]
end Go.Hy
namespace Go.Hy
/-! ### Which dimensions a row has -/
def inD (D : Nat → Prop) (l : List Cl) : Prop := ∀ c, c ∈ l → ∀ j, c.pos.testBit j = true ∨ c.neg.testBit j = true → D j
section
variable {D D' : Nat → Prop} {f g l r : List Cl} {c : Cl} {i : Int}
theorem inD_sub (h : inD D l) (hs : ∀ c, c ∈ g → c ∈ l) : inD D g := fun c hc => h c (hs c hc)
theorem inD_least (h : inD D l) (h0 : (leastF l).1 = 0) : inD D (leastF l).2 := inD_sub h fun c hc => leastF_sub h0 hc
theorem inD_append (h : inD D f) (h2 : inD D g) : inD D (f ++ g) := fun c hc => (List.mem_append.mp hc).elim (h c) (h2 c)
theorem inD_meetL (h : inD D f) (h2 : inD D g) : inD D (meetL f g) := fun c hc j hj => by
  obtain ⟨a, ha, hc⟩ := List.mem_flatMap.mp hc
  obtain ⟨b, hb, rfl⟩ := List.mem_map.mp hc
  unfold meetC at hj
  simp only [Nat.testBit_or, Bool.or_eq_true] at hj
  rcases hj with (hj | hj) | (hj | hj)
  · exact h a ha j (.inl hj)
  · exact h2 b hb j (.inl hj)
  · exact h a ha j (.inr hj)
  · exact h2 b hb j (.inr hj)
theorem inD_opp (h : ∀ j, c.pos.testBit j = true ∨ c.neg.testBit j = true → D j) : inD D (oppL c) := fun d hd j hj => by
  unfold oppL at hd
  rcases List.mem_append.mp hd with hd | hd
  · obtain ⟨x, hx, rfl⟩ := List.mem_map.mp hd
    obtain ⟨x0, x1, x2⟩ := mem_listM.mp hx
    simp only [Nat.zero_testBit, bitM_bit, Bool.false_eq_true, false_or] at hj
    exact h j (.inl (by rw [show j = x.toNat by omega]; exact x2))
  · obtain ⟨x, hx, rfl⟩ := List.mem_map.mp hd
    obtain ⟨x0, x1, x2⟩ := mem_listM.mp hx
    simp only [Nat.zero_testBit, bitM_bit, Bool.false_eq_true, or_false] at hj
    exact h j (.inr (by rw [show j = x.toNat by omega]; exact x2))
theorem inD_not (h : inD D f) (h0 : (notF f).1 = 0) : inD D (notF f).2 :=
  foldF_inv (g := notStep) (L := f) (I := fun pre h => inD D h) (fun pre c hh hc hi h0 => by
    unfold notStep at h0 ⊢
    obtain ⟨a1, a2, a3⟩ := bindE_zero h0
    rw [a3]
    unfold oppF at a1
    exact inD_least (inD_meetL hi (inD_least (inD_opp (h c hc)) a1)) a2) f [] [cl0] (fun c hc j hj => by
      rw [List.mem_singleton] at hc; subst hc; simp [cl0] at hj) (fun c hc => hc) h0
theorem inD_take (h : ∀ j : Nat, c.pos.testBit j = true ∨ c.neg.testBit j = true → (j : Int) ≠ i → D j) : inD D [takeC c i] := fun d hd j hj => by
  rw [List.mem_singleton] at hd
  subst hd
  unfold takeC at hj
  simp only [withoutM_bit] at hj
  rcases hj with ⟨_, h1, h2⟩ | ⟨_, h1, h2⟩
  · exact h j (.inl h1) h2
  · exact h j (.inr h1) h2
theorem inD_formPut (h : ∀ c, c ∈ f → ∀ j : Nat, c.pos.testBit j = true ∨ c.neg.testBit j = true → (j : Int) ≠ i → D j) (hr : inD D r) (h0 : (formPut f i r).1 = 0) : inD D (formPut f i r).2 := by
  unfold formPut at h0 ⊢
  split at h0
  · cases h0
  · rename_i h1
    split at h0
    · cases h0
    · rename_i h2
      rw [if_neg h1, if_neg h2]
      exact foldF_inv (g := putStep i r) (L := f) (I := fun pre h => inD D h) (fun pre c hh hc hi h0 => by
        unfold putStep at h0 ⊢
        obtain ⟨a1, a2, a3⟩ := bindE_zero h0
        rw [a3]
        obtain ⟨b1, b2, b3⟩ := bindE_zero a2
        rw [b3]
        have ht := inD_take (D := D) (h c hc)
        have e1 : inD D (putPos i r c).2 := by
          unfold putPos at a1 ⊢
          split
          · rename_i h5; rw [if_pos h5] at a1; exact inD_least (inD_meetL ht hr) a1
          · exact ht
        have e2 : inD D (putNeg i r c (putPos i r c).2).2 := by
          unfold putNeg at b1 ⊢
          split
          · rename_i h5
            rw [if_pos h5] at b1
            obtain ⟨d1, d2, d3⟩ := bindE_zero b1
            rw [d3]
            exact inD_least (inD_meetL e1 (inD_not hr d1)) d2
          · exact e1
        exact inD_least (inD_append hi e2) b2) f [] [] (fun c hc => by cases hc) (fun c hc => hc) h0
theorem inD_calm (h : inD D l) : inD D (calmL l) := inD_sub h fun c hc => (List.mem_filter.mp hc).1
theorem inD_facePut (h : ∀ c, c ∈ f → ∀ j : Nat, c.pos.testBit j = true ∨ c.neg.testBit j = true → (j : Int) ≠ i → D j) (hr : inD D r) (h0 : (facePut f i r).1 = 0) : inD D (facePut f i r).2 := by
  unfold facePut at h0 ⊢
  split at h0
  · cases h0
  · rename_i h1
    rw [if_neg h1]
    have hof : ∀ x : List Cl, inD D x → (ofF x).1 = 0 → inD D (ofF x).2 := fun x hx h3 => by
      unfold ofF at h3 ⊢
      split at h3
      · rename_i h4; rw [if_pos h4]; exact inD_least (inD_calm hx) h3
      · cases h3
    have hmeet : ∀ (c : Cl) (x : List Cl), inD D [c] → inD D x → (meetA [c] x).1 = 0 → inD D (meetA [c] x).2 := fun c x hc hx h3 => by
      rw [meetA_one] at h3 ⊢
      refine inD_least (inD_calm ?_) h3
      have h4 := inD_meetL hc hx
      unfold meetL at h4
      simpa using h4
    exact foldF_inv (g := faceStep i r) (L := f) (I := fun pre h => inD D h) (fun pre c hh hc hi h0 => by
      unfold faceStep at h0 ⊢
      obtain ⟨a1, a2, a3⟩ := bindE_zero h0
      rw [a3]
      have ht := inD_take (D := D) (h c hc)
      have e1 : inD D (facePart i r c).2 := by
        unfold facePart at a1 ⊢
        split
        · rename_i h5
          rw [if_pos h5] at a1
          obtain ⟨b1, b2, b3⟩ := bindE_zero a1
          rw [b3]
          exact hmeet _ _ ht (hof _ hr b1) b2
        · rename_i h5
          rw [if_neg h5] at a1
          split
          · rename_i h6
            rw [if_pos h6] at a1
            obtain ⟨b1, b2, b3⟩ := bindE_zero a1
            rw [b3]
            refine hmeet _ _ ht ?_ b2
            unfold ofZero at b1 ⊢
            obtain ⟨d1, d2, d3⟩ := bindE_zero b1
            rw [d3]
            refine hof _ ?_ d2
            unfold notR at d1 ⊢
            split at d1
            · rename_i h7; rw [if_pos h7]; exact inD_not hr d1
            · cases d1
          · exact ht
      exact inD_least (inD_append hi e1) a2) f [] [] (fun c hc => by cases hc) (fun c hc => hc) h0
theorem inD_bits (hl : l.all right24 = true) : inD (fun j => (fDims l).testBit j = true) l := fun c hc j hj => by
  obtain ⟨b1, b2⟩ := right24_bits (List.all_eq_true.mp hl c hc)
  exact fDims_bit.mpr ⟨hj.elim (b1 j) (b2 j), c, hc, by rw [Nat.testBit_or, Bool.or_eq_true]; exact hj⟩
theorem bits_inD (h : inD D l) {j : Nat} (hj : (fDims l).testBit j = true) : D j := by
  obtain ⟨_, c, hc, h2⟩ := fDims_bit.mp hj
  rw [Nat.testBit_or, Bool.or_eq_true] at h2
  exact h c hc j h2
end
/-! ### Steps that put 0 or 1 -/
def bitR (r : List Cl) : Prop := r = [cl0] ∨ r = []
theorem bitR_parts {r : List Cl} (h : bitR r) : fRight r = true ∧ r.length ≤ 1 ∧ tiny (notF r) ∧ (∀ D, inD D r) ∧ ∀ d : Int, 0 ≤ d → formLift r 0 d = (0, r) := by
  rcases h with rfl | rfl
  · exact ⟨by decide, by decide, tiny_not_one, fun D c hc j hj => by rw [List.mem_singleton] at hc; subst hc; simp [cl0] at hj, fun d hd => lift_one d hd⟩
  · exact ⟨by decide, by decide, tiny_not_nil, fun D c hc => (by cases hc), fun d hd => formLift_nil 0 d⟩
/-- What a row is, behind such a step. -/
structure RowStep (i d : Int) (f : List Cl) (x : EL) : Prop where
  told : x.1 = 0
  bits : ∀ j, (fDims x.2).testBit j = true → (fDims f).testBit j = true ∧ (j : Int) ≠ i + d
theorem bit_form {i d : Int} {r f : List Cl} (hr : bitR r) (hf : fRight f = true) (hi : 0 ≤ i) (hd : 0 ≤ d) : RowStep i d f (rowPut formPut i r d f) ∧ fRight (rowPut formPut i r d f).2 = true := by
  obtain ⟨r1, r2, r3, r4, r5⟩ := bitR_parts hr
  unfold rowPut
  split
  · rename_i h
    refine ⟨⟨rfl, fun j hj => ⟨hj, ?_⟩⟩, hf⟩
    obtain ⟨_, c, hc, h2⟩ := fDims_bit.mp hj
    exact has_free (fR_all hf) h hc j h2
  · rename_i h
    have hj : 0 ≤ i + d ∧ i + d < 24 := by
      unfold hasM at h
      simp only [Bool.not_eq_false, Bool.and_eq_true, decide_eq_true_eq] at h
      exact h.1
    rw [r5 d hd, bindE_ok rfl]
    have h0 := formPut_told hf hj r1 r2 r3
    refine ⟨⟨h0, fun j hjj => ?_⟩, formPut_fR h0⟩
    exact bits_inD (inD_formPut (D := fun j => (fDims f).testBit j = true ∧ (j : Int) ≠ i + d) (fun c hc j hb hne => ⟨inD_bits (fR_all hf) c hc j hb, hne⟩) (r4 _) h0) hjj
theorem bit_face {i d : Int} {r f : List Cl} (hr : bitR r) (hf : faceRight f = true) (hi : 0 ≤ i) (hd : 0 ≤ d) : RowStep i d f (rowPut facePut i r d f) ∧ faceRight (rowPut facePut i r d f).2 = true := by
  obtain ⟨r1, r2, r3, r4, r5⟩ := bitR_parts hr
  have h24 := fR_all (face_calm hf).1
  unfold rowPut
  split
  · rename_i h
    refine ⟨⟨rfl, fun j hj => ⟨hj, ?_⟩⟩, hf⟩
    obtain ⟨_, c, hc, h2⟩ := fDims_bit.mp hj
    exact has_free h24 h hc j h2
  · rename_i h
    have hj : 0 ≤ i + d ∧ i + d < 24 := by
      unfold hasM at h
      simp only [Bool.not_eq_false, Bool.and_eq_true, decide_eq_true_eq] at h
      exact h.1
    rw [r5 d hd, bindE_ok rfl]
    have h0 := facePut_told hf hj r1 r2 r3
    refine ⟨⟨h0, fun j hjj => ?_⟩, (sat_facePut h0).2.2.2.1⟩
    exact bits_inD (inD_facePut (D := fun j => (fDims f).testBit j = true ∧ (j : Int) ≠ i + d) (fun c hc j hb hne => ⟨inD_bits h24 c hc j hb, hne⟩) (r4 _) h0) hjj
/-! ### Ways through a term whose rows are told and stay right -/
structure GoodW (W : RowsW) : Prop where
  form : ∀ d f, 0 ≤ d → fRight f = true → (W.form d f).1 = 0 ∧ fRight (W.form d f).2 = true
  face : ∀ d f, 0 ≤ d → faceRight f = true → (W.face d f).1 = 0 ∧ faceRight (W.face d f).2 = true
  nil : ∀ d, W.form d [] = (0, [])
theorem good_bit {i : Int} {r : List Cl} (hr : bitR r) (hi : 0 ≤ i) : GoodW (putW i r) where
  form := fun d f hd hf => ⟨(bit_form hr hf hi hd).1.told, (bit_form hr hf hi hd).2⟩
  face := fun d f hd hf => ⟨(bit_face hr hf hi hd).1.told, (bit_face hr hf hi hd).2⟩
  nil := fun d => put_none (by unfold hasM fDims; simp)
theorem row_right {W : RowsW} (hW : GoodW W) {k n d : Int} {nm : ByteArray} {r : List Cl} (hd : 0 ≤ d) (h : headOK k n nm r) : (W.row k d r).1 = 0 ∧ headOK k n nm (W.row k d r).2 := by
  have h0 := h
  obtain ⟨h1, h2, h3, h4, h5, h6, h7⟩ := h
  obtain ⟨q1, q2⟩ := head_cases h0
  unfold RowsW.row
  by_cases e : k = 14
  · rw [if_pos e]
    obtain ⟨a1, a2⟩ := hW.face d r hd (h6 e)
    exact ⟨a1, h1, h2, fun h => by omega, fun h => by omega, fun h => by omega, fun _ => a2, fun h => by omega⟩
  · rw [if_neg e]
    obtain ⟨a1, a2⟩ := hW.form d r hd q2
    refine ⟨a1, h1, h2, fun h => ⟨?_, (h3 h).2⟩, fun h => ⟨?_, (h4 h).2⟩, fun h => a2, fun h => absurd h e, fun h => ?_⟩
    · rw [(h3 h).1, hW.nil]
    · rw [(h4 h).1, hW.nil]
    · rw [h7 h, hW.nil]
theorem walk_ex {W : RowsW} (hW : GoodW W) : ∀ (t : T) {d : Int}, fineT t → 0 ≤ d → ∃ u, trav (rowsTr W) t d = .ok u := T.ind fun t ih d hf hd => by
  have hhead := (fineT_iff.mp hf).1
  refine trav_ex (rows_own_ok (row_right hW hd hhead).1) (fun b hb => ?_) (fun p hp => ?_)
  · have h1 := (hW.face d b.face hd (fine_face hf hb)).1
    by_cases h2 : (W.face d b.face).2.length = 0
    · exact ⟨none, rows_face_none h1 h2⟩
    · exact ⟨some _, rows_face_some h1 h2⟩
  · have h1 := parts_01 hp
    obtain ⟨u, hu⟩ := ih p hp (fine_part hf hp) (d := d + p.2.2) (by omega)
    exact ⟨_, u, rfl, hu⟩
/-- What such a way leads to. -/
theorem rows_out {W : RowsW} {t u : T} {d : Int} (h : trav (rowsTr W) t d = .ok u) : W.row t.kind d t.r = (0, u.r) ∧ u.kind = t.kind ∧ u.n = t.n ∧ u.name = t.name ∧ (∀ q, q ∈ parts u → ∃ p, p ∈ parts t ∧ p.2 = q.2 ∧ trav (rowsTr W) p.1 (d + p.2.2) = .ok q.1) ∧ ∀ b', b' ∈ u.sys → b'.face ≠ [] ∧ ∃ b, b ∈ t.sys ∧ W.face d b.face = (0, b'.face) := by
  rcases trav_out h with h1 | ⟨p, h1, ⟨k1, k2, k3, k4⟩, h2, h3⟩
  · exact absurd h1 rows_own_inl
  · obtain ⟨a1, a2⟩ := rows_own_inr.mp h1
    refine ⟨by rw [k4]; exact a1, k1, by rw [k2, a2], k3, fun q hq => ?_, fun b' hb' => ?_⟩
    · obtain ⟨p', hp', e, c', hc', h4⟩ := h2 q hq
      rw [rows_kid] at hc'
      injection hc' with hc'
      subst hc'
      exact ⟨p', hp', e, h4⟩
    · obtain ⟨b, hb, h4⟩ := h3 b' hb'
      obtain ⟨h5, h6⟩ := rows_face_some_iff.mp h4
      exact ⟨h6, b, hb, h5⟩
theorem walk_never {W : RowsW} : ∀ (t : T) {u : T} {d : Int}, trav (rowsTr W) t d = .ok u → neverT u = false := T.ind fun t ih u d h => by
  obtain ⟨_, _, _, _, h2, h3⟩ := rows_out h
  refine never_none (fun i hi => ?_) fun s hs => ⟨(h3 _ (getD_mem hs)).1, neverL_none fun k hk => ?_⟩
  · obtain ⟨p, hp, e, h4⟩ := h2 _ (List.mem_of_getElem? (parts_kid u i hi))
    exact ih p hp h4
  · obtain ⟨p, hp, e, h4⟩ := h2 _ (List.mem_of_getElem? (parts_sys u s k hs hk))
    exact ih p hp h4
theorem walk_depth {W : RowsW} : ∀ (t : T) {u : T} {d : Int}, trav (rowsTr W) t d = .ok u → depth u ≤ depth t := T.ind fun t ih u d h => by
  have h0 := depth_pos t
  rw [show depth t = (depth t - 1) + 1 by omega, depth_le_iff]
  obtain ⟨_, _, _, _, h2, _⟩ := rows_out h
  intro q hq
  obtain ⟨p, hp, e, h4⟩ := h2 q hq
  have h5 := ih p hp h4
  have h6 := part_depth hp
  omega
theorem walk_sized {W : RowsW} {t u : T} {d : Int} (h : trav (rowsTr W) t d = .ok u) (hs : sized t = 0) : sized u = 0 := by
  obtain ⟨h3, h4⟩ := sized_zero.mp hs
  exact sized_zero.mpr ⟨Nat.le_trans (walk_depth t h) h3, Nat.le_trans (walk_size h) h4⟩
section
variable {W : RowsW}
mutual
theorem walk_fine (hW : GoodW W) : ∀ {t u : T} {d : Int}, 0 ≤ d → fineT t → trav (rowsTr W) t d = .ok u → fineT u
  | .mk k n nm r ks ss, u, d, hd, h, hu => by
    simp only [fineT] at h
    obtain ⟨h1, h2, h3, h4, h5⟩ := h
    rw [trav_eq] at hu
    simp only [T.kind, T.n, T.name, T.r, T.kids, T.sys] at hu
    obtain ⟨o, h9, hu⟩ := Res1.bind_ok hu
    cases o with
    | inl v => exact absurd h9 rows_own_inl
    | inr p =>
      obtain ⟨a1, a2⟩ := rows_own_inr.mp h9
      obtain ⟨ks', h10, hu⟩ := Res1.bind_ok hu
      obtain ⟨ss', h11, hu⟩ := Res1.bind_ok hu
      injection hu with hu
      subst hu
      simp only [fineT]
      have hr := (row_right hW hd h1).2
      rw [a1] at hr
      refine ⟨by rw [a2]; exact hr, by rw [travL_len h10]; exact h2, fun h => ?_, walkL_fine hW hd h4 h10, walkB_fine hW hd h5 h11⟩
      have h12 := travB_len h11
      rw [h3 h] at h12
      exact List.eq_nil_of_length_eq_zero (Nat.le_zero.mp h12)
theorem walkL_fine (hW : GoodW W) {kd : Int} : ∀ {ts : List T} {i : Nat} {d : Int} {us : List T}, 0 ≤ d → fineL ts → travL (rowsTr W) kd i ts d = .ok us → fineL us
  | [], i, d, us, hd, h, hu => by rw [travL_nil] at hu; injection hu with hu; subst hu; simp only [fineL]
  | t :: ts, i, d, us, hd, h, hu => by
    simp only [fineL] at h
    rw [travL_cons] at hu
    obtain ⟨c', h1, hu⟩ := Res1.bind_ok hu
    obtain ⟨t', h2, hu⟩ := Res1.bind_ok hu
    obtain ⟨ts', h3, hu⟩ := Res1.bind_ok hu
    injection hu with hu
    subst hu
    injection h1 with h1
    subst h1
    have hb := (binds_01 kd i).2.2.1
    simp only [fineL]
    exact ⟨walk_fine hW (by omega) h.1 h2, walkL_fine hW hd h.2 h3⟩
theorem walkS_fine (hW : GoodW W) {kd : Int} : ∀ {ts : List T} {d : Int} {us : List T}, 0 ≤ d → fineL ts → travS (rowsTr W) kd ts d = .ok us → fineL us
  | [], d, us, hd, h, hu => by rw [travS_nil] at hu; injection hu with hu; subst hu; simp only [fineL]
  | t :: ts, d, us, hd, h, hu => by
    simp only [fineL] at h
    rw [travS_cons] at hu
    obtain ⟨c', h1, hu⟩ := Res1.bind_ok hu
    obtain ⟨t', h2, hu⟩ := Res1.bind_ok hu
    obtain ⟨ts', h3, hu⟩ := Res1.bind_ok hu
    injection hu with hu
    subst hu
    injection h1 with h1
    subst h1
    have hb := (more_01 kd).1
    simp only [fineL]
    exact ⟨walk_fine hW (by dsimp only; omega) h.1 h2, walkS_fine hW hd h.2 h3⟩
theorem walkB_fine (hW : GoodW W) {kd : Int} : ∀ {bs : List Br} {d : Int} {us : List Br}, 0 ≤ d → fineB kd bs → travB (rowsTr W) kd bs d = .ok us → fineB kd us
  | [], d, us, hd, h, hu => by rw [travB_nil] at hu; injection hu with hu; subst hu; simp only [fineB]
  | .mk f ks :: bs, d, us, hd, h, hu => by
    simp only [fineB] at h
    obtain ⟨h1, h2, h3, h4⟩ := h
    rw [travB_cons] at hu
    simp only [Br.face, Br.kids] at hu
    obtain ⟨o, h5, hu⟩ := Res1.bind_ok hu
    cases o with
    | none => exact walkB_fine hW hd h4 hu
    | some f' =>
      obtain ⟨e1, _⟩ := rows_face_some_iff.mp h5
      obtain ⟨ks', h6, hu⟩ := Res1.bind_ok hu
      obtain ⟨bs', h7, hu⟩ := Res1.bind_ok hu
      injection hu with hu
      subst hu
      simp only [fineB]
      have hf := (hW.face d f hd h2).2
      rw [e1] at hf
      exact ⟨by rw [travS_len h6]; exact h1, hf, walkS_fine hW hd h3 h6, walkB_fine hW hd h4 h7⟩
end
end
end Go.Hy
namespace Go.Hy
/-! ### Where a clause is so, its dimensions are gone -/
structure SubW (W : RowsW) : Prop extends GoodW W where
  formB : ∀ d f, 0 ≤ d → fRight f = true → ∀ j, (fDims (W.form d f).2).testBit j = true → (fDims f).testBit j = true
  faceB : ∀ d f, 0 ≤ d → faceRight f = true → ∀ j, (fDims (W.face d f).2).testBit j = true → (fDims f).testBit j = true
theorem sub_bit {i : Int} {r : List Cl} (hr : bitR r) (hi : 0 ≤ i) : SubW (putW i r) where
  toGoodW := good_bit hr hi
  formB := fun d f hd hf j hj => ((bit_form hr hf hi hd).1.bits j hj).1
  faceB := fun d f hd hf j hj => ((bit_face hr hf hi hd).1.bits j hj).1
theorem rows_shape {W : RowsW} {t u : T} {d : Int} (h : trav (rowsTr W) t d = .ok u) : u.kids.length = t.kids.length ∧ u.sys.length ≤ t.sys.length ∧ ∀ b', b' ∈ u.sys → ∃ b, b ∈ t.sys ∧ W.face d b.face = (0, b'.face) ∧ b'.kids.length = b.kids.length := by
  rw [trav_eq] at h
  obtain ⟨o, h1, h⟩ := Res1.bind_ok h
  cases o with
  | inl v => exact absurd h1 rows_own_inl
  | inr p =>
    obtain ⟨ks', h2, h⟩ := Res1.bind_ok h
    obtain ⟨ss', h3, h⟩ := Res1.bind_ok h
    injection h with h
    subst h
    refine ⟨travL_len h2, travB_len h3, fun b' hb' => ?_⟩
    obtain ⟨_, b2⟩ := travB_at h3
    obtain ⟨b, hb, h4, h5⟩ := b2 b' hb'
    exact ⟨b, hb, (rows_face_some_iff.mp h4).1, travS_len h5⟩
theorem within_sub {f g : List Cl} {d : Int} (h0 : 0 ≤ d) (h : within f d = true) (hs : ∀ j, (fDims g).testBit j = true → (fDims f).testBit j = true) : within g d = true := by
  rw [within_iff h0] at h ⊢
  intro i hi
  cases hh : (fDims g).testBit i with
  | false => rfl
  | true => have := hs i hh; rw [h i hi] at this; cases this
theorem own_walk {W : RowsW} (hW : SubW W) {t u : T} {c v e : Int} (hc : 0 ≤ c) (he : 0 ≤ e) (h : trav (rowsTr W) t c = .ok u) (ho : ownP t v e = true) : ownP u v e = true := by
  obtain ⟨h1, h2, h3, h4, _, _⟩ := rows_out h
  obtain ⟨s1, s2, s3⟩ := rows_shape h
  rw [own_iff] at ho ⊢
  obtain ⟨o1, o2⟩ := ho
  rw [h2, h3, h4]
  have hnil : t.kind ≠ 14 → t.r.length = 0 → u.r.length = 0 := fun k14 e => by
    unfold RowsW.row at h1
    rw [if_neg k14, List.eq_nil_of_length_eq_zero e, hW.nil] at h1
    injection h1 with _ h1
    rw [← h1]; rfl
  refine ⟨?_, ?_⟩
  · unfold own1 at o1 ⊢
    rw [h2, h3, h4, s1]
    simp only [Bool.or_eq_false_iff, Bool.and_eq_false_iff, decide_eq_false_iff_not] at o1 ⊢
    refine ⟨o1.1, o1.2.imp id fun h => ?_⟩
    omega
  · by_cases k1 : t.kind = 1
    · rw [if_pos k1] at o2 ⊢
      exact ⟨hnil (by omega) o2.1, o2.2⟩
    · rw [if_neg k1] at o2 ⊢
      by_cases k2 : t.kind = 2
      · rw [if_pos k2] at o2 ⊢
        exact ⟨hnil (by omega) o2.1, o2.2⟩
      · rw [if_neg k2] at o2 ⊢
        by_cases k3 : t.kind = 13 ∨ t.kind = 21 ∨ t.kind = 26
        · rw [if_pos k3] at o2 ⊢
          unfold RowsW.row at h1
          rw [if_neg (by omega)] at h1
          have e1 : u.r = (W.form c t.r).2 := by rw [h1]
          rw [e1]
          exact ⟨(hW.form c _ hc o2.1).2, within_sub he o2.2 (hW.formB c _ hc o2.1)⟩
        · rw [if_neg k3] at o2 ⊢
          by_cases k4 : t.kind = 14
          · rw [if_pos k4] at o2 ⊢
            unfold RowsW.row at h1
            rw [if_pos k4] at h1
            have e1 : u.r = (W.face c t.r).2 := by rw [h1]
            rw [e1]
            exact ⟨(hW.face c _ hc o2.1).2, within_sub he o2.2 (hW.faceB c _ hc o2.1)⟩
          · rw [if_neg k4] at o2 ⊢
            refine ⟨fun b' hb' => ?_, hnil k4 o2.2⟩
            obtain ⟨b, hb, e1, e2⟩ := s3 b' hb'
            have := ownB_iff.mp (o2.1 b hb)
            have e3 : b'.face = (W.face c b.face).2 := by rw [e1]
            refine ownB_iff.mpr ⟨⟨by rw [e2, h2]; exact this.1.1, ?_⟩, ?_⟩
            · rw [e3]; exact (hW.face c _ hc this.1.2).2
            · rw [e3]; exact within_sub he this.2 (hW.faceB c _ hc this.1.2)
theorem allP_walk {W : RowsW} (hW : SubW W) {bd : Bool} : ∀ (t : T) {u : T} {c v e : Int}, 0 ≤ c → 0 ≤ e → trav (rowsTr W) t c = .ok u → allP t v e bd = true → allP u v e bd = true := T.ind fun t ih u c v e hc he h ha => by
  rw [all_iff] at ha ⊢
  obtain ⟨a1, a2, a3⟩ := ha
  refine ⟨a1, own_walk hW hc he h a2, fun q hq => ?_⟩
  obtain ⟨p, hp, e1, h4⟩ := (rows_out h).2.2.2.2.1 q hq
  have h1 := parts_01 hp
  rw [← e1]
  exact ih p hp (by omega) (by omega) h4 (a3 p hp)
theorem right_walk {W : RowsW} (hW : SubW W) {t u : T} {v e : Int} (h : trav (rowsTr W) t 0 = .ok u) (hr : rightP t v e = 0) : rightP u v e = 0 := by
  rw [right_zero] at hr ⊢
  obtain ⟨r1, r2, r3, r4, r5⟩ := hr
  exact ⟨r1, r2, r3, walk_sized h r4, allP_walk hW t (Int.le_refl 0) r2 h r5⟩
theorem formed_walk {W : RowsW} (hW : SubW W) {t u : T} (h : trav (rowsTr W) t 0 = .ok u) (hr : formedP t = 0) : formedP u = 0 := by
  rw [formed_fine] at hr ⊢
  exact ⟨walk_sized h hr.1, walk_fine hW.toGoodW (Int.le_refl 0) hr.2 h⟩
/-- Which dimensions are left. -/
theorem walk_dims {i : Int} {r : List Cl} (hr : bitR r) (hi : 0 ≤ i) : ∀ (t : T) {u : T} {c : Int}, 0 ≤ c → fineT t → trav (rowsTr (putW i r)) t c = .ok u → ∀ j, (dimsT u).testBit j = true → (dimsT t).testBit j = true ∧ (j : Int) ≠ i + c := T.ind fun t ih u c hc hf h j hj => by
  obtain ⟨h1, _, _, _, h5, h6⟩ := rows_out h
  have hhead := (fineT_iff.mp hf).1
  obtain ⟨q1, q2⟩ := head_cases hhead
  rcases dims_bit.mp hj with hj | ⟨b', hb', hj⟩ | ⟨q, hq, hj⟩
  · have : (fDims t.r).testBit j = true ∧ (j : Int) ≠ i + c := by
      unfold RowsW.row at h1
      split at h1
      · rename_i h14
        refine (bit_face hr (q1 h14) hi hc).1.bits j ?_
        show (fDims ((putW i r).face c t.r).2).testBit j = true
        rw [h1]; exact hj
      · refine (bit_form hr q2 hi hc).1.bits j ?_
        show (fDims ((putW i r).form c t.r).2).testBit j = true
        rw [h1]; exact hj
    exact ⟨dims_bit.mpr (.inl this.1), this.2⟩
  · obtain ⟨_, b, hb, e1⟩ := h6 b' hb'
    have := (bit_face hr (fine_face hf hb) hi hc).1.bits j (by
      show (fDims ((putW i r).face c b.face).2).testBit j = true
      rw [e1]; exact hj)
    exact ⟨dims_bit.mpr (.inr (.inl ⟨b, hb, this.1⟩)), this.2⟩
  · obtain ⟨p, hp, e1, h4⟩ := h5 q hq
    have h01 := parts_01 hp
    have := ih p hp (by omega) (fine_part hf hp) h4 _ hj
    rw [← e1] at this
    exact ⟨dims_bit.mpr (.inr (.inr ⟨p, hp, this.1⟩)), by omega⟩
/-! ### A way that changes nothing -/
section
variable {C : Type} {A : Tr C}
theorem travL_self {k : Int} {c : C} : ∀ {ts : List T} {i : Nat}, (∀ j, j < ts.length → ∃ c', A.kid c (binds k ((i + j : Nat) : Int)) = .ok c' ∧ trav A (ts.getD j t0) c' = .ok (ts.getD j t0)) → travL A k i ts c = .ok ts
  | [], i, h => travL_nil _ _ _
  | t :: ts, i, h => by
    obtain ⟨c', h1, h2⟩ := h 0 (by simp)
    have h3 := travL_self (ts := ts) (i := i + 1) (fun j hj => by
      have := h (j + 1) (by simpa using hj)
      rw [List.getD_cons_succ, show i + (j + 1) = i + 1 + j by omega] at this
      exact this)
    rw [Nat.add_zero] at h1
    rw [List.getD_cons_zero] at h2
    rw [travL_cons, h1]; simp only [Res1.bind]; rw [h2]; simp only; rw [h3]
theorem travS_self {k : Int} {c : C} : ∀ {ts : List T}, (∀ j, j < ts.length → ∃ c', A.kid c (0, more k) = .ok c' ∧ trav A (ts.getD j t0) c' = .ok (ts.getD j t0)) → travS A k ts c = .ok ts
  | [], h => travS_nil _ _
  | t :: ts, h => by
    obtain ⟨c', h1, h2⟩ := h 0 (by simp)
    have h3 := travS_self (ts := ts) (fun j hj => by
      have := h (j + 1) (by simpa using hj)
      rw [List.getD_cons_succ] at this
      exact this)
    rw [List.getD_cons_zero] at h2
    rw [travS_cons, h1]; simp only [Res1.bind]; rw [h2]; simp only; rw [h3]
theorem travB_self {k : Int} {c : C} : ∀ {bs : List Br}, (∀ b, b ∈ bs → A.face c b.face = .ok (some b.face) ∧ travS A k b.kids c = .ok b.kids) → travB A k bs c = .ok bs
  | [], h => travB_nil _ _
  | b :: bs, h => by
    obtain ⟨h1, h2⟩ := h b List.mem_cons_self
    rw [travB_cons, h1]; simp only [Res1.bind]; rw [h2]; simp only
    rw [travB_self fun b hb => h b (List.mem_cons_of_mem _ hb)]
    cases b; rfl
theorem trav_self {t : T} {c : C} (h1 : A.own c t.kind t.n t.name t.r = .ok (.inr (t.n, t.r))) (h2 : ∀ b, b ∈ t.sys → A.face c b.face = .ok (some b.face)) (h3 : ∀ p, p ∈ parts t → ∃ c', A.kid c p.2 = .ok c' ∧ trav A p.1 c' = .ok p.1) : trav A t c = .ok t := by
  rw [trav_eq, h1]
  simp only [Res1.bind]
  have hk := travL_self (A := A) (k := t.kind) (c := c) (ts := t.kids) (i := 0) (fun j hj => by
    obtain ⟨c', h4, h5⟩ := h3 _ (List.mem_of_getElem? (parts_kid t j hj))
    exact ⟨c', by rw [Nat.zero_add]; exact h4, h5⟩)
  have hs := travB_self (A := A) (k := t.kind) (c := c) (bs := t.sys) (fun b hb => by
    refine ⟨h2 b hb, travS_self fun j hj => ?_⟩
    obtain ⟨s, hs, e⟩ := mem_getD (d := br0) hb
    obtain ⟨c', h4, h5⟩ := h3 _ (List.mem_of_getElem? (parts_sys t s j hs (by rw [e]; exact hj)))
    rw [e] at h5
    exact ⟨c', h4, h5⟩)
  rw [hk]; simp only; rw [hs]
  obtain ⟨k, n, nm, r, ks, ss⟩ := t
  rfl
end
theorem hasM_off {s : Nat} {j : Int} (h : ∀ k : Nat, s.testBit k = true → (k : Int) ≠ j) : hasM s j = false := by
  cases hh : hasM s j with
  | false => rfl
  | true =>
    unfold hasM at hh
    simp only [Bool.and_eq_true, decide_eq_true_eq] at hh
    exact absurd (by omega) (h _ hh.2)
theorem neverT_parts {t : T} (h : neverT t = false) : (∀ b, b ∈ t.sys → b.face ≠ []) ∧ ∀ p, p ∈ parts t → neverT p.1 = false := by
  refine ⟨fun b hb he => ?_, fun p hp => ?_⟩
  · obtain ⟨s, hs, e⟩ := mem_getD (d := br0) hb
    rw [never_face hs (by rw [e]; exact he)] at h; cases h
  · cases hh : neverT p.1 with
    | false => rfl
    | true =>
      rcases part_cases hp with ⟨i, hi, e⟩ | ⟨s, k, hs, hk, e⟩
      · rw [never_kid hi (by rw [e] at hh; exact hh)] at h; cases h
      · rw [never_sys hs hk (by rw [e] at hh; exact hh)] at h; cases h
theorem walk_same {i : Int} {r : List Cl} (hi : 0 ≤ i) : ∀ (t : T) {c : Int}, 0 ≤ c → neverT t = false → (∀ j, (dimsT t).testBit j = true → (j : Int) ≠ i + c) → trav (rowsTr (putW i r)) t c = .ok t := T.ind fun t ih c hc hn hd => by
  obtain ⟨n1, n2⟩ := neverT_parts hn
  have hrow : ∀ P : List Cl → Int → List Cl → EL, ∀ f : List Cl, (∀ j, (fDims f).testBit j = true → (j : Int) ≠ i + c) → rowPut P i r c f = (0, f) := fun P f h => put_none (hasM_off h)
  refine trav_self ?_ (fun b hb => ?_) (fun p hp => ?_)
  · have : (putW i r).row t.kind c t.r = (0, t.r) := by
      unfold RowsW.row
      split
      · exact hrow _ _ fun j hj => hd j (dims_bit.mpr (.inl hj))
      · exact hrow _ _ fun j hj => hd j (dims_bit.mpr (.inl hj))
    rw [rows_own_ok (by rw [this]), this]
  · have : (putW i r).face c b.face = (0, b.face) := hrow _ _ fun j hj => hd j (dims_bit.mpr (.inr (.inl ⟨b, hb, hj⟩)))
    rw [rows_face_some (by rw [this]) (by rw [this]; exact fun h => n1 b hb (List.eq_nil_of_length_eq_zero h)), this]
  · have h01 := parts_01 hp
    refine ⟨_, rfl, ih p hp (by omega) (n2 p hp) fun j hj => ?_⟩
    intro e
    exact hd (j - p.2.2.toNat) (dims_bit.mpr (.inr (.inr ⟨p, hp, by rw [Nat.sub_add_cancel (by omega)]; exact hj⟩))) (by omega)
/-! ### All the steps -/
def bitS (S : List Stp) : Prop := ∀ p, p ∈ S → bitR p.2 ∧ 0 ≤ p.1
theorem bit_steps (c : Cl) : bitS (stepsC c) := fun p hp => by
  unfold stepsC at hp
  rcases List.mem_append.mp hp with hp | hp
  · obtain ⟨x, hx, rfl⟩ := List.mem_map.mp hp
    exact ⟨.inl rfl, (mem_listM.mp hx).1⟩
  · obtain ⟨x, hx, rfl⟩ := List.mem_map.mp hp
    exact ⟨.inr rfl, (mem_listM.mp hx).1⟩
theorem own_wide {t : T} {v e e' : Int} (he : 24 ≤ e') (ho : ownP t v e = true) : ownP t (-1) e' = true := by
  have hw : ∀ l : List Cl, within l e' = true := fun l => within_24 l he
  rw [own_iff] at ho ⊢
  obtain ⟨o1, o2⟩ := ho
  refine ⟨o1, ?_⟩
  by_cases k1 : t.kind = 1
  · rw [if_pos k1] at o2 ⊢
    exact ⟨o2.1, o2.2.1, .inl (by decide)⟩
  · rw [if_neg k1] at o2 ⊢
    by_cases k2 : t.kind = 2
    · rw [if_pos k2] at o2 ⊢; exact o2
    · rw [if_neg k2] at o2 ⊢
      by_cases k3 : t.kind = 13 ∨ t.kind = 21 ∨ t.kind = 26
      · rw [if_pos k3] at o2 ⊢; exact ⟨o2.1, hw _⟩
      · rw [if_neg k3] at o2 ⊢
        by_cases k4 : t.kind = 14
        · rw [if_pos k4] at o2 ⊢; exact ⟨o2.1, hw _⟩
        · rw [if_neg k4] at o2 ⊢
          exact ⟨fun x hx => ownB_iff.mpr ⟨(ownB_iff.mp (o2.1 x hx)).1, hw _⟩, o2.2⟩
theorem all_wide {bd : Bool} : ∀ (t : T) {v e e' : Int}, 24 ≤ e' → allP t v e bd = true → allP t (-1) e' false = true := T.ind fun t ih v e e' he ha => by
  rw [all_iff] at ha ⊢
  obtain ⟨a1, a2, a3⟩ := ha
  refine ⟨by simp, own_wide he a2, fun p hp => ?_⟩
  have h1 := parts_01 hp
  rw [if_pos (by decide), show IntKind.i64.wrap (-1 + 0) = -1 by decide]
  exact ih p hp (by omega) (a3 p hp)
theorem formed_right {t : T} {v e : Int} (h : rightP t v e = 0) : formedP t = 0 := by
  obtain ⟨_, _, _, h4, h5⟩ := right_zero.mp h
  exact formed_zero.mpr ⟨h4, all_wide t (Int.le_refl 24) h5⟩
theorem step_ok {p : Stp} (hp : bitR p.2 ∧ 0 ≤ p.1) {t : T} (hf : formedP t = 0) : ∃ u, stepT p t = (0, u) ∧ trav (rowsTr (putW p.1 p.2)) t 0 = .ok u := by
  obtain ⟨u, hu⟩ := walk_ex (good_bit hp.1 hp.2) t (formed_fine.mp hf).2 (Int.le_refl 0)
  exact ⟨u, by unfold stepT walkR; rw [hu]; rfl, hu⟩
theorem steps_all : ∀ (S : List Stp), bitS S → ∀ (t : T), formedP t = 0 → ∃ u, foldT stepT S t = (0, u) ∧ formedP u = 0 ∧ (∀ v e, rightP t v e = 0 → rightP u v e = 0) ∧ (∀ j, (dimsT u).testBit j = true → (dimsT t).testBit j = true ∧ ∀ p, p ∈ S → (j : Int) ≠ p.1) ∧ (S ≠ [] → neverT u = false)
  | [], _, t, hf => ⟨t, rfl, hf, fun _ _ h => h, fun j hj => ⟨hj, fun p hp => (by cases hp)⟩, fun h => absurd rfl h⟩
  | p :: S, hS, t, hf => by
    have hp := hS p List.mem_cons_self
    obtain ⟨u, e1, e2⟩ := step_ok hp hf
    have hfu := formed_walk (sub_bit hp.1 hp.2) e2 hf
    obtain ⟨w, w1, w2, w3, w4, w5⟩ := steps_all S (fun q hq => hS q (List.mem_cons_of_mem _ hq)) u hfu
    refine ⟨w, by rw [foldT, thenT_ok (by rw [e1]), e1]; exact w1, w2, fun v e h => w3 v e (right_walk (sub_bit hp.1 hp.2) e2 h), fun j hj => ?_, fun _ => ?_⟩
    · obtain ⟨d1, d2⟩ := w4 j hj
      obtain ⟨d3, d4⟩ := walk_dims hp.1 hp.2 t (Int.le_refl 0) (formed_fine.mp hf).2 e2 j d1
      refine ⟨d3, fun q hq => ?_⟩
      rcases List.mem_cons.mp hq with rfl | hq
      · omega
      · exact d2 q hq
    · cases S with
      | nil =>
        rw [foldT] at w1
        injection w1 with _ w1
        rw [← w1]
        exact walk_never t e2
      | cons q S => exact w5 (by simp)
theorem steps_same : ∀ (S : List Stp), bitS S → ∀ {u : T}, neverT u = false → (∀ j, (dimsT u).testBit j = true → ∀ p, p ∈ S → (j : Int) ≠ p.1) → foldT stepT S u = (0, u)
  | [], _, u, _, _ => rfl
  | p :: S, hS, u, hn, hd => by
    have hp := hS p List.mem_cons_self
    have h1 : stepT p u = (0, u) := by
      unfold stepT walkR
      rw [walk_same hp.2 u (Int.le_refl 0) hn fun j hj => by have := hd j hj p List.mem_cons_self; omega]
      rfl
    rw [foldT, thenT_ok (by rw [h1]), h1]
    exact steps_same S (fun q hq => hS q (List.mem_cons_of_mem _ hq)) hn fun j hj q hq => hd j hj q (List.mem_cons_of_mem _ hq)
theorem dims_gone {t : T} {c : Cl} {v d : Int} (hr : rightP t v d = 0) (hc : single c = true) : (dimsUnder t c).1 = 0 ∧ dimsT (dimsUnder t c).2 &&& (c.pos ||| c.neg) = 0 ∧ rightP (dimsUnder t c).2 v d = 0 ∧ dimsUnder (dimsUnder t c).2 c = (0, (dimsUnder t c).2) := by
  have hf := formed_right hr
  obtain ⟨u, h1, h2, h3, h4, h5⟩ := steps_all (stepsC c) (bit_steps c) t hf
  rw [under_steps hf hc, h1]
  refine ⟨rfl, ?_, h3 v d hr, ?_⟩
  · obtain ⟨b1, b2⟩ := right24_bits (single_iff.mp hc).1
    refine Nat.eq_of_testBit_eq fun j => ?_
    rw [Nat.zero_testBit, Nat.testBit_and, Nat.testBit_or]
    cases hj : (dimsT u).testBit j with
    | false => rfl
    | true =>
      obtain ⟨_, h6⟩ := h4 j hj
      cases hp : c.pos.testBit j with
      | true => exact absurd rfl (h6 ((j : Int), [cl0]) (List.mem_append.mpr (.inl (List.mem_map.mpr ⟨_, (listM_nat (b1 j hp)).mpr hp, rfl⟩))))
      | false =>
        cases hn : c.neg.testBit j with
        | true => exact absurd rfl (h6 ((j : Int), []) (List.mem_append.mpr (.inr (List.mem_map.mpr ⟨_, (listM_nat (b2 j hn)).mpr hn, rfl⟩))))
        | false => rfl
  · rw [under_steps h2 hc]
    by_cases hS : stepsC c = []
    · rw [hS]; rfl
    · exact steps_same _ (bit_steps c) (h5 hS) fun j hj => (h4 j hj).2
end Go.Hy
namespace Go.Hy
/-! ### A system's term -/
def ofT (k : Int) (l : List Br) : T := .mk k 0 ⟨#[]⟩ [] (List.replicate (kidsN k).toNat uE) l
end Go.Hy
namespace Go.Hy
/-! ### Terms of a list that a fact tells of, behind one of the call's own -/
def tpsOf (l : List T) (VR VK VS : Nat → SH) : List TP := (List.range l.length).map fun i => (l.getD i t0, VR i, VK i, VS i)
theorem tpsOf_len (l : List T) (VR VK VS : Nat → SH) : (tpsOf l VR VK VS).length = l.length := by simp [tpsOf]
theorem tpsOf_get {l : List T} {VR VK VS : Nat → SH} {i : Nat} (h : i < l.length) : (tpsOf l VR VK VS).getD i tp0 = (l.getD i t0, VR i, VK i, VS i) := by
  unfold tpsOf
  rw [List.getD_eq_getElem?_getD, List.getElem?_map, List.getElem?_range h]
  rfl
theorem tpsOf_map (l : List T) (VR VK VS : Nat → SH) : (tpsOf l VR VK VS).map (·.1) = l := by
  refine List.ext_getElem (by simp [tpsOf]) fun i h1 h2 => ?_
  simp only [tpsOf, List.getElem_map, List.getElem_range]
  exact getD_get (d := t0) h2
theorem tp_one (l : List TP) : oneCells (tpFlat l) = true := by
  unfold oneCells
  rw [List.all_eq_true]
  intro v hv
  obtain ⟨c, _, hc⟩ := List.mem_flatMap.mp hv
  simp only [tpCells, tc, List.mem_cons, List.not_mem_nil, or_false] at hc
  rcases hc with rfl | rfl | rfl | rfl | rfl | rfl <;> rfl
section
variable {P : Program} [Tab P] {B : Base} {σ : Nat → Value} {Γ : List Fact} {Ms Ms2 : List Res} {ty : TypeId} {x y z : Operand} {v : Value}
theorem te_appTL {t e : TypeId} {ts : Array TypeId} {bt n : Nat} {zv : Value} {a b : SH} {xs : List Value} {l : List T} {VR VK VS : Nat → SH} (hm : Ms.Perm (rowS 6 e a n xs :: Ms2)) (hF : TLx l b VR VK VS ∈ Γ) (hx : ev σ x = sl a n) (hy : ev σ y = sl b l.length) (hts : ts = #[t, t]) (hu : Tab.und P t = some (.slice e)) (hi : Tab.inf P e = some (6, bt, zv)) (hzs : zv.cells.size = 6)
    (hb : (n + l.length) * bt ≤ 140737488355328) (hnm : n + l.length ≤ 9223372036854775807) :
    TurnE P B σ Γ Ms (.call { callee := .builtin .append, args := #[x, y], argTypes := ts }) ty (fun a' : SH => sl a' (n + l.length)) (fun _ => Γ) (fun a' => rowS 6 e a' (n + l.length) (xs ++ tpFlat (tpsOf l VR VK VS)) :: Ms2) := by
  obtain ⟨bo, bc⟩ := b
  cases bo with
  | some ad =>
    refine te_appendW hts hu hi hzs (by omega) hx hy hm (fun w hs j u hj => ?_) (by rw [flat_len (F := tpCells) (sz := 6) (fun _ => rfl), tpsOf_len]) (tp_one _) hb hnm
    obtain ⟨h1, h2⟩ := flat_get (F := tpCells) (sz := 6) (fun _ => rfl) tp0 (tpsOf l VR VK VS) j u hj
    rw [tpsOf_len] at h1
    rw [tpsOf_get h1] at h2
    have hcl : tlxAt (okOf B Ms w) l (some ad, bc) VR VK VS w := hs.facts _ hF
    obtain ⟨bk, o, hbk, _, hrow⟩ := hcl.1.2.2 (by omega)
    injection hbk with hbk
    subst hbk
    have := hrow (j / 6) h1 (j % 6) u h2
    rw [Addr.add_lit]
    rwa [show o + j / 6 * 6 + j % 6 = o + j by omega] at this
  | none =>
    intro w hs
    have hs' := hs.perm hm
    have hcl : tlxAt (okOf B Ms w) l (none, bc) VR VK VS w := hs.facts _ hF
    have hl : l.length = 0 := by
      rcases Nat.eq_zero_or_pos l.length with h | h
      · exact h
      · obtain ⟨bk, o, hbk, _⟩ := hcl.1.2.2 h; cases hbk
    have hown : w.ownsRow 0 e 6 (sl a n) n xs := hs'.res _ List.mem_cons_self w (fun _ _ => rfl)
    have hl2 : l = [] := List.eq_nil_of_length_eq_zero hl
    subst hl2
    refine ⟨a, w, ?_, by simpa [tpsOf] using hs'⟩
    subst hts
    have hle : n ≤ a.2 := by
      rcases hown.2 with ⟨h1, h2⟩ | ⟨g, cap, cur, h1, _, _, h3, _⟩
      · omega
      · injection h1 with _ _ h1; omega
    obtain ⟨ao, ac⟩ := a
    simp only at hle
    cases ao with
    | none => simp [opr, execOp, resolve, invoke, builtin, hx, hy, sl, Builtin.append_, run_und0 hu, run_size0 hi, Builtin.lenOf, hle, Builtin.firstCells]
    | some ad => simp [opr, execOp, resolve, invoke, builtin, hx, hy, sl, Builtin.append_, run_und0 hu, run_size0 hi, Builtin.lenOf, hle, Builtin.firstCells, storeCells]
theorem te_appNew {hBp : Prop} (hB : hBp) {t e : TypeId} {ts : Array TypeId} {g bt : Nat} {zv : Value} {b : SH} {u : T} {ur uk us : SH} {l : List T} {VR VK VS : Nat → SH} (hU : RT u ur uk us ∈ Γ) (hF : TLx l b VR VK VS ∈ Γ) (hx : ev σ x = .slice (some ⟨g, 0, none⟩) 1 1) (hy : ev σ y = sl b l.length) (hts : ts = #[t, t]) (hu : Tab.und P t = some (.slice e)) (hi : Tab.inf P e = some (6, bt, zv)) (hzs : zv.cells.size = 6)
    (hb : (1 + l.length) * bt ≤ 140737488355328) (hnm : (1 + l.length) * 104 ≤ reach) (M : List Res) :
    TurnE P B σ Γ ([boxR g (tc u ur uk us) e] ++ M) (.call { callee := .builtin .append, args := #[x, y], argTypes := ts }) ty (fun a' : SH => sl a' (1 + l.length)) (fun a' => [TL (u :: l) a'] ++ Γ) (fun _ => [] ++ M) := fun w hs => by
  have hs0 : St B Γ (boxR g (tc u ur uk us) e :: M) w := hs
  have h1 : St B Γ (rowS 6 e (some ⟨g, 0, none⟩, 1) 1 (tc u ur uk us) :: M) w := hs0.boxRow (sz := 6) (m := 1) rfl (by decide)
  obtain ⟨a', w', hr, h2⟩ := te_appTL (P := P) (ty := ty) (List.Perm.refl _) hF hx hy hts hu hi hzs hb (by unfold reach at hnm; omega) w h1
  refine ⟨a', w', hr, ?_⟩
  have h3 : St B (AP ((u, ur, uk, us) :: tpsOf l VR VK VS) :: Γ) (rowS 6 e a' (1 + l.length) (tc u ur uk us ++ tpFlat (tpsOf l VR VK VS)) :: M) w' := h2.add (fun p hp => by
    rcases List.mem_cons.mp hp with rfl | hp
    · exact h2.facts _ hU
    · obtain ⟨i, hi, rfl⟩ := List.mem_map.mp hp
      have hi := List.mem_range.mp hi
      have hA : tlxAt _ l b VR VK VS w' := h2.facts _ hF
      exact allAt_get hA.2 (by rw [List.getElem?_eq_getElem hi, getD_get (d := t0) hi]))
  have h4 := h3.settleTL (ps := (u, ur, uk, us) :: tpsOf l VR VK VS) (ts := u :: l) hB List.mem_cons_self (by simp [tpFlat, tpCells]) (by rw [List.map_cons, tpsOf_map]) (by rw [List.length_cons, tpsOf_len]; omega) (by exact hnm)
  exact h4.less (by simp +contextual)
end
section
variable {tn : Bool} {pn : Nat} {P : Program} [Tab P] {f : FuncId} {R : Ending → World → Prop} {B : Base} {n : Fz} {K : List Item} {ops : Array Oper} {i : Nat} {l fin : List Nat} {σ : Nat → Value} {Γ : List Fact} {Ms Ms2 : List Res}
variable {dst : Option Tmp} {op : Op} {ty : TypeId} {x y : Operand}
theorem w_appNew {hBp : Prop} (hB : hBp) {t e : TypeId} {ts : Array TypeId} {g bt : Nat} {zv : Value} {b : SH} (u : T) (ur uk us : SH) (ls : List T) (VR VK VS : Nat → SH) (k_ : ∀ a' : SH, NV tn pn P f R B n K ops fin l (putS σ dst (sl a' (1 + ls.length))) ([TL (u :: ls) a'] ++ Γ) ([] ++ Ms2)) (hm : Ms.Perm ([boxR g (tc u ur uk us) e] ++ Ms2)) (hU : RT u ur uk us ∈ Γ) (hF : TLx ls b VR VK VS ∈ Γ) (hnm : (1 + ls.length) * 104 ≤ reach) (hb : (1 + ls.length) * bt ≤ 140737488355328) (hx : ev σ x = .slice (some ⟨g, 0, none⟩) 1 1 := by rfl) (hy : ev σ y = sl b ls.length := by rfl) (hts : ts = #[t, t] := by rfl) (hu : Tab.und P t = some (.slice e) := by rfl) (hi : Tab.inf P e = some (6, bt, zv) := by rfl) (hzs : zv.cells.size = 6 := by rfl) (hd : dstOk n dst = true := by rfl) (hz : Nat.beq pn 1000002 = true := by rfl) : NvT tn pn P f R B n K ops fin i l dst (.call { callee := .builtin .append, args := #[x, y], argTypes := ts }) ty σ Γ Ms :=
  nv_turnF (F := fun a' => [TL (u :: ls) a']) (r := [boxR g (tc u ur uk us) e]) (r' := fun _ => []) (fun M => te_appNew hB hU hF hx hy hts hu hi hzs hb hnm M) rfl hd hm hz k_
end
end Go.Hy
namespace Go.Hy
/-! ### Contexts -/
/-- What is wrong with the types, each in those behind it. -/
def ctxErr (d : Int) : List T → Int
  | [] => 0
  | t :: ts => if rightP t ts.length d ≠ 0 then rightP t ts.length d else ctxErr d ts
def ctxRight (ts : List T) (d : Int) : Int := if d < 0 ∨ 24 < d then 2 else if 200 < ts.length then 62 else ctxErr d ts
theorem ctxErr_bad {d : Int} : ∀ {ts : List T} {i : Nat}, i < ts.length → (∀ j, j < i → rightP (ts.getD j t0) ((ts.length : Int) - 1 - j) d = 0) → rightP (ts.getD i t0) ((ts.length : Int) - 1 - i) d ≠ 0 → ctxErr d ts = rightP (ts.getD i t0) ((ts.length : Int) - 1 - i) d
  | [], i, h, _, _ => absurd h (by simp)
  | t :: ts, 0, h, _, h2 => by
    simp only [List.getD_cons_zero, List.length_cons] at h2 ⊢
    rw [show ((ts.length + 1 : Nat) : Int) - 1 - ((0 : Nat) : Int) = ts.length by omega] at h2 ⊢
    rw [ctxErr, if_pos h2]
  | t :: ts, i + 1, h, h1, h2 => by
    have h0 := h1 0 (by omega)
    simp only [List.getD_cons_zero, List.length_cons] at h0
    rw [show ((ts.length + 1 : Nat) : Int) - 1 - ((0 : Nat) : Int) = ts.length by omega] at h0
    rw [ctxErr, if_neg (by simp [h0])]
    simp only [List.getD_cons_succ, List.length_cons] at h2 ⊢
    rw [show ((ts.length + 1 : Nat) : Int) - 1 - ((i + 1 : Nat) : Int) = ts.length - 1 - i by omega] at h2 ⊢
    refine ctxErr_bad (by simpa using h) (fun j hj => ?_) h2
    have := h1 (j + 1) (by omega)
    simp only [List.getD_cons_succ, List.length_cons] at this
    rwa [show ((ts.length + 1 : Nat) : Int) - 1 - ((j + 1 : Nat) : Int) = ts.length - 1 - j by omega] at this
theorem ctxErr_ok {d : Int} : ∀ {ts : List T}, (∀ j, j < ts.length → rightP (ts.getD j t0) ((ts.length : Int) - 1 - j) d = 0) ↔ ctxErr d ts = 0
  | [] => by simp [ctxErr]
  | t :: ts => by
    have e0 : ((ts.length + 1 : Nat) : Int) - 1 - ((0 : Nat) : Int) = ts.length := by omega
    constructor
    · intro h
      have h0 := h 0 (by simp)
      simp only [List.getD_cons_zero, List.length_cons] at h0
      rw [e0] at h0
      rw [ctxErr, if_neg (by simp [h0])]
      refine ctxErr_ok.mp fun j hj => ?_
      have := h (j + 1) (by simpa using hj)
      simp only [List.getD_cons_succ, List.length_cons] at this
      rwa [show ((ts.length + 1 : Nat) : Int) - 1 - ((j + 1 : Nat) : Int) = ts.length - 1 - j by omega] at this
    · intro h j hj
      rw [ctxErr] at h
      by_cases h0 : rightP t ts.length d ≠ 0
      · rw [if_pos h0] at h; exact absurd h h0
      · rw [if_neg h0] at h
        cases j with
        | zero => simp only [List.getD_cons_zero, List.length_cons]; rw [e0]; omega
        | succ j =>
          simp only [List.getD_cons_succ, List.length_cons]
          rw [show ((ts.length + 1 : Nat) : Int) - 1 - ((j + 1 : Nat) : Int) = ts.length - 1 - j by omega]
          exact ctxErr_ok.mpr h j (by simpa using hj)
theorem ctxRight_zero {ts : List T} {d : Int} : ctxRight ts d = 0 ↔ 0 ≤ d ∧ d ≤ 24 ∧ ts.length ≤ 200 ∧ ctxErr d ts = 0 := by
  unfold ctxRight
  split
  · omega
  · split <;> omega
/-- Types, one by one. -/
def eachR (r : T → Int × T) : List T → Int × List T
  | [] => (0, [])
  | t :: ts => if (r t).1 ≠ 0 then ((r t).1, []) else if (eachR r ts).1 ≠ 0 then ((eachR r ts).1, []) else (0, (r t).2 :: (eachR r ts).2)
theorem eachR_ok {r : T → Int × T} : ∀ {ts : List T}, (∀ j, j < ts.length → (r (ts.getD j t0)).1 = 0) → eachR r ts = (0, ts.map fun t => (r t).2)
  | [], _ => rfl
  | t :: ts, h => by
    have h0 := h 0 (by simp)
    rw [List.getD_cons_zero] at h0
    have ih := eachR_ok (r := r) (ts := ts) fun j hj => by have := h (j + 1) (by simpa using hj); rwa [List.getD_cons_succ] at this
    rw [eachR, if_neg (by simp [h0]), ih, if_neg (by simp)]
    rfl
theorem eachR_bad {r : T → Int × T} : ∀ {ts : List T} {i : Nat}, i < ts.length → (∀ j, j < i → (r (ts.getD j t0)).1 = 0) → (r (ts.getD i t0)).1 ≠ 0 → eachR r ts = ((r (ts.getD i t0)).1, [])
  | [], i, h, _, _ => absurd h (by simp)
  | t :: ts, 0, h, _, h2 => by
    rw [List.getD_cons_zero] at h2 ⊢
    rw [eachR, if_pos h2]
  | t :: ts, i + 1, h, h1, h2 => by
    have h0 := h1 0 (by omega)
    rw [List.getD_cons_zero] at h0
    rw [List.getD_cons_succ] at h2 ⊢
    have ih := eachR_bad (r := r) (ts := ts) (i := i) (by simpa using h) (fun j hj => by have := h1 (j + 1) (by omega); rwa [List.getD_cons_succ] at this) h2
    rw [eachR, if_neg (by simp [h0]), ih, if_pos h2]
abbrev Cx : Type := Int × List T × Int
def doneR9 (ts : List T) (d : Int) : Cx := if ctxRight ts d ≠ 0 then (ctxRight ts d, [], 0) else (0, ts, d)
def pushR (ts : List T) (d : Int) (t : T) : Cx := if ctxRight ts d ≠ 0 then (ctxRight ts d, [], 0) else if rightP t ts.length d ≠ 0 then (rightP t ts.length d, [], 0) else doneR9 (t :: ts) d
def typeR (ts : List T) (d n : Int) : Int × T := if ctxRight ts d ≠ 0 then (ctxRight ts d, t0) else if n < 0 ∨ (ts.length : Int) ≤ n then (90, t0) else varsRes (ts.getD n.toNat t0) 0 (n + 1)
theorem eachR_copy (ts : List T) : eachR (fun t => (0, t)) ts = (0, ts) := by
  rw [eachR_ok (fun _ _ => rfl)]
  simp
end Go.Hy
namespace Go.Hy
theorem sizeL_mem {t : T} : ∀ {ts : List T}, t ∈ ts → size t ≤ sizeL ts
  | [], h => by cases h
  | a :: ts, h => by
    rw [sizeL]
    rcases List.mem_cons.mp h with rfl | h
    · omega
    · have := sizeL_mem h; omega
theorem sizeL_len : ∀ ts : List T, ts.length ≤ sizeL ts
  | [] => by simp [sizeL]
  | a :: ts => by
    rw [sizeL, List.length_cons]
    have := sizeL_len ts
    have := size_pos' a
    omega
def nodeT (ts : List T) : T := .mk 0 0 ⟨#[]⟩ [] ts []
theorem node_bulk {ts : List T} {m : Nat} (h : bulk (nodeT ts) ≤ m) : (∀ t, t ∈ ts → size t ≤ m) ∧ ts.length ≤ m := by
  have h1 := size_le_bulk (nodeT ts)
  have h2 := size_sumLB (nodeT ts)
  have h3 : (nodeT ts).kids = ts := rfl
  rw [h3] at h2
  have h4 := sizeL_len ts
  exact ⟨fun t ht => by have := sizeL_mem ht; omega, by omega⟩
theorem push_ok {ts : List T} {d : Int} {t : T} (h : (pushR ts d t).1 = 0) : pushR ts d t = (0, t :: ts, d) ∧ ctxRight ts d = 0 ∧ rightP t ts.length d = 0 ∧ ctxRight (t :: ts) d = 0 := by
  unfold pushR at h ⊢
  by_cases h1 : ctxRight ts d ≠ 0
  · rw [if_pos h1] at h; exact absurd h h1
  · rw [if_neg h1] at h ⊢
    by_cases h2 : rightP t ts.length d ≠ 0
    · rw [if_pos h2] at h; exact absurd h h2
    · rw [if_neg h2] at h ⊢
      unfold doneR9 at h ⊢
      by_cases h3 : ctxRight (t :: ts) d ≠ 0
      · rw [if_pos h3] at h; exact absurd h h3
      · rw [if_neg h3]
        exact ⟨rfl, by omega, by omega, by omega⟩
theorem type_in {ts : List T} {d : Int} {n : Nat} (h : ctxRight ts d = 0) (hn : n < ts.length) : typeR ts d (n : Int) = varsRes (ts.getD n t0) 0 ((n : Int) + 1) := by
  unfold typeR
  rw [if_neg (by simp [h]), if_neg (by omega), Int.toNat_natCast]
theorem type_size {ts : List T} {d : Int} {n : Nat} (hz : ∀ u, u ∈ ts → size u ≤ 300) (h : ctxRight ts d = 0) (hn : n < ts.length) : size (typeR ts d (n : Int)).2 ≤ 300 := by
  rw [type_in h hn]
  have h1 := vars_size (ts.getD n t0) 0 ((n : Int) + 1)
  have h2 := hz _ (getD_mem (d := t0) hn)
  omega
theorem ex_ctx0 : typeR [vE 0, uE] 0 0 = (0, vE 1) := by decide +kernel
theorem ex_ctx1 : typeR [vE 0, uE] 0 1 = (0, uE) := by decide +kernel
theorem ex_ctx0a : (typeR [vE 0, uE] 0 ((0 : Nat) : Int)).1 = 0 := by rw [show ((0 : Nat) : Int) = 0 from rfl, ex_ctx0]
theorem ex_ctx0b : (typeR [vE 0, uE] 0 ((0 : Nat) : Int)).2 = vE 1 := by rw [show ((0 : Nat) : Int) = 0 from rfl, ex_ctx0]
theorem ex_ctx1a : (typeR [vE 0, uE] 0 ((1 : Nat) : Int)).1 = 0 := by rw [show ((1 : Nat) : Int) = 1 from rfl, ex_ctx1]
theorem ex_ctx1b : (typeR [vE 0, uE] 0 ((1 : Nat) : Int)).2 = uE := by rw [show ((1 : Nat) : Int) = 1 from rfl, ex_ctx1]
theorem ex_ctx_size : ∀ t, t ∈ [vE 0, uE] → size t ≤ 1152921504606846 := by
  intro t ht
  have h : size (vE 0) = 1 ∧ size uE = 1 := by decide +kernel
  rcases List.mem_cons.mp ht with rfl | ht
  · omega
  · rcases List.mem_cons.mp ht with rfl | ht
    · omega
    · cases ht
end Go.Hy
namespace Go.Hy
theorem ctx_types {ts : List T} {d : Int} (h : ctxRight ts d = 0) : ∀ j, j < ts.length → rightP (ts.getD j t0) ((ts.length : Int) - 1 - j) d = 0 := ctxErr_ok.mpr (ctxRight_zero.mp h).2.2.2
def eachD (ts : List T) : Int × List T := eachR (fun t => dimsRes t 0 1) ts
def pushDimR (ts : List T) (d : Int) : Cx := if ctxRight ts d ≠ 0 then (ctxRight ts d, [], 0) else if d = 24 then (10, [], 0) else if (eachD ts).1 ≠ 0 then ((eachD ts).1, [], 0) else doneR9 (eachD ts).2 (d + 1)
theorem eachR_mem {r : T → Int × T} : ∀ {ts : List T} {u : T}, u ∈ (eachR r ts).2 → ∃ t, t ∈ ts ∧ u = (r t).2
  | [], u, h => by cases h
  | t :: ts, u, h => by
    rw [eachR] at h
    split at h
    · cases h
    · split at h
      · cases h
      · rcases List.mem_cons.mp h with rfl | h
        · exact ⟨t, List.mem_cons_self, rfl⟩
        · obtain ⟨x, hx, e⟩ := eachR_mem h
          exact ⟨x, List.mem_cons_of_mem _ hx, e⟩
theorem eachD_size {ts : List T} (hz : ∀ t, t ∈ ts → size t ≤ 20000) : ∀ u, u ∈ (eachD ts).2 → size u ≤ 20000 := fun u hu => by
  obtain ⟨t, ht, rfl⟩ := eachR_mem hu
  have := dims_size t 0 1
  have := hz t ht
  omega
theorem pushDim_bad {ts : List T} {d : Int} {r : Int × List T} (h0 : ctxRight ts d = 0) (h1 : ¬ d = 24) (h2 : r = eachD ts) (h3 : r.1 ≠ 0) : pushDimR ts d = (r.1, [], 0) := by
  subst h2
  unfold pushDimR
  rw [if_neg (by simp [h0]), if_neg h1, if_pos h3]
theorem pushDim_ok {ts : List T} {d : Int} {r : Int × List T} (h0 : ctxRight ts d = 0) (h1 : ¬ d = 24) (h2 : r = eachD ts) (h3 : r.1 = 0) : pushDimR ts d = doneR9 r.2 ((if r.1 = 0 then d else 0) + 1) := by
  subst h2
  unfold pushDimR
  rw [if_neg (by simp [h0]), if_neg h1, if_neg (by simp [h3]), if_pos h3]
end Go.Hy
namespace Go.Hy
/-! ### Own lists of terms: packed and opened -/
section
variable {B : Base} {Γ : List Fact} {Ms : List Res} {w : World}
end
theorem doneR9_alt (ts : List T) (d : Int) : (ctxRight ts d ≠ 0 ∧ doneR9 ts d = (ctxRight ts d, [], 0)) ∨ (ctxRight ts d = 0 ∧ doneR9 ts d = (0, ts, d)) := by
  unfold doneR9
  by_cases h : ctxRight ts d ≠ 0
  · exact .inl ⟨h, if_pos h⟩
  · exact .inr ⟨by omega, if_neg h⟩
end Go.Hy
namespace Go.Hy
/-! ### A context where a clause is so -/
def eachU (ts : List T) (c : Cl) : Int × List T := eachR (fun t => dimsUnder t c) ts
def inDims (c : Cl) (d : Int) : Bool := decide ((c.pos ||| c.neg) / 2 ^ d.toNat = 0)
def underC (ts : List T) (d : Int) (c : Cl) : Cx := if ctxRight ts d ≠ 0 then (ctxRight ts d, [], 0) else if (single c && inDims c d) = false then (2, [], 0) else if (eachU ts c).1 ≠ 0 then ((eachU ts c).1, [], 0) else doneR9 (eachU ts c).2 d
theorem underC_bad {ts : List T} {d : Int} {c : Cl} {r : Int × List T} (h0 : ctxRight ts d = 0) (h1 : (single c && inDims c d) = true) (h2 : r = eachU ts c) (h3 : r.1 ≠ 0) : underC ts d c = (r.1, [], 0) := by
  subst h2
  unfold underC
  rw [if_neg (by simp [h0]), if_neg (by rw [h1]; decide), if_pos h3]
theorem underC_ok {ts : List T} {d : Int} {c : Cl} {r : Int × List T} (h0 : ctxRight ts d = 0) (h1 : (single c && inDims c d) = true) (h2 : r = eachU ts c) (h3 : r.1 = 0) : underC ts d c = doneR9 r.2 (if r.1 = 0 then d else 0) := by
  subst h2
  unfold underC
  rw [if_neg (by simp [h0]), if_neg (by rw [h1]; decide), if_neg (by simp [h3]), if_pos h3]
theorem eachU_size {ts : List T} {c : Cl} {m : Nat} (hz : ∀ t, t ∈ ts → size t ≤ m) : ∀ u, u ∈ (eachU ts c).2 → size u ≤ m := fun u hu => by
  obtain ⟨t, ht, rfl⟩ := eachR_mem hu
  exact Nat.le_trans dimsUnder_size (hz t ht)
theorem underC_told {ts : List T} {d : Int} {c : Cl} (h : (underC ts d c).1 = 0) : ctxRight ts d = 0 ∧ single c = true ∧ (eachU ts c).1 = 0 ∧ underC ts d c = (0, (eachU ts c).2, d) ∧ ctxRight (eachU ts c).2 d = 0 := by
  unfold underC at h ⊢
  by_cases h1 : ctxRight ts d ≠ 0
  · rw [if_pos h1] at h; exact absurd h h1
  · rw [if_neg h1] at h ⊢
    by_cases h2 : (single c && inDims c d) = false
    · rw [if_pos h2] at h; cases h
    · rw [if_neg h2] at h ⊢
      by_cases h3 : (eachU ts c).1 ≠ 0
      · rw [if_pos h3] at h; exact absurd h h3
      · rw [if_neg h3] at h ⊢
        rcases doneR9_alt (eachU ts c).2 d with ⟨h4, h5⟩ | ⟨h4, h5⟩
        · rw [h5] at h; exact absurd h h4
        · rw [h5]
          simp only [Bool.not_eq_false, Bool.and_eq_true] at h2
          exact ⟨by omega, h2.1, by omega, rfl, h4⟩
theorem eachR_told {r : T → Int × T} : ∀ {ts : List T}, (eachR r ts).1 = 0 → (∀ t, t ∈ ts → (r t).1 = 0) ∧ (eachR r ts).2 = ts.map fun t => (r t).2
  | [], _ => ⟨fun t ht => (by cases ht), rfl⟩
  | t :: ts, h => by
    rw [eachR] at h ⊢
    by_cases h1 : (r t).1 ≠ 0
    · rw [if_pos h1] at h; exact absurd h h1
    · rw [if_neg h1] at h ⊢
      by_cases h2 : (eachR r ts).1 ≠ 0
      · rw [if_pos h2] at h; exact absurd h h2
      · rw [if_neg h2]
        obtain ⟨a1, a2⟩ := eachR_told (Decidable.not_not.mp h2)
        refine ⟨fun u hu => ?_, by rw [a2]; rfl⟩
        rcases List.mem_cons.mp hu with rfl | hu
        · exact Decidable.not_not.mp h1
        · exact a1 u hu
/-- What CtxMay says of a context where a clause is so. -/
theorem under_may {ts : List T} {d : Int} {c : Cl} (h : (underC ts d c).1 = 0) : ctxRight (underC ts d c).2.1 (underC ts d c).2.2 = 0 ∧ (underC ts d c).2.1.length = ts.length ∧ ∀ u, u ∈ (underC ts d c).2.1 → dimsT u &&& (c.pos ||| c.neg) = 0 := by
  obtain ⟨h1, h2, h3, h4, h5⟩ := underC_told h
  obtain ⟨e1, e2⟩ := eachR_told (r := fun t => dimsUnder t c) h3
  rw [h4]
  refine ⟨h5, ?_, fun u hu => ?_⟩
  · show (eachU ts c).2.length = _
    unfold eachU
    rw [e2, List.length_map]
  · change u ∈ (eachU ts c).2 at hu
    unfold eachU at hu
    rw [e2] at hu
    obtain ⟨t, ht, rfl⟩ := List.mem_map.mp hu
    obtain ⟨j, hj, e⟩ := mem_getD (d := t0) ht
    have hr := ctx_types h1 j hj
    rw [e] at hr
    exact (dims_gone hr h2).2.1
/-- and of types. -/
theorem type_may {ts : List T} {d : Int} {n : Nat} (hz : ∀ u, u ∈ ts → size u ≤ 300) (h : ctxRight ts d = 0) (hn : n < ts.length) : (typeR ts d (n : Int)).1 = 0 ∧ rightP (typeR ts d (n : Int)).2 ts.length d = 0 := by
  rw [type_in h hn]
  have hl := (ctxRight_zero.mp h).2.2.1
  have hr := ctx_types h n hn
  have hs := hz _ (getD_mem (d := t0) hn)
  obtain ⟨h1, h2, h3, h4, h5⟩ := (right_may (by omega) (by omega)).mp hr
  have hfm : formedP (ts.getD n t0) = 0 := formed_fine.mpr ⟨h3, h4⟩
  obtain ⟨u, hu⟩ := var_told (a := (n : Int) + 1) (by omega) (ts.getD n t0) _ d (0, 0) h5 (by omega)
  have e : varsRes (ts.getD n t0) 0 ((n : Int) + 1) = (0, u) := guard_ok hfm (by have := most_in64 (b := (n : Int) + 1) (by omega) (by omega); simp [this]; omega) hu
  rw [e]
  have hfu := lift_formed (by omega) hfm hu
  obtain ⟨g1, g2⟩ := formed_fine.mp hfu
  have hmu := lift_mayV (by omega) hu h5
  rw [show ((ts.length : Int) - 1 - n + (n + 1)) = ts.length by omega] at hmu
  exact ⟨rfl, (right_may (by omega) (by omega)).mpr ⟨h1, h2, g1, g2, hmu⟩⟩
theorem type_out {ts : List T} {d : Int} (h : ctxRight ts d = 0) : typeR ts d ((ts.length : Nat) : Int) = (90, t0) := by
  unfold typeR
  rw [if_neg (by simp [h]), if_pos (.inr (Int.le_refl _))]
theorem pushDim_may {ts : List T} {d : Int} (h : (pushDimR ts d).1 = 0) : ctxRight (pushDimR ts d).2.1 (pushDimR ts d).2.2 = 0 ∧ (pushDimR ts d).2.2 = d + 1 := by
  unfold pushDimR at h ⊢
  by_cases h1 : ctxRight ts d ≠ 0
  · rw [if_pos h1] at h; exact absurd h h1
  · rw [if_neg h1] at h ⊢
    by_cases h2 : d = 24
    · rw [if_pos h2] at h; cases h
    · rw [if_neg h2] at h ⊢
      by_cases h3 : (eachD ts).1 ≠ 0
      · rw [if_pos h3] at h; exact absurd h h3
      · rw [if_neg h3] at h ⊢
        rcases doneR9_alt (eachD ts).2 (d + 1) with ⟨h4, h5⟩ | ⟨h4, h5⟩
        · rw [h5] at h; exact absurd h h4
        · rw [h5]; exact ⟨h4, rfl⟩
theorem done_in {ts : List T} {d : Int} {m : Nat} (hd : in64 d) (hz : ∀ u, u ∈ ts → size u ≤ m) : in64 (doneR9 ts d).2.2 ∧ ∀ u, u ∈ (doneR9 ts d).2.1 → size u ≤ m := by
  rcases doneR9_alt ts d with ⟨_, h⟩ | ⟨_, h⟩
  · rw [h]; exact ⟨by show in64 0; unfold in64; omega, fun u hu => (by cases hu)⟩
  · rw [h]; exact ⟨hd, hz⟩
theorem cx_nil {e : Int} {m : Nat} : in64 ((e, [], 0) : Cx).2.2 ∧ ∀ u, u ∈ ((e, [], 0) : Cx).2.1 → size u ≤ m := ⟨by show in64 0; unfold in64; omega, fun u hu => (by cases hu)⟩
theorem push_in {ts : List T} {d : Int} {t : T} {m : Nat} (hd : in64 d) (hz : ∀ u, u ∈ ts → size u ≤ m) (ht : size t ≤ m) : in64 (pushR ts d t).2.2 ∧ ∀ u, u ∈ (pushR ts d t).2.1 → size u ≤ m := by
  unfold pushR
  split
  · exact cx_nil
  · split
    · exact cx_nil
    · exact done_in hd fun u hu => (List.mem_cons.mp hu).elim (fun h => h ▸ ht) (hz u)
theorem pushDim_in {ts : List T} {d : Int} {m : Nat} (hd : in64 (d + 1)) (hz : ∀ u, u ∈ ts → size u ≤ m) (hm : m ≤ 20000) : in64 (pushDimR ts d).2.2 ∧ ∀ u, u ∈ (pushDimR ts d).2.1 → size u ≤ 20000 := by
  unfold pushDimR
  split
  · exact cx_nil
  · split
    · exact cx_nil
    · split
      · exact cx_nil
      · exact done_in hd (eachD_size fun u hu => Nat.le_trans (hz u hu) hm)
theorem under_in {ts : List T} {d : Int} {c : Cl} {m : Nat} (hd : in64 d) (hz : ∀ u, u ∈ ts → size u ≤ m) : in64 (underC ts d c).2.2 ∧ ∀ u, u ∈ (underC ts d c).2.1 → size u ≤ m := by
  unfold underC
  split
  · exact cx_nil
  · split
    · exact cx_nil
    · split
      · exact cx_nil
      · exact done_in hd (eachU_size hz)
theorem push_may {ts : List T} {d : Int} {t : T} (h : (pushR ts d t).1 = 0) : ctxRight (pushR ts d t).2.1 (pushR ts d t).2.2 = 0 ∧ (pushR ts d t).2.1.length = ts.length + 1 := by
  obtain ⟨e, _, _, h3⟩ := push_ok h
  rw [e]
  exact ⟨h3, rfl⟩
end Go.Hy
namespace Go.Hy
/-! A call of a closure among operations of any order. -/
section
variable {tn : Bool} {pn : Nat} {P : Program} [Tab P] {f : FuncId} {R : Ending → World → Prop} {B : Base} {n : Fz} {K : List Item} {ops : Array Oper} {i : Nat} {l fin : List Nat} {σ : Nat → Value} {Γ : List Fact} {Ms Ms2 : List Res}
variable {dst : Option Tmp} {ty : TypeId}
theorem v_callC {c : FuncId} {args cap al : List Value} {av : Array Operand} {ts : Array TypeId} {g : Operand} {pre : List Fact} {X : Type} {val : X → Value} {N : X → List Fact} {Ms1 : X → List Res}
    (hc : ∀ (args : Array Value) (w : World), (callFunc c args).run P w = .ok (.enter c args) w) (hsp : Spec P c al.toArray pre [] val N Ms1) (kk : ∀ x, NV tn pn P f R B n K ops fin l (putS σ dst (val x)) (N x ++ Γ) (Ms1 x ++ Ms))
    (hg : ev σ g = .func (.func c) #[] cap.toArray := by rfl) (ha : av.toList.map (ev σ) = args := by rfl) (hal : args ++ cap = al := by rfl) (hpre : ∀ F, F ∈ pre → F ∈ Γ := by first | (simp; done) | (simp +contextual; done)) (hd : dstOk n dst = true := by rfl) : NvT tn pn P f R B n K ops fin i l dst (.call { callee := .value g, args := av, argTypes := ts }) ty σ Γ Ms :=
  nv_call (enterC hg ha hc) (hal ▸ hsp) hpre rfl rfl hd kk
end
end Go.Hy
namespace Go.Hy
open Go.RowKit Go.Shelf
/-! ### A range over a function whose body never leaves the loop, and whose iterator may write what it has captured -/
theorem range_all {F : Fence} {n : Nat} {P : Program} {α : Type} {g : Operand} {ps : Array Tmp} {assign body : Code} {Q : Exit → Act → World → Prop} {a : Act} {w : World}
    (hro : F.round = none) (h1 : 1 ≤ n) {gf : Nat} {lb : Array Value} (hg : a.eval g = .func (.func gf) #[] lb) (hFg : F.fn gf) (eg : ∀ args w, (callFunc gf args).run P w = .ok (.enter gf args) w)
    {encs : α → Array Value} (hps : ∀ x, (encs x).size = ps.size) (I : List α → World → Prop) (Px : List α → α → Prop) (Kp : World → World → Prop)
    (hIp : ∀ (pre : List α) (A : World) (l : Nat) (o o0 : Obj), I pre A → A.heap[l]? = some o0 → o0.isCells = false → w.heap.size ≤ l → I pre (A.putObj l o)) (hIa : ∀ (pre : List α) (A : World) (o : Obj), I pre A → w.heap.size ≤ A.heap.size → I pre (A.alloc o)) (h0 : I [] w)
    (hKt : ∀ {A B C : World}, Kp A B → Kp B C → Kp A C) (hKp : ∀ (A : World) (l : Nat) (o o0 : Obj), A.heap[l]? = some o0 → o0.isCells = false → w.heap.size ≤ l → Kp A (A.putObj l o))
    (xs : List α)
    (hit : ∀ (l : Nat) (J : List α → World → Prop) (W1 : World), (∀ pre W, J pre W → I pre W) →
      (∀ pre A B, J pre A → I pre B → (∀ (k : Nat) (o : Obj), A.heap[k]? = some o → o.isCells = false → B.heap[k]? = some o) → J pre B) →
      (∀ pre x W, J pre W → Px pre x → YieldAt F (n - 1 - 1) P l (encs x) W fun e W' => e = .returned (.bool true) ∧ J (pre ++ [x]) W' ∧ Kp W W') → J [] W1 → (∀ (k : Nat), k < w.heap.size → W1.heap[k]? = w.heap[k]?) →
      CallsIn F (n - 1) P gf (#[.func (.yield l) #[] #[]] ++ lb) W1 fun e W' => (∃ v, e = .returned v) ∧ J xs W')
    (a₁ : α → Act)
    (hassign : ∀ (l : Nat) (x : α) (W : World) (K : Act → World → Prop), K (a₁ x) W →
      assign.wpIn (F.inRound l) (n - 1 - 1) P (Exit.then K (fun _ _ _ => False)) { tmps := (ps.zip (encs x)).foldl (fun t (p, v) => t.setIfInBounds p v) a.tmps, defers := [] } W)
    (hbody : ∀ (l : Nat) (pre : List α) (x : α) (W : World), I pre W → Px pre x →
      body.wpIn (F.inRound l) (n - 1 - 1) P (fun e _ W' => e = .normal ∧ KeepsOthers W W' ∧ Kp W W' ∧ I (pre ++ [x]) W') (a₁ x) W)
    (hdone : ∀ (D : Nat) (W : World), w.heap.size ≤ D → I xs W → W.heap[D]? = some (.deferred (some [])) → Q .normal { a with defers := { target := .collected D, args := #[] } :: a.defers } W) :
    (Code.rangeFunc g ps assign body).wpIn F n P Q a w := by
  refine wpIn_rangeFunc ?_
  intro fn hfn
  rw [hro]
  obtain ⟨rec, hrec⟩ : ∃ rec : LoopState → Option Code → Loop, rec = fun st pe => { state := st, pending := pe, fn, tmps := a.tmps, params := ps, assign, body, defers := w.heap.size } := ⟨_, rfl⟩
  obtain ⟨W1, hW1⟩ : ∃ W1, (w.alloc (.deferred (some []))).alloc (.loop (rec .ready none)) = W1 := ⟨_, rfl⟩
  have hL1 : W1.heap[w.heap.size + 1]? = some (.loop (rec .ready none)) := by
    rw [← hW1]; have := World.alloc_heap_new (w.alloc (.deferred (some []))) (.loop (rec .ready none)); rwa [World.size_alloc] at this
  have hK1 : W1.heap[w.heap.size]? = some (.deferred (some [])) := by
    rw [← hW1]; exact (Below.heap_alloc _ _ _ (by simp)).trans (World.alloc_heap_new w _)
  have hI1 : I [] W1 := by rw [← hW1]; exact hIa _ _ _ (hIa _ _ _ h0 (Nat.le_refl _)) (by simp)
  refine ⟨w.heap.size + 1, [{ target := .collected w.heap.size, args := #[] }], W1, { target := .fn (.func gf) lb, args := #[.func (.yield (w.heap.size + 1)) #[] #[]] }, W1, gf,
    #[.func (.yield (w.heap.size + 1)) #[] #[]] ++ lb, W1, ?_, ?_, ?_, ?_, fun _ => h1, ?_⟩
  · rw [← hW1, hrec]; exact run_enterLoop_outer _ _ _ _ _
  · simp only [resolve, hg]
    simp [go_sem]
  · intro f' hf'; simp [Target.leads] at hf'; subst hf'; exact hFg
  · simp [invoke, go_sem, eg]
  · refine (hit (w.heap.size + 1) (fun pre W => I pre W ∧ W.heap[w.heap.size + 1]? = some (.loop (rec .ready none)) ∧ W.heap[w.heap.size]? = some (.deferred (some []))) W1
      (fun pre W h => h.1) (fun pre A B hA hB hk => ⟨hB, hk _ _ hA.2.1 rfl, hk _ _ hA.2.2 rfl⟩) ?_ ⟨hI1, hL1, hK1⟩ (fun k hk => by rw [← hW1]; exact (Below.heap_alloc _ _ _ (by simp; omega)).trans (Below.heap_alloc _ _ _ hk))).mono ?_
    · rintro pre x W ⟨hi, hl, hk⟩ hpx
      have hlt : w.heap.size + 1 < W.heap.size := (Array.getElem?_eq_some_iff.1 hl).1
      have hy := run_yield (P := P) (args := encs x) hl (by rw [hrec]; exact hps x)
      rw [hrec] at hy
      refine ⟨fn, _, assign, body, hy, roundIn_of_wpIn hfn (hassign _ x W _ ⟨_, run_beginRound hl (by rw [hrec]), ?_⟩)⟩
      have hl2 : (W.putObj (w.heap.size + 1) (.loop { rec .ready none with state := .busy })).heap[w.heap.size + 1]? = some (.loop { rec .ready none with state := .busy }) := World.putObj_heap_same hlt
      have hk2 : (W.putObj (w.heap.size + 1) (.loop { rec .ready none with state := .busy })).heap[w.heap.size]? = some (.deferred (some [])) := (World.putObj_heap_other (by omega)).trans hk
      refine wpIn_mono (hbody _ pre x _ (hIp _ _ _ _ _ hi hl rfl (by omega)) hpx) ?_
      rintro e a3 W3 ⟨rfl, hk3, hkp3, hi3⟩
      have hl3 := hk3.same _ _ hl2 rfl
      have hend := run_endRound (P := P) none hl3
      rw [hrec] at hl3 hend
      refine ⟨_, _, hend, rfl, ⟨hIp _ _ _ _ _ hi3 hl3 rfl (by omega), ?_, ?_⟩, hKt (hKt (hKp _ _ _ _ hl rfl (by omega)) hkp3) (hKp _ _ _ _ hl3 rfl (by omega))⟩
      · rw [hrec]; exact World.putObj_heap_same (Array.getElem?_eq_some_iff.1 hl3).1
      · exact (World.putObj_heap_other (by omega)).trans (hk3.same _ _ hk2 rfl)
    · rintro e W2 ⟨⟨v, rfl⟩, hi, hl, hk⟩
      exact ⟨none, _, by have := run_endLoop (P := P) hl (by rw [hrec]; simp); rw [hrec] at this; exact this, hdone _ _ (Nat.le_refl _) (hIp _ _ _ _ _ hi hl rfl (by omega)) ((World.putObj_heap_other (by omega)).trans hk)⟩
end Go.Hy
namespace Go.Hy
open Go.Proofs
set_option maxRecDepth 100000
attribute [local go_sem] Oper.semAt_some
open Go.RowKit Go.Shelf
set_option maxHeartbeats 1000000
theorem tz32 (F : Fence) (n : Nat) (hF : F.fn 209) (hro : F.round = none) (r : Nat) (k idx : Nat) (hk : k < 24) (h0 : ((r : Int) == 0) = false)
    (key : bits BinOp.and IntKind.u32 (r : Int) (-(r : Int) % 4294967296) * 125613361 % 4294967296 / 134217728 = (idx : Int)) (hi : idx < 32) (W : World) (hc : W.cell? ⟨0, idx, none⟩ = some (.int .u8 (k : Int))) :
    CallsIn F n Tryz.prog 209 #[.int .u32 (r : Int)] W fun e w' => e = .returned (.int .i64 (k : Int)) ∧ w' = W := by
  refine callsIn_of_wp Tryz.func209 rfl hF ?_ hro; simp only [Tryz.ntmps209, List.size_toArray, List.length_cons, List.length_nil, Nat.reduceAdd, Nat.reduceSub, Array.replicate_succ, Array.replicate_zero, List.push_toArray, List.append_toArray, List.nil_append, List.cons_append]
  gi_wp2_with (simp only [key])
  go_ret
  exact ⟨rfl, rfl⟩
theorem tz32' (F : Fence) (n : Nat) (hF : F.fn 209) (hro : F.round = none) (r : Nat) (h0 : ¬ r = 0) (hr : r < 16777216) (W : World) (hT : TabAt 0 Lib.deBruijn32tab W) :
    CallsIn F n Tryz.prog 209 #[.int .u32 (r : Int)] W fun e w' => e = .returned (.int .i64 (Lib.ctz 32 r : Int)) ∧ w' = W := by
  obtain ⟨hlow, hk⟩ := Lib.lowest_bit 32 r h0 (by omega); obtain ⟨hi, htab⟩ := Lib.deBruijn32_at _ hk; have hcell := hT _ hi; rw [htab] at hcell; exact tz32 F n hF hro r _ _ (listM_low h0 hr).1 (by simp; omega) (tz32_key r _ (by omega) h0 hlow) hi W hcell
theorem in1 (F : Fence) (n : Nat) (h208 : F.fn 208) (h209 : F.fn 209) (hro : F.round = none) (hn : 1 ≤ n) (l g : Nat) (s : Nat) (J : List Int → World → Prop)
    (hY : ∀ pre x W, J pre W → pre.length < 24 → (0 ≤ x ∧ x < 24) → YieldAt F (n - 1) Tryz.prog l #[.int .i64 x] W fun e W' => e = .returned (.bool true) ∧ J (pre ++ [x]) W' ∧ W'.heap[g]? = W.heap[g]?)
    (hT : ∀ pre W, J pre W → TabAt 0 Lib.deBruijn32tab W)
    (hJ : ∀ pre W v, J pre W → J pre (W.setCell ⟨g, 0, none⟩ v))
    (hs : s < 4294967296) (W : World) (hg : Boxed W g 43 (.int .u32 (s : Int))) (h0 : J [] W) :
    CallsIn F n Tryz.prog 208 #[.func (.yield l) #[] #[], .pointer (some ⟨g, 0, none⟩)] W fun e W' => (∃ v, e = .returned v) ∧ J (listM s) W' := by
  refine callsIn_of_wp Tryz.func208 rfl h208 ?_ hro; simp only [Tryz.ntmps208, List.size_toArray, List.length_cons, List.length_nil, Nat.reduceAdd, Nat.reduceSub, Array.replicate_succ, Array.replicate_zero, List.push_toArray, List.append_toArray, List.nil_append, List.cons_append]; have hc := hg.cell; have hf := hg.frozen
  gi_wp2
  gi_loopw [] (fun wr => ∃ (pre : List Int) (r : Nat), listM s = pre ++ listM r ∧ r < 16777216 ∧ Boxed wr g 43 (.int .u32 (r : Int)) ∧ J pre wr)
    (fun wr => match wr.cell? ⟨g, 0, none⟩ with | some (.int _ v) => v.toNat | _ => 0)
  case atStart =>
    refine ⟨[], s &&& 16777215, by rw [List.nil_append, listM_and], by rw [and24]; exact Nat.mod_lt _ (by decide), ?_, hJ _ _ _ h0⟩; rw [← bits_and_u32_nat s 16777215 hs (by decide)]; exact hg.set _
  case round =>
    obtain ⟨pre, r, hx, hr, hb, hj⟩ := hrel; have hc2 := hb.cell; have hf2 := hb.frozen; by_cases hr0 : r = 0
    · subst hr0
      gi_wp2
      go_end0
      exact ⟨⟨_, rfl⟩, by rw [hx, show listM 0 = [] from by decide, List.append_nil]; exact hj⟩
    · obtain ⟨hk, hlist⟩ := listM_low hr0 hr
      have hlen : pre.length < 24 := by
        have h1 := congrArg List.length hx; have h2 : (listM s).length ≤ 24 := listTo_len s 24; rw [List.length_append, hlist, List.length_cons] at h1; omega
      obtain ⟨fn, tmps, assign, body, hy, hR⟩ := hY pre (Lib.ctz 32 r : Int) wr hj hlen (by omega); have hbe : ((r : Int) != 0) = true := by simp; omega
      gi_wp2_with (gi_at_call 209; refine (tz32' F (n - 1) h209 hro r hr0 hr wr (hT _ _ hj)).mono ?_; rintro e w' ⟨rfl, rfl⟩)
      refine hR.mono ?_; rintro e W3 ⟨rfl, hJ3, hg3⟩; have hb3 : Boxed W3 g 43 (.int .u32 (r : Int)) := hg3.trans hb; have hc3 := hb3.cell; have hf3 := hb3.frozen
      gi_wp2
      have e1 : bits BinOp.and IntKind.u32 (r : Int) ((r : Int) - 1) = ((r &&& (r - 1) : Nat) : Int) := by
        rw [show (r : Int) - 1 = ((r - 1 : Nat) : Int) by omega]; exact bits_and_u32_nat r (r - 1) (by omega) (by omega)
      rw [e1]; have hb4 := hb3.set (.int .u32 ((r &&& (r - 1) : Nat) : Int)); have hlt := low_lt hr0
      go_roundw
      case rel => exact ⟨pre ++ [(Lib.ctz 32 r : Int)], r &&& (r - 1), by rw [hx, hlist, List.append_assoc]; rfl, by omega, hb4, hJ _ _ _ hJ3⟩
      case measure =>
        rw [hb4.cell, hc2]; simp only [Int.toNat_natCast]; exact hlt
theorem mk_in (F : Fence) (n : Nat) (h : F.fn 156) (hro : F.round = none) (s : Nat) (w : World) :
    CallsIn F n Tryz.prog 156 #[.int .u32 (s : Int)] w fun e w' => e = .returned (.func (.func 208) #[] #[.pointer (some ⟨w.heap.size, 0, none⟩)]) ∧ w' = w.alloc (.cells #[.int .u32 (s : Int)] 43) := by
  refine callsIn_of_wp Tryz.func156 rfl h ?_ hro; simp only [Tryz.ntmps156, List.size_toArray, List.length_cons, List.length_nil, Nat.reduceAdd, Nat.reduceSub, Array.replicate_succ, Array.replicate_zero, List.push_toArray, List.append_toArray, List.nil_append, List.cons_append]
  gi_wp2
  go_ret
  exact ⟨rfl, rfl⟩
theorem infoInt : (Tryz.prog.info? 3).map (fun i => (i.zero, i.size, i.bytes)) = some (some (.int .i64 0), 1, 8) := by kernel_rfl
theorem list_in (F : Fence) (n : Nat) (h81 : F.fn 81) (h156 : F.fn 156) (h208 : F.fn 208) (h209 : F.fn 209) (hro : F.round = none) (hn : 3 ≤ n) (s : Nat) (hs : s < 4294967296) (w : World) (hw : 0 < w.heap.size) (hT : TabAt 0 Lib.deBruijn32tab w) :
    CallsIn F n Tryz.prog 81 #[.int .u32 (s : Int)] w fun e W' => ∃ v, e = .returned v ∧ W'.ownsRow w.heap.size 3 1 v (listM s).length ((listM s).map (Value.int .i64)) ∧ Below w.heap.size w W' := by
  have h1 : 1 ≤ n := by omega
  obtain ⟨i0, hi, hz0, hz1, hz2⟩ := info_parts infoInt; refine callsIn_of_wp_marks Tryz.func81 rfl h81 ?_ hro; simp only [Tryz.ntmps81, List.size_toArray, List.length_cons, List.length_nil, Nat.reduceAdd, Nat.reduceSub, Array.replicate_succ, Array.replicate_zero, List.push_toArray, List.append_toArray, List.nil_append, List.cons_append]
  gi_wp2_with (gi_at_call 156; refine (mk_in F (n - 1) h156 hro _ _).mono ?_; rintro e w' ⟨rfl, rfl⟩)
  obtain ⟨w2, hw2⟩ : ∃ w2, (w.alloc (.cells #[.slice none 0 0] 117)).alloc (.cells #[.int .u32 (s : Int)] 43) = w2 := ⟨_, rfl⟩; have bO : Boxed w2 w.heap.size 117 (.slice none 0 0) := by rw [← hw2]; exact (Boxed.new w 117 (.slice none 0 0)).alloc _
  have bS : Boxed w2 (w.heap.size + 1) 43 (.int .u32 (s : Int)) := by rw [← hw2]; have := Boxed.new (w.alloc (.cells #[.slice none 0 0] 117)) 43 (.int .u32 (s : Int)); rwa [World.size_alloc] at this
  have hsz2 : w2.heap.size = w.heap.size + 2 := by rw [← hw2]; simp
  have hB2 : Below w.heap.size w w2 := by rw [← hw2]; exact ((Below.refl _ w).alloc (Nat.le_refl _) _).alloc (by simp) _
  have hrw : ∀ {A B : World}, B.heap[w.heap.size + 1]? = A.heap[w.heap.size + 1]? → ∀ u, Boxed A (w.heap.size + 1) 43 u → Boxed B (w.heap.size + 1) 43 u := fun h u hu => h.trans hu
  simp only [World.size_alloc, hw2]
  refine range_all hro h1 (gf := 208) (lb := #[.pointer (some ⟨w.heap.size + 1, 0, none⟩)]) rfl h208 (enters_of Tryz.func208 (by kernel_rfl) rfl) (encs := fun x : Int => #[Value.int .i64 x]) (fun _ => rfl)
    (fun pre W => (∃ v, Boxed W w.heap.size 117 v ∧ W.ownsRow w.heap.size 3 1 v pre.length (pre.map (Value.int .i64))) ∧ (∃ u, Boxed W (w.heap.size + 1) 43 u) ∧ Below w.heap.size w W)
    (fun pre x => pre.length < 24 ∧ (0 ≤ x ∧ x < 24)) (fun W W' => W'.heap[w.heap.size + 1]? = W.heap[w.heap.size + 1]?)
    ?ip ?ia ⟨⟨_, bO, World.ownsRow_nil _ _ _ _⟩, ⟨_, bS⟩, hB2⟩ (fun h k => k.trans h) ?kp (listM s) ?it
    (fun x => { tmps := #[.int .u32 (s : Int), undef, .slice none 0 0, .pointer (some ⟨w.heap.size, 0, none⟩), .int .i64 x, .int .u32 (s : Int), .func (.func 208) #[] #[.pointer (some ⟨w.heap.size + 1, 0, none⟩)], .int .i64 x, undef, undef, undef, undef, undef], defers := [] }) ?assign ?body ?done
  case ip =>
    rintro pre A l o o0 ⟨⟨v, hv, hr⟩, ⟨u, hu⟩, hB⟩ hl hc hle; refine ⟨⟨v, (World.putObj_heap_other (by omega)).trans hv, ownsRow_putObj hr o hl hc⟩, ⟨u, (World.putObj_heap_other (by omega)).trans hu⟩, hB.trans ⟨rfl, rfl, rfl, by simp, fun k hk => World.putObj_heap_other (by omega)⟩⟩
  case ia =>
    rintro pre A o ⟨⟨v, hv, hr⟩, ⟨u, hu⟩, hB⟩ hle; exact ⟨⟨v, hv.alloc o, hr.kept (World.grownBy_alloc A o none) (by rcases hr.2 with ⟨rfl, _⟩ | ⟨g, cap, cur, rfl, _⟩; exact .inl rfl; exact .inr (by simp [Value.ownBlock]))⟩, ⟨u, hu.alloc o⟩, hB.alloc (by omega) o⟩
  case kp =>
    intro A l o o0 hl hc hle; exact World.putObj_heap_other (by omega)
  case it =>
    intro l J W1 hJI hJk hY h0 hk1; refine in1 F (n - 1) h208 h209 hro (by omega) l (w.heap.size + 1) s J (fun pre x W hj hl hx => hY pre x W hj ⟨hl, hx⟩) (fun pre W hj => ?_) (fun pre W v hj => ?_) hs W1 ?_ h0
    · intro i hi; exact ((hJI _ _ hj).2.2.cell (p := ⟨0, i, none⟩) hw).trans (hT i hi)
    · obtain ⟨⟨v0, hv0, hr⟩, ⟨u, hu⟩, hB⟩ := hJI _ _ hj; refine hJk pre W _ hj ⟨⟨v0, hv0.other (by omega) v, hr.kept (grownBy_setCell' W (w.heap.size + 1) v) (.inr (hu.not_row (by decide) hr).symm)⟩, ⟨_, hu.set v⟩, hB.setCell (p := ⟨w.heap.size + 1, 0, none⟩) (by simp) v⟩ (fun k o hk ho => (KeepsOthers.setCell W _ v).same k o hk ho)
    · exact (hk1 _ (by omega)).trans bS
  case assign =>
    intro l x W K hK
    gi_wp2
    exact hK
  case body =>
    rintro l pre x W ⟨⟨v, hv, hrow⟩, ⟨u, hu⟩, hB⟩ ⟨hlt, hx⟩; have hc := hv.cell
    gi_wp2_with (gi_at_builtin; refine wpListIn_append_own _ rfl _ _ 117 rfl w.heap.size 3 i0 (.int .i64 0) 1 8 Tryz.underlying117 hi hz0 hz1 hz2 rfl (by decide) _ _ _ rfl (hrow.alloc _) ⟨W.heap.size, 0, none⟩ 1 1 [.int .i64 x] rfl rfl (cell_one_new _ _ _) (by simp [Value.oneCell']) (by unfold maxLen; omega) (by omega) (by have := hB.size; simp; omega) ?_; intro v' w1 hown' hgrow _; obtain ⟨g', cap', rfl⟩ := ownsRow_succ hown'; obtain ⟨hv1, hv2, hr2, hk2, hb2⟩ := hv.appended (by decide) hrow hB.size (Nat.le_refl _) hown' hgrow; have hc1 := hv1.cell; have hf1 := hv1.frozen)
    have hu1 := ((hu.alloc (.cells #[.int .i64 x] 3)).kept hgrow (hu.not_row (by decide) hrow)).other (B' := w.heap.size) (by omega) (.slice (some ⟨g', 0, none⟩) (pre.length + 1) cap'); exact ⟨hu1.trans hu.symm, ⟨_, hv2, by simpa using hr2⟩, ⟨u, hu1⟩, hB.trans hb2⟩
  case done =>
    rintro D W hD ⟨⟨v, hv, hrow⟩, _, hB⟩ hK; have hc := hv.cell
    gi_wp2
    refine ⟨by simp, .inl ⟨_, _, rfl, run_takeDeferred hK, ?_⟩⟩; exact ⟨_, results_tmp rfl _ _ _, v, rfl, ownsRow_putObj hrow _ hK rfl, hB.trans ⟨rfl, rfl, rfl, by simp, fun k hk => World.putObj_heap_other (by omega)⟩⟩
abbrev DBF : Fact := At 0 0 (Lib.deBruijn32tab.map fun (v : Nat) => Value.int .u8 (v : Int))
theorem tab_of {ok : Nat → Prop} {w : World} (h : DBF.f ok w) (hk : ∀ b, ok b → b < w.heap.size) : TabAt 0 Lib.deBruijn32tab w ∧ 0 < w.heap.size := by
  refine ⟨fun j hj => ?_, hk _ h.1⟩; have h1 := h.2 j (.int .u8 (Lib.deBruijn32tab.getD j 0 : Nat)) (by rw [List.getElem?_map, List.getD_eq_getElem?_getD, List.getElem?_eq_getElem hj]; rfl)
  rwa [Nat.zero_add] at h1
theorem maskListO (s : Nat) (hs : s < 4294967296) : Spec Tryz.prog 81 #[.int .u32 (s : Int)] [DBF] [] (fun x : SH => sl x (listM s).length) (fun _ => []) (fun x => [rowS 1 3 x (listM s).length (intFlat (listM s))]) := fun ok w hok hst => by
  obtain ⟨hT, hw⟩ := tab_of (hst.facts DBF List.mem_cons_self) (fun b hb => hb.2.1); refine (callsIn_wide.mp (list_in Fence.wide 3 trivial trivial trivial trivial rfl (Nat.le_refl _) s hs w hw hT)).mono fun e w' hh => ?_
  obtain ⟨v, rfl, hrow, hB⟩ := hh; obtain ⟨a, rfl⟩ := owns_sh hrow
  have hrow0 : w'.ownsRow 0 3 1 (sl a (listM s).length) (listM s).length (intFlat (listM s)) := by
    have h1 : w'.ownsRow 0 3 1 (sl a (listM s).length) (listM s).length ((listM s).map (Value.int .i64)) := ⟨hrow.1, hrow.2.imp id (fun ⟨g, cap, cur, q1, q2, q3⟩ => ⟨g, cap, cur, q1, Nat.zero_le _, q3⟩)⟩
    rwa [show (listM s).map (Value.int .i64) = intFlat (listM s) from by induction (listM s) with | nil => rfl | cons y ys ih => (simp only [List.map_cons, intFlat, List.flatMap_cons, intCells, List.singleton_append] at ih ⊢; rw [ih])] at h1
  refine ⟨a, rfl, ⟨hB.os, hB.tape, hB.output, hB.size, fun b hb _ => hB.block b hb⟩, fun _ hF => (by cases hF), ?_, ?_, List.pairwise_singleton _ _⟩
  · intro m hm w2 hw2; rw [List.mem_singleton] at hm; subst hm; exact rowR_keeps hrow0 (fun b hb => hw2 b hb)
  · intro m hm b hb; rw [List.mem_singleton] at hm; subst hm; have := hrow.lt b hb; exact ⟨this.2, .inr this.1⟩
theorem maskListF (s : Nat) (hs : s < 4294967296) : Spec Tryz.prog 81 #[.int .u32 (s : Int)] [DBF] [] (fun x : SH => sl x (listM s).length) (fun x => [IL (listM s) x]) (fun _ => []) := fun ok w hok hst => (maskListO s hs ok w hok hst).mono fun e w' hh => by
  obtain ⟨x, he, h⟩ := hh; have hl : (listM s).length ≤ 24 := listTo_len s 24; exact ⟨x, he, h.settleIL trivial rfl rfl (by unfold reach; omega) (fun c hc => by have := listTo_in hc; unfold in64; omega)⟩
end Go.Hy
namespace Go.Hy
open Go.Proofs
set_option maxRecDepth 100000
theorem dimension_spec (i : Int) : Spec Tryz.prog 176 #[.int .i64 i] [] [] (fun _ : Unit => .bool (decide (0 ≤ i) && decide (i < 24))) (fun _ => []) (fun _ => []) := by
  refine spec_go (args := [.int .i64 i]) Tryz.func176 Tryz.ntmps176 rfl (by exact Nat.le_of_ble_eq_true rfl) fun B hB => ?_
  refine go_seq ?_; refine go_region ⟨_, Tryz.func176⟩ rfl ?_; refine q0 rfl (o_assign ?_); refine rg_nil ?_; refine go_seq ?_; refine go_region ⟨_, Tryz.func176⟩ rfl ?_; refine q0 rfl (o_move ?_); refine q0 rfl (o_geq ?_); refine q0 rfl (o_move ?_); refine qI rfl rfl rfl wl_ (fun hg5 => o_move ?_) (fun hg5 => ?_)
  · refine qT rfl rfl rfl (o_lss ?_); refine q0 rfl (o_pickT ?_); refine q0 rfl (o_assign ?_); refine rg_nil ?_; refine ret1 Tryz.func176 Tryz.results176 wn_ () (by first | (simp_all; done) | (simp_all; omega)) (fun w hs => hs.none)
  · refine qF rfl rfl rfl ?_; refine q0 rfl (o_pickF ?_); refine q0 rfl (o_assign ?_); refine rg_nil ?_; refine ret1 Tryz.func176 Tryz.results176 wn_ () (by first | (simp_all; done) | (simp_all; omega)) (fun w hs => hs.none)
theorem maskRight_spec (s : Nat) (hs : s < 4294967296) : Spec Tryz.prog 87 #[.int .u32 (s : Int)] [] [] (fun _ : Unit => .bool (decide (s < 16777216))) (fun _ => []) (fun _ => []) := by
  refine spec_go (args := [.int .u32 (s : Int)]) Tryz.func87 Tryz.ntmps87 rfl (by exact Nat.le_of_ble_eq_true rfl) fun B hB => ?_
  refine go_seq ?_; refine go_region ⟨_, Tryz.func87⟩ rfl ?_; refine q0 rfl (o_assign ?_); refine rg_nil ?_; refine go_seq ?_; refine go_region ⟨_, Tryz.func87⟩ rfl ?_; refine q0 rfl (o_move ?_); refine q0 rfl (o_andNotU32 ?_ (b := 16777215)); refine q0 rfl (o_eqI ?_ (b := 0)); refine q0 rfl (o_assign ?_); refine rg_nil ?_; refine ret1 Tryz.func87 Tryz.results87 wn_ () (by rw [andNot_zero hs]) (fun w hs => hs.none)
theorem withoutNone_spec (s : Nat) (hs : s < 4294967296) : Spec Tryz.prog 175 #[.int .u32 (s : Int), .int .i64 (-1)] [] [] (fun _ : Unit => .int .u32 ((s &&& 16777215 : Nat) : Int)) (fun _ => []) (fun _ => []) := by
  refine spec_go (args := [.int .u32 (s : Int), .int .i64 (-1)]) Tryz.func175 Tryz.ntmps175 rfl (by exact Nat.le_of_ble_eq_true rfl) fun B hB => ?_
  refine go_seq ?_; refine go_region ⟨_, Tryz.func175⟩ rfl ?_; refine q0 rfl (o_assign ?_); refine rg_nil ?_; refine go_seq ?_; refine go_region ⟨_, Tryz.func175⟩ rfl ?_; refine q0 rfl (o_move ?_); refine q0 rfl (o_andU32 ?_ (b := 16777215)); refine q0 rfl (o_assign ?_); refine rg_nil ?_; refine go_seq ?_; refine go_seq ?_; refine go_region ⟨_, Tryz.func175⟩ rfl ?_; refine q0 rfl (o_move ?_); refine q0 rfl (o_call Tryz.call176 (dimension_spec (-1)) (fun x8 => ?_)); refine q0 rfl (o_not ?_); refine rg_nil ?_; refine go_condI (fun h9 => ?_) (fun h9 => ?_)
  · refine go_seq ?_; refine go_region ⟨_, Tryz.func175⟩ rfl ?_; refine q0 rfl (o_move ?_); refine q0 rfl (o_assign ?_); refine rg_nil ?_; refine ret1 Tryz.func175 Tryz.results175 wn_ () rfl (fun w hs => hs.none)
  · exact absurd h9 (by decide)
theorem fDims_spec : FDims := by
  intro l a; refine spec_go (args := [sl a l.length]) Tryz.func97 Tryz.ntmps97 rfl (by exact Nat.le_of_ble_eq_true rfl) fun B hB => ?_
  refine go_openCL (l := l) (a := a) (fun hl1 hA1 hU1 => ?_); refine go_seq ?_; refine go_region ⟨_, Tryz.func97⟩ rfl ?_; refine q0 rfl (o_assign ?_); refine rg_nil ?_; refine go_seq ?_; refine go_region ⟨_, Tryz.func97⟩ rfl ?_; refine q0 rfl (o_assign ?_); refine rg_nil ?_; refine go_seq ?_; refine go_seq ?_; refine go_region ⟨_, Tryz.func97⟩ rfl ?_; refine q0 rfl (o_move ?_); refine q0 rfl (o_len ?_); refine q0 rfl (o_move ?_); refine rg_nil ?_; refine go_block ?_; refine go_loopI (X := Nat) (fun i => i ≤ l.length) (fun i => [(3, .int .u32 (orUpto l i : Int)), (6, sl a l.length), (7, .int .i64 (l.length : Int)), (8, .int .i64 (i : Int))]) (fun i => [CL l a]) (fun i => []) (fun i => l.length - i) (0) (Nat.zero_le _) (by exact ⟨rfl, rfl, rfl, rfl, trivial⟩) ?_ ?_
  · exact fun w hs => hs.less (by simp)
  · intro i base0 hi next0; refine go_seq ?_; refine go_region ⟨_, Tryz.func97⟩ rfl ?_; refine q0 rfl (o_lss ?_); refine rg_nil ?_; refine go_seq ?_; refine go_condI (fun h9 => ?_) (fun h9 => ?_)
    · have hlt : i < l.length := by have := of_decide_eq_true h9; omega
      obtain ⟨bk, o, hav⟩ := hA1 (by omega); have hu := hU1 _ (getD_mem (d := cl0) hlt); have hup := orUpto_lt hU1 i; have hor : (l.getD i cl0).pos ||| (l.getD i cl0).neg < 4294967296 := Nat.or_lt_two_pow (n := 32) hu.1 hu.2; refine go_skip ?_; refine go_seq ?_; refine go_block ?_; refine go_seq ?_; refine go_region ⟨_, Tryz.func97⟩ rfl ?_; refine q0 rfl (o_ixN ?_); refine q0 rfl (o_ldC ?_); refine q0 rfl (o_new fun b5 => ?_); refine q0 rfl (o_st ?_); refine rg_nil ?_; refine go_region ⟨_, Tryz.func97⟩ rfl ?_; refine q0 rfl (o_move ?_); refine q0 rfl (o_fa ?_); refine q0 rfl (o_ld ?_); refine q0 rfl (o_fa ?_); refine q0 rfl (o_ld ?_); refine q0 rfl (o_orU32 ?_ (a := (l.getD i cl0).pos) (b := (l.getD i cl0).neg) (ha := hu.1) (hb := hu.2)); refine q0 rfl (o_orU32 ?_ (a := orUpto l i) (b := (l.getD i cl0).pos ||| (l.getD i cl0).neg)); refine q0 rfl (o_assign ?_); refine rg_nil ?_; refine go_inBlock ?_; refine go_region ⟨_, Tryz.func97⟩ rfl ?_; refine q0 rfl (o_add ?_); refine q0 rfl (o_move ?_); refine rg_nil ?_; refine go_state (fun w hs => ?_) (next0 (i + 1) _ hlt (by omega) ⟨by rw [orUpto_succ hlt]; rfl, rfl, rfl, rfl, trivial⟩); exact (hs.less (by simp)).bare
    · have hge : i = l.length := by have := of_decide_eq_false h9; omega
      refine go_exit rfl ?_; refine go_seq ?_; refine go_region ⟨_, Tryz.func97⟩ rfl ?_; refine q0 rfl (o_move ?_); refine q0 rfl (o_call Tryz.call175 (withoutNone_spec (orUpto l i) (orUpto_lt hU1 i)) (fun x21 => ?_)); refine q0 rfl (o_assign ?_); refine rg_nil ?_; refine ret1 Tryz.func97 Tryz.results97 wn_ () (by rw [fDims_eq, ← hge]) (fun w hs => hs.none)
theorem clauseRight_spec (c : Cl) (hc : u32 c) : Spec Tryz.prog 33 #[.agg (clCells c).toArray] [] [] (fun _ : Unit => .bool (right24 c)) (fun _ => []) (fun _ => []) := by
  refine spec_go (args := [.agg (clCells c).toArray]) Tryz.func33 Tryz.ntmps33 rfl (by exact Nat.le_of_ble_eq_true rfl) fun B hB => ?_
  refine go_seq ?_; refine go_region ⟨_, Tryz.func33⟩ rfl ?_; refine q0 rfl (o_box fun b1 => ?_); refine q0 rfl (o_assign ?_); refine rg_nil ?_; refine go_seq ?_; refine go_region ⟨_, Tryz.func33⟩ rfl ?_; refine q0 rfl (o_fa ?_); refine q0 rfl (o_ld ?_); refine q0 rfl (o_call Tryz.call87 (maskRight_spec c.pos hc.1) (fun x5 => ?_)); refine q0 rfl (o_move ?_); refine qI rfl rfl rfl wl_ (fun hg6 => o_fa ?_) (fun hg6 => ?_)
  · refine qT rfl rfl rfl (o_ld ?_); refine qT rfl rfl rfl (o_call Tryz.call87 (maskRight_spec c.neg hc.2) (fun x9 => ?_)); refine q0 rfl (o_pickT ?_); refine q0 rfl (o_assign ?_); refine rg_nil ?_; refine ret1 Tryz.func33 Tryz.results33 wn_ () (by first | (simp_all [right24]; done) | (simp_all [right24]; intros; omega)) (fun w hs => hs.none)
  · refine qF rfl rfl rfl ?_; refine qF rfl rfl rfl ?_; refine q0 rfl (o_pickF ?_); refine q0 rfl (o_assign ?_); refine rg_nil ?_; refine ret1 Tryz.func33 Tryz.results33 wn_ () (by first | (simp_all [right24]; done) | (simp_all [right24]; intros; omega)) (fun w hs => hs.none)
theorem clash_spec (c : Cl) (hc : u32 c) : Spec Tryz.prog 34 #[.agg (clCells c).toArray] [] [] (fun _ : Unit => .bool (clash c)) (fun _ => []) (fun _ => []) := by
  refine spec_go (args := [.agg (clCells c).toArray]) Tryz.func34 Tryz.ntmps34 rfl (by exact Nat.le_of_ble_eq_true rfl) fun B hB => ?_
  refine go_seq ?_; refine go_region ⟨_, Tryz.func34⟩ rfl ?_; refine q0 rfl (o_box fun b1 => ?_); refine q0 rfl (o_assign ?_); refine rg_nil ?_; refine go_seq ?_; refine go_region ⟨_, Tryz.func34⟩ rfl ?_; refine q0 rfl (o_fa ?_); refine q0 rfl (o_ld ?_); refine q0 rfl (o_fa ?_); refine q0 rfl (o_ld ?_); refine q0 rfl (o_andU32 ?_ (a := c.pos) (b := c.neg) (ha := hc.1) (hb := hc.2)); refine q0 rfl (o_neI ?_ (b := 0)); refine q0 rfl (o_assign ?_); refine rg_nil ?_; refine ret1 Tryz.func34 Tryz.results34 wn_ () (by simp only [clash]; congr 1; apply decide_eq_decide.mpr; omega) (fun w hs => hs.none)
theorem meet_spec (c d : Cl) (hc : u32 c) (hd : u32 d) : Spec Tryz.prog 93 #[.agg (clCells c).toArray, .agg (clCells d).toArray] [] [] (fun _ : Unit => .agg (clCells (meetC c d)).toArray) (fun _ => []) (fun _ => []) := by
  refine spec_go (args := [.agg (clCells c).toArray, .agg (clCells d).toArray]) Tryz.func93 Tryz.ntmps93 rfl (by exact Nat.le_of_ble_eq_true rfl) fun B hB => ?_
  refine go_seq ?_; refine go_region ⟨_, Tryz.func93⟩ rfl ?_; refine q0 rfl (o_box fun b2 => ?_); refine q0 rfl (o_box fun b3 => ?_); refine q0 rfl (o_new fun b4 => ?_); refine rg_nil ?_; refine go_seq ?_; refine go_region ⟨_, Tryz.func93⟩ rfl ?_; refine q0 rfl (o_fa ?_); refine q0 rfl (o_ld ?_); refine q0 rfl (o_fa ?_); refine q0 rfl (o_ld ?_); refine q0 rfl (o_orU32 ?_ (a := c.pos) (b := d.pos) (ha := hc.1) (hb := hd.1)); refine q0 rfl (o_fa ?_); refine q0 rfl (o_ld ?_); refine q0 rfl (o_fa ?_); refine q0 rfl (o_ld ?_); refine q0 rfl (o_orU32 ?_ (a := c.neg) (b := d.neg) (ha := hc.2) (hb := hd.2)); refine q0 rfl (o_build (cs := clCells (meetC c d)) ?_); refine q0 rfl (o_st ?_); refine rg_nil ?_; refine retC Tryz.func93 Tryz.results93 () rfl mm_ rfl rfl rfl rfl (fun w hs => hs.none)
theorem below_spec (c d : Cl) (hc : u32 c) (hd : u32 d) : Spec Tryz.prog 169 #[.agg (clCells c).toArray, .agg (clCells d).toArray] [] [] (fun _ : Unit => .bool (below c d)) (fun _ => []) (fun _ => []) := by
  refine spec_go (args := [.agg (clCells c).toArray, .agg (clCells d).toArray]) Tryz.func169 Tryz.ntmps169 rfl (by exact Nat.le_of_ble_eq_true rfl) fun B hB => ?_
  refine go_seq ?_; refine go_region ⟨_, Tryz.func169⟩ rfl ?_; refine q0 rfl (o_box fun b2 => ?_); refine q0 rfl (o_box fun b3 => ?_); refine q0 rfl (o_assign ?_); refine rg_nil ?_; refine go_seq ?_; refine go_draw (pn := 1000000) (tn := false) (A := [0, 0, 3, 0, 15, 31]) (l := [0, 1, 3, 2, 4, 5]) (fin := []) Tab.mixed ⟨_, Tryz.func169⟩ (by rfl) ?_; refine n0 rfl (v_lds ?_); refine n0 rfl (v_lds ?_); refine n0 rfl (v_lds ?_); refine n0 rfl (v_call Tryz.call93 (meet_spec c d hc hd) (fun x7 => ?_)); refine n0 rfl (v_eqC ?_ (c := meetC c d) (c' := c)); refine n0 rfl (v_assign ?_); refine NV.done ?_; refine rg_nil ?_; refine ret1 Tryz.func169 Tryz.results169 wn_ () (by rw [below_meet]) (fun w hs => hs.none)
end Go.Hy
/-
  DERIVED: THE SHELF's CONTRACTS AT THIS DUMP, IN PLAIN WORDS (tools/lay-plain.mjs out of 'TryzSort.lean', which tools/lay-shelf.mjs wrote): THE SAME DECLARATIONS UNDER THE SAME NAMES: 'import', 'namespace', 'open', 'def', 'theorem' AND NOTHING ELSE: no command of the shelf's: FOR A HAND-IN. Each laying: the table of numbers ('.._ren') and one theorem, a field a fact of the dump's own or the kernel's comparison; each contract: ONE APPLICATION.
-/
namespace Go.Proofs
open Go.Shelf
def Tryz.sortL_ren : Go.Shelf.Ren := ⟨fun | 6 => 170 | 15 => 222 | 14 => 221 | 28 => 245 | 29 => 246 | 20 => 237 | 21 => 238 | 22 => 239 | 23 => 240 | 24 => 241 | 25 => 242 | 26 => 243 | 27 => 244 | 46 => 257 | 47 => 258 | 48 => 259 | 49 => 260 | 50 => 261 | 57 => 264 | n => n, fun | 22 => 25 | 24 => 45 | 25 => 177 | 3 => 3 | 39 => 146 | 0 => 0 | 53 => 43 | 55 => 195 | 4 => 4 | 46 => 205 | 45 => 204 | 50 => 209 | 5 => 5 | 9 => 9 | 66 => 213 | 70 => 217 | 76 => 220 | 77 => 163 | n => n, fun | n => n⟩
theorem Tryz.sortL : Go.Proofs.SlLaysF0.n6 Tryz.prog Tryz.sortL_ren := {
  mixed := by kernel_rfl
  f6 := ⟨Tryz.f170.name, by decide, Tryz.func170.trans (congrArg some (by kernel_rfl))⟩
  f14 := ⟨Tryz.f221.name, by decide, Tryz.func221.trans (congrArg some (by kernel_rfl))⟩
  f15 := Tryz.func222.trans (congrArg some (by kernel_rfl))
  f20 := ⟨Tryz.f237.name, by decide, Tryz.func237.trans (congrArg some (by kernel_rfl))⟩
  f21 := ⟨Tryz.f238.name, by decide, Tryz.func238.trans (congrArg some (by kernel_rfl))⟩
  f22 := ⟨Tryz.f239.name, by decide, Tryz.func239.trans (congrArg some (by kernel_rfl))⟩
  f23 := ⟨Tryz.f240.name, by decide, Tryz.func240.trans (congrArg some (by kernel_rfl))⟩
  f24 := ⟨Tryz.f241.name, by decide, Tryz.func241.trans (congrArg some (by kernel_rfl))⟩
  f25 := ⟨Tryz.f242.name, by decide, Tryz.func242.trans (congrArg some (by kernel_rfl))⟩
  f26 := ⟨Tryz.f243.name, by decide, Tryz.func243.trans (congrArg some (by kernel_rfl))⟩
  f27 := ⟨Tryz.f244.name, by decide, Tryz.func244.trans (congrArg some (by kernel_rfl))⟩
  f28 := Tryz.func245.trans (congrArg some (by kernel_rfl))
  f29 := Tryz.func246.trans (congrArg some (by kernel_rfl))
  f46 := ⟨Tryz.f257.name, by decide, Tryz.func257.trans (congrArg some (by kernel_rfl))⟩
  f47 := Tryz.func258.trans (congrArg some (by kernel_rfl))
  f48 := Tryz.func259.trans (congrArg some (by kernel_rfl))
  f49 := ⟨Tryz.f260.name, by decide, Tryz.func260.trans (congrArg some (by kernel_rfl))⟩
  f50 := ⟨Tryz.f261.name, by decide, Tryz.func261.trans (congrArg some (by kernel_rfl))⟩
  f57 := ⟨Tryz.f264.name, by decide, Tryz.func264.trans (congrArg some (by kernel_rfl))⟩
  t0 := Tryz.underlying0
  a0 := Tryz.isAgg0
  z0 := Tryz.sizeOf0
  v0 := Tryz.zeroValue0
  t3 := Tryz.underlying3
  a3 := Tryz.isAgg3
  z3 := Tryz.sizeOf3
  v3 := Tryz.zeroValue3
  t4 := Tryz.underlying4
  a4 := Tryz.isAgg4
  z4 := Tryz.sizeOf4
  v4 := Tryz.zeroValue4
  t5 := Tryz.underlying5
  a5 := Tryz.isAgg5
  z5 := Tryz.sizeOf5
  v5 := Tryz.zeroValue5
  t9 := Tryz.underlying9
  a9 := Tryz.isAgg9
  z9 := Tryz.sizeOf9
  v9 := Tryz.zeroValue9
  t22 := Tryz.underlying25
  a22 := Tryz.isAgg25
  z22 := Tryz.sizeOf25
  v22 := Tryz.zeroValue25
  t25 := Tryz.underlying177
  a25 := Tryz.isAgg177
  z25 := Tryz.sizeOf177
  v25 := Tryz.zeroValue177
  t39 := Tryz.underlying146
  a39 := Tryz.isAgg146
  z39 := Tryz.sizeOf146
  v39 := Tryz.zeroValue146
  t45 := Tryz.underlying204
  a45 := Tryz.isAgg204
  z45 := Tryz.sizeOf204
  v45 := Tryz.zeroValue204
  t46 := Tryz.underlying205
  a46 := Tryz.isAgg205
  z46 := Tryz.sizeOf205
  v46 := Tryz.zeroValue205
  t50 := Tryz.underlying209
  a50 := Tryz.isAgg209
  z50 := Tryz.sizeOf209
  v50 := Tryz.zeroValue209
  t53 := Tryz.underlying43
  a53 := Tryz.isAgg43
  z53 := Tryz.sizeOf43
  v53 := Tryz.zeroValue43
  t55 := Tryz.underlying195
  a55 := Tryz.isAgg195
  z55 := Tryz.sizeOf195
  v55 := Tryz.zeroValue195
  t66 := Tryz.underlying213
  a66 := Tryz.isAgg213
  z66 := Tryz.sizeOf213
  v66 := Tryz.zeroValue213
  t70 := Tryz.underlying217
  a70 := Tryz.isAgg217
  z70 := Tryz.sizeOf217
  v70 := Tryz.zeroValue217
  t76 := Tryz.underlying220
  a76 := Tryz.isAgg220
  z76 := Tryz.sizeOf220
  v76 := Tryz.zeroValue220
  t77 := Tryz.underlying163
  a77 := Tryz.isAgg163
  z77 := Tryz.sizeOf163
  v77 := Tryz.zeroValue163 }
end Go.Proofs
