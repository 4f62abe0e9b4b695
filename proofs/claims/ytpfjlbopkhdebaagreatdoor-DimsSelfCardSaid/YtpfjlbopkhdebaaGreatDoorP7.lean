/- Contracts of this program's functions and the laws that they need: a separation logic over the machine's rules, one theorem each (partly printed by a program of this repository). -/
import Derived.RangeFuncNested
import Derived.RangeFuncBound
import Derived.RangeFuncCalls
import Derived.RangeFuncLeaves
import Derived.RangeFuncBox
import Derived.Shelf.Abstract
import Derived.Shelf.RegionOpen
import Derived.WalkKit
import Derived.OwnWalkIn
import Derived.TacticsInMore
import Derived.LoopNIn
import Derived.LoopIn
import Derived.Maps.AppendAt
import Derived.Shelf.Spec.TrailingZeros
import Derived.Shelf.SlSortCmp.WholeK
import Derived.Shelf.SlGeneric
import Derived.Ground.SlsfProg
import Derived.Test.YtpfjlbopkhdebaaGreatDoorProg
import Derived.Tactics2
import Derived.Shelf.SlSortCmp.NoneTotal
import Derived.Test.YtpfjlbopkhdebaaGreatDoorP2
import Derived.Test.YtpfjlbopkhdebaaGreatDoorP3
import Derived.Test.YtpfjlbopkhdebaaGreatDoorP4
import Derived.Test.YtpfjlbopkhdebaaGreatDoorP5
import Derived.Test.YtpfjlbopkhdebaaGreatDoorP6
set_option linter.unusedVariables false
set_option linter.unusedSimpArgs false
set_option linter.unusedSectionVars false
namespace Go.Hy
theorem sat_of {r : List Cl} {P N : Wd} (hw : calmW P N) (h : (ofF r).1 = 0) : sat (ofF r).2 P N ↔ sat r P N := by
  unfold ofF at h ⊢
  split at h
  · rename_i h1
    rw [if_pos h1, sat_least h, sat_calm hw]
  · cases h
theorem sat_ofZero {r : List Cl} {P N : Wd} (hw : calmW P N) (h : (ofZero r).1 = 0) : sat (ofZero r).2 P N ↔ ¬ sat r (coW N) (coW P) := by
  unfold ofZero at h ⊢
  obtain ⟨a1, a2, a3⟩ := bindE_zero h
  rw [a3, sat_of hw a2]
  unfold notR at a1 ⊢
  split at a1
  · rename_i h1
    rw [if_pos h1, sat_not (fun c hc => List.all_eq_true.mp (fR_all h1) c hc) a1]
  · cases a1
theorem meetA_one {c : Cl} {x : List Cl} : meetA [c] x = leastF (calmL (x.map fun b => meetC c b)) := by
  unfold meetA
  simp
theorem sat_map_meet {c : Cl} {x : List Cl} {P N : Wd} : sat (x.map fun b => meetC c b) P N ↔ satC c P N ∧ sat x P N := by
  have h := sat_meetL (f := [c]) (g := x) (P := P) (N := N)
  rw [sat_single] at h
  rw [← h]
  unfold meetL
  simp
theorem clash_take {c : Cl} {i : Int} (h : clash c = false) : clash (takeC c i) = false := by
  rw [clash_iff] at h ⊢
  rintro j ⟨h1, h2⟩
  exact h j ⟨(withoutM_bit.mp h1).2.1, (withoutM_bit.mp h2).2.1⟩
theorem has_both {c : Cl} {i : Int} (h : clash c = false) (h1 : hasM c.pos i = true) : hasM c.neg i = false := by
  cases h2 : hasM c.neg i with
  | false => rfl
  | true =>
    unfold hasM at h1 h2
    simp only [Bool.and_eq_true] at h1 h2
    exact absurd ⟨h1.2, h2.2⟩ (clash_iff.mp h _)
theorem sat_part {c : Cl} {r : List Cl} {i : Int} {P N : Wd} (hw : calmW P N) (hcl : clash c = false) (h : (facePart i r c).1 = 0) : sat (facePart i r c).2 P N ↔ satC (takeC c i) P N ∧ (hasM c.pos i = true → sat r P N) ∧ (hasM c.neg i = true → ¬ sat r (coW N) (coW P)) := by
  unfold facePart at h ⊢
  split at h
  · rename_i h1
    rw [if_pos h1]
    obtain ⟨a1, a2, a3⟩ := bindE_zero h
    rw [a3]
    rw [meetA_one] at a2 ⊢
    rw [sat_least a2, sat_calm hw, sat_map_meet, sat_of hw a1]
    have h2 := has_both hcl h1
    exact ⟨fun h => ⟨h.1, fun _ => h.2, fun h3 => by rw [h2] at h3; cases h3⟩, fun h => ⟨h.1, h.2.1 h1⟩⟩
  · rename_i h1
    rw [if_neg h1]
    split at h
    · rename_i h2
      rw [if_pos h2]
      obtain ⟨a1, a2, a3⟩ := bindE_zero h
      rw [a3]
      rw [meetA_one] at a2 ⊢
      rw [sat_least a2, sat_calm hw, sat_map_meet, sat_ofZero hw a1]
      exact ⟨fun h => ⟨h.1, fun h3 => absurd h3 h1, fun _ => h.2⟩, fun h => ⟨h.1, h.2.2 h2⟩⟩
    · rename_i h2
      rw [if_neg h2, sat_single]
      exact ⟨fun h => ⟨h, fun h3 => absurd h3 h1, fun h3 => absurd h3 h2⟩, fun h => h.1⟩
theorem part_calm {c : Cl} {r : List Cl} {i : Int} (hcl : clash c = false) (h : (facePart i r c).1 = 0) : ∀ d, d ∈ (facePart i r c).2 → clash d = false := by
  have key : ∀ x : List Cl, (meetA [takeC c i] x).1 = 0 → ∀ d, d ∈ (meetA [takeC c i] x).2 → clash d = false := by
    intro x hx d hd
    rw [meetA_one] at hx hd
    have h2 := leastF_sub hx hd
    unfold calmL at h2
    simpa using (List.mem_filter.mp h2).2
  unfold facePart at h ⊢
  split at h
  · rename_i h1
    rw [if_pos h1]
    obtain ⟨a1, a2, a3⟩ := bindE_zero h
    rw [a3]
    exact key _ a2
  · rename_i h1
    rw [if_neg h1]
    split at h
    · rename_i h2
      rw [if_pos h2]
      obtain ⟨a1, a2, a3⟩ := bindE_zero h
      rw [a3]
      exact key _ a2
    · rename_i h2
      rw [if_neg h2]
      intro d hd
      rw [List.mem_singleton] at hd
      subst hd
      exact clash_take hcl
theorem sat_facePut {f r : List Cl} {i : Int} (h : (facePut f i r).1 = 0) : faceRight f = true ∧ fRight r = true ∧ (0 ≤ i ∧ i < 24) ∧ faceRight (facePut f i r).2 = true ∧ ∀ P N, calmW P N → (sat (facePut f i r).2 P N ↔ sat f (ovr P i (sat r P N)) (ovr N i (¬ sat r (coW N) (coW P)))) := by
  unfold facePut at h ⊢
  split at h
  · cases h
  · rename_i h1
    rw [if_neg h1]
    simp only [Bool.not_eq_false, Bool.and_eq_true] at h1
    obtain ⟨⟨hf, hi⟩, hr⟩ := h1
    have h3 : 0 ≤ i ∧ i < 24 := by unfold isDim at hi; simpa using hi
    obtain ⟨hff, hfc⟩ := face_calm hf
    have hf24 := fR_all hff
    refine ⟨hf, hr, h3, ?_⟩
    have h4 := foldF_inv (g := faceStep i r) (L := f) (I := fun pre h => faceRight h = true ∧ ∀ P N, calmW P N → (sat h P N ↔ ∃ c, c ∈ pre ∧ satC c (ovr P i (sat r P N)) (ovr N i (¬ sat r (coW N) (coW P))))) (fun pre c h hc hi h0 => by
      unfold faceStep at h0 ⊢
      obtain ⟨a1, a2, a3⟩ := bindE_zero h0
      rw [a3]
      unfold joinF at a2 ⊢
      have hcl := hfc c hc
      refine ⟨calm_face (leastF_fR a2) fun d hd => ?_, fun P N hw => ?_⟩
      · rcases List.mem_append.mp (leastF_sub a2 hd) with hd | hd
        · exact (face_calm hi.1).2 d hd
        · exact part_calm hcl a1 d hd
      · rw [sat_least a2, sat_append, hi.2 P N hw, sat_part hw hcl a1]
        have hc24 := List.all_eq_true.mp hf24 c hc
        simp only [List.mem_append, List.mem_singleton]
        constructor
        · rintro (⟨d, hd, hs⟩ | hs)
          · exact ⟨d, .inl hd, hs⟩
          · exact ⟨c, .inr rfl, (satC_ovr hc24).mpr hs⟩
        · rintro ⟨d, hd | hd, hs⟩
          · exact .inl ⟨d, hd, hs⟩
          · subst hd
            exact .inr ((satC_ovr hc24).mp hs)) f [] [] ⟨by decide, fun P N _ => ⟨fun h => absurd h sat_nil, fun ⟨c, hc, _⟩ => (by cases hc)⟩⟩ (fun c hc => hc) h
    rw [List.nil_append] at h4
    exact h4
theorem formPut_fR {f r : List Cl} {i : Int} (h : (formPut f i r).1 = 0) : fRight (formPut f i r).2 = true := by
  unfold formPut at h ⊢
  split at h
  · cases h
  · rename_i h1
    split at h
    · cases h
    · rename_i h2
      rw [if_neg h1, if_neg h2]
      exact foldF_inv (g := putStep i r) (L := f) (I := fun pre h => fRight h = true) (fun pre c h hc hi h0 => by
        unfold putStep at h0 ⊢
        obtain ⟨a1, a2, a3⟩ := bindE_zero h0
        rw [a3]
        obtain ⟨b1, b2, b3⟩ := bindE_zero a2
        rw [b3]
        exact leastF_fR b2) f [] [] (by decide) (fun c hc => hc) h
/-! Lifts, a dimension taken out, where a clause is so. -/
def shW (P : Wd) (f b : Int) : Wd := fun j => if (j : Int) < f then P j else P (j + b.toNat)
theorem satC_lift {c : Cl} {f b : Int} {P N : Wd} (h : (clLift c f b).1 = 0) : satC (clLift c f b).2 P N ↔ satC c (shW P f b) (shW N f b) := by
  obtain ⟨hr, h1, h2, h3⟩ := clLift_ok h
  obtain ⟨b1, b2⟩ := right24_bits hr
  obtain ⟨f0, b0, _⟩ := maskLift_bit h1 0
  rw [h3]
  have key : ∀ (s : Nat) (hs : ∀ i, s.testBit i = true → i < 24) (hm : (maskLift s f b).1 = 0) (Q : Wd), (∀ i, (maskLift s f b).2.testBit i = true → Q i) ↔ ∀ i, s.testBit i = true → shW Q f b i := by
    intro s hs hm Q
    constructor
    · intro h i hi
      unfold shW
      split
      · rename_i h4; exact h i ((maskLift_iff hm i).mpr ⟨i, hs i hi, hi, .inl ⟨h4, rfl⟩⟩)
      · rename_i h4; exact h _ ((maskLift_iff hm _).mpr ⟨i, hs i hi, hi, .inr ⟨by omega, by omega⟩⟩)
    · intro h i hi
      obtain ⟨j, _, hj, h4⟩ := (maskLift_iff hm i).mp hi
      have h5 := h j hj
      unfold shW at h5
      rcases h4 with ⟨h4, h6⟩ | ⟨h4, h6⟩
      · rw [if_pos h4] at h5; rw [h6]; exact h5
      · rw [if_neg (by omega)] at h5; rw [show i = j + b.toNat by omega]; exact h5
  unfold satC
  exact and_congr (key _ b1 h1 P) (key _ b2 h2 N)
theorem sat_lift {l : List Cl} {f b : Int} {P N : Wd} (h : (formLift l f b).1 = 0) : sat (formLift l f b).2 P N ↔ sat l (shW P f b) (shW N f b) := by
  obtain ⟨_, h2, h3⟩ := formLift_cases h
  rw [h3] at h ⊢
  rw [sat_least h]
  unfold sat
  simp only [List.mem_map]
  constructor
  · rintro ⟨_, ⟨c, hc, rfl⟩, hs⟩; exact ⟨c, hc, (satC_lift (h2 c hc)).mp hs⟩
  · rintro ⟨c, hc, hs⟩; exact ⟨_, ⟨c, hc, rfl⟩, (satC_lift (h2 c hc)).mpr hs⟩
theorem dropM_bit {s : Nat} {i : Int} (h0 : 0 ≤ i) {k : Nat} : (dropM s i).testBit k = true ↔ ∃ j, j < 24 ∧ s.testBit j = true ∧ (((j : Int) < i ∧ k = j) ∨ (i < (j : Int) ∧ k + 1 = j)) := by
  unfold dropM
  split
  · rename_i h
    rw [Nat.testBit_or, Nat.testBit_and, mask_bit, Nat.testBit_mul_two_pow, Nat.testBit_div_two_pow, and24_bit, and24_bit]
    simp only [Bool.or_eq_true, Bool.and_eq_true, decide_eq_true_eq]
    constructor
    · rintro (⟨⟨h1, h2⟩, h3⟩ | ⟨h1, h2, h3⟩)
      · exact ⟨k, h1, h2, .inl ⟨by omega, rfl⟩⟩
      · exact ⟨_, h2, h3, .inr ⟨by omega, by omega⟩⟩
    · rintro ⟨j, h1, h2, ⟨h3, h4⟩ | ⟨h3, h4⟩⟩
      · subst h4; exact .inl ⟨⟨h1, h2⟩, by omega⟩
      · refine .inr ⟨by omega, ?_⟩
        rw [show k - i.toNat + (i.toNat + 1) = j by omega]
        exact ⟨h1, h2⟩
  · rename_i h
    rw [and24_bit]
    simp only [Bool.and_eq_true, decide_eq_true_eq]
    constructor
    · rintro ⟨h1, h2⟩; exact ⟨k, h1, h2, .inl ⟨by omega, rfl⟩⟩
    · rintro ⟨j, h1, h2, ⟨h3, h4⟩ | ⟨h3, h4⟩⟩
      · subst h4; exact ⟨h1, h2⟩
      · omega
def drW (P : Wd) (i : Int) : Wd := fun j => if (j : Int) < i then P j else if (j : Int) = i then True else P (j - 1)
theorem satC_drop {c : Cl} {i : Int} {P N : Wd} (hc : right24 c = true) (h0 : 0 ≤ i) : satC ⟨dropM c.pos i, dropM c.neg i⟩ P N ↔ satC c (drW P i) (drW N i) := by
  obtain ⟨b1, b2⟩ := right24_bits hc
  have key : ∀ (s : Nat) (hs : ∀ i, s.testBit i = true → i < 24) (Q : Wd), (∀ k, (dropM s i).testBit k = true → Q k) ↔ ∀ j, s.testBit j = true → drW Q i j := by
    intro s hs Q
    constructor
    · intro h j hj
      unfold drW
      split
      · rename_i h1; exact h j ((dropM_bit h0).mpr ⟨j, hs j hj, hj, .inl ⟨h1, rfl⟩⟩)
      · split
        · trivial
        · rename_i h1 h2; exact h _ ((dropM_bit h0).mpr ⟨j, hs j hj, hj, .inr ⟨by omega, by omega⟩⟩)
    · intro h k hk
      obtain ⟨j, _, hj, h4⟩ := (dropM_bit h0).mp hk
      have h5 := h j hj
      unfold drW at h5
      rcases h4 with ⟨h4, h6⟩ | ⟨h4, h6⟩
      · rw [if_pos h4] at h5; rw [h6]; exact h5
      · rw [if_neg (by omega), if_neg (by omega)] at h5; rw [show k = j - 1 by omega]; exact h5
  unfold satC
  exact and_congr (key _ b1 P) (key _ b2 N)
theorem sat_drop {f : List Cl} {i d : Int} {P N : Wd} (hf : ∀ c, c ∈ f → right24 c = true) (h0 : 0 ≤ i + d) (h : (dropRow i d f).1 = 0) : sat (dropRow i d f).2 P N ↔ sat f (drW P (i + d)) (drW N (i + d)) := by
  unfold dropRow at h ⊢
  rw [sat_least h]
  unfold sat
  simp only [List.mem_map]
  constructor
  · rintro ⟨_, ⟨c, hc, rfl⟩, hs⟩; exact ⟨c, hc, (satC_drop (hf c hc) h0).mp hs⟩
  · rintro ⟨c, hc, hs⟩; exact ⟨_, ⟨c, hc, rfl⟩, (satC_drop (hf c hc) h0).mpr hs⟩
theorem rlLen (l : List Cl) : (refLeast l).length ≤ l.length := by
  have := rlTo_len l l.length
  rwa [rlTo_all] at this
theorem leastF_told {l : List Cl} (h : l.all right24 = true) (h2 : l.length ≤ 64) : (leastF l).1 = 0 := by
  unfold leastF
  rw [if_neg (by simp [h]), if_neg (by have := rlLen l; omega)]
end Go.Hy
namespace Go.Hy
theorem sat_congr {f : List Cl} {P N P' N' : Wd} (hf : ∀ c, c ∈ f → right24 c = true) (h1 : ∀ j, j < 24 → (P j ↔ P' j)) (h2 : ∀ j, j < 24 → (N j ↔ N' j)) : sat f P N ↔ sat f P' N' := by
  unfold sat satC
  refine exists_congr fun c => and_congr_right fun hc => ?_
  obtain ⟨b1, b2⟩ := right24_bits (hf c hc)
  exact and_congr (forall_congr' fun i => ⟨fun h hi => (h1 i (b1 i hi)).mp (h hi), fun h hi => (h1 i (b1 i hi)).mpr (h hi)⟩) (forall_congr' fun i => ⟨fun h hi => (h2 i (b2 i hi)).mp (h hi), fun h hi => (h2 i (b2 i hi)).mpr (h hi)⟩)
end Go.Hy
namespace Go.Hy
def uE : T := .mk 3 0 ⟨#[]⟩ [] [] []
def aE (t u : T) : T := .mk 6 0 ⟨#[]⟩ [] [t, u] []
end Go.Hy
namespace Go.Hy
/-! ### The chapter's examples of dims -/
def lpE (r : List Cl) : T := .mk 21 0 ⟨#[]⟩ r [] []
def hcE : T := .mk 15 0 ⟨#[]⟩ [] [uE, uE] [.mk [⟨1, 0⟩] [uE]]
def hcF : T := .mk 15 0 ⟨#[]⟩ [] [uE, uE] []
theorem ex_dput : dimsPut (lpE [⟨1, 0⟩]) 0 [⟨2, 0⟩] = (0, lpE [⟨2, 0⟩]) := by decide +kernel
theorem ex_dtake : dimsTake (lpE [⟨1, 0⟩, ⟨2, 0⟩]) 0 [] = (0, lpE [⟨1, 0⟩]) := by decide +kernel
theorem ex_dunder : dimsUnder hcE ⟨0, 1⟩ = (0, hcF) := by decide +kernel
theorem ex_dsize : size (lpE [⟨1, 0⟩]) = 1 ∧ size (lpE [⟨1, 0⟩, ⟨2, 0⟩]) = 1 ∧ size hcE = 4 := by decide +kernel
theorem dimsPut_okT {t : T} {i : Int} {r : List Cl} (h : okT t) : okT (dimsPut t i r).2 := by
  unfold dimsPut
  split
  · exact okT_t0
  · exact asRes_okT (okW_put i r) h
theorem thenT_okT {x : Int × T} {k : T → Int × T} (hx : okT x.2) (h : ∀ u, okT u → okT (k u).2) : okT (thenT x k).2 := by
  by_cases h1 : x.1 = 0
  · rw [thenT_ok h1]; exact h _ hx
  · rw [thenT_bad h1]; exact okT_t0
theorem dimsTake_okT {t : T} {i : Int} {r : List Cl} (h : okT t) : okT (dimsTake t i r).2 := by
  unfold dimsTake
  split
  · exact okT_t0
  · split
    · exact okT_t0
    · exact thenT_okT (asRes_okT (okW_put _ _) h) fun u hu => asRes_okT (okW_drop i) hu
theorem dimsUnder_okT {t : T} {c : Cl} (h : okT t) : okT (dimsUnder t c).2 := by
  unfold dimsUnder
  split
  · exact okT_t0
  · split
    · exact okT_t0
    · exact thenT_okT (putsT_okT h) fun u hu => putsT_okT hu
end Go.Hy
namespace Go.Hy
/-! ### Terms in which a face is never -/
mutual
def neverT : T → Bool
  | .mk _ _ _ _ ks ss => neverL ks || neverB ss
def neverL : List T → Bool
  | [] => false
  | t :: ts => neverT t || neverL ts
def neverB : List Br → Bool
  | [] => false
  | .mk f ks :: bs => (decide (f = []) || neverL ks) || neverB bs
end
theorem neverL_mem : ∀ {ts : List T}, neverL ts = true ↔ ∃ t, t ∈ ts ∧ neverT t = true
  | [] => by simp [neverL]
  | t :: ts => by simp [neverL, neverL_mem (ts := ts)]
theorem neverB_mem : ∀ {bs : List Br}, neverB bs = true ↔ ∃ b, b ∈ bs ∧ (b.face = [] ∨ neverL b.kids = true)
  | [] => by simp [neverB]
  | .mk f ks :: bs => by simp [neverB, neverB_mem (bs := bs), Br.face, Br.kids]
theorem neverT_iff {t : T} : neverT t = true ↔ neverL t.kids = true ∨ neverB t.sys = true := by
  obtain ⟨k, n, nm, r, ks, ss⟩ := t
  simp only [neverT, T.kids, T.sys, Bool.or_eq_true]
theorem never_kid {t : T} {i : Nat} (hi : i < t.kids.length) (h : neverT (t.kids.getD i t0) = true) : neverT t = true := neverT_iff.mpr (.inl (neverL_mem.mpr ⟨_, getD_mem hi, h⟩))
theorem never_face {t : T} {s : Nat} (hs : s < t.sys.length) (h : (t.sys.getD s br0).face = []) : neverT t = true := neverT_iff.mpr (.inr (neverB_mem.mpr ⟨_, getD_mem hs, .inl h⟩))
theorem never_sys {t : T} {s k : Nat} (hs : s < t.sys.length) (hk : k < (t.sys.getD s br0).kids.length) (h : neverT ((t.sys.getD s br0).kids.getD k t0) = true) : neverT t = true := neverT_iff.mpr (.inr (neverB_mem.mpr ⟨_, getD_mem hs, .inr (neverL_mem.mpr ⟨_, getD_mem hk, h⟩)⟩))
theorem neverL_none {ts : List T} (h : ∀ k, k < ts.length → neverT (ts.getD k t0) = false) : neverL ts = false := by
  cases hn : neverL ts with
  | false => rfl
  | true =>
    obtain ⟨t, ht, h2⟩ := neverL_mem.mp hn
    obtain ⟨i, hi, rfl⟩ := List.mem_iff_getElem.mp ht
    have := h i hi
    rw [getD_get (d := t0) hi, h2] at this
    cases this
theorem never_none {t : T} (h1 : ∀ i, i < t.kids.length → neverT (t.kids.getD i t0) = false) (h2 : ∀ s, s < t.sys.length → (t.sys.getD s br0).face ≠ [] ∧ neverL (t.sys.getD s br0).kids = false) : neverT t = false := by
  cases hn : neverT t with
  | false => rfl
  | true =>
    rcases neverT_iff.mp hn with h | h
    · rw [neverL_none h1] at h; cases h
    · obtain ⟨b, hb, h3⟩ := neverB_mem.mp h
      obtain ⟨i, hi, rfl⟩ := List.mem_iff_getElem.mp hb
      have h4 := h2 i hi
      rw [getD_get (d := br0) hi] at h4
      rcases h3 with h3 | h3
      · exact absurd h3 h4.1
      · rw [h4.2] at h3; cases h3
/-! ### One way, and then another one, where no face is never -/
section
variable {CA CB CC : Type} {A : Tr CA} {B : Tr CB} {D : Tr CC} (R : CA → CB → CC → Prop)
structure FuseN : Prop where
  inl : ∀ ca cb cc k n nm r u, R ca cb cc → headOK k n nm r → A.own ca k n nm r = .ok (.inl u) → D.own cc k n nm r = (trav B u cb).bind fun w => .ok (.inl w)
  inr : ∀ ca cb cc k n nm r p, R ca cb cc → headOK k n nm r → A.own ca k n nm r = .ok (.inr p) → B.own cb k p.1 nm p.2 = D.own cc k n nm r
  none : ∀ ca cb cc f, R ca cb cc → faceRight f = true → f ≠ [] → A.face ca f = .ok none → D.face cc f = .ok none
  some : ∀ ca cb cc f f', R ca cb cc → faceRight f = true → f ≠ [] → A.face ca f = .ok (some f') → B.face cb f' = D.face cc f
  kid : ∀ ca cb cc b ca', 0 ≤ b.1 → 0 ≤ b.2 → R ca cb cc → A.kid ca b = .ok ca' → (∃ cb' cc', B.kid cb b = .ok cb' ∧ D.kid cc b = .ok cc' ∧ R ca' cb' cc') ∨ ∃ e, B.kid cb b = .bad e ∧ D.kid cc b = .bad e
variable {R}
mutual
theorem fuseN (F : FuseN (A := A) (B := B) (D := D) R) : ∀ {t u : T} {ca : CA} {cb : CB} {cc : CC}, fineT t → neverT t = false → R ca cb cc → trav A t ca = .ok u → trav B u cb = trav D t cc
  | .mk k n nm r ks ss, u, ca, cb, cc, h, hv, hr, hu => by
    simp only [neverT, Bool.or_eq_false_iff] at hv
    simp only [fineT] at h
    obtain ⟨h1, h2, h3, h4, h5⟩ := h
    rw [trav_eq] at hu
    simp only [T.kind, T.n, T.name, T.r, T.kids, T.sys] at hu
    obtain ⟨o, h9, hu⟩ := Res1.bind_ok hu
    cases o with
    | inl v =>
      injection hu with hu
      subst hu
      conv => rhs; rw [trav_eq]
      simp only [T.kind, T.n, T.name, T.r, T.kids, T.sys]
      rw [F.inl _ _ _ _ _ _ _ _ hr h1 h9]
      cases trav B v cb <;> rfl
    | inr p =>
      obtain ⟨ks', h10, hu⟩ := Res1.bind_ok hu
      obtain ⟨ss', h11, hu⟩ := Res1.bind_ok hu
      injection hu with hu
      subst hu
      rw [trav_eq, trav_eq]
      simp only [T.kind, T.n, T.name, T.r, T.kids, T.sys]
      rw [F.inr _ _ _ _ _ _ _ _ hr h1 h9, fuseNL F h4 hv.1 hr h10, fuseNB F h5 hv.2 hr h11]
theorem fuseNL (F : FuseN (A := A) (B := B) (D := D) R) {kd : Int} : ∀ {ts us : List T} {i : Nat} {ca : CA} {cb : CB} {cc : CC}, fineL ts → neverL ts = false → R ca cb cc → travL A kd i ts ca = .ok us → travL B kd i us cb = travL D kd i ts cc
  | [], us, i, ca, cb, cc, h, hv, hr, hu => by rw [travL_nil] at hu; injection hu with hu; subst hu; rw [travL_nil, travL_nil]
  | t :: ts, us, i, ca, cb, cc, h, hv, hr, hu => by
    simp only [neverL, Bool.or_eq_false_iff] at hv
    simp only [fineL] at h
    rw [travL_cons] at hu
    obtain ⟨c', h1, hu⟩ := Res1.bind_ok hu
    obtain ⟨t', h2, hu⟩ := Res1.bind_ok hu
    obtain ⟨ts', h3, hu⟩ := Res1.bind_ok hu
    injection hu with hu
    subst hu
    rw [travL_cons, travL_cons]
    rcases F.kid _ _ _ _ _ (binds_01 _ _).1 (binds_01 _ _).2.2.1 hr h1 with ⟨cb', cc', e1, e2, hr'⟩ | ⟨e, e1, e2⟩
    · rw [e1, e2]
      simp only [Res1.bind]
      rw [fuseN F h.1 hv.1 hr' h2, fuseNL F h.2 hv.2 hr h3]
    · rw [e1, e2]; rfl
theorem fuseNS (F : FuseN (A := A) (B := B) (D := D) R) {kd : Int} : ∀ {ts us : List T} {ca : CA} {cb : CB} {cc : CC}, fineL ts → neverL ts = false → R ca cb cc → travS A kd ts ca = .ok us → travS B kd us cb = travS D kd ts cc
  | [], us, ca, cb, cc, h, hv, hr, hu => by rw [travS_nil] at hu; injection hu with hu; subst hu; rw [travS_nil, travS_nil]
  | t :: ts, us, ca, cb, cc, h, hv, hr, hu => by
    simp only [neverL, Bool.or_eq_false_iff] at hv
    simp only [fineL] at h
    rw [travS_cons] at hu
    obtain ⟨c', h1, hu⟩ := Res1.bind_ok hu
    obtain ⟨t', h2, hu⟩ := Res1.bind_ok hu
    obtain ⟨ts', h3, hu⟩ := Res1.bind_ok hu
    injection hu with hu
    subst hu
    rw [travS_cons, travS_cons]
    rcases F.kid _ _ _ _ _ (Int.le_refl 0) (more_01 _).1 hr h1 with ⟨cb', cc', e1, e2, hr'⟩ | ⟨e, e1, e2⟩
    · rw [e1, e2]
      simp only [Res1.bind]
      rw [fuseN F h.1 hv.1 hr' h2, fuseNS F h.2 hv.2 hr h3]
    · rw [e1, e2]; rfl
theorem fuseNB (F : FuseN (A := A) (B := B) (D := D) R) {kd : Int} : ∀ {bs us : List Br} {ca : CA} {cb : CB} {cc : CC}, fineB kd bs → neverB bs = false → R ca cb cc → travB A kd bs ca = .ok us → travB B kd us cb = travB D kd bs cc
  | [], us, ca, cb, cc, h, hv, hr, hu => by rw [travB_nil] at hu; injection hu with hu; subst hu; rw [travB_nil, travB_nil]
  | .mk f ks :: bs, us, ca, cb, cc, h, hv, hr, hu => by
    simp only [neverB, Bool.or_eq_false_iff, decide_eq_false_iff_not] at hv
    simp only [fineB] at h
    obtain ⟨h1, h2, h3, h4⟩ := h
    rw [travB_cons] at hu
    simp only [Br.face, Br.kids] at hu
    obtain ⟨o, h5, hu⟩ := Res1.bind_ok hu
    cases o with
    | none =>
      rw [fuseNB F h4 hv.2 hr hu]
      conv => rhs; rw [travB_cons]
      simp only [Br.face, Br.kids]
      rw [F.none _ _ _ _ hr h2 hv.1.1 h5]
      rfl
    | some f' =>
      obtain ⟨ks', h6, hu⟩ := Res1.bind_ok hu
      obtain ⟨bs', h7, hu⟩ := Res1.bind_ok hu
      injection hu with hu
      subst hu
      rw [travB_cons, travB_cons]
      simp only [Br.face, Br.kids]
      rw [F.some _ _ _ _ _ hr h2 hv.1.1 h5, fuseNS F h3 hv.1.2 hr h6, fuseNB F h4 hv.2 hr h7]
end
end
end Go.Hy
namespace Go.Hy
/-! ### Small formulas in a dimension's place are always told -/
theorem foldF_told {g : List Cl → Cl → EL} {L : List Cl} {I : Nat → List Cl → Prop} (hs : ∀ n c h, c ∈ L → n < L.length → I n h → (g h c).1 = 0 ∧ I (n + 1) (g h c).2) : ∀ (m : List Cl) (n : Nat) (h : List Cl), I n h → (∀ c, c ∈ m → c ∈ L) → n + m.length ≤ L.length → (foldF g h m).1 = 0 ∧ I (n + m.length) (foldF g h m).2
  | [], n, h, hi, _, _ => ⟨rfl, hi⟩
  | c :: m, n, h, hi, hm, hl => by
    rw [List.length_cons] at hl
    obtain ⟨h1, h2⟩ := hs n c h (hm c List.mem_cons_self) (by omega) hi
    rw [foldF, bindE_ok h1]
    obtain ⟨h3, h4⟩ := foldF_told hs m (n + 1) _ h2 (fun d hd => hm d (List.mem_cons_of_mem _ hd)) (by omega)
    refine ⟨h3, ?_⟩
    rw [List.length_cons, show n + (m.length + 1) = n + 1 + m.length by omega]
    exact h4
def tiny (x : EL) : Prop := x.1 = 0 ∧ x.2.length ≤ 1 ∧ x.2.all right24 = true
theorem least_all {l : List Cl} (h : l.all right24 = true) (h0 : (leastF l).1 = 0) : (leastF l).2.all right24 = true ∧ (leastF l).2.length ≤ l.length := by
  rcases leastF_cases l with ⟨_, _, h2, _⟩ | h2 | h2
  · rw [h2]
    exact ⟨List.all_eq_true.mpr fun c hc => List.all_eq_true.mp h c (refLeast_mem.mp hc).1, rlLen l⟩
  · rw [h2] at h0; cases h0
  · rw [h2] at h0; cases h0
theorem tiny_least {l : List Cl} (h : l.all right24 = true) (h2 : l.length ≤ 1) : tiny (leastF l) := by
  have h0 := leastF_told h (by omega)
  obtain ⟨h3, h4⟩ := least_all h h0
  exact ⟨h0, by omega, h3⟩
theorem right24_meet {a b : Cl} (h : right24 a = true) (h2 : right24 b = true) : right24 (meetC a b) = true := by
  obtain ⟨a1, a2⟩ := right24_iff.mp h
  obtain ⟨b1, b2⟩ := right24_iff.mp h2
  exact right24_iff.mpr ⟨Nat.or_lt_two_pow (n := 24) a1 b1, Nat.or_lt_two_pow (n := 24) a2 b2⟩
theorem all_meetL {f g : List Cl} (h : f.all right24 = true) (h2 : g.all right24 = true) : (meetL f g).all right24 = true := List.all_eq_true.mpr fun c hc => by
  obtain ⟨a, ha, hc⟩ := List.mem_flatMap.mp hc
  obtain ⟨b, hb, rfl⟩ := List.mem_map.mp hc
  exact right24_meet (List.all_eq_true.mp h a ha) (List.all_eq_true.mp h2 b hb)
theorem tiny_meet {f g : List Cl} (h : f.all right24 = true) (h2 : g.all right24 = true) (l1 : f.length ≤ 1) (l2 : g.length ≤ 1) : tiny (meetF f g) :=
  tiny_least (all_meetL h h2) (by rw [meetL_len]; exact Nat.le_trans (Nat.mul_le_mul l1 l2) (by omega))
theorem one_all (c : Cl) (i : Int) : [takeC c i].all right24 = true := by simp [right24_take]
theorem all_app {f g : List Cl} (h : f.all right24 = true) (h2 : g.all right24 = true) : (f ++ g).all right24 = true := by rw [List.all_append, h, h2]; rfl
theorem all_calm {f : List Cl} (h : f.all right24 = true) : (calmL f).all right24 = true ∧ (calmL f).length ≤ f.length := ⟨List.all_eq_true.mpr fun c hc => List.all_eq_true.mp h c (List.mem_filter.mp hc).1, List.length_filter_le _ _⟩
theorem formPut_told {f r : List Cl} {i : Int} (hf : fRight f = true) (hi : 0 ≤ i ∧ i < 24) (hr : fRight r = true) (h1 : r.length ≤ 1) (h2 : tiny (notF r)) : (formPut f i r).1 = 0 := by
  unfold formPut
  rw [if_neg (by simp [hf, hr]), if_neg (by unfold isDim; simp; omega)]
  have hr24 := fR_all hr
  refine (foldF_told (g := putStep i r) (L := f) (I := fun n h => h.length ≤ n ∧ h.all right24 = true) (fun n c h hc hn hi => ?_) f 0 [] ⟨Nat.le_refl _, rfl⟩ (fun c hc => hc) (by omega)).1
  have hlen := len_right hf
  have a1 : tiny (putPos i r c) := by
    unfold putPos
    split
    · exact tiny_meet (one_all c i) hr24 (by simp) h1
    · exact ⟨rfl, by simp, one_all c i⟩
  have a2 : tiny (putNeg i r c (putPos i r c).2) := by
    unfold putNeg
    split
    · rw [bindE_ok h2.1]; exact tiny_meet a1.2.2 h2.2.2 a1.2.1 h2.2.1
    · exact ⟨rfl, a1.2⟩
  unfold putStep
  rw [bindE_ok a1.1, bindE_ok a2.1]
  unfold joinF
  have h3 := all_app hi.2 a2.2.2
  have h4 : (leastF (h ++ (putNeg i r c (putPos i r c).2).2)).1 = 0 := leastF_told h3 (by rw [List.length_append]; have := a2.2.1; have := hi.1; omega)
  obtain ⟨h5, h6⟩ := least_all h3 h4
  refine ⟨h4, ?_, h5⟩
  rw [List.length_append] at h6
  have := a2.2.1
  have := hi.1
  omega
theorem notF_right {f : List Cl} (h : (notF f).1 = 0) : fRight (notF f).2 = true :=
  foldF_inv (g := notStep) (L := f) (I := fun pre h => fRight h = true) (fun pre c h hc hi h0 => by
    unfold notStep at h0 ⊢
    obtain ⟨a1, a2, a3⟩ := bindE_zero h0
    rw [a3]
    exact leastF_fR a2) f [] [cl0] (by decide) (fun c hc => hc) h
theorem facePut_told {f r : List Cl} {i : Int} (hf : faceRight f = true) (hi : 0 ≤ i ∧ i < 24) (hr : fRight r = true) (h1 : r.length ≤ 1) (h2 : tiny (notF r)) : (facePut f i r).1 = 0 := by
  unfold facePut
  rw [if_neg (by unfold isDim; simp [hf, hr]; omega)]
  have hr24 := fR_all hr
  have hff := (face_calm hf).1
  have hlen := len_right hff
  refine (foldF_told (g := faceStep i r) (L := f) (I := fun n h => h.length ≤ n ∧ h.all right24 = true) (fun n c h hc hn hi => ?_) f 0 [] ⟨Nat.le_refl _, rfl⟩ (fun c hc => hc) (by omega)).1
  have key : ∀ x : EL, tiny x → tiny (meetA [takeC c i] x.2) := fun x hx => by
    rw [meetA_one]
    have h3 : (x.2.map fun b => meetC (takeC c i) b).all right24 = true := List.all_eq_true.mpr fun d hd => by
      obtain ⟨b, hb, rfl⟩ := List.mem_map.mp hd
      exact right24_meet (right24_take c i) (List.all_eq_true.mp hx.2.2 b hb)
    have h4 := all_calm h3
    exact tiny_least h4.1 (Nat.le_trans h4.2 (by rw [List.length_map]; exact hx.2.1))
  have ofT : ∀ x : List Cl, fRight x = true → x.length ≤ 1 → tiny (ofF x) := fun x hx hl => by
    unfold ofF
    rw [if_pos hx]
    have h4 := all_calm (fR_all hx)
    exact tiny_least h4.1 (Nat.le_trans h4.2 hl)
  have zeroT : tiny (ofZero r) := by
    unfold ofZero notR
    rw [if_pos hr, bindE_ok h2.1]
    exact ofT _ (notF_right h2.1) h2.2.1
  have a1 : tiny (facePart i r c) := by
    unfold facePart
    split
    · rw [bindE_ok (ofT r hr h1).1]; exact key _ (ofT r hr h1)
    · split
      · rw [bindE_ok zeroT.1]; exact key _ zeroT
      · exact ⟨rfl, by simp, one_all c i⟩
  unfold faceStep
  rw [bindE_ok a1.1]
  unfold joinF
  have h3 := all_app hi.2 a1.2.2
  have h4 : (leastF (h ++ (facePart i r c).2)).1 = 0 := leastF_told h3 (by rw [List.length_append]; have := a1.2.1; have := hi.1; omega)
  obtain ⟨h5, h6⟩ := least_all h3 h4
  refine ⟨h4, ?_, h5⟩
  rw [List.length_append] at h6
  have := a1.2.1
  have := hi.1
  omega
theorem fR_one {c : Cl} (h : right24 c = true) : fRight [c] = true := by
  unfold fRight
  simp [h, sortedC, apart]
theorem listM_bit {i : Int} (h : 0 ≤ i ∧ i < 24) : listM (bitM i) = [i] := by
  refine sorted_ext (listTo_sorted _ _) (List.pairwise_singleton _ _) fun x => ?_
  rw [mem_listM, List.mem_singleton]
  constructor
  · rintro ⟨h1, h2, h3⟩
    have := (bitM_bit.mp h3).2
    omega
  · rintro rfl
    exact ⟨h.1, h.2, bitM_bit.mpr ⟨h, by omega⟩⟩
def dimC (i : Int) : Cl := ⟨bitM i, 0⟩
theorem right24_dim (i : Int) : right24 (dimC i) = true := right24_iff.mpr ⟨bitM_lt i, by show (0 : Nat) < _; omega⟩
theorem tiny_one {o : List Cl} (h : o.all right24 = true) (h2 : o.length ≤ 1) : tiny (bindE (leastF o) fun x => meetF [cl0] x) := by
  have h1 := tiny_least h h2
  rw [bindE_ok h1.1]
  exact tiny_meet (by decide) h1.2.2 (by simp) h1.2.1
theorem tiny_single {c : Cl} (h : (oppL c).length ≤ 1) (h2 : (oppL c).all right24 = true) : tiny (notF [c]) := by
  have h3 := tiny_one h2 h
  have e : notF [c] = bindE (notStep [cl0] c) fun h' => foldF notStep h' [] := rfl
  have e2 : notStep [cl0] c = bindE (leastF (oppL c)) fun x => meetF [cl0] x := rfl
  rw [e, e2, bindE_ok h3.1]
  exact ⟨rfl, h3.2⟩
theorem tiny_not_dim {i : Int} (h : 0 ≤ i ∧ i < 24) : tiny (notF [dimC i]) := by
  refine tiny_single ?_ ?_
  · unfold oppL dimC
    rw [show listM (⟨bitM i, 0⟩ : Cl).pos = [i] from listM_bit h, show listM (⟨bitM i, 0⟩ : Cl).neg = [] from (by decide : listM 0 = [])]
    simp
  · unfold oppL dimC
    rw [show listM (⟨bitM i, 0⟩ : Cl).pos = [i] from listM_bit h, show listM (⟨bitM i, 0⟩ : Cl).neg = [] from (by decide : listM 0 = [])]
    simp only [List.map_cons, List.map_nil, List.append_nil, List.all_cons, List.all_nil, Bool.and_true]
    exact right24_iff.mpr ⟨by show (0 : Nat) < _; omega, bitM_lt i⟩
theorem lift_dim {i d : Int} (hi : 0 ≤ i) (hd : 0 ≤ d) (h : i + d < 24) : formLift [dimC i] 0 d = (0, [dimC (i + d)]) := by
  have h1 : maskLift (bitM i) 0 d = (0, bitM (i + d)) := by
    rw [mask_good (by omega) hd (fun x hx => by rw [listM_bit ⟨hi, by omega⟩, List.mem_singleton] at hx; right; omega), listM_bit ⟨hi, by omega⟩]
    unfold bitM
    rw [if_pos ⟨by omega, h⟩]
    simp [setM, shI, if_neg (show ¬ i < 0 by omega)]
  have h0 : maskLift 0 0 d = (0, 0) := by
    rw [mask_good (by omega) hd (fun x hx => by have : listM 0 = [] := by decide
                                                rw [this] at hx; cases hx), show listM 0 = [] by decide]
    rfl
  have h2 : clLift (dimC i) 0 d = (0, dimC (i + d)) := by
    unfold clLift
    rw [if_neg (by rw [right24_dim]; simp), show (dimC i).pos = bitM i from rfl, show (dimC i).neg = 0 from rfl, h1, h0]
    simp [dimC]
  have h3 : foldC (fun c => clLift c 0 d) [dimC i] = (0, [dimC (i + d)]) := by
    rw [foldC_ok (fun j hj => by have : j = 0 := by simpa using hj
                                 subst this; rw [show ([dimC i] : List Cl).getD 0 cl0 = dimC i from rfl, h2]), List.map_cons, List.map_nil, h2]
  unfold formLift
  rw [if_neg (by rw [fR_one (right24_dim i)]; simp), h3, if_neg (by simp)]
  exact leastF_fRight.mp (fR_one (right24_dim _))
/-! A dimension's own formula in its place. -/
theorem sat_dim {i : Int} {P N : Wd} (h : 0 ≤ i ∧ i < 24) : sat [dimC i] P N ↔ P i.toNat := by
  rw [sat_single]
  unfold satC dimC
  simp only [bitM_bit, Nat.zero_testBit]
  constructor
  · intro h1; exact h1.1 i.toNat ⟨h, by omega⟩
  · intro h1; exact ⟨fun j hj => (show i.toNat = j by omega) ▸ h1, fun j hj => (by cases hj)⟩
theorem ovr_self {P : Wd} {i : Int} {A : Prop} (h : 0 ≤ i) (hA : A ↔ P i.toNat) (j : Nat) : ovr P i A j ↔ P j := by
  unfold ovr
  split
  · rename_i e; rw [hA, show i.toNat = j by omega]
  · exact Iff.rfl
theorem self_form {f : List Cl} {j : Int} (hf : fRight f = true) (hj : 0 ≤ j ∧ j < 24) : formPut f j [dimC j] = (0, f) := by
  have h0 := formPut_told hf hj (fR_one (right24_dim j)) (by simp) (tiny_not_dim hj)
  refine Prod.ext h0 (form_ext (formPut_fR h0) hf fun P N => ?_)
  rw [(sat_formPut (P := P) (N := N) h0).2.2.2]
  refine sat_congr (fun c hc => List.all_eq_true.mp (fR_all hf) c hc) (fun k _ => ovr_self hj.1 (sat_dim hj) k) (fun k _ => ovr_self hj.1 ?_ k)
  rw [sat_dim hj]
  exact Classical.not_not
theorem self_face {f : List Cl} {j : Int} (hf : faceRight f = true) (hj : 0 ≤ j ∧ j < 24) : facePut f j [dimC j] = (0, f) := by
  have h0 := facePut_told hf hj (fR_one (right24_dim j)) (by simp) (tiny_not_dim hj)
  obtain ⟨_, _, _, h1, h2⟩ := sat_facePut h0
  refine Prod.ext h0 (face_ext h1 hf fun P N hw => ?_)
  rw [h2 P N hw]
  refine sat_congr (fun c hc => List.all_eq_true.mp (fR_all (face_calm hf).1) c hc) (fun k _ => ovr_self hj.1 (sat_dim hj) k) (fun k _ => ovr_self hj.1 ?_ k)
  rw [sat_dim hj]
  exact Classical.not_not
theorem self_row {P : List Cl → Int → List Cl → EL} {i d : Int} {f : List Cl} (hP : ∀ j, 0 ≤ j ∧ j < 24 → P f j [dimC j] = (0, f)) (hi : 0 ≤ i) (hd : 0 ≤ d) : rowPut P i [dimC i] d f = (0, f) := by
  unfold rowPut
  split
  · rfl
  · rename_i h
    have hj : 0 ≤ i + d ∧ i + d < 24 := by
      unfold hasM at h
      simp only [Bool.not_eq_false, Bool.and_eq_true, decide_eq_true_eq] at h
      exact h.1
    rw [lift_dim hi hd hj.2, bindE_ok rfl]
    exact hP _ hj
/-- A row of a node that may be. -/
theorem head_cases {k n : Int} {nm : ByteArray} {r : List Cl} (h : headOK k n nm r) : (k = 14 → faceRight r = true) ∧ fRight r = true := by
  obtain ⟨_, _, h3, h4, h5, h6, h7⟩ := h
  refine ⟨h6, ?_⟩
  by_cases e : k = 13 ∨ k = 21 ∨ k = 26
  · exact h5 e
  · by_cases e2 : k = 14
    · exact (face_calm (h6 e2)).1
    · rw [h7 (by omega)]; decide
theorem fuse_id_rows {W : RowsW} (hform : ∀ d r, 0 ≤ d → fRight r = true → W.form d r = (0, r)) (hface : ∀ d r, 0 ≤ d → faceRight r = true → W.face d r = (0, r)) : FuseN (A := idTr) (B := rowsTr W) (D := idTr) (fun _ d _ => 0 ≤ d) where
  inl := fun ca cb cc k n nm r u _ _ h => (by injection h with h; cases h)
  inr := by
    rintro ca cb cc k n nm r p hd hk h
    injection h with h
    injection h with h
    subst h
    obtain ⟨h1, h2⟩ := head_cases hk
    have e : W.row k cb r = (0, r) := by
      unfold RowsW.row
      split
      · rename_i e; exact hface _ _ hd (h1 e)
      · exact hform _ _ hd h2
    rw [rows_own_inr.mpr ⟨e, rfl⟩]
    rfl
  none := fun ca cb cc f _ _ _ h => (by injection h with h; cases h)
  some := by
    rintro ca cb cc f f' hd hf hn h
    injection h with h
    injection h with h
    subst h
    rw [rows_face_some_iff.mpr ⟨hface _ _ hd hf, hn⟩]
    rfl
  kid := by
    rintro ca cb cc b ca' hb1 hb2 hd h
    exact .inl ⟨_, _, rfl, rfl, by omega⟩
theorem dims_self {t : T} {i : Int} (hf : formedP t = 0) (hn : neverT t = false) (hi : 0 ≤ i ∧ i < 24) : dimsPut t i [dimC i] = (0, t) := by
  have hfine := (formed_fine.mp hf).2
  have hw : dimsWrong t i [dimC i] = 0 := by
    unfold dimsWrong
    rw [if_neg (by simp [hf]), if_neg (by unfold isDim; rw [fR_one (right24_dim i)]; simp; omega)]
  unfold dimsPut
  rw [if_neg (by simp [hw])]
  have h := fuseN (fuse_id_rows (W := putW i [dimC i]) (fun d r hd hr => self_row (fun j hj => self_form hr hj) hi.1 hd) (fun d r hd hr => self_row (fun j hj => self_face hr hj) hi.1 hd)) hfine hn (cb := (0 : Int)) (cc := ()) (Int.le_refl 0) (id_eq t)
  show asRes _ = _
  rw [h, id_eq t]
  rfl
end Go.Hy
namespace Go.Hy
/-! ### What was lifted, and then taken out again -/
theorem least_ne {l : List Cl} (h : l ≠ []) (h0 : (leastF l).1 = 0) : (leastF l).2 ≠ [] := by
  rcases leastF_cases l with ⟨_, _, h2, _⟩ | h2 | h2
  · rw [h2]
    cases l with
    | nil => exact absurd rfl h
    | cons c l =>
      obtain ⟨d, hd, _⟩ := least_cover _ c (Nat.le_refl _) (List.mem_cons_self (a := c) (l := l))
      intro e
      rw [e] at hd
      cases hd
  · rw [h2] at h0; cases h0
  · rw [h2] at h0; cases h0
theorem rowLift_ne {b f : Int} {l g : List Cl} (h : rowLift b l f = .ok g) (hl : l ≠ []) : g ≠ [] := by
  unfold rowLift at h
  split at h
  · injection h with h; subst h; exact hl
  · split at h
    · rename_i h1
      injection h with h
      subst h
      obtain ⟨_, _, h3⟩ := formLift_cases h1
      rw [h3] at h1 ⊢
      exact least_ne (by simpa using hl) h1
    · cases h
theorem drop_lift {l g : List Cl} {i d : Int} (hl : fRight l = true) (h0 : 0 ≤ i + d) (h : rowLift 1 l (i + d) = .ok g) : dropRow i d g = (0, l) := by
  have hg := rowLift_fR h hl
  have h24 := fR_all hg
  have hall : (g.map fun c => (⟨dropM c.pos (i + d), dropM c.neg (i + d)⟩ : Cl)).all right24 = true := List.all_eq_true.mpr fun c hc => by
    obtain ⟨e, _, rfl⟩ := List.mem_map.mp hc
    exact right24_iff.mpr ⟨dropM_lt _ _, dropM_lt _ _⟩
  have ht : (dropRow i d g).1 = 0 := leastF_told hall (by rw [List.length_map]; exact len_right hg)
  refine Prod.ext ht (form_ext (leastF_fR ht) hl fun P N => ?_)
  rw [sat_drop (fun c hc => List.all_eq_true.mp h24 c hc) h0 ht]
  unfold rowLift at h
  split at h
  · rename_i h1
    injection h with h
    subst h
    have hf : 24 ≤ i + d := by omega
    refine sat_congr (fun c hc => List.all_eq_true.mp h24 c hc) (fun j hj => ?_) (fun j hj => ?_) <;> (unfold drW; rw [if_pos (by omega)])
  · split at h
    · rename_i h1 h2
      injection h with h
      subst h
      rw [sat_lift h2]
      have key : ∀ (Q : Wd) (j : Nat), shW (drW Q (i + d)) (i + d) 1 j ↔ Q j := by
        intro Q j
        unfold shW
        split
        · rename_i h3
          unfold drW
          rw [if_pos h3]
        · rename_i h3
          unfold drW
          rw [if_neg (by omega), if_neg (by omega)]
          exact Iff.rfl
      exact sat_congr (fun c hc => List.all_eq_true.mp (fR_all hl) c hc) (fun j _ => key P j) (fun j _ => key N j)
    · cases h
theorem lift_no_dim {l g : List Cl} {k : Int} (h0 : 0 ≤ k) (h : rowLift 1 l k = .ok g) : hasM (fDims g) k = false := by
  cases hh : hasM (fDims g) k with
  | false => rfl
  | true =>
    unfold hasM at hh
    simp only [Bool.and_eq_true, decide_eq_true_eq] at hh
    obtain ⟨j, _, _, h1⟩ := rowLift_from h0 h hh.2
    rcases h1 with ⟨h1, h2⟩ | ⟨h1, h2⟩
    · omega
    · omega
theorem put_none {P : List Cl → Int → List Cl → EL} {i d : Int} {r f : List Cl} (h : hasM (fDims f) (i + d) = false) : rowPut P i r d f = (0, f) := by
  unfold rowPut
  rw [if_pos h]
def RL (i : Int) (ca : Int × Int) (d : Int) : Prop := 0 ≤ d ∧ ca.2 = i + d
theorem fuse_lift_put {i : Int} {r : List Cl} (hi : 0 ≤ i) : FuseN (A := liftTr 0 1) (B := rowsTr (putW i r)) (D := liftTr 0 1) (fun ca d cc => RL i ca d ∧ cc = ca) where
  inl := fun ca cb cc k n nm r u _ _ h => absurd h lift_own_inl
  inr := by
    rintro ca d cc k n nm rr p ⟨⟨hd, hc⟩, rfl⟩ hk h
    have h0 := h
    rw [lift_own_eq] at h
    obtain ⟨g, hg, h2⟩ := Res1.bind_ok (x := rowLift 1 rr cc.2) h
    split at h2
    · cases h2
    · injection h2 with h2
      injection h2 with h2
      subst h2
      rw [hc] at hg
      have hn := lift_no_dim (by omega) hg
      have e : (putW i r).row k d g = (0, g) := by
        unfold RowsW.row
        split
        · exact put_none hn
        · exact put_none hn
      rw [rows_own_inr.mpr ⟨e, rfl⟩, h0]
  none := by
    rintro ca d cc f ⟨⟨hd, hc⟩, rfl⟩ hf hne h
    rw [lift_face_def] at h
    obtain ⟨g, _, h2⟩ := Res1.bind_ok (x := rowLift 1 f cc.2) h
    injection h2 with h2
  some := by
    rintro ca d cc f f' ⟨⟨hd, hc⟩, rfl⟩ hf hne h
    have h0 := h
    rw [lift_face_def] at h
    obtain ⟨g, hg, h2⟩ := Res1.bind_ok (x := rowLift 1 f cc.2) h
    injection h2 with h2
    injection h2 with h2
    subst h2
    rw [hc] at hg
    rw [rows_face_some_iff.mpr ⟨put_none (lift_no_dim (by omega) hg), rowLift_ne hg hne⟩, h0]
  kid := by
    rintro ca d cc b ca' hb1 hb2 ⟨⟨hd, hc⟩, rfl⟩ h
    refine .inl ⟨_, _, rfl, h, ⟨by omega, ?_⟩, rfl⟩
    injection h with h
    rw [← h]
    dsimp only
    omega
theorem fuse_lift_drop {i : Int} (hi : 0 ≤ i) : FuseN (A := liftTr 0 1) (B := rowsTr (dropW i)) (D := idTr) (fun ca d _ => RL i ca d) where
  inl := fun ca cb cc k n nm r u _ _ h => absurd h lift_own_inl
  inr := by
    rintro ca d cc k n nm r p ⟨hd, hc⟩ hk h
    rw [lift_own_eq] at h
    obtain ⟨g, hg, h2⟩ := Res1.bind_ok (x := rowLift 1 r ca.2) h
    split at h2
    · cases h2
    · injection h2 with h2
      injection h2 with h2
      subst h2
      rw [hc] at hg
      have e : (dropW i).row k d g = (0, r) := by
        have h5 := drop_lift (head_cases hk).2 (by omega) hg
        unfold RowsW.row
        split
        · exact h5
        · exact h5
      rw [rows_own_ok (by rw [e]), e]
      show (Res1.ok (Sum.inr (liftN 0 ca.1 k n, r)) : Res1 (T ⊕ (Int × List Cl))) = Res1.ok (Sum.inr (n, r))
      unfold liftN
      split <;> simp
  none := by
    rintro ca d cc f ⟨hd, hc⟩ hf hne h
    rw [lift_face_def] at h
    obtain ⟨g, _, h2⟩ := Res1.bind_ok (x := rowLift 1 f ca.2) h
    injection h2 with h2
    cases h2
  some := by
    rintro ca d cc f f' ⟨hd, hc⟩ hf hne h
    rw [lift_face_def] at h
    obtain ⟨g, hg, h2⟩ := Res1.bind_ok (x := rowLift 1 f ca.2) h
    injection h2 with h2
    injection h2 with h2
    subst h2
    rw [hc] at hg
    rw [rows_face_some_iff.mpr ⟨drop_lift (face_calm hf).1 (by omega) hg, hne⟩]
    rfl
  kid := by
    rintro ca d cc b ca' hb1 hb2 ⟨hd, hc⟩ h
    refine .inl ⟨_, _, rfl, rfl, ⟨by omega, ?_⟩⟩
    injection h with h
    rw [← h]
    dsimp only
    omega
theorem okE_dim (i : Int) : okE (dimF i) := by
  unfold dimF
  split
  · exact rowOk_one ⟨by have := bitM_lt i; show bitM i < _; omega, by show (0 : Nat) < _; omega⟩
  · exact rowOk_nil
theorem dimF_ok {i : Int} (h : (dimF i).1 = 0) : (0 ≤ i ∧ i < 24) ∧ (dimF i).2 = [dimC i] := by
  unfold dimF at h ⊢
  split at h
  · rename_i h1
    rw [if_pos h1]
    exact ⟨by unfold isDim at h1; simpa using h1, rfl⟩
  · cases h
theorem dims_back {t : T} {i : Int} {r : List Cl} (hf : formedP t = 0) (hn : neverT t = false) (hi : 0 ≤ i ∧ i < 24) (hx : (dimsRes t i 1).1 = 0) (hr : (formLift r i 1).1 = 0) : dimsTake (dimsRes t i 1).2 i r = (0, t) := by
  have hfine := (formed_fine.mp hf).2
  have hal : [i, (1 : Int)].all (fun n => decide (0 ≤ n)) = true := by simp [hi.1]
  obtain ⟨x, hx2⟩ : ∃ x, dimsR t i 1 = .ok x := by
    cases h : dimsR t i 1 with
    | ok x => exact ⟨x, rfl⟩
    | bad e =>
      have h2 : dimsRes t i 1 = (e, t0) := guard_bad hf hal h
      rw [h2] at hx
      have : e ≠ 0 := lift_bad_ne' h
      exact absurd hx this
  have h1 : dimsRes t i 1 = (0, x) := guard_ok hf hal hx2
  rw [h1]
  have hx3 : trav (liftTr 0 1) t (0, i) = .ok x := by
    have h2 : trav (liftTr 0 1) t (0, if 24 < i then 24 else i) = .ok x := hx2
    rwa [if_neg (by omega)] at h2
  have hfx : formedP x = 0 := lift_formed (by omega) hf hx3
  have hfr := (formLift_cases hr).1
  have hw : dimsWrong x i r = 0 := by
    unfold dimsWrong
    rw [if_neg (by simp [hfx]), if_neg (by unfold isDim; simp [hfr]; omega)]
  have hp : walkR (putW i (formLift r i 1).2) x 0 = (0, x) := by
    have h2 := fuseN (fuse_lift_put (i := i) (r := (formLift r i 1).2) hi.1) hfine hn (cb := (0 : Int)) (cc := (0, i)) ⟨⟨Int.le_refl 0, by dsimp only; omega⟩, rfl⟩ hx3
    show asRes _ = _
    rw [h2, hx3]
    rfl
  have hd : walkR (dropW i) x 0 = (0, t) := by
    have h2 := fuseN (fuse_lift_drop (i := i) hi.1) hfine hn (cb := (0 : Int)) (cc := ()) ⟨Int.le_refl 0, by dsimp only; omega⟩ hx3
    show asRes _ = _
    rw [h2, id_eq t]
    rfl
  unfold dimsTake
  rw [if_neg (by simp [hw]), if_neg (by simp [hr]), hp, thenT_ok rfl]
  exact hd
end Go.Hy
namespace Go.Hy
/-! A call of a closure among operations of any order. -/
section
variable {tn : Bool} {pn : Nat} {P : Program} [Tab P] {f : FuncId} {R : Ending → World → Prop} {B : Base} {n : Fz} {K : List Item} {ops : Array Oper} {i : Nat} {l fin : List Nat} {σ : Nat → Value} {Γ : List Fact} {Ms Ms2 : List Res}
variable {dst : Option Tmp} {ty : TypeId}
theorem v_callC {c : FuncId} {args cap al : List Value} {av : Array Operand} {ts : Array TypeId} {g : Operand} {pre : List Fact} {X : Type} {val : X → Value} {N : X → List Fact} {Ms1 : X → List Res}
    (hc : ∀ (args : Array Value) (w : World), (callFunc c args).run P w = .ok (.enter c args) w) (hsp : Spec P c al.toArray pre [] val N Ms1) (kk : ∀ x, NV tn pn P f R B n K ops fin l (putS σ dst (val x)) (N x ++ Γ) (Ms1 x ++ Ms))
    (hg : ev σ g = .func (.func c) #[] cap.toArray := by rfl) (ha : av.toList.map (ev σ) = args := by rfl) (hal : args ++ cap = al := by rfl) (hpre : ∀ F, F ∈ pre → F ∈ Γ := by first | (simp; done) | (simp +contextual; done)) (hd : dstOk n dst = true := by rfl) : NvT tn pn P f R B n K ops fin i l dst (.call { callee := .value g, args := av, argTypes := ts }) ty σ Γ Ms :=
  nv_call (enterC hg ha hc) (hal ▸ hsp) hpre rfl rfl hd kk
end
end Go.Hy
namespace Go.Hy
open Go.RowKit Go.Shelf
/-! ### A range over a function whose body never leaves the loop, and whose iterator may write what it has captured -/
theorem range_all {F : Fence} {n : Nat} {P : Program} {α : Type} {g : Operand} {ps : Array Tmp} {assign body : Code} {Q : Exit → Act → World → Prop} {a : Act} {w : World}
    (hro : F.round = none) (h1 : 1 ≤ n) {gf : Nat} {lb : Array Value} (hg : a.eval g = .func (.func gf) #[] lb) (hFg : F.fn gf) (eg : ∀ args w, (callFunc gf args).run P w = .ok (.enter gf args) w)
    {encs : α → Array Value} (hps : ∀ x, (encs x).size = ps.size) (I : List α → World → Prop) (Px : List α → α → Prop) (Kp : World → World → Prop)
    (hIp : ∀ (pre : List α) (A : World) (l : Nat) (o o0 : Obj), I pre A → A.heap[l]? = some o0 → o0.isCells = false → w.heap.size ≤ l → I pre (A.putObj l o)) (hIa : ∀ (pre : List α) (A : World) (o : Obj), I pre A → w.heap.size ≤ A.heap.size → I pre (A.alloc o)) (h0 : I [] w)
    (hKt : ∀ {A B C : World}, Kp A B → Kp B C → Kp A C) (hKp : ∀ (A : World) (l : Nat) (o o0 : Obj), A.heap[l]? = some o0 → o0.isCells = false → w.heap.size ≤ l → Kp A (A.putObj l o))
    (xs : List α)
    (hit : ∀ (l : Nat) (J : List α → World → Prop) (W1 : World), (∀ pre W, J pre W → I pre W) →
      (∀ pre A B, J pre A → I pre B → (∀ (k : Nat) (o : Obj), A.heap[k]? = some o → o.isCells = false → B.heap[k]? = some o) → J pre B) →
      (∀ pre x W, J pre W → Px pre x → YieldAt F (n - 1 - 1) P l (encs x) W fun e W' => e = .returned (.bool true) ∧ J (pre ++ [x]) W' ∧ Kp W W') → J [] W1 → (∀ (k : Nat), k < w.heap.size → W1.heap[k]? = w.heap[k]?) →
      CallsIn F (n - 1) P gf (#[.func (.yield l) #[] #[]] ++ lb) W1 fun e W' => (∃ v, e = .returned v) ∧ J xs W')
    (a₁ : α → Act)
    (hassign : ∀ (l : Nat) (x : α) (W : World) (K : Act → World → Prop), K (a₁ x) W →
      assign.wpIn (F.inRound l) (n - 1 - 1) P (Exit.then K (fun _ _ _ => False)) { tmps := (ps.zip (encs x)).foldl (fun t (p, v) => t.setIfInBounds p v) a.tmps, defers := [] } W)
    (hbody : ∀ (l : Nat) (pre : List α) (x : α) (W : World), I pre W → Px pre x →
      body.wpIn (F.inRound l) (n - 1 - 1) P (fun e _ W' => e = .normal ∧ KeepsOthers W W' ∧ Kp W W' ∧ I (pre ++ [x]) W') (a₁ x) W)
    (hdone : ∀ (D : Nat) (W : World), w.heap.size ≤ D → I xs W → W.heap[D]? = some (.deferred (some [])) → Q .normal { a with defers := { target := .collected D, args := #[] } :: a.defers } W) :
    (Code.rangeFunc g ps assign body).wpIn F n P Q a w := by
  refine wpIn_rangeFunc ?_
  intro fn hfn
  rw [hro]
  obtain ⟨rec, hrec⟩ : ∃ rec : LoopState → Option Code → Loop, rec = fun st pe => { state := st, pending := pe, fn, tmps := a.tmps, params := ps, assign, body, defers := w.heap.size } := ⟨_, rfl⟩
  obtain ⟨W1, hW1⟩ : ∃ W1, (w.alloc (.deferred (some []))).alloc (.loop (rec .ready none)) = W1 := ⟨_, rfl⟩
  have hL1 : W1.heap[w.heap.size + 1]? = some (.loop (rec .ready none)) := by
    rw [← hW1]; have := World.alloc_heap_new (w.alloc (.deferred (some []))) (.loop (rec .ready none)); rwa [World.size_alloc] at this
  have hK1 : W1.heap[w.heap.size]? = some (.deferred (some [])) := by
    rw [← hW1]; exact (Below.heap_alloc _ _ _ (by simp)).trans (World.alloc_heap_new w _)
  have hI1 : I [] W1 := by rw [← hW1]; exact hIa _ _ _ (hIa _ _ _ h0 (Nat.le_refl _)) (by simp)
  refine ⟨w.heap.size + 1, [{ target := .collected w.heap.size, args := #[] }], W1, { target := .fn (.func gf) lb, args := #[.func (.yield (w.heap.size + 1)) #[] #[]] }, W1, gf,
    #[.func (.yield (w.heap.size + 1)) #[] #[]] ++ lb, W1, ?_, ?_, ?_, ?_, fun _ => h1, ?_⟩
  · rw [← hW1, hrec]; exact run_enterLoop_outer _ _ _ _ _
  · simp only [resolve, hg]
    simp [go_sem]
  · intro f' hf'; simp [Target.leads] at hf'; subst hf'; exact hFg
  · simp [invoke, go_sem, eg]
  · refine (hit (w.heap.size + 1) (fun pre W => I pre W ∧ W.heap[w.heap.size + 1]? = some (.loop (rec .ready none)) ∧ W.heap[w.heap.size]? = some (.deferred (some []))) W1
      (fun pre W h => h.1) (fun pre A B hA hB hk => ⟨hB, hk _ _ hA.2.1 rfl, hk _ _ hA.2.2 rfl⟩) ?_ ⟨hI1, hL1, hK1⟩ (fun k hk => by rw [← hW1]; exact (Below.heap_alloc _ _ _ (by simp; omega)).trans (Below.heap_alloc _ _ _ hk))).mono ?_
    · rintro pre x W ⟨hi, hl, hk⟩ hpx
      have hlt : w.heap.size + 1 < W.heap.size := (Array.getElem?_eq_some_iff.1 hl).1
      have hy := run_yield (P := P) (args := encs x) hl (by rw [hrec]; exact hps x)
      rw [hrec] at hy
      refine ⟨fn, _, assign, body, hy, roundIn_of_wpIn hfn (hassign _ x W _ ⟨_, run_beginRound hl (by rw [hrec]), ?_⟩)⟩
      have hl2 : (W.putObj (w.heap.size + 1) (.loop { rec .ready none with state := .busy })).heap[w.heap.size + 1]? = some (.loop { rec .ready none with state := .busy }) := World.putObj_heap_same hlt
      have hk2 : (W.putObj (w.heap.size + 1) (.loop { rec .ready none with state := .busy })).heap[w.heap.size]? = some (.deferred (some [])) := (World.putObj_heap_other (by omega)).trans hk
      refine wpIn_mono (hbody _ pre x _ (hIp _ _ _ _ _ hi hl rfl (by omega)) hpx) ?_
      rintro e a3 W3 ⟨rfl, hk3, hkp3, hi3⟩
      have hl3 := hk3.same _ _ hl2 rfl
      have hend := run_endRound (P := P) none hl3
      rw [hrec] at hl3 hend
      refine ⟨_, _, hend, rfl, ⟨hIp _ _ _ _ _ hi3 hl3 rfl (by omega), ?_, ?_⟩, hKt (hKt (hKp _ _ _ _ hl rfl (by omega)) hkp3) (hKp _ _ _ _ hl3 rfl (by omega))⟩
      · rw [hrec]; exact World.putObj_heap_same (Array.getElem?_eq_some_iff.1 hl3).1
      · exact (World.putObj_heap_other (by omega)).trans (hk3.same _ _ hk2 rfl)
    · rintro e W2 ⟨⟨v, rfl⟩, hi, hl, hk⟩
      exact ⟨none, _, by have := run_endLoop (P := P) hl (by rw [hrec]; simp); rw [hrec] at this; exact this, hdone _ _ (Nat.le_refl _) (hIp _ _ _ _ _ hi hl rfl (by omega)) ((World.putObj_heap_other (by omega)).trans hk)⟩
end Go.Hy
namespace Go.Hy
open Go.Proofs
set_option maxRecDepth 100000
theorem rsameC (l : List Cl) (a_l : SH) (m : List Cl) (a_m : SH)  : Spec Tryz.prog 21 #[sl a_l (l.length), sl a_m (m.length)] [CL l a_l, CL m a_m] [] (fun _ : Unit => .bool ((decide (l = m)))) (fun _ : Unit => []) (fun _ : Unit => []) := by
  refine spec_go (args := [sl a_l (l.length), sl a_m (m.length)]) Tryz.func21 Tryz.ntmps21 rfl (by exact Nat.le_of_ble_eq_true rfl) fun B hB => ?_
  refine go_openCL (l := l) (a := a_l) (fun hl1 hA1 hU1 => ?_); refine go_openCL (l := m) (a := a_m) (fun hl2 hA2 hU2 => ?_); refine go_seq ?_; refine go_region ⟨_, Tryz.func21⟩ rfl ?_; refine q0 rfl (o_assign ?_); refine rg_nil ?_; refine go_seq ?_; refine go_seq ?_; refine go_region ⟨_, Tryz.func21⟩ rfl ?_; refine q0 rfl (o_move ?_); refine q0 rfl (o_len ?_); refine q0 rfl (o_move ?_); refine q0 rfl (o_len ?_); refine q0 rfl (o_neI ?_); refine rg_nil ?_; refine go_condI (fun h10 => ?_) (fun h10 => ?_)
  · have c10 : (decide ((l.length : Int) ≠ (m.length : Int))) = true := h10
    try simp only [sC, bne_iff_ne, beq_iff_eq, ne_eq] at c10
    have hne : ¬ l = m := fun e => by subst e; simp at h10
    refine go_seq ?_; refine go_region ⟨_, Tryz.func21⟩ rfl ?_; refine q0 rfl (o_assign ?_); refine rg_nil ?_; refine ret1 Tryz.func21 Tryz.results21 wn_ () (by rw [decide_eq_false hne]) (fun w hs => hs.none)
  · have c10 : (decide ((l.length : Int) ≠ (m.length : Int))) = false := h10
    try simp only [sC, bne_iff_ne, beq_iff_eq, ne_eq] at c10
    have hlen : l.length = m.length := by simp at h10; omega
    refine go_skip ?_; refine go_seq ?_; refine go_seq ?_; refine go_region ⟨_, Tryz.func21⟩ rfl ?_; refine q0 rfl (o_assign ?_); refine rg_nil ?_; refine go_block ?_; refine go_loopE (X := Nat) (fun s_ => s_ ≤ l.length ∧ ∀ j, j < s_ → l.getD j cl0 = m.getD j cl0) (fun s_ => [(0, sl a_l (l.length)), (1, sl a_m (m.length)), (5, .int .i64 ((s_ : Int)))]) (fun s_ G_ => G_) (fun s_ => []) (fun s_ => l.length - s_) (0) (⟨by omega, fun j hj => by omega⟩) (by exact ⟨rfl, rfl, rfl, trivial⟩) ?_ ?_
    · exact fun w hs => hs
    · intro i base0 ⟨hi, hok⟩ next0; refine go_seq ?_; refine go_seq ?_; refine go_region ⟨_, Tryz.func21⟩ rfl ?_; refine q0 rfl (o_move ?_); refine q0 rfl (o_move ?_); refine q0 rfl (o_len ?_); refine q0 rfl (o_lss ?_); refine rg_nil ?_; refine go_condI (fun h14 => ?_) (fun h14 => ?_)
      · have c14 : (decide ((i : Int) < (l.length : Int))) = true := h14
        try simp only [sC, bne_iff_ne, beq_iff_eq, ne_eq] at c14
        refine go_skip ?_; refine go_seq ?_; refine go_block ?_; refine go_seq ?_; refine go_draw (pn := 1000000) (tn := false) (A := [0, 0, 3, 7, 0, 0, 48, 112, 255]) (l := [0, 1, 2, 3, 4, 5, 6, 7, 8]) (fin := []) Tab.mixed ⟨_, Tryz.func21⟩ (by rfl) ?_; refine n0 rfl (v_move ?_); refine n0 rfl (v_move ?_); obtain ⟨bk3, o3, hav3⟩ := hA1 (by omega); refine n0 rfl (v_ixN ?_ (j := i)); refine n0 rfl (v_ldC ?_); refine n0 rfl (v_move ?_); refine n0 rfl (v_move ?_); obtain ⟨bk4, o4, hav4⟩ := hA2 (by omega); refine n0 rfl (v_ixN ?_ (j := i)); refine n0 rfl (v_ldC ?_); refine n0 rfl (v_neC ?_ (c := (l.getD i cl0)) (c' := (m.getD i cl0))); refine NV.done ?_; refine rg_nil ?_; refine go_condI (fun h25 => ?_) (fun h25 => ?_)
        · have c25 : (!decide ((l.getD i cl0) = (m.getD i cl0))) = true := h25
          try simp only [sC, bne_iff_ne, beq_iff_eq, ne_eq] at c25
          refine go_seq ?_; refine go_region ⟨_, Tryz.func21⟩ rfl ?_; refine q0 rfl (o_assign ?_); refine rg_nil ?_; refine ret1 Tryz.func21 Tryz.results21 wn_ () (by rw [decide_eq_false (fun e => by subst e; simp at h25)]) (fun w hs => hs.none)
        · have c25 : (!decide ((l.getD i cl0) = (m.getD i cl0))) = false := h25
          try simp only [sC, bne_iff_ne, beq_iff_eq, ne_eq] at c25
          refine go_skip ?_; refine go_inBlock ?_; refine go_region ⟨_, Tryz.func21⟩ rfl ?_; refine q0 rfl (o_move ?_); refine q0 rfl (o_add ?_); refine q0 rfl (o_assign ?_); refine rg_nil ?_; have hb : l.getD i cl0 = m.getD i cl0 := by simpa using h25
          refine go_state (fun w hs => ?_) (next0 (i + 1) _ (⟨by omega, succ_inv hok hb⟩) (by omega) ⟨rfl, rfl, rfl, trivial⟩); exact (hs.less (by simp +contextual))
      · have c14 : (decide ((i : Int) < (l.length : Int))) = false := h14
        try simp only [sC, bne_iff_ne, beq_iff_eq, ne_eq] at c14
        refine go_exit rfl ?_; refine go_seq ?_; refine go_region ⟨_, Tryz.func21⟩ rfl ?_; refine q0 rfl (o_assign ?_); refine rg_nil ?_; refine ret1 Tryz.func21 Tryz.results21 wn_ () (by rw [decide_eq_true (list_eq_of hlen (fun j hj => hok j (by omega)))]) (fun w hs => hs.none)
end Go.Hy
namespace Go.Hy
open Go.Proofs
set_option maxRecDepth 100000
attribute [local go_sem] Oper.semAt_some
open Go.RowKit Go.Shelf
set_option maxHeartbeats 1000000
theorem tz32 (F : Fence) (n : Nat) (hF : F.fn 209) (hro : F.round = none) (r : Nat) (k idx : Nat) (hk : k < 24) (h0 : ((r : Int) == 0) = false)
    (key : bits BinOp.and IntKind.u32 (r : Int) (-(r : Int) % 4294967296) * 125613361 % 4294967296 / 134217728 = (idx : Int)) (hi : idx < 32) (W : World) (hc : W.cell? ⟨0, idx, none⟩ = some (.int .u8 (k : Int))) :
    CallsIn F n Tryz.prog 209 #[.int .u32 (r : Int)] W fun e w' => e = .returned (.int .i64 (k : Int)) ∧ w' = W := by
  refine callsIn_of_wp Tryz.func209 rfl hF ?_ hro; simp only [Tryz.ntmps209, List.size_toArray, List.length_cons, List.length_nil, Nat.reduceAdd, Nat.reduceSub, Array.replicate_succ, Array.replicate_zero, List.push_toArray, List.append_toArray, List.nil_append, List.cons_append]
  gi_wp2_with (simp only [key])
  go_ret
  exact ⟨rfl, rfl⟩
theorem tz32' (F : Fence) (n : Nat) (hF : F.fn 209) (hro : F.round = none) (r : Nat) (h0 : ¬ r = 0) (hr : r < 16777216) (W : World) (hT : TabAt 0 Lib.deBruijn32tab W) :
    CallsIn F n Tryz.prog 209 #[.int .u32 (r : Int)] W fun e w' => e = .returned (.int .i64 (Lib.ctz 32 r : Int)) ∧ w' = W := by
  obtain ⟨hlow, hk⟩ := Lib.lowest_bit 32 r h0 (by omega); obtain ⟨hi, htab⟩ := Lib.deBruijn32_at _ hk; have hcell := hT _ hi; rw [htab] at hcell; exact tz32 F n hF hro r _ _ (listM_low h0 hr).1 (by simp; omega) (tz32_key r _ (by omega) h0 hlow) hi W hcell
theorem in1 (F : Fence) (n : Nat) (h208 : F.fn 208) (h209 : F.fn 209) (hro : F.round = none) (hn : 1 ≤ n) (l g : Nat) (s : Nat) (J : List Int → World → Prop)
    (hY : ∀ pre x W, J pre W → pre.length < 24 → (0 ≤ x ∧ x < 24) → YieldAt F (n - 1) Tryz.prog l #[.int .i64 x] W fun e W' => e = .returned (.bool true) ∧ J (pre ++ [x]) W' ∧ W'.heap[g]? = W.heap[g]?)
    (hT : ∀ pre W, J pre W → TabAt 0 Lib.deBruijn32tab W)
    (hJ : ∀ pre W v, J pre W → J pre (W.setCell ⟨g, 0, none⟩ v))
    (hs : s < 4294967296) (W : World) (hg : Boxed W g 43 (.int .u32 (s : Int))) (h0 : J [] W) :
    CallsIn F n Tryz.prog 208 #[.func (.yield l) #[] #[], .pointer (some ⟨g, 0, none⟩)] W fun e W' => (∃ v, e = .returned v) ∧ J (listM s) W' := by
  refine callsIn_of_wp Tryz.func208 rfl h208 ?_ hro; simp only [Tryz.ntmps208, List.size_toArray, List.length_cons, List.length_nil, Nat.reduceAdd, Nat.reduceSub, Array.replicate_succ, Array.replicate_zero, List.push_toArray, List.append_toArray, List.nil_append, List.cons_append]; have hc := hg.cell; have hf := hg.frozen
  gi_wp2
  gi_loopw [] (fun wr => ∃ (pre : List Int) (r : Nat), listM s = pre ++ listM r ∧ r < 16777216 ∧ Boxed wr g 43 (.int .u32 (r : Int)) ∧ J pre wr)
    (fun wr => match wr.cell? ⟨g, 0, none⟩ with | some (.int _ v) => v.toNat | _ => 0)
  case atStart =>
    refine ⟨[], s &&& 16777215, by rw [List.nil_append, listM_and], by rw [and24]; exact Nat.mod_lt _ (by decide), ?_, hJ _ _ _ h0⟩; rw [← bits_and_u32_nat s 16777215 hs (by decide)]; exact hg.set _
  case round =>
    obtain ⟨pre, r, hx, hr, hb, hj⟩ := hrel; have hc2 := hb.cell; have hf2 := hb.frozen; by_cases hr0 : r = 0
    · subst hr0
      gi_wp2
      go_end0
      exact ⟨⟨_, rfl⟩, by rw [hx, show listM 0 = [] from by decide, List.append_nil]; exact hj⟩
    · obtain ⟨hk, hlist⟩ := listM_low hr0 hr
      have hlen : pre.length < 24 := by
        have h1 := congrArg List.length hx; have h2 : (listM s).length ≤ 24 := listTo_len s 24; rw [List.length_append, hlist, List.length_cons] at h1; omega
      obtain ⟨fn, tmps, assign, body, hy, hR⟩ := hY pre (Lib.ctz 32 r : Int) wr hj hlen (by omega); have hbe : ((r : Int) != 0) = true := by simp; omega
      gi_wp2_with (gi_at_call 209; refine (tz32' F (n - 1) h209 hro r hr0 hr wr (hT _ _ hj)).mono ?_; rintro e w' ⟨rfl, rfl⟩)
      refine hR.mono ?_; rintro e W3 ⟨rfl, hJ3, hg3⟩; have hb3 : Boxed W3 g 43 (.int .u32 (r : Int)) := hg3.trans hb; have hc3 := hb3.cell; have hf3 := hb3.frozen
      gi_wp2
      have e1 : bits BinOp.and IntKind.u32 (r : Int) ((r : Int) - 1) = ((r &&& (r - 1) : Nat) : Int) := by
        rw [show (r : Int) - 1 = ((r - 1 : Nat) : Int) by omega]; exact bits_and_u32_nat r (r - 1) (by omega) (by omega)
      rw [e1]; have hb4 := hb3.set (.int .u32 ((r &&& (r - 1) : Nat) : Int)); have hlt := low_lt hr0
      go_roundw
      case rel => exact ⟨pre ++ [(Lib.ctz 32 r : Int)], r &&& (r - 1), by rw [hx, hlist, List.append_assoc]; rfl, by omega, hb4, hJ _ _ _ hJ3⟩
      case measure =>
        rw [hb4.cell, hc2]; simp only [Int.toNat_natCast]; exact hlt
theorem mk_in (F : Fence) (n : Nat) (h : F.fn 156) (hro : F.round = none) (s : Nat) (w : World) :
    CallsIn F n Tryz.prog 156 #[.int .u32 (s : Int)] w fun e w' => e = .returned (.func (.func 208) #[] #[.pointer (some ⟨w.heap.size, 0, none⟩)]) ∧ w' = w.alloc (.cells #[.int .u32 (s : Int)] 43) := by
  refine callsIn_of_wp Tryz.func156 rfl h ?_ hro; simp only [Tryz.ntmps156, List.size_toArray, List.length_cons, List.length_nil, Nat.reduceAdd, Nat.reduceSub, Array.replicate_succ, Array.replicate_zero, List.push_toArray, List.append_toArray, List.nil_append, List.cons_append]
  gi_wp2
  go_ret
  exact ⟨rfl, rfl⟩
theorem infoInt : (Tryz.prog.info? 3).map (fun i => (i.zero, i.size, i.bytes)) = some (some (.int .i64 0), 1, 8) := by kernel_rfl
theorem list_in (F : Fence) (n : Nat) (h81 : F.fn 81) (h156 : F.fn 156) (h208 : F.fn 208) (h209 : F.fn 209) (hro : F.round = none) (hn : 3 ≤ n) (s : Nat) (hs : s < 4294967296) (w : World) (hw : 0 < w.heap.size) (hT : TabAt 0 Lib.deBruijn32tab w) :
    CallsIn F n Tryz.prog 81 #[.int .u32 (s : Int)] w fun e W' => ∃ v, e = .returned v ∧ W'.ownsRow w.heap.size 3 1 v (listM s).length ((listM s).map (Value.int .i64)) ∧ Below w.heap.size w W' := by
  have h1 : 1 ≤ n := by omega
  obtain ⟨i0, hi, hz0, hz1, hz2⟩ := info_parts infoInt; refine callsIn_of_wp_marks Tryz.func81 rfl h81 ?_ hro; simp only [Tryz.ntmps81, List.size_toArray, List.length_cons, List.length_nil, Nat.reduceAdd, Nat.reduceSub, Array.replicate_succ, Array.replicate_zero, List.push_toArray, List.append_toArray, List.nil_append, List.cons_append]
  gi_wp2_with (gi_at_call 156; refine (mk_in F (n - 1) h156 hro _ _).mono ?_; rintro e w' ⟨rfl, rfl⟩)
  obtain ⟨w2, hw2⟩ : ∃ w2, (w.alloc (.cells #[.slice none 0 0] 117)).alloc (.cells #[.int .u32 (s : Int)] 43) = w2 := ⟨_, rfl⟩; have bO : Boxed w2 w.heap.size 117 (.slice none 0 0) := by rw [← hw2]; exact (Boxed.new w 117 (.slice none 0 0)).alloc _
  have bS : Boxed w2 (w.heap.size + 1) 43 (.int .u32 (s : Int)) := by rw [← hw2]; have := Boxed.new (w.alloc (.cells #[.slice none 0 0] 117)) 43 (.int .u32 (s : Int)); rwa [World.size_alloc] at this
  have hsz2 : w2.heap.size = w.heap.size + 2 := by rw [← hw2]; simp
  have hB2 : Below w.heap.size w w2 := by rw [← hw2]; exact ((Below.refl _ w).alloc (Nat.le_refl _) _).alloc (by simp) _
  have hrw : ∀ {A B : World}, B.heap[w.heap.size + 1]? = A.heap[w.heap.size + 1]? → ∀ u, Boxed A (w.heap.size + 1) 43 u → Boxed B (w.heap.size + 1) 43 u := fun h u hu => h.trans hu
  simp only [World.size_alloc, hw2]
  refine range_all hro h1 (gf := 208) (lb := #[.pointer (some ⟨w.heap.size + 1, 0, none⟩)]) rfl h208 (enters_of Tryz.func208 (by kernel_rfl) rfl) (encs := fun x : Int => #[Value.int .i64 x]) (fun _ => rfl)
    (fun pre W => (∃ v, Boxed W w.heap.size 117 v ∧ W.ownsRow w.heap.size 3 1 v pre.length (pre.map (Value.int .i64))) ∧ (∃ u, Boxed W (w.heap.size + 1) 43 u) ∧ Below w.heap.size w W)
    (fun pre x => pre.length < 24 ∧ (0 ≤ x ∧ x < 24)) (fun W W' => W'.heap[w.heap.size + 1]? = W.heap[w.heap.size + 1]?)
    ?ip ?ia ⟨⟨_, bO, World.ownsRow_nil _ _ _ _⟩, ⟨_, bS⟩, hB2⟩ (fun h k => k.trans h) ?kp (listM s) ?it
    (fun x => { tmps := #[.int .u32 (s : Int), undef, .slice none 0 0, .pointer (some ⟨w.heap.size, 0, none⟩), .int .i64 x, .int .u32 (s : Int), .func (.func 208) #[] #[.pointer (some ⟨w.heap.size + 1, 0, none⟩)], .int .i64 x, undef, undef, undef, undef, undef], defers := [] }) ?assign ?body ?done
  case ip =>
    rintro pre A l o o0 ⟨⟨v, hv, hr⟩, ⟨u, hu⟩, hB⟩ hl hc hle; refine ⟨⟨v, (World.putObj_heap_other (by omega)).trans hv, ownsRow_putObj hr o hl hc⟩, ⟨u, (World.putObj_heap_other (by omega)).trans hu⟩, hB.trans ⟨rfl, rfl, rfl, by simp, fun k hk => World.putObj_heap_other (by omega)⟩⟩
  case ia =>
    rintro pre A o ⟨⟨v, hv, hr⟩, ⟨u, hu⟩, hB⟩ hle; exact ⟨⟨v, hv.alloc o, hr.kept (World.grownBy_alloc A o none) (by rcases hr.2 with ⟨rfl, _⟩ | ⟨g, cap, cur, rfl, _⟩; exact .inl rfl; exact .inr (by simp [Value.ownBlock]))⟩, ⟨u, hu.alloc o⟩, hB.alloc (by omega) o⟩
  case kp =>
    intro A l o o0 hl hc hle; exact World.putObj_heap_other (by omega)
  case it =>
    intro l J W1 hJI hJk hY h0 hk1; refine in1 F (n - 1) h208 h209 hro (by omega) l (w.heap.size + 1) s J (fun pre x W hj hl hx => hY pre x W hj ⟨hl, hx⟩) (fun pre W hj => ?_) (fun pre W v hj => ?_) hs W1 ?_ h0
    · intro i hi; exact ((hJI _ _ hj).2.2.cell (p := ⟨0, i, none⟩) hw).trans (hT i hi)
    · obtain ⟨⟨v0, hv0, hr⟩, ⟨u, hu⟩, hB⟩ := hJI _ _ hj; refine hJk pre W _ hj ⟨⟨v0, hv0.other (by omega) v, hr.kept (grownBy_setCell' W (w.heap.size + 1) v) (.inr (hu.not_row (by decide) hr).symm)⟩, ⟨_, hu.set v⟩, hB.setCell (p := ⟨w.heap.size + 1, 0, none⟩) (by simp) v⟩ (fun k o hk ho => (KeepsOthers.setCell W _ v).same k o hk ho)
    · exact (hk1 _ (by omega)).trans bS
  case assign =>
    intro l x W K hK
    gi_wp2
    exact hK
  case body =>
    rintro l pre x W ⟨⟨v, hv, hrow⟩, ⟨u, hu⟩, hB⟩ ⟨hlt, hx⟩; have hc := hv.cell
    gi_wp2_with (gi_at_builtin; refine wpListIn_append_own _ rfl _ _ 117 rfl w.heap.size 3 i0 (.int .i64 0) 1 8 Tryz.underlying117 hi hz0 hz1 hz2 rfl (by decide) _ _ _ rfl (hrow.alloc _) ⟨W.heap.size, 0, none⟩ 1 1 [.int .i64 x] rfl rfl (cell_one_new _ _ _) (by simp [Value.oneCell']) (by unfold maxLen; omega) (by omega) (by have := hB.size; simp; omega) ?_; intro v' w1 hown' hgrow _; obtain ⟨g', cap', rfl⟩ := ownsRow_succ hown'; obtain ⟨hv1, hv2, hr2, hk2, hb2⟩ := hv.appended (by decide) hrow hB.size (Nat.le_refl _) hown' hgrow; have hc1 := hv1.cell; have hf1 := hv1.frozen)
    have hu1 := ((hu.alloc (.cells #[.int .i64 x] 3)).kept hgrow (hu.not_row (by decide) hrow)).other (B' := w.heap.size) (by omega) (.slice (some ⟨g', 0, none⟩) (pre.length + 1) cap'); exact ⟨hu1.trans hu.symm, ⟨_, hv2, by simpa using hr2⟩, ⟨u, hu1⟩, hB.trans hb2⟩
  case done =>
    rintro D W hD ⟨⟨v, hv, hrow⟩, _, hB⟩ hK; have hc := hv.cell
    gi_wp2
    refine ⟨by simp, .inl ⟨_, _, rfl, run_takeDeferred hK, ?_⟩⟩; exact ⟨_, results_tmp rfl _ _ _, v, rfl, ownsRow_putObj hrow _ hK rfl, hB.trans ⟨rfl, rfl, rfl, by simp, fun k hk => World.putObj_heap_other (by omega)⟩⟩
abbrev DBF : Fact := At 0 0 (Lib.deBruijn32tab.map fun (v : Nat) => Value.int .u8 (v : Int))
theorem tab_of {ok : Nat → Prop} {w : World} (h : DBF.f ok w) (hk : ∀ b, ok b → b < w.heap.size) : TabAt 0 Lib.deBruijn32tab w ∧ 0 < w.heap.size := by
  refine ⟨fun j hj => ?_, hk _ h.1⟩; have h1 := h.2 j (.int .u8 (Lib.deBruijn32tab.getD j 0 : Nat)) (by rw [List.getElem?_map, List.getD_eq_getElem?_getD, List.getElem?_eq_getElem hj]; rfl)
  rwa [Nat.zero_add] at h1
theorem maskListO (s : Nat) (hs : s < 4294967296) : Spec Tryz.prog 81 #[.int .u32 (s : Int)] [DBF] [] (fun x : SH => sl x (listM s).length) (fun _ => []) (fun x => [rowS 1 3 x (listM s).length (intFlat (listM s))]) := fun ok w hok hst => by
  obtain ⟨hT, hw⟩ := tab_of (hst.facts DBF List.mem_cons_self) (fun b hb => hb.2.1); refine (callsIn_wide.mp (list_in Fence.wide 3 trivial trivial trivial trivial rfl (Nat.le_refl _) s hs w hw hT)).mono fun e w' hh => ?_
  obtain ⟨v, rfl, hrow, hB⟩ := hh; obtain ⟨a, rfl⟩ := owns_sh hrow
  have hrow0 : w'.ownsRow 0 3 1 (sl a (listM s).length) (listM s).length (intFlat (listM s)) := by
    have h1 : w'.ownsRow 0 3 1 (sl a (listM s).length) (listM s).length ((listM s).map (Value.int .i64)) := ⟨hrow.1, hrow.2.imp id (fun ⟨g, cap, cur, q1, q2, q3⟩ => ⟨g, cap, cur, q1, Nat.zero_le _, q3⟩)⟩
    rwa [show (listM s).map (Value.int .i64) = intFlat (listM s) from by induction (listM s) with | nil => rfl | cons y ys ih => (simp only [List.map_cons, intFlat, List.flatMap_cons, intCells, List.singleton_append] at ih ⊢; rw [ih])] at h1
  refine ⟨a, rfl, ⟨hB.os, hB.tape, hB.output, hB.size, fun b hb _ => hB.block b hb⟩, fun _ hF => (by cases hF), ?_, ?_, List.pairwise_singleton _ _⟩
  · intro m hm w2 hw2; rw [List.mem_singleton] at hm; subst hm; exact rowR_keeps hrow0 (fun b hb => hw2 b hb)
  · intro m hm b hb; rw [List.mem_singleton] at hm; subst hm; have := hrow.lt b hb; exact ⟨this.2, .inr this.1⟩
theorem maskListF (s : Nat) (hs : s < 4294967296) : Spec Tryz.prog 81 #[.int .u32 (s : Int)] [DBF] [] (fun x : SH => sl x (listM s).length) (fun x => [IL (listM s) x]) (fun _ => []) := fun ok w hok hst => (maskListO s hs ok w hok hst).mono fun e w' hh => by
  obtain ⟨x, he, h⟩ := hh; have hl : (listM s).length ≤ 24 := listTo_len s 24; exact ⟨x, he, h.settleIL trivial rfl rfl (by unfold reach; omega) (fun c hc => by have := listTo_in hc; unfold in64; omega)⟩
end Go.Hy
namespace Go.Hy
open Go.Proofs
set_option maxRecDepth 100000
theorem dimension_spec (i : Int) : Spec Tryz.prog 176 #[.int .i64 i] [] [] (fun _ : Unit => .bool (decide (0 ≤ i) && decide (i < 24))) (fun _ => []) (fun _ => []) := by
  refine spec_go (args := [.int .i64 i]) Tryz.func176 Tryz.ntmps176 rfl (by exact Nat.le_of_ble_eq_true rfl) fun B hB => ?_
  refine go_seq ?_; refine go_region ⟨_, Tryz.func176⟩ rfl ?_; refine q0 rfl (o_assign ?_); refine rg_nil ?_; refine go_seq ?_; refine go_region ⟨_, Tryz.func176⟩ rfl ?_; refine q0 rfl (o_move ?_); refine q0 rfl (o_geq ?_); refine q0 rfl (o_move ?_); refine qI rfl rfl rfl wl_ (fun hg5 => o_move ?_) (fun hg5 => ?_)
  · refine qT rfl rfl rfl (o_lss ?_); refine q0 rfl (o_pickT ?_); refine q0 rfl (o_assign ?_); refine rg_nil ?_; refine ret1 Tryz.func176 Tryz.results176 wn_ () (by first | (simp_all; done) | (simp_all; omega)) (fun w hs => hs.none)
  · refine qF rfl rfl rfl ?_; refine q0 rfl (o_pickF ?_); refine q0 rfl (o_assign ?_); refine rg_nil ?_; refine ret1 Tryz.func176 Tryz.results176 wn_ () (by first | (simp_all; done) | (simp_all; omega)) (fun w hs => hs.none)
theorem maskRight_spec (s : Nat) (hs : s < 4294967296) : Spec Tryz.prog 87 #[.int .u32 (s : Int)] [] [] (fun _ : Unit => .bool (decide (s < 16777216))) (fun _ => []) (fun _ => []) := by
  refine spec_go (args := [.int .u32 (s : Int)]) Tryz.func87 Tryz.ntmps87 rfl (by exact Nat.le_of_ble_eq_true rfl) fun B hB => ?_
  refine go_seq ?_; refine go_region ⟨_, Tryz.func87⟩ rfl ?_; refine q0 rfl (o_assign ?_); refine rg_nil ?_; refine go_seq ?_; refine go_region ⟨_, Tryz.func87⟩ rfl ?_; refine q0 rfl (o_move ?_); refine q0 rfl (o_andNotU32 ?_ (b := 16777215)); refine q0 rfl (o_eqI ?_ (b := 0)); refine q0 rfl (o_assign ?_); refine rg_nil ?_; refine ret1 Tryz.func87 Tryz.results87 wn_ () (by rw [andNot_zero hs]) (fun w hs => hs.none)
theorem withoutNone_spec (s : Nat) (hs : s < 4294967296) : Spec Tryz.prog 175 #[.int .u32 (s : Int), .int .i64 (-1)] [] [] (fun _ : Unit => .int .u32 ((s &&& 16777215 : Nat) : Int)) (fun _ => []) (fun _ => []) := by
  refine spec_go (args := [.int .u32 (s : Int), .int .i64 (-1)]) Tryz.func175 Tryz.ntmps175 rfl (by exact Nat.le_of_ble_eq_true rfl) fun B hB => ?_
  refine go_seq ?_; refine go_region ⟨_, Tryz.func175⟩ rfl ?_; refine q0 rfl (o_assign ?_); refine rg_nil ?_; refine go_seq ?_; refine go_region ⟨_, Tryz.func175⟩ rfl ?_; refine q0 rfl (o_move ?_); refine q0 rfl (o_andU32 ?_ (b := 16777215)); refine q0 rfl (o_assign ?_); refine rg_nil ?_; refine go_seq ?_; refine go_seq ?_; refine go_region ⟨_, Tryz.func175⟩ rfl ?_; refine q0 rfl (o_move ?_); refine q0 rfl (o_call Tryz.call176 (dimension_spec (-1)) (fun x8 => ?_)); refine q0 rfl (o_not ?_); refine rg_nil ?_; refine go_condI (fun h9 => ?_) (fun h9 => ?_)
  · refine go_seq ?_; refine go_region ⟨_, Tryz.func175⟩ rfl ?_; refine q0 rfl (o_move ?_); refine q0 rfl (o_assign ?_); refine rg_nil ?_; refine ret1 Tryz.func175 Tryz.results175 wn_ () rfl (fun w hs => hs.none)
  · exact absurd h9 (by decide)
theorem fDims_spec : FDims := by
  intro l a; refine spec_go (args := [sl a l.length]) Tryz.func97 Tryz.ntmps97 rfl (by exact Nat.le_of_ble_eq_true rfl) fun B hB => ?_
  refine go_openCL (l := l) (a := a) (fun hl1 hA1 hU1 => ?_); refine go_seq ?_; refine go_region ⟨_, Tryz.func97⟩ rfl ?_; refine q0 rfl (o_assign ?_); refine rg_nil ?_; refine go_seq ?_; refine go_region ⟨_, Tryz.func97⟩ rfl ?_; refine q0 rfl (o_assign ?_); refine rg_nil ?_; refine go_seq ?_; refine go_seq ?_; refine go_region ⟨_, Tryz.func97⟩ rfl ?_; refine q0 rfl (o_move ?_); refine q0 rfl (o_len ?_); refine q0 rfl (o_move ?_); refine rg_nil ?_; refine go_block ?_; refine go_loopI (X := Nat) (fun i => i ≤ l.length) (fun i => [(3, .int .u32 (orUpto l i : Int)), (6, sl a l.length), (7, .int .i64 (l.length : Int)), (8, .int .i64 (i : Int))]) (fun i => [CL l a]) (fun i => []) (fun i => l.length - i) (0) (Nat.zero_le _) (by exact ⟨rfl, rfl, rfl, rfl, trivial⟩) ?_ ?_
  · exact fun w hs => hs.less (by simp)
  · intro i base0 hi next0; refine go_seq ?_; refine go_region ⟨_, Tryz.func97⟩ rfl ?_; refine q0 rfl (o_lss ?_); refine rg_nil ?_; refine go_seq ?_; refine go_condI (fun h9 => ?_) (fun h9 => ?_)
    · have hlt : i < l.length := by have := of_decide_eq_true h9; omega
      obtain ⟨bk, o, hav⟩ := hA1 (by omega); have hu := hU1 _ (getD_mem (d := cl0) hlt); have hup := orUpto_lt hU1 i; have hor : (l.getD i cl0).pos ||| (l.getD i cl0).neg < 4294967296 := Nat.or_lt_two_pow (n := 32) hu.1 hu.2; refine go_skip ?_; refine go_seq ?_; refine go_block ?_; refine go_seq ?_; refine go_region ⟨_, Tryz.func97⟩ rfl ?_; refine q0 rfl (o_ixN ?_); refine q0 rfl (o_ldC ?_); refine q0 rfl (o_new fun b5 => ?_); refine q0 rfl (o_st ?_); refine rg_nil ?_; refine go_region ⟨_, Tryz.func97⟩ rfl ?_; refine q0 rfl (o_move ?_); refine q0 rfl (o_fa ?_); refine q0 rfl (o_ld ?_); refine q0 rfl (o_fa ?_); refine q0 rfl (o_ld ?_); refine q0 rfl (o_orU32 ?_ (a := (l.getD i cl0).pos) (b := (l.getD i cl0).neg) (ha := hu.1) (hb := hu.2)); refine q0 rfl (o_orU32 ?_ (a := orUpto l i) (b := (l.getD i cl0).pos ||| (l.getD i cl0).neg)); refine q0 rfl (o_assign ?_); refine rg_nil ?_; refine go_inBlock ?_; refine go_region ⟨_, Tryz.func97⟩ rfl ?_; refine q0 rfl (o_add ?_); refine q0 rfl (o_move ?_); refine rg_nil ?_; refine go_state (fun w hs => ?_) (next0 (i + 1) _ hlt (by omega) ⟨by rw [orUpto_succ hlt]; rfl, rfl, rfl, rfl, trivial⟩); exact (hs.less (by simp)).bare
    · have hge : i = l.length := by have := of_decide_eq_false h9; omega
      refine go_exit rfl ?_; refine go_seq ?_; refine go_region ⟨_, Tryz.func97⟩ rfl ?_; refine q0 rfl (o_move ?_); refine q0 rfl (o_call Tryz.call175 (withoutNone_spec (orUpto l i) (orUpto_lt hU1 i)) (fun x21 => ?_)); refine q0 rfl (o_assign ?_); refine rg_nil ?_; refine ret1 Tryz.func97 Tryz.results97 wn_ () (by rw [fDims_eq, ← hge]) (fun w hs => hs.none)
theorem clauseRight_spec (c : Cl) (hc : u32 c) : Spec Tryz.prog 33 #[.agg (clCells c).toArray] [] [] (fun _ : Unit => .bool (right24 c)) (fun _ => []) (fun _ => []) := by
  refine spec_go (args := [.agg (clCells c).toArray]) Tryz.func33 Tryz.ntmps33 rfl (by exact Nat.le_of_ble_eq_true rfl) fun B hB => ?_
  refine go_seq ?_; refine go_region ⟨_, Tryz.func33⟩ rfl ?_; refine q0 rfl (o_box fun b1 => ?_); refine q0 rfl (o_assign ?_); refine rg_nil ?_; refine go_seq ?_; refine go_region ⟨_, Tryz.func33⟩ rfl ?_; refine q0 rfl (o_fa ?_); refine q0 rfl (o_ld ?_); refine q0 rfl (o_call Tryz.call87 (maskRight_spec c.pos hc.1) (fun x5 => ?_)); refine q0 rfl (o_move ?_); refine qI rfl rfl rfl wl_ (fun hg6 => o_fa ?_) (fun hg6 => ?_)
  · refine qT rfl rfl rfl (o_ld ?_); refine qT rfl rfl rfl (o_call Tryz.call87 (maskRight_spec c.neg hc.2) (fun x9 => ?_)); refine q0 rfl (o_pickT ?_); refine q0 rfl (o_assign ?_); refine rg_nil ?_; refine ret1 Tryz.func33 Tryz.results33 wn_ () (by first | (simp_all [right24]; done) | (simp_all [right24]; intros; omega)) (fun w hs => hs.none)
  · refine qF rfl rfl rfl ?_; refine qF rfl rfl rfl ?_; refine q0 rfl (o_pickF ?_); refine q0 rfl (o_assign ?_); refine rg_nil ?_; refine ret1 Tryz.func33 Tryz.results33 wn_ () (by first | (simp_all [right24]; done) | (simp_all [right24]; intros; omega)) (fun w hs => hs.none)
theorem clash_spec (c : Cl) (hc : u32 c) : Spec Tryz.prog 34 #[.agg (clCells c).toArray] [] [] (fun _ : Unit => .bool (clash c)) (fun _ => []) (fun _ => []) := by
  refine spec_go (args := [.agg (clCells c).toArray]) Tryz.func34 Tryz.ntmps34 rfl (by exact Nat.le_of_ble_eq_true rfl) fun B hB => ?_
  refine go_seq ?_; refine go_region ⟨_, Tryz.func34⟩ rfl ?_; refine q0 rfl (o_box fun b1 => ?_); refine q0 rfl (o_assign ?_); refine rg_nil ?_; refine go_seq ?_; refine go_region ⟨_, Tryz.func34⟩ rfl ?_; refine q0 rfl (o_fa ?_); refine q0 rfl (o_ld ?_); refine q0 rfl (o_fa ?_); refine q0 rfl (o_ld ?_); refine q0 rfl (o_andU32 ?_ (a := c.pos) (b := c.neg) (ha := hc.1) (hb := hc.2)); refine q0 rfl (o_neI ?_ (b := 0)); refine q0 rfl (o_assign ?_); refine rg_nil ?_; refine ret1 Tryz.func34 Tryz.results34 wn_ () (by simp only [clash]; congr 1; apply decide_eq_decide.mpr; omega) (fun w hs => hs.none)
theorem meet_spec (c d : Cl) (hc : u32 c) (hd : u32 d) : Spec Tryz.prog 93 #[.agg (clCells c).toArray, .agg (clCells d).toArray] [] [] (fun _ : Unit => .agg (clCells (meetC c d)).toArray) (fun _ => []) (fun _ => []) := by
  refine spec_go (args := [.agg (clCells c).toArray, .agg (clCells d).toArray]) Tryz.func93 Tryz.ntmps93 rfl (by exact Nat.le_of_ble_eq_true rfl) fun B hB => ?_
  refine go_seq ?_; refine go_region ⟨_, Tryz.func93⟩ rfl ?_; refine q0 rfl (o_box fun b2 => ?_); refine q0 rfl (o_box fun b3 => ?_); refine q0 rfl (o_new fun b4 => ?_); refine rg_nil ?_; refine go_seq ?_; refine go_region ⟨_, Tryz.func93⟩ rfl ?_; refine q0 rfl (o_fa ?_); refine q0 rfl (o_ld ?_); refine q0 rfl (o_fa ?_); refine q0 rfl (o_ld ?_); refine q0 rfl (o_orU32 ?_ (a := c.pos) (b := d.pos) (ha := hc.1) (hb := hd.1)); refine q0 rfl (o_fa ?_); refine q0 rfl (o_ld ?_); refine q0 rfl (o_fa ?_); refine q0 rfl (o_ld ?_); refine q0 rfl (o_orU32 ?_ (a := c.neg) (b := d.neg) (ha := hc.2) (hb := hd.2)); refine q0 rfl (o_build (cs := clCells (meetC c d)) ?_); refine q0 rfl (o_st ?_); refine rg_nil ?_; refine retC Tryz.func93 Tryz.results93 () rfl mm_ rfl rfl rfl rfl (fun w hs => hs.none)
theorem below_spec (c d : Cl) (hc : u32 c) (hd : u32 d) : Spec Tryz.prog 169 #[.agg (clCells c).toArray, .agg (clCells d).toArray] [] [] (fun _ : Unit => .bool (below c d)) (fun _ => []) (fun _ => []) := by
  refine spec_go (args := [.agg (clCells c).toArray, .agg (clCells d).toArray]) Tryz.func169 Tryz.ntmps169 rfl (by exact Nat.le_of_ble_eq_true rfl) fun B hB => ?_
  refine go_seq ?_; refine go_region ⟨_, Tryz.func169⟩ rfl ?_; refine q0 rfl (o_box fun b2 => ?_); refine q0 rfl (o_box fun b3 => ?_); refine q0 rfl (o_assign ?_); refine rg_nil ?_; refine go_seq ?_; refine go_draw (pn := 1000000) (tn := false) (A := [0, 0, 3, 0, 15, 31]) (l := [0, 1, 3, 2, 4, 5]) (fin := []) Tab.mixed ⟨_, Tryz.func169⟩ (by rfl) ?_; refine n0 rfl (v_lds ?_); refine n0 rfl (v_lds ?_); refine n0 rfl (v_lds ?_); refine n0 rfl (v_call Tryz.call93 (meet_spec c d hc hd) (fun x7 => ?_)); refine n0 rfl (v_eqC ?_ (c := meetC c d) (c' := c)); refine n0 rfl (v_assign ?_); refine NV.done ?_; refine rg_nil ?_; refine ret1 Tryz.func169 Tryz.results169 wn_ () (by rw [below_meet]) (fun w hs => hs.none)
end Go.Hy
/-
  DERIVED: THE SHELF's CONTRACTS AT THIS DUMP, IN PLAIN WORDS (tools/lay-plain.mjs out of 'TryzSort.lean', which tools/lay-shelf.mjs wrote): THE SAME DECLARATIONS UNDER THE SAME NAMES: 'import', 'namespace', 'open', 'def', 'theorem' AND NOTHING ELSE: no command of the shelf's: FOR A HAND-IN. Each laying: the table of numbers ('.._ren') and one theorem, a field a fact of the dump's own or the kernel's comparison; each contract: ONE APPLICATION.
-/
namespace Go.Proofs
open Go.Shelf
def Tryz.sortL_ren : Go.Shelf.Ren := ⟨fun | 6 => 170 | 15 => 222 | 14 => 221 | 28 => 245 | 29 => 246 | 20 => 237 | 21 => 238 | 22 => 239 | 23 => 240 | 24 => 241 | 25 => 242 | 26 => 243 | 27 => 244 | 46 => 257 | 47 => 258 | 48 => 259 | 49 => 260 | 50 => 261 | 57 => 264 | n => n, fun | 22 => 25 | 24 => 45 | 25 => 177 | 3 => 3 | 39 => 146 | 0 => 0 | 53 => 43 | 55 => 195 | 4 => 4 | 46 => 205 | 45 => 204 | 50 => 209 | 5 => 5 | 9 => 9 | 66 => 213 | 70 => 217 | 76 => 220 | 77 => 163 | n => n, fun | n => n⟩
theorem Tryz.sortL : Go.Proofs.SlLaysF0.n6 Tryz.prog Tryz.sortL_ren := {
  mixed := by kernel_rfl
  f6 := ⟨Tryz.f170.name, by decide, Tryz.func170.trans (congrArg some (by kernel_rfl))⟩
  f14 := ⟨Tryz.f221.name, by decide, Tryz.func221.trans (congrArg some (by kernel_rfl))⟩
  f15 := Tryz.func222.trans (congrArg some (by kernel_rfl))
  f20 := ⟨Tryz.f237.name, by decide, Tryz.func237.trans (congrArg some (by kernel_rfl))⟩
  f21 := ⟨Tryz.f238.name, by decide, Tryz.func238.trans (congrArg some (by kernel_rfl))⟩
  f22 := ⟨Tryz.f239.name, by decide, Tryz.func239.trans (congrArg some (by kernel_rfl))⟩
  f23 := ⟨Tryz.f240.name, by decide, Tryz.func240.trans (congrArg some (by kernel_rfl))⟩
  f24 := ⟨Tryz.f241.name, by decide, Tryz.func241.trans (congrArg some (by kernel_rfl))⟩
  f25 := ⟨Tryz.f242.name, by decide, Tryz.func242.trans (congrArg some (by kernel_rfl))⟩
  f26 := ⟨Tryz.f243.name, by decide, Tryz.func243.trans (congrArg some (by kernel_rfl))⟩
  f27 := ⟨Tryz.f244.name, by decide, Tryz.func244.trans (congrArg some (by kernel_rfl))⟩
  f28 := Tryz.func245.trans (congrArg some (by kernel_rfl))
  f29 := Tryz.func246.trans (congrArg some (by kernel_rfl))
  f46 := ⟨Tryz.f257.name, by decide, Tryz.func257.trans (congrArg some (by kernel_rfl))⟩
  f47 := Tryz.func258.trans (congrArg some (by kernel_rfl))
  f48 := Tryz.func259.trans (congrArg some (by kernel_rfl))
  f49 := ⟨Tryz.f260.name, by decide, Tryz.func260.trans (congrArg some (by kernel_rfl))⟩
  f50 := ⟨Tryz.f261.name, by decide, Tryz.func261.trans (congrArg some (by kernel_rfl))⟩
  f57 := ⟨Tryz.f264.name, by decide, Tryz.func264.trans (congrArg some (by kernel_rfl))⟩
  t0 := Tryz.underlying0
  a0 := Tryz.isAgg0
  z0 := Tryz.sizeOf0
  v0 := Tryz.zeroValue0
  t3 := Tryz.underlying3
  a3 := Tryz.isAgg3
  z3 := Tryz.sizeOf3
  v3 := Tryz.zeroValue3
  t4 := Tryz.underlying4
  a4 := Tryz.isAgg4
  z4 := Tryz.sizeOf4
  v4 := Tryz.zeroValue4
  t5 := Tryz.underlying5
  a5 := Tryz.isAgg5
  z5 := Tryz.sizeOf5
  v5 := Tryz.zeroValue5
  t9 := Tryz.underlying9
  a9 := Tryz.isAgg9
  z9 := Tryz.sizeOf9
  v9 := Tryz.zeroValue9
  t22 := Tryz.underlying25
  a22 := Tryz.isAgg25
  z22 := Tryz.sizeOf25
  v22 := Tryz.zeroValue25
  t25 := Tryz.underlying177
  a25 := Tryz.isAgg177
  z25 := Tryz.sizeOf177
  v25 := Tryz.zeroValue177
  t39 := Tryz.underlying146
  a39 := Tryz.isAgg146
  z39 := Tryz.sizeOf146
  v39 := Tryz.zeroValue146
  t45 := Tryz.underlying204
  a45 := Tryz.isAgg204
  z45 := Tryz.sizeOf204
  v45 := Tryz.zeroValue204
  t46 := Tryz.underlying205
  a46 := Tryz.isAgg205
  z46 := Tryz.sizeOf205
  v46 := Tryz.zeroValue205
  t50 := Tryz.underlying209
  a50 := Tryz.isAgg209
  z50 := Tryz.sizeOf209
  v50 := Tryz.zeroValue209
  t53 := Tryz.underlying43
  a53 := Tryz.isAgg43
  z53 := Tryz.sizeOf43
  v53 := Tryz.zeroValue43
  t55 := Tryz.underlying195
  a55 := Tryz.isAgg195
  z55 := Tryz.sizeOf195
  v55 := Tryz.zeroValue195
  t66 := Tryz.underlying213
  a66 := Tryz.isAgg213
  z66 := Tryz.sizeOf213
  v66 := Tryz.zeroValue213
  t70 := Tryz.underlying217
  a70 := Tryz.isAgg217
  z70 := Tryz.sizeOf217
  v70 := Tryz.zeroValue217
  t76 := Tryz.underlying220
  a76 := Tryz.isAgg220
  z76 := Tryz.sizeOf220
  v76 := Tryz.zeroValue220
  t77 := Tryz.underlying163
  a77 := Tryz.isAgg163
  z77 := Tryz.sizeOf163
  v77 := Tryz.zeroValue163 }
end Go.Proofs
namespace Go.Hy
open Go.Proofs
set_option maxRecDepth 100000
open Go.Shelf Go.RowKit Go.Lib Go.Sort
theorem isNaN_k (a : Int) (W : World) : Calls Tryz.prog 247 #[.int .u32 a] W fun e w' => e = .returned (.bool false) ∧ w' = W := by
  go_enter Tryz.func247, Tryz.ntmps247
  go_wp2
  go_ret
  exact ⟨by simp, rfl⟩
theorem compare_k (a b : Int) (W : World) : Calls Tryz.prog 223 #[.int .u32 a, .int .u32 b] W fun e w' => e = .returned (.int .i64 (compareInt a b)) ∧ w' = W := by
  go_enter Tryz.func223, Tryz.ntmps223
  go_wp2_with (go_at_call 247; refine (isNaN_k _ _).mono ?_; rintro e w' ⟨rfl, rfl⟩)
  all_goals (go_ret; refine ⟨?_, rfl⟩; unfold Lib.compareInt; (repeat' split) <;> first | rfl | (exfalso; omega))
def cmpC (c d : Cl) : Int := if c.pos = d.pos then compareInt c.neg d.neg else compareInt c.pos d.pos
set_option maxHeartbeats 1000000 in
theorem cmp_k (c d : Cl) (W : World) : Calls Tryz.prog 171 #[.agg #[.int .u32 c.pos, .int .u32 c.neg], .agg #[.int .u32 d.pos, .int .u32 d.neg]] W fun e w' => e = .returned (.int .i64 (cmpC c d)) ∧ ∃ q os', w' = grow (W.drewN q) os' := by
  have hcon := fun a b W' => compare_k a b W'
  have e1 : cmpC c d = if (c.pos : Int) = d.pos then compareInt c.neg d.neg else compareInt c.pos d.pos := by unfold cmpC; simp only [Int.ofNat_inj]
  generalize hr : cmpC c d = r at e1 ⊢
  go_enter Tryz.func171, Tryz.ntmps171
  go_wp2_with (go_at_call 223; refine (hcon _ _ _).mono ?_; rintro e w' ⟨rfl, rfl⟩)
  all_goals (go_ret; refine ⟨?_, 0, _, by rw [alloc_eq_grow, alloc_eq_grow, grow_grow]; rfl⟩)
  all_goals (rw [e1]; simp_all)
/-! ### The order of clauses -/
instance : Inhabited Cl := ⟨cl0⟩
theorem cmp_lt (c d : Cl) : ltOf cmpC c d = lessC c d := by
  unfold ltOf cmpC lessC compareInt; by_cases h : c.pos = d.pos
  · simp only [h, if_true]; by_cases h2 : c.neg < d.neg
    · rw [if_pos (by omega)]; simp [h2]
    · rw [if_neg (by omega)]; split <;> simp [h2]
  · simp only [h, if_false]; by_cases h2 : c.pos < d.pos
    · rw [if_pos (by omega)]; simp [h2]
    · rw [if_neg (by omega), if_pos (by omega)]; simp [h2]
theorem cmp_swo : SWO (ltOf cmpC) where
  irrefl x := by rw [cmp_lt]; simp [lessC]
  trans x y z h1 h2 := by
    rw [cmp_lt] at *; simp only [lessC, Bool.or_eq_true, Bool.and_eq_true, decide_eq_true_eq] at *; omega
  ntrans x y z h1 h2 := by
    rw [cmp_lt] at *; simp only [lessC, Bool.or_eq_false_iff, Bool.and_eq_false_iff, decide_eq_false_iff_not] at *; omega
theorem flatK_toList (d : Array Cl) : (flatK clCells 2 d).toList = clFlat d.toList := by
  apply List.ext_getElem?; intro t; have hl : (clFlat d.toList).length = d.size * 2 := by rw [flat_len clCells_len]; simp
  by_cases ht : t < d.size * 2
  · have h1 : (flatK clCells 2 d).toList[t]? = some (clCells d[t / 2]!)[t % 2]! := by
      have hs : t < (flatK clCells 2 d).size := by rw [size_flatK]; exact ht
      rw [Array.getElem?_toList, Array.getElem?_eq_getElem hs]; have := get_flatK clCells 2 d t ht; rw [getElem!_pos _ t hs] at this; rw [this]
    rw [h1]; have hd : t / 2 < d.toList.length := by simp; omega
    have e : d.toList.getD (t / 2) cl0 = d[t / 2]! := by
      have : t / 2 < d.size := by simpa using hd
      rw [getElem!_pos d (t / 2) this, List.getD_eq_getElem?_getD, List.getElem?_eq_getElem hd]; simp
    have h2 : (clCells (d.toList.getD (t / 2) cl0))[t % 2]? = some (clCells d[t / 2]!)[t % 2]! := by
      rw [e]; have : t % 2 < (clCells d[t / 2]!).length := by rw [clCells_len]; omega
      rw [List.getElem?_eq_getElem this, getElem!_pos (clCells d[t / 2]!) (t % 2) this]
    have := flat_at clCells_len cl0 d.toList (t / 2) (t % 2) _ hd h2; rw [show t / 2 * 2 + t % 2 = t by omega] at this; exact this.symm
  · rw [List.getElem?_eq_none (by simp; omega), List.getElem?_eq_none (by omega)]
theorem put_cells (d : Array Cl) (l : List Cl) (rest : List Value) (hs : d.size = l.length) : putCells id 0 (flatK clCells 2 d) (clFlat l ++ rest).toArray = (clFlat d.toList ++ rest).toArray := by
  apply Array.ext_getElem?; intro t; have hl : (clFlat l).length = d.size * 2 := by rw [flat_len clCells_len, hs]
  have hl2 : (clFlat d.toList).length = d.size * 2 := by rw [flat_len clCells_len]; simp
  simp only [putCells, Array.getElem?_mapIdx, List.getElem?_toArray, size_flatK, Nat.zero_add, Nat.zero_le, true_and, Nat.sub_zero, id]; by_cases ht : t < d.size * 2
  · rw [List.getElem?_append_left (by omega), List.getElem?_append_left (by omega)]
    have h1 : (clFlat d.toList)[t]? = some (flatK clCells 2 d)[t]! := by
      rw [← flatK_toList, Array.getElem?_toList]; have hsz : t < (flatK clCells 2 d).size := by rw [size_flatK]; exact ht
      rw [Array.getElem?_eq_getElem hsz, getElem!_pos _ t hsz]
    rw [h1]; obtain ⟨v, hv⟩ : ∃ v, (clFlat l)[t]? = some v := ⟨_, List.getElem?_eq_getElem (by omega)⟩; rw [hv, Option.map_some, if_pos ht]
  · rw [List.getElem?_append_right (by omega), List.getElem?_append_right (by omega), hl, hl2]; cases rest[t - d.size * 2]? with
    | none => rfl
    | some v => rw [Option.map_some, if_neg ht]
/-- slices.SortFunc at clauses, by clause.Cmp: a row of the caller's own. -/
theorem sort_spec (l : List Cl) (g cap : Nat) (rest : List Value) (hn : l.length < 4611686018427387904) :
    Spec Tryz.prog 170 #[.slice (some ⟨g, 0, none⟩) l.length cap, .func (.func 171) #[] #[]] [] [boxR g (clFlat l ++ rest) 45] (fun _ : {l' : List Cl // l'.Perm l ∧ l'.Pairwise fun a b => lessC b a = false} => .tuple #[]) (fun _ => []) (fun x => [boxR g (clFlat x.1 ++ rest) 45]) := by
  intro ok w hok hs; have hg : w.heap[g]? = some (.cells (clFlat l ++ rest).toArray 45 (0, 0)) := hs.res _ List.mem_cons_self w (fun _ _ => rfl); have hlt : g < w.heap.size := (Array.getElem?_eq_some_iff.mp hg).1; have hu : Tryz.prog.underlying 45 = some (.struct (TyF.fC Tryz.prog)) := TyF.uC
  have aE : ∀ w, (isAgg (Tryz.sortL_ren.t 24)).run Tryz.prog w = .ok true w := fun w => by
    show (isAgg 45).run Tryz.prog w = _; simp [isAgg, run_underlying hu]
  have zE : ∀ w, (Go.sizeOf (Tryz.sortL_ren.t 24)).run Tryz.prog w = .ok 2 w := fun w => run_size0 (P := Tryz.prog) (t := 45) rfl w
  have hH : HoldsK clCells 2 w g 0 l.toArray := by
    intro j hj; rw [size_flatK] at hj; have e : (flatK clCells 2 l.toArray).toList = clFlat l := by rw [flatK_toList]
    have hsz : j < (flatK clCells 2 l.toArray).size := by rw [size_flatK]; exact hj
    have h1 : (clFlat l)[j]? = some (flatK clCells 2 l.toArray)[j]! := by
      rw [← e, Array.getElem?_toList, Array.getElem?_eq_getElem hsz, getElem!_pos _ j hsz]
    refine ⟨?_, by simp [World.frozen?, hg]⟩; have hlen : j < (clFlat l).length := (List.getElem?_eq_some_iff.mp h1).1; simp only [World.cell?, hg, Nat.zero_add, Option.isSome_none, Bool.false_eq_true, if_false, List.getElem?_toArray, id]; rw [List.getElem?_append_left hlen]; exact h1
  have hc := AnyQ.slices_SortFunc (P := Tryz.prog) Tryz.sortL 2 aE zE clCells clCells_len (fun x v hv => by
      simp only [clCells, List.mem_cons, List.not_mem_nil, or_false] at hv; rcases hv with rfl | rfl <;> rfl) cmpC cmp_swo 171 #[] g 0 cap l.toArray w Tryz.call171
    (fun m os dk hsz x y => cmp_k x y _) hH hlt (by simpa using hn)
  have hc2 : Calls Tryz.prog 170 #[.slice (some ⟨g, 0, none⟩) l.length cap, .func (.func 171) #[] #[]] w _ := hc; refine hc2.mono ?_; rintro e w' ⟨he, d', n, os, hp, hsd, hw⟩; have hsize : d'.size = l.length := by simpa using hp.1
  have hperm : d'.toList.Perm l := by
    have := hp.2.2; have e1 : d'.extract 0 l.toArray.size = d' := by rw [show l.toArray.size = d'.size by simp [hsize]]; simp
    have e2 : l.toArray.extract 0 l.toArray.size = l.toArray := by simp
    rw [e1, e2] at this; exact this
  have hsorted : d'.toList.Pairwise fun a b => lessC b a = false := by
    rw [List.pairwise_iff_getElem]; intro i j hi hj hij; have hi' : i < d'.size := by simpa using hi
    have hj' : j < d'.size := by simpa using hj
    have := hsd i j (Nat.zero_le _) hij (by simp; omega); rw [cmp_lt, getElem!_pos d' j hj', getElem!_pos d' i hi'] at this; simpa using this
  have hg' : w'.heap[g]? = some (.cells (clFlat d'.toList ++ rest).toArray 45 (0, 0)) := by
    rw [hw]; show ((mapBlock (Go.Sort.ahead w n) g (putCells id 0 (flatK clCells 2 d'))).heap ++ os)[g]? = _; rw [Array.getElem?_append_left (by simp [mapBlock, Go.Sort.ahead]; exact hlt)]; simp only [mapBlock, Go.Sort.ahead, Array.getElem?_modify, if_true, hg, Option.map_some, onCells]; rw [put_cells d' l rest hsize]
  have hold : ∀ b, b < w.heap.size → b ≠ g → w'.heap[b]? = w.heap[b]? := by
    intro b hb hne; rw [hw]; show ((mapBlock (Go.Sort.ahead w n) g (putCells id 0 (flatK clCells 2 d'))).heap ++ os)[b]? = _; rw [Array.getElem?_append_left (by simp [mapBlock, Go.Sort.ahead]; exact hb)]; simp only [mapBlock, Go.Sort.ahead, Array.getElem?_modify, if_neg (Ne.symm hne)]
  have hsz' : w.heap.size ≤ w'.heap.size := by rw [hw]; simp [sortWorldK, putRowK, Go.Sort.ahead]
  refine ⟨⟨d'.toList, hperm, hsorted⟩, he, ?_⟩; have h0 : St ⟨ok, domAll [boxR g (clFlat l ++ rest) 45], w⟩ [] ([boxR g (clFlat l ++ rest) 45]) w := hs
  refine h0.turn (m' := boxR g (clFlat d'.toList ++ rest) 45) ⟨by rw [hw]; rfl, by rw [hw]; rfl, by rw [hw]; rfl, hsz', fun b hb hn => hold b hb hn⟩ (fun w2 hw2 => by
    show w2.heap[g]? = _; rw [hw2 g rfl]; exact hg') (fun b hb => ?_)
  have hb : b = g := hb; subst hb; exact ⟨by omega, .inl rfl⟩
end Go.Hy
namespace Go.Hy
open Go.Proofs
set_option maxRecDepth 100000
theorem permNil {M : List Res} : M.Perm (M ++ []) := by rw [List.append_nil]
theorem index_spec (l : List Cl) (a : SH) (c : FuncId) (cap : List Value) (FΓ : List Fact) (M : List Res) (g : Cl → Bool) (hc : ∀ (args : Array Value) (w : World), (callFunc c args).run Tryz.prog w = .ok (.enter c args) w) (hcl : ∀ x, x ∈ l → Spec Tryz.prog c (keyV x :: cap).toArray FΓ M (fun _ : Unit => .bool (g x)) (fun _ => []) (fun _ => M)) : Spec Tryz.prog 220 #[sl a l.length, .func (.func c) #[] cap.toArray] (CL l a :: FΓ) M (fun _ : Unit => .int .i64 (idxP g l)) (fun _ => []) (fun _ => M) := by
  refine spec_go (args := [sl a l.length, .func (.func c) #[] cap.toArray]) Tryz.func220 Tryz.ntmps220 rfl (by exact Nat.le_of_ble_eq_true rfl) fun B hB => ?_
  refine go_openCL (l := l) (a := a) (fun hl1 hA1 hU1 => ?_); refine go_seq ?_; refine go_region ⟨_, Tryz.func220⟩ rfl ?_; refine q0 rfl (o_assign ?_); refine rg_nil ?_; refine go_seq ?_; refine go_seq ?_; refine go_region ⟨_, Tryz.func220⟩ rfl ?_; refine q0 rfl (o_move ?_); refine q0 rfl (o_len ?_); refine q0 rfl (o_move ?_); refine rg_nil ?_; refine go_block ?_; refine go_loopI (X := Nat) (fun i => i ≤ l.length ∧ ∀ j, j < i → g (l.getD j cl0) = false) (fun i => [(0, sl a l.length), (1, .func (.func c) #[] cap.toArray), (7, .int .i64 (l.length : Int)), (8, .int .i64 (i : Int))]) (fun i => CL l a :: FΓ) (fun i => M) (fun i => l.length - i) (0) (⟨Nat.zero_le _, fun j hj => by omega⟩) (by exact ⟨rfl, rfl, rfl, rfl, trivial⟩) ?_ ?_
  · exact fun w hs => hs
  · intro i base0 ⟨hi, hok⟩ next0; refine go_seq ?_; refine go_region ⟨_, Tryz.func220⟩ rfl ?_; refine q0 rfl (o_lss ?_); refine rg_nil ?_; refine go_seq ?_; refine go_condI (fun h9 => ?_) (fun h9 => ?_)
    · have hlt : i < l.length := by have := of_decide_eq_true h9; omega
      obtain ⟨bk, o, hav⟩ := hA1 (by omega); refine go_skip ?_; refine go_seq ?_; refine go_block ?_; refine go_seq ?_; refine go_region ⟨_, Tryz.func220⟩ rfl ?_; refine q0 rfl (o_move ?_); refine q0 rfl (o_assign ?_); refine rg_nil ?_; refine go_seq ?_; refine go_region ⟨_, Tryz.func220⟩ rfl ?_; refine q0 rfl (o_move ?_); refine q0 rfl (o_move ?_); refine q0 rfl (o_move ?_); refine q0 rfl (o_ixN ?_); refine q0 rfl (o_ldC ?_); refine q0 rfl (o_callC hc (hcl _ (getD_mem hlt)) (cap := cap) (fun x16 => ?_) (hm := permNil)); refine rg_nil ?_; refine go_condI (fun h16 => ?_) (fun h16 => ?_)
      · refine go_seq ?_; refine go_region ⟨_, Tryz.func220⟩ rfl ?_; refine q0 rfl (o_move ?_); refine q0 rfl (o_assign ?_); refine rg_nil ?_; refine ret1 Tryz.func220 Tryz.results220 wn_ () (by rw [idxP_at hlt h16 hok]) (fun w hs => (hs.less (by simp)).dropR)
      · refine go_skip ?_; refine go_inBlock ?_; refine go_region ⟨_, Tryz.func220⟩ rfl ?_; refine q0 rfl (o_add ?_); refine q0 rfl (o_move ?_); refine rg_nil ?_; refine go_state (fun w hs => ?_) (next0 (i + 1) _ ⟨hlt, fun j hj => (by rcases Nat.lt_succ_iff_lt_or_eq.mp hj with h | h; exact hok j h; subst h; exact h16)⟩ (by omega) ⟨rfl, rfl, rfl, rfl, trivial⟩); exact (hs.less (by simp +contextual)).dropR
    · have hge : i = l.length := by have := of_decide_eq_false h9; omega
      refine go_exit rfl ?_; refine go_seq ?_; refine go_region ⟨_, Tryz.func220⟩ rfl ?_; refine q0 rfl (o_assign ?_); refine rg_nil ?_; refine ret1 Tryz.func220 Tryz.results220 wn_ () (by rw [idxP_none (by rw [← hge]; exact hok)]) (fun w hs => hs.less (by simp))
theorem contains_spec (l : List Cl) (a : SH) (c : FuncId) (cap : List Value) (FΓ : List Fact) (M : List Res) (g : Cl → Bool) (hc : ∀ (args : Array Value) (w : World), (callFunc c args).run Tryz.prog w = .ok (.enter c args) w) (hcl : ∀ x, x ∈ l → Spec Tryz.prog c (keyV x :: cap).toArray FΓ M (fun _ : Unit => .bool (g x)) (fun _ => []) (fun _ => M)) : Spec Tryz.prog 166 #[sl a l.length, .func (.func c) #[] cap.toArray] (CL l a :: FΓ) M (fun _ : Unit => .bool (l.any g)) (fun _ => []) (fun _ => M) := by
  refine spec_go (args := [sl a l.length, .func (.func c) #[] cap.toArray]) Tryz.func166 Tryz.ntmps166 rfl (by exact Nat.le_of_ble_eq_true rfl) fun B hB => ?_
  refine go_seq ?_; refine go_region ⟨_, Tryz.func166⟩ rfl ?_; refine q0 rfl (o_assign ?_); refine rg_nil ?_; refine go_seq ?_; refine go_region ⟨_, Tryz.func166⟩ rfl ?_; refine q0 rfl (o_move ?_); refine q0 rfl (o_move ?_); refine q0 rfl (o_call Tryz.call220 (index_spec l a c cap FΓ M g hc hcl) (fun x7 => ?_) (hm := permNil)); refine q0 rfl (o_geq ?_); refine q0 rfl (o_assign ?_); refine rg_nil ?_; refine ret1 Tryz.func166 Tryz.results166 wn_ () (by rw [idxP_nonneg]) (fun w hs => (hs.less (by simp)).dropR)
theorem least11_spec (c d : Cl) (hc : u32 c) (hd : u32 d) (b : Nat) : Spec Tryz.prog 168 #[keyV d, .pointer (some ⟨b, 0, none⟩)] [] [boxR b (clCells c) 45] (fun _ : Unit => .bool (!decide (c = d) && below c d)) (fun _ => []) (fun _ => [boxR b (clCells c) 45]) := by
  refine spec_go (args := [keyV d, .pointer (some ⟨b, 0, none⟩)]) Tryz.func168 Tryz.ntmps168 rfl (by exact Nat.le_of_ble_eq_true rfl) fun B hB => ?_
  refine go_seq ?_; refine go_region ⟨_, Tryz.func168⟩ rfl ?_; refine q0 rfl (o_box fun b2 => ?_); refine q0 rfl (o_assign ?_); refine rg_nil ?_; refine go_seq ?_; refine go_region ⟨_, Tryz.func168⟩ rfl ?_; refine q0 rfl (o_lds ?_); refine q0 rfl (o_lds ?_); refine q0 rfl (o_neC ?_ (c := c) (c' := d)); refine q0 rfl (o_move ?_); refine qI rfl rfl rfl wl_ (fun hg7 => o_lds ?_) (fun hg7 => ?_)
  · refine qT rfl rfl rfl (o_lds ?_); refine qT rfl rfl rfl (o_call Tryz.call169 (below_spec c d hc hd) (fun x10 => ?_)); refine q0 rfl (o_pickT ?_); refine q0 rfl (o_assign ?_); refine rg_nil ?_; refine ret1 Tryz.func168 Tryz.results168 wn_ () (by simp_all) (fun w hs => (hs.less (by simp)).drop)
  · refine qF rfl rfl rfl ?_; refine qF rfl rfl rfl ?_; refine q0 rfl (o_pickF ?_); refine q0 rfl (o_assign ?_); refine rg_nil ?_; refine ret1 Tryz.func168 Tryz.results168 wn_ () (by simp_all) (fun w hs => (hs.less (by simp)).drop)
theorem least1_spec (l : List Cl) (a : SH) (c : Cl) (hc : u32 c) (b : Nat) : Spec Tryz.prog 167 #[keyV c, .pointer (some ⟨b, 0, none⟩)] [CL l a] [boxR b [sl a l.length] 25] (fun _ : Unit => .bool (needless l c)) (fun _ => []) (fun _ => [boxR b [sl a l.length] 25]) := by
  refine spec_go (args := [keyV c, .pointer (some ⟨b, 0, none⟩)]) Tryz.func167 Tryz.ntmps167 rfl (by exact Nat.le_of_ble_eq_true rfl) fun B hB => ?_
  refine go_openCL (l := l) (a := a) (fun hl1 hA1 hU1 => ?_); refine go_seq ?_; refine go_region ⟨_, Tryz.func167⟩ rfl ?_; refine q0 rfl (o_box fun b2 => ?_); refine q0 rfl (o_assign ?_); refine rg_nil ?_; refine go_seq ?_; refine go_region ⟨_, Tryz.func167⟩ rfl ?_; refine q0 rfl (o_ld ?_); refine q0 rfl (o_func ?_); refine q0 rfl (o_call Tryz.call166 (contains_spec l a 168 [.pointer (some ⟨b2, 0, none⟩)] [] [boxR b2 (clCells c) 45] (fun d => !decide (c = d) && below c d) Tryz.call168 (fun d hd => least11_spec c d hc (hU1 d hd) b2)) (fun x6 => ?_)); refine q0 rfl (o_assign ?_); refine rg_nil ?_; refine ret1 Tryz.func167 Tryz.results167 wn_ () rfl (fun w hs => (hs.less (by simp)).drop)
end Go.Hy
namespace Go.Hy
open Go.Proofs
set_option maxRecDepth 100000
theorem clFlat_snoc (l : List Cl) (c : Cl) : clFlat (l ++ [c]) = clFlat l ++ clCells c := by simp [clFlat]
/-- slices.SortFunc at a row of the call's own. -/
theorem sortRow_spec (l : List Cl) (a : SH) (n : Nat) (hn : n = l.length) (hb : n * 8 ≤ reach) :
    Spec Tryz.prog 170 #[sl a n, .func (.func 171) #[] #[]] [] [rowS 2 45 a n (clFlat l)] (fun _ : {l' : List Cl // SortOf l l'} => .tuple #[]) (fun _ => []) (fun x => [rowS 2 45 a n (clFlat x.1)]) := by
  subst hn; intro ok w hok hs; have hown : w.ownsRow 0 45 2 (sl a l.length) l.length (clFlat l) := hs.res _ List.mem_cons_self w (fun _ _ => rfl); rcases hown.2 with ⟨h1, h2⟩ | ⟨g, cap, cur, h1, h2, h3, h4, h5, h6, h7⟩
  · have hl : l = [] := List.eq_nil_of_length_eq_zero h2; subst hl; have hc := AnyF.slices_SortFunc_none (P := Tryz.prog) Tryz.sortL a.1 a.2 (.func (.func 171) #[] #[]) w; have hc2 : Calls Tryz.prog 170 #[sl a 0, .func (.func 171) #[] #[]] w _ := hc; refine hc2.mono ?_; rintro e w' ⟨he, hw⟩; subst hw; exact ⟨⟨[], List.Perm.refl _, List.Pairwise.nil⟩, he, hs⟩
  · obtain ⟨ao, ac⟩ := a; have e1 : ao = some ⟨g, 0, none⟩ := by injection h1
    have e2 : ac = cap := by injection h1
    subst e1; subst e2
    have hfl : cur.toList = clFlat l ++ cur.toList.drop (l.length * 2) := by
      have := List.take_append_drop (l.length * 2) cur.toList; rw [h7] at this; exact this.symm
    have hbox : St ⟨ok, domAll [rowS 2 45 (some ⟨g, 0, none⟩, ac) l.length (clFlat l)], w⟩ [] [boxR g (clFlat l ++ cur.toList.drop (l.length * 2)) 45] w := by
      refine hs.turn (m' := boxR g (clFlat l ++ cur.toList.drop (l.length * 2)) 45) (Chg.refl _ _) (fun w2 hw2 => ?_) (fun b hb => ?_)
      · show w2.heap[g]? = _; rw [hw2 g rfl, ← hfl, Array.toArray_toList]; exact h3
      · have hb : b = g := hb; subst hb; exact ⟨(Array.getElem?_eq_some_iff.mp h3).1, .inl rfl⟩
    have hdom : ∀ b, domAll [rowS 2 45 (some ⟨g, 0, none⟩, ac) l.length (clFlat l)] b ↔ domAll [boxR g (clFlat l ++ cur.toList.drop (l.length * 2)) 45] b := by
      intro b; rw [domAll_cons, domAll_cons]
      have : (rowS 2 45 (some ⟨g, 0, none⟩, ac) l.length (clFlat l)).dom b ↔ b = g := by
        show (sl (some ⟨g, 0, none⟩, ac) l.length).ownBlock = some b ↔ b = g; simp only [sl, Value.ownBlock, Option.some.injEq]; exact eq_comm
      rw [this]; rfl
    have hd2 : domAll [rowS 2 45 (some ⟨g, 0, none⟩, ac) l.length (clFlat l)] = domAll [boxR g (clFlat l ++ cur.toList.drop (l.length * 2)) 45] := funext fun b => propext (hdom b)
    rw [hd2] at hbox; refine (sort_spec l g ac (cur.toList.drop (l.length * 2)) (by unfold reach at hb; omega) ok w (fun b hb => ⟨(hok b hb).1, by rw [← hd2]; exact (hok b hb).2⟩) hbox).mono ?_; rintro e w' ⟨x, he, hs'⟩; refine ⟨⟨x.1, x.2.1, x.2.2⟩, he, ?_⟩; rw [hd2]; have hlen : x.1.length = l.length := x.2.1.length_eq; have hg : w'.heap[g]? = some (.cells (clFlat x.1 ++ cur.toList.drop (l.length * 2)).toArray 45 (0, 0)) := hs'.res _ List.mem_cons_self w' (fun _ _ => rfl); have hfl2 : (clFlat x.1).length = l.length * 2 := by rw [flat_len clCells_len, hlen]
    refine hs'.turn (m' := rowS 2 45 (some ⟨g, 0, none⟩, ac) l.length (clFlat x.1)) (Chg.refl _ _) (fun w2 hw2 => ⟨hfl2, .inr ⟨g, ac, (clFlat x.1 ++ cur.toList.drop (l.length * 2)).toArray, rfl, Nat.zero_le _, ?_, h4, h5, ?_, ?_⟩⟩) (fun b hb => ?_)
    · rw [hw2 g rfl]; exact hg
    · have h8 : cur.toList.length = ac * 2 := by simpa using h6
      simp only [List.size_toArray, List.length_append, List.length_drop, hfl2, h8]; omega
    · rw [← hfl2, List.take_left]
    · have hb : (sl (some ⟨g, 0, none⟩, ac) l.length).ownBlock = some b := hb; simp only [sl, Value.ownBlock, Option.some.injEq] at hb; subst hb; exact ⟨(Array.getElem?_eq_some_iff.mp hg).1, .inl rfl⟩
theorem least_own (l : List Cl) (a : SH) : Spec Tryz.prog 90 #[sl a l.length] [CL l a] [] (fun x : {x : SH × Int × List Cl // LeastIs l x.2} => .tuple #[sl x.1.1 x.1.2.2.length, .int .i64 x.1.2.1]) (fun _ => []) (fun x => [rowS 2 45 x.1.1 x.1.2.2.length (clFlat x.1.2.2)]) := by
  refine spec_go (args := [sl a l.length]) Tryz.func90 Tryz.ntmps90 rfl (by exact Nat.le_of_ble_eq_true rfl) fun B hB => ?_
  refine go_openCL (l := l) (a := a) (fun hl1 hA1 hU1 => ?_); refine go_seq ?_; refine go_region ⟨_, Tryz.func90⟩ rfl ?_; refine q0 rfl (o_assign ?_); refine q0 rfl (o_assign ?_); refine rg_nil ?_; refine go_seq ?_; refine go_region ⟨_, Tryz.func90⟩ rfl ?_; refine q0 rfl (o_makeMap fun b12 => ?_); refine q0 rfl (o_assign ?_); refine rg_nil ?_; refine go_seq ?_; refine go_region ⟨_, Tryz.func90⟩ rfl ?_; refine q0 rfl (o_new fun b5 => ?_); refine rg_nil ?_; refine go_seq ?_; refine go_seq ?_; refine go_region ⟨_, Tryz.func90⟩ rfl ?_; refine q0 rfl (o_move ?_); refine q0 rfl (o_len ?_); refine q0 rfl (o_move ?_); refine rg_nil ?_; refine go_block ?_; refine go_loopI (X := Nat × SH) (fun s => s.1 ≤ l.length ∧ ∀ j, j < s.1 → right24 (l.getD j cl0) = true) (fun s => [(4, .map (some b12)), (5, .pointer (some ⟨b5, 0, none⟩)), (13, sl a l.length), (14, .int .i64 (l.length : Int)), (15, .int .i64 (s.1 : Int))]) (fun s => [CL l a]) (fun s => [mapR b12 (once (l.take s.1)), boxR b5 [sl s.2 (once (l.take s.1)).length] 25, rowS 2 45 s.2 (once (l.take s.1)).length (clFlat (once (l.take s.1)))]) (fun s => l.length - s.1) ((0, (none, 0))) (⟨Nat.zero_le _, fun j hj => absurd hj (Nat.not_lt_zero _)⟩) (by exact ⟨rfl, rfl, rfl, rfl, rfl, trivial⟩) ?_ ?_
  · exact fun w hs => ((hs.less (by simp)).rowS0 2 45).perm (perm2.trans ((List.Perm.swap _ _ _).cons _))
  · intro ⟨i, aO⟩ base0 ⟨hi, hok⟩ next0; dsimp only at hi hok next0 ⊢; refine go_seq ?_; refine go_region ⟨_, Tryz.func90⟩ rfl ?_; refine q0 rfl (o_lss ?_); refine rg_nil ?_; refine go_seq ?_; refine go_condI (fun h16 => ?_) (fun h16 => ?_)
    · have hlt : i < l.length := by have := of_decide_eq_true h16; omega
      obtain ⟨bk, o, hav⟩ := hA1 (by omega); have hu := hU1 _ (getD_mem (d := cl0) hlt); have hol := once_take_len l i; refine go_skip ?_; refine go_seq ?_; refine go_block ?_; refine go_seq ?_; refine go_region ⟨_, Tryz.func90⟩ rfl ?_; refine q0 rfl (o_ixN ?_); refine q0 rfl (o_ldC ?_); refine q0 rfl (o_new fun b7 => ?_); refine q0 rfl (o_st ?_); refine rg_nil ?_; refine go_seq ?_; refine go_seq ?_; refine go_region ⟨_, Tryz.func90⟩ rfl ?_; refine q0 rfl (o_lds ?_); refine q0 rfl (o_call Tryz.call33 (clauseRight_spec (l.getD i cl0) hu) (fun x20 => ?_)); refine q0 rfl (o_not ?_); refine rg_nil ?_; refine go_condI (fun h21 => ?_) (fun h21 => ?_)
      · have hr : right24 (l.getD i cl0) = false := by simpa using h21
        refine go_seq ?_; refine go_region ⟨_, Tryz.func90⟩ rfl ?_; refine q0 rfl (o_assign ?_); refine q0 rfl (o_assign ?_); refine rg_nil ?_; refine ret2 Tryz.func90 Tryz.results90 wn_ wn_ ⟨((none, 0), 2, []), by (unfold LeastIs; rw [all_not hlt hr]; rfl)⟩ rfl (fun w hs => (hs.less (Γ' := []) (by simp)).bare.rowS0 2 45)
      · have hr : right24 (l.getD i cl0) = true := by simpa using h21
        refine go_skip ?_; refine go_seq ?_; refine go_region ⟨_, Tryz.func90⟩ rfl ?_; refine q0 rfl (o_move ?_); refine q0 rfl (o_lds ?_); refine q0 rfl (o_lookupM ?_); refine q0 rfl (o_not ?_); refine rg_nil ?_; refine go_condI (fun h25 => ?_) (fun h25 => ?_)
        · have hnin : l.getD i cl0 ∉ once (l.take i) := by simpa using h25
          refine go_seq ?_; refine go_region ⟨_, Tryz.func90⟩ rfl ?_; refine q0 rfl (o_move ?_); refine q0 rfl (o_lds ?_); refine q0 rfl (o_mapUpd ?_); refine rg_nil ?_; refine go_region ⟨_, Tryz.func90⟩ rfl ?_; refine q0 rfl (o_ld ?_); refine q0 rfl (o_lds ?_); refine q0 rfl (o_lit1 fun b30 => ?_); refine q0 rfl (o_appS (fun a31 => ?_)  ); refine q0 rfl (o_st ?_); refine rg_nil ?_; refine go_inBlock ?_; refine go_region ⟨_, Tryz.func90⟩ rfl ?_; refine q0 rfl (o_add ?_); refine q0 rfl (o_move ?_); refine rg_nil ?_; have hst := once_take_succ hlt; rw [if_neg hnin] at hst; have hlen' : (once (l.take (i + 1))).length = (once (l.take i)).length + 1 := by rw [hst]; simp
          refine go_state (fun w hs => ?_) (next0 (i + 1, a31) _ ⟨hlt, fun j hj => (by rcases Nat.lt_succ_iff_lt_or_eq.mp hj with h | h; exact hok j h; subst h; exact hr)⟩ (by simp only; omega) ⟨rfl, rfl, rfl, rfl, rfl, trivial⟩); dsimp only; rw [hlen', hst, clFlat_snoc]; exact ((hs.less (by simp)).perm perm3).dropR (A := [_, _, _])
        · refine go_skip ?_; refine go_inBlock ?_; refine go_region ⟨_, Tryz.func90⟩ rfl ?_; refine q0 rfl (o_add ?_); refine q0 rfl (o_move ?_); refine rg_nil ?_; have hin : l.getD i cl0 ∈ once (l.take i) := by simpa using h25
          have hst := once_take_succ hlt; rw [if_pos hin] at hst; refine go_state (fun w hs => ?_) (next0 (i + 1, aO) _ ⟨hlt, fun j hj => (by rcases Nat.lt_succ_iff_lt_or_eq.mp hj with h | h; exact hok j h; subst h; exact hr)⟩ (by simp only; omega) ⟨rfl, rfl, rfl, rfl, rfl, trivial⟩); dsimp only; rw [hst]; exact (hs.less (by simp)).drop
    · have hge : i = l.length := by have := of_decide_eq_false h16; omega
      have hall : l.all right24 = true := all_of (by rw [← hge]; exact hok); subst hge; rw [List.take_length]; have hUo : ∀ c, c ∈ once l → u32 c := fun c hc => hU1 c ((once_mem c l).mp hc)
      have hol := once_len l; refine go_state (fun w hs => ((hs.perm perm2).settleCL hB rfl rfl (by omega) hUo)) ?_; refine go_exit rfl ?_; refine go_seq ?_; refine go_region ⟨_, Tryz.func90⟩ rfl ?_; refine q0 rfl (o_func ?_); refine q0 rfl (o_assign ?_); refine rg_nil ?_; refine go_seq ?_; refine go_region ⟨_, Tryz.func90⟩ rfl ?_; refine q0 rfl (o_assign ?_); refine rg_nil ?_; refine go_seq ?_; refine go_seq ?_; refine go_region ⟨_, Tryz.func90⟩ rfl ?_; refine q0 rfl (o_ld ?_); refine q0 rfl (o_len ?_); refine q0 rfl (o_move ?_); refine rg_nil ?_; refine go_block ?_; refine go_loopI (X := Nat × SH) (fun s => s.1 ≤ (once l).length) (fun s => [(8, .func (.func 167) #[] [.pointer (some ⟨b5, 0, none⟩)].toArray), (9, sl s.2 (keptUpto l s.1).length), (34, sl aO (once l).length), (35, .int .i64 ((once l).length : Int)), (36, .int .i64 (s.1 : Int))]) (fun s => [CL (once l) aO]) (fun s => [boxR b5 [sl aO (once l).length] 25, rowS 2 45 s.2 (keptUpto l s.1).length (clFlat (keptUpto l s.1))]) (fun s => (once l).length - s.1) ((0, (none, 0))) (Nat.zero_le _) (by exact ⟨rfl, rfl, rfl, rfl, rfl, trivial⟩) ?_ ?_
      · exact fun w hs => (((hs.less (by simp +contextual)).rowS0 2 45).perm perm2).dropR (A := [_, _])
      · intro ⟨i, aK⟩ base1 hi next1; dsimp only at hi next1 ⊢; refine go_seq ?_; refine go_region ⟨_, Tryz.func90⟩ rfl ?_; refine q0 rfl (o_lss ?_); refine rg_nil ?_; refine go_seq ?_; refine go_condI (fun h37 => ?_) (fun h37 => ?_)
        · have hlt : i < (once l).length := by have := of_decide_eq_true h37; omega
          refine go_openCL (l := once l) (a := aO) (fun _ hA2 _ => ?_); obtain ⟨bk, o, hav⟩ := hA2 (by omega); have hu := hUo _ (getD_mem (d := cl0) hlt); have hkl := keptUpto_len l i; refine go_skip ?_; refine go_seq ?_; refine go_block ?_; refine go_seq ?_; refine go_region ⟨_, Tryz.func90⟩ rfl ?_; refine q0 rfl (o_ixN ?_); refine q0 rfl (o_ldC ?_); refine q0 rfl (o_new fun b11 => ?_); refine q0 rfl (o_st ?_); refine rg_nil ?_; refine go_seq ?_; refine go_region ⟨_, Tryz.func90⟩ rfl ?_; refine q0 rfl (o_move ?_); refine q0 rfl (o_lds ?_); refine q0 rfl (o_callC Tryz.call167 (least1_spec (once l) aO ((once l).getD i cl0) hu b5) (cap := [.pointer (some ⟨b5, 0, none⟩)]) (fun x42 => ?_)); refine q0 rfl (o_not ?_); refine rg_nil ?_; refine go_condI (fun h43 => ?_) (fun h43 => ?_)
          · refine go_region ⟨_, Tryz.func90⟩ rfl ?_; refine q0 rfl (o_move ?_); refine q0 rfl (o_lds ?_); refine q0 rfl (o_lit1 fun b46 => ?_); refine q0 rfl (o_appS (fun a47 => ?_)  ); refine q0 rfl (o_assign ?_); refine rg_nil ?_; refine go_inBlock ?_; refine go_region ⟨_, Tryz.func90⟩ rfl ?_; refine q0 rfl (o_add ?_); refine q0 rfl (o_move ?_); refine rg_nil ?_; have hnd : needless (once l) ((once l).getD i cl0) = false := by simpa using h43
            have hst := keptUpto_succ hlt; rw [hnd, if_neg (by decide)] at hst; have hlen' : (keptUpto l (i + 1)).length = (keptUpto l i).length + 1 := by rw [hst]; simp
            refine go_state (fun w hs => ?_) (next1 (i + 1, a47) _ hlt (by simp only; omega) ⟨rfl, by rw [hlen']; rfl, rfl, rfl, rfl, trivial⟩); dsimp only; rw [hlen', hst, clFlat_snoc]; exact ((hs.less (by simp)).perm perm2).dropR (A := [_, _])
          · refine go_skip ?_; refine go_inBlock ?_; refine go_region ⟨_, Tryz.func90⟩ rfl ?_; refine q0 rfl (o_add ?_); refine q0 rfl (o_move ?_); refine rg_nil ?_; have hnd : needless (once l) ((once l).getD i cl0) = true := by simpa using h43
            have hst := keptUpto_succ hlt; rw [hnd, if_pos rfl] at hst; refine go_state (fun w hs => ?_) (next1 (i + 1, aK) _ hlt (by simp only; omega) ⟨rfl, by rw [hst]; rfl, rfl, rfl, rfl, trivial⟩); dsimp only; rw [hst]; exact (hs.less (by simp)).dropR (A := [_, _])
        · have hge2 : i = (once l).length := by have := of_decide_eq_false h37; omega
          subst hge2; rw [keptUpto_all]; refine go_exit rfl ?_; refine go_seq ?_; refine go_seq ?_; refine go_region ⟨_, Tryz.func90⟩ rfl ?_; refine q0 rfl (o_move ?_); refine q0 rfl (o_len ?_); refine q0 rfl (o_gtr ?_); refine rg_nil ?_; refine go_condI (fun h51 => ?_) (fun h51 => ?_)
          · have h64 : 64 < (kept l).length := by have := of_decide_eq_true h51; omega
            refine go_seq ?_; refine go_region ⟨_, Tryz.func90⟩ rfl ?_; refine q0 rfl (o_assign ?_); refine q0 rfl (o_assign ?_); refine rg_nil ?_; refine ret2 Tryz.func90 Tryz.results90 wn_ wn_ ⟨((none, 0), 3, []), by (unfold LeastIs; rw [hall, if_neg (by decide), if_pos h64])⟩ rfl (fun w hs => (hs.less (Γ' := []) (by simp)).bare.rowS0 2 45)
          · have h64 : ¬ 64 < (kept l).length := by have := of_decide_eq_false h51; omega
            refine go_skip ?_; refine go_seq ?_; refine go_region ⟨_, Tryz.func90⟩ rfl ?_; refine q0 rfl (o_move ?_); refine q0 rfl (o_call Tryz.call170 (sortRow_spec (kept l) aK (kept l).length rfl (by unfold reach; omega)) (fun x53 => ?_)); refine rg_nil ?_; refine go_seq ?_; refine go_region ⟨_, Tryz.func90⟩ rfl ?_; refine q0 rfl (o_move ?_); refine q0 rfl (o_assign ?_); refine q0 rfl (o_assign ?_); refine rg_nil ?_; have hpl : x53.1.length = (kept l).length := x53.2.1.length_eq; refine ret2 Tryz.func90 Tryz.results90 wn_ wn_ ⟨(aK, 0, x53.1), by (unfold LeastIs; rw [hall, if_neg (by decide), if_neg h64]; exact ⟨rfl, x53.2⟩)⟩ (by rw [hpl]; rfl) (fun w hs => ?_); have h := (hs.less (Γ' := []) (by simp)).dropR (A := [_]); rw [← hpl] at h; exact h
theorem least_spec (l : List Cl) (a : SH) : Spec Tryz.prog 90 #[sl a l.length] [CL l a] [] (fun x : {x : SH × Int × List Cl // LeastIs l x.2} => .tuple #[sl x.1.1 x.1.2.2.length, .int .i64 x.1.2.1]) (fun x => [CL x.1.2.2 x.1.1]) (fun _ => []) := fun ok w hok hs => (least_own l a ok w hok hs).mono fun e w' h => by
  obtain ⟨x, he, hs'⟩ := h; have hu := (hs.facts _ List.mem_cons_self).2
  have hx : x.1.2.2.length ≤ 64 ∧ ∀ c, c ∈ x.1.2.2 → u32 c := by
    have h := x.2; unfold LeastIs at h; split at h
    · rw [h]; exact ⟨Nat.zero_le _, fun c hc => by cases hc⟩
    · split at h
      · rw [h]; exact ⟨Nat.zero_le _, fun c hc => by cases hc⟩
      · rename_i h64; exact ⟨by rw [h.2.1.length_eq]; omega, fun c hc => hu c (kept_mem (h.2.1.mem_iff.mp hc))⟩
  exact ⟨x, he, (hs'.settleCL trivial rfl rfl (by unfold reach; omega) hx.2).less (by simp)⟩
end Go.Hy
namespace Go.Hy
open Go.Proofs
set_option maxRecDepth 100000
theorem equal_spec (l m : List Cl) (a b : SH) : Spec Tryz.prog 194 #[sl a l.length, sl b m.length] [CL l a, CL m b] [] (fun _ : Unit => .bool (decide (l = m))) (fun _ => []) (fun _ => []) := by
  refine spec_go (args := [sl a l.length, sl b m.length]) Tryz.func194 Tryz.ntmps194 rfl (by exact Nat.le_of_ble_eq_true rfl) fun B hB => ?_
  refine go_openCL (l := l) (a := a) (fun hl1 hA1 hU1 => ?_); refine go_openCL (l := m) (a := b) (fun hl2 hA2 hU2 => ?_); refine go_seq ?_; refine go_region ⟨_, Tryz.func194⟩ rfl ?_; refine q0 rfl (o_assign ?_); refine rg_nil ?_; refine go_seq ?_; refine go_seq ?_; refine go_region ⟨_, Tryz.func194⟩ rfl ?_; refine q0 rfl (o_move ?_); refine q0 rfl (o_len ?_); refine q0 rfl (o_move ?_); refine q0 rfl (o_len ?_); refine q0 rfl (o_neI ?_); refine rg_nil ?_; refine go_condI (fun h10 => ?_) (fun h10 => ?_)
  · have hne : ¬ l = m := fun e => by subst e; simp at h10
    refine go_seq ?_; refine go_region ⟨_, Tryz.func194⟩ rfl ?_; refine q0 rfl (o_assign ?_); refine rg_nil ?_; refine ret1 Tryz.func194 Tryz.results194 wn_ () (by rw [decide_eq_false hne]) (fun w hs => hs.none)
  · have hlen : l.length = m.length := by simp at h10; omega
    refine go_skip ?_; refine go_seq ?_; refine go_seq ?_; refine go_region ⟨_, Tryz.func194⟩ rfl ?_; refine q0 rfl (o_move ?_); refine q0 rfl (o_len ?_); refine q0 rfl (o_move ?_); refine rg_nil ?_; refine go_block ?_; refine go_loopI (X := Nat) (fun i => i ≤ l.length ∧ ∀ j, j < i → l.getD j cl0 = m.getD j cl0) (fun i => [(0, sl a l.length), (1, sl b m.length), (12, .int .i64 (l.length : Int)), (13, .int .i64 (i : Int))]) (fun i => [CL l a, CL m b]) (fun i => []) (fun i => l.length - i) (0) (⟨Nat.zero_le _, fun j hj => by omega⟩) (by exact ⟨rfl, rfl, rfl, rfl, trivial⟩) ?_ ?_
    · exact fun w hs => hs.less (by simp +contextual)
    · intro i base0 ⟨hi, hok⟩ next0; refine go_seq ?_; refine go_region ⟨_, Tryz.func194⟩ rfl ?_; refine q0 rfl (o_lss ?_); refine rg_nil ?_; refine go_seq ?_; refine go_condI (fun h14 => ?_) (fun h14 => ?_)
      · have hlt : i < l.length := by have := of_decide_eq_true h14; omega
        have hlt2 : i < m.length := by omega
        obtain ⟨bk, o, hav⟩ := hA1 (by omega); obtain ⟨bk2, o2, hav2⟩ := hA2 (by omega); refine go_skip ?_; refine go_seq ?_; refine go_block ?_; refine go_seq ?_; refine go_region ⟨_, Tryz.func194⟩ rfl ?_; refine q0 rfl (o_move ?_); refine q0 rfl (o_assign ?_); refine rg_nil ?_; refine go_seq ?_; refine go_draw (pn := 1000000) (tn := false) (A := [0, 0, 3, 7, 0, 0, 48, 112, 255]) (l := [0, 1, 2, 3, 4, 5, 6, 7, 8]) (fin := []) Tab.mixed ⟨_, Tryz.func194⟩ (by rfl) ?_; refine n0 rfl (v_move ?_); refine n0 rfl (v_move ?_); refine n0 rfl (v_ixN ?_); refine n0 rfl (v_ldC ?_); refine n0 rfl (v_move ?_); refine n0 rfl (v_move ?_); refine n0 rfl (v_ixN ?_); refine n0 rfl (v_ldC ?_); refine n0 rfl (v_neC ?_); refine NV.done ?_; refine rg_nil ?_; refine go_condI (fun h24 => ?_) (fun h24 => ?_)
        · refine go_seq ?_; refine go_region ⟨_, Tryz.func194⟩ rfl ?_; refine q0 rfl (o_assign ?_); refine rg_nil ?_; refine ret1 Tryz.func194 Tryz.results194 wn_ () (by rw [decide_eq_false (fun e => by subst e; simp at h24)]) (fun w hs => hs.none)
        · refine go_skip ?_; refine go_inBlock ?_; refine go_region ⟨_, Tryz.func194⟩ rfl ?_; refine q0 rfl (o_add ?_); refine q0 rfl (o_move ?_); refine rg_nil ?_; have hb : l.getD i cl0 = m.getD i cl0 := by simpa using h24
          refine go_state (fun w hs => ?_) (next0 (i + 1) _ ⟨hlt, fun j hj => (by rcases Nat.lt_succ_iff_lt_or_eq.mp hj with h | h; exact hok j h; subst h; exact hb)⟩ (by omega) ⟨rfl, rfl, rfl, rfl, trivial⟩); exact hs
      · have hge : i = l.length := by have := of_decide_eq_false h14; omega
        refine go_exit rfl ?_; refine go_seq ?_; refine go_region ⟨_, Tryz.func194⟩ rfl ?_; refine q0 rfl (o_assign ?_); refine rg_nil ?_; refine ret1 Tryz.func194 Tryz.results194 wn_ () (by rw [decide_eq_true (list_eq_of hlen (by rw [← hge]; exact hok))]) (fun w hs => hs.none)
end Go.Hy
namespace Go.Hy
open Go.Proofs
set_option maxRecDepth 100000
theorem formRight_spec : FRight := by
  intro l a; refine spec_go (args := [sl a l.length]) Tryz.func137 Tryz.ntmps137 rfl (by exact Nat.le_of_ble_eq_true rfl) fun B hB => ?_
  refine go_know (p := True) (fun _ _ => trivial) (fun _ => ?_); refine go_seq ?_; refine go_region ⟨_, Tryz.func137⟩ rfl ?_; refine q0 rfl (o_assign ?_); refine rg_nil ?_; refine go_seq ?_; refine go_region ⟨_, Tryz.func137⟩ rfl ?_; refine q0 rfl (o_move ?_); refine q0 rfl (o_call Tryz.call90 (least_spec l a) (fun x7 => ?_)); refine q0 rfl (o_move ?_); refine q0 rfl (o_extract ?_); refine q0 rfl (o_extract ?_); refine q0 rfl (o_assign ?_); refine q0 rfl (o_assign ?_); refine rg_nil ?_; refine go_seq ?_; refine go_region ⟨_, Tryz.func137⟩ rfl ?_; refine q0 rfl (o_move ?_); refine q0 rfl (o_eqI ?_); refine q0 rfl (o_move ?_); refine qI rfl rfl rfl wl_ (fun hg12 => o_move ?_) (fun hg12 => ?_)
  · refine qT rfl rfl rfl (o_move ?_); refine qT rfl rfl rfl (o_call Tryz.call194 (equal_spec x7.1.2.2 l x7.1.1 a) (fun x15 => ?_)); refine q0 rfl (o_pickT ?_); refine q0 rfl (o_assign ?_); refine rg_nil ?_; have hlr := least_right x7.2; refine ret1 Tryz.func137 Tryz.results137 wn_ () (by rw [← hlr]; simp_all) (fun w hs => hs.none)
  · refine qF rfl rfl rfl ?_; refine qF rfl rfl rfl ?_; refine q0 rfl (o_pickF ?_); refine q0 rfl (o_assign ?_); refine rg_nil ?_; have hlr := least_right x7.2; refine ret1 Tryz.func137 Tryz.results137 wn_ () (by rw [← hlr]; simp_all) (fun w hs => hs.none)
theorem faceRight_spec : FaceRight := by
  intro l a; refine spec_go (args := [sl a l.length]) Tryz.func88 Tryz.ntmps88 rfl (by exact Nat.le_of_ble_eq_true rfl) fun B hB => ?_
  refine go_openCL (l := l) (a := a) (fun hl1 hA1 hU1 => ?_); refine go_seq ?_; refine go_region ⟨_, Tryz.func88⟩ rfl ?_; refine q0 rfl (o_assign ?_); refine rg_nil ?_; refine go_seq ?_; refine go_region ⟨_, Tryz.func88⟩ rfl ?_; refine q0 rfl (o_move ?_); refine q0 rfl (o_call Tryz.call137 (formRight_spec l a) (fun x4 => ?_)); refine q0 rfl (o_move ?_); refine qI rfl rfl rfl wl_ (fun hg5 => o_move ?_) (fun hg5 => ?_)
  · refine qT rfl rfl rfl (o_call Tryz.call166 (contains_spec l a 34 [] [] [] clash Tryz.call34 (fun x hx => clash_spec x (hU1 x hx))) (fun x7 => ?_)); refine qT rfl rfl rfl (o_not ?_); refine q0 rfl (o_pickT ?_); refine q0 rfl (o_assign ?_); refine rg_nil ?_; refine ret1 Tryz.func88 Tryz.results88 wn_ () (by simp_all [faceRight]) (fun w hs => hs.none)
  · refine qF rfl rfl rfl ?_; refine qF rfl rfl rfl ?_; refine q0 rfl (o_pickF ?_); refine q0 rfl (o_assign ?_); refine rg_nil ?_; refine ret1 Tryz.func88 Tryz.results88 wn_ () (by simp_all [faceRight]) (fun w hs => hs.none)
theorem form_spec : FORM := ⟨formRight_spec, faceRight_spec, fDims_spec⟩
end Go.Hy
namespace Go.Hy
open Go.Proofs
set_option maxRecDepth 100000
theorem dropHi {q i : Nat} (h : q < 16777216) : q / 2 ^ (i + 1) * 2 ^ i < 16777216 := by
  have h1 : q / 2 ^ (i + 1) * 2 ^ i ≤ q / 2 ^ i * 2 ^ i := Nat.mul_le_mul_right _ (Nat.div_le_div_left (Nat.pow_le_pow_right (by omega) (by omega)) (Nat.pow_pos (by omega))); have h2 := Nat.div_mul_le_self q (2 ^ i); omega
theorem pow24 {m : Nat} (h : m ≤ 24) : 2 ^ m ≤ 16777216 := Nat.pow_le_pow_right (n := 2) (j := 24) (by omega) h
theorem below24 (i : Int) (h0 : 0 ≤ i) : Spec Tryz.prog 177 #[.int .i64 (i)] [] [] (fun _ : Unit => .int .u32 (((2 ^ (min i.toNat 24) - 1) : Nat) : Int)) (fun _ : Unit => []) (fun _ : Unit => []) := by
  refine spec_go (args := [.int .i64 (i)]) Tryz.func177 Tryz.ntmps177 rfl (by exact Nat.le_of_ble_eq_true rfl) fun B hB => ?_
  have hp := pow24 (m := min i.toNat 24) (by omega); have hpos : 0 < 2 ^ (min i.toNat 24) := Nat.pow_pos (by omega); refine go_seq ?_; refine go_region ⟨_, Tryz.func177⟩ rfl ?_; refine q0 rfl (o_assign ?_); refine rg_nil ?_; refine go_seq ?_; refine go_region ⟨_, Tryz.func177⟩ rfl ?_; refine q0 rfl (o_move ?_); refine q0 rfl (o_min ?_); refine q0 rfl (o_convI6 ?_ (m := min i.toNat 24) (ha := by split <;> omega)); refine q0 rfl (o_shl6 ?_ (a := 1) (m := min i.toNat 24) (hm := by omega) (hb := by omega)); refine q0 rfl (o_sub6 ?_ (a := 1 * 2 ^ (min i.toNat 24)) (b := 1) (h := by omega) (ha := by omega)); refine q0 rfl (o_conv6U ?_ (a := 1 * 2 ^ (min i.toNat 24) - 1) (ha := by omega)); refine q0 rfl (o_assign ?_); refine rg_nil ?_; refine ret1 Tryz.func177 Tryz.results177 wn_ () (by rw [Nat.one_mul]) (fun w hs => hs.none)
theorem drop_spec (s : Nat) (i : Int) (hs : s < 4294967296) (hi : in64 i) : Spec Tryz.prog 100 #[.int .u32 ((s : Nat) : Int), .int .i64 (i)] [] [] (fun _ : Unit => .int .u32 (((dropM s i) : Nat) : Int)) (fun _ : Unit => []) (fun _ : Unit => []) := by
  refine spec_go (args := [.int .u32 ((s : Nat) : Int), .int .i64 (i)]) Tryz.func100 Tryz.ntmps100 rfl (by exact Nat.le_of_ble_eq_true rfl) fun B hB => ?_
  have hs24 := and24_lt s; refine go_seq ?_; refine go_region ⟨_, Tryz.func100⟩ rfl ?_; refine q0 rfl (o_assign ?_); refine rg_nil ?_; refine go_seq ?_; refine go_region ⟨_, Tryz.func100⟩ rfl ?_; refine q0 rfl (o_move ?_); refine q0 rfl (o_andU32 ?_ (a := s) (b := 16777215)); refine q0 rfl (o_assign ?_); refine rg_nil ?_; refine go_seq ?_; refine go_seq ?_; refine go_region ⟨_, Tryz.func100⟩ rfl ?_; refine q0 rfl (o_move ?_); refine q0 rfl (o_call Tryz.call176 (dimension_spec i ) (fun x8 => ?_)); refine q0 rfl (o_not ?_); refine rg_nil ?_; refine go_condI (fun h9 => ?_) (fun h9 => ?_)
  · have c9 : (!(decide (0 ≤ i) && decide (i < 24))) = true := h9
    try simp only [sC, bne_iff_ne, beq_iff_eq, ne_eq] at c9
    refine go_seq ?_; refine go_region ⟨_, Tryz.func100⟩ rfl ?_; refine q0 rfl (o_move ?_); refine q0 rfl (o_assign ?_); refine rg_nil ?_; refine ret1 Tryz.func100 Tryz.results100 wn_ () (by rw [dropM, if_neg (by simp at h9; omega)]) (fun w hs => hs.none)
  · have c9 : (!(decide (0 ≤ i) && decide (i < 24))) = false := h9
    try simp only [sC, bne_iff_ne, beq_iff_eq, ne_eq] at c9
    have hp := pow24 (m := min i.toNat 24) (by omega); have hpos : 0 < 2 ^ (min i.toNat 24) := Nat.pow_pos (by omega); have hmn : min i.toNat 24 = i.toNat := by omega
    have hlt32 : (s &&& 16777215) / 2 ^ (i.toNat + 1) * 2 ^ i.toNat < 16777216 := dropHi (i := i.toNat) hs24; refine go_skip ?_; refine go_seq ?_; refine go_region ⟨_, Tryz.func100⟩ rfl ?_; refine q0 rfl (o_move ?_); refine q0 rfl (o_move ?_); refine q0 rfl (o_call Tryz.call177 (below24 i om_) (fun x13 => ?_)); refine q0 rfl (o_andU32 ?_ (a := s &&& 16777215) (b := 2 ^ (min i.toNat 24) - 1) (ha := by omega) (hb := by omega)); refine q0 rfl (o_move ?_); refine q0 rfl (o_move ?_); refine q0 rfl (o_add ?_); refine q0 rfl (o_convI6 ?_ (m := i.toNat + 1) (ha := by omega)); refine q0 rfl (o_shrU32 ?_ (a := s &&& 16777215) (m := i.toNat + 1)); refine q0 rfl (o_move ?_); refine q0 rfl (o_convI6 ?_ (m := i.toNat) (ha := by omega)); refine q0 rfl (o_shlU32 ?_ (a := (s &&& 16777215) / 2 ^ (min (i.toNat + 1) 32)) (m := i.toNat)); refine q0 rfl (o_orU32 ?_ (ha := by exact Nat.lt_of_le_of_lt Nat.and_le_left (by omega)) (hb := by exact Nat.mod_lt _ (by omega))); refine q0 rfl (o_assign ?_); refine rg_nil ?_; refine ret1 Tryz.func100 Tryz.results100 wn_ () (by rw [dropM, if_pos (by omega), hmn, show min (i.toNat + 1) 32 = i.toNat + 1 by omega, show min i.toNat 32 = i.toNat by omega, Nat.mod_eq_of_lt (by omega)]) (fun w hs => hs.none)
end Go.Hy
