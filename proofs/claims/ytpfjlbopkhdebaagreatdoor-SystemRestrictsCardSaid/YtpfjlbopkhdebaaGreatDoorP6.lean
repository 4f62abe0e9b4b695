/- Contracts of this program's functions and the laws that they need: a separation logic over the machine's rules, one theorem each (partly printed by a program of this repository). -/
import Derived.LaidMore
import Derived.OpenShut
import Derived.Stop.Joined
import Derived.MakeChecks
import Derived.Shelf.Spec.TrailingZeros
import Derived.RangeFuncNested
import Derived.RangeFuncBound
import Derived.RangeFuncCalls
import Derived.RangeFuncLeaves
import Derived.RangeFuncBox
import Derived.Shelf.Abstract
import Derived.Shelf.RegionOpen
import Derived.WalkKit
import Derived.OwnWalkIn
import Derived.TacticsInMore
import Derived.LoopNIn
import Derived.LoopIn
import Derived.Maps.AppendAt
import Derived.Test.YtpfjlbopkhdebaaGreatDoorP3
import Derived.Test.YtpfjlbopkhdebaaGreatDoorP4
import Derived.Test.YtpfjlbopkhdebaaGreatDoorP5
set_option linter.unusedVariables false
set_option linter.unusedSimpArgs false
set_option linter.unusedSectionVars false
namespace Go.Hy
/-! ### Formulas and faces: what the program makes of them -/
abbrev EL : Type := Int × List Cl
def bitM (i : Int) : Nat := if 0 ≤ i ∧ i < 24 then 2 ^ i.toNat else 0
def withM (s : Nat) (i : Int) : Nat := if 0 ≤ i ∧ i < 24 then (s &&& 16777215) ||| 2 ^ i.toNat else s &&& 16777215
def withoutM (s : Nat) (i : Int) : Nat := if 0 ≤ i ∧ i < 24 then andNot32 (s &&& 16777215) (2 ^ i.toNat) else s &&& 16777215
theorem withM_zero (i : Int) : withM 0 i = bitM i := by unfold withM bitM; split <;> simp
theorem bitM_lt (i : Int) : bitM i < 16777216 := by
  unfold bitM
  split
  · exact Nat.pow_lt_pow_right (n := 24) (a := 2) (by decide) (by omega)
  · decide
theorem withoutM_lt (s : Nat) (i : Int) : withoutM s i < 16777216 := by
  unfold withoutM
  split
  · rw [show (16777216 : Nat) = 2 ^ 24 from rfl]
    exact Nat.lt_pow_two_of_testBit _ fun j hj => by
      rw [andNot32_bit, and24_bit, decide_eq_false (show ¬ j < 24 by omega)]; simp
  · exact and24_lt s
theorem has_bits (s : Nat) (i : Int) : ((decide (0 ≤ i) && decide (i < 24)) && decide (((s / 2 ^ (min i.toNat 32) &&& 1 : Nat) : Int) = 1)) = hasM s i := by
  rw [hasM_eq, Nat.and_one_is_mod]
  by_cases h : 0 ≤ i ∧ i < 24
  · rw [show min i.toNat 32 = i.toNat by omega]
    congr 1
    exact decide_eq_decide.mpr (by omega)
  · have : (decide (0 ≤ i) && decide (i < 24)) = false := by simp; omega
    rw [this]; rfl
def isDim (i : Int) : Bool := decide (0 ≤ i) && decide (i < 24)
theorem pop_bit {i : Int} (h : isDim i = true) : pop32 (bitM i &&& 16777215) = 1 := by
  have h1 : 0 ≤ i ∧ i < 24 := by unfold isDim at h; simpa using h
  have h2 := bitM_lt i
  rw [and24, Nat.mod_eq_of_lt (by omega)]
  unfold bitM
  rw [if_pos h1]
  exact pop32_one _ (by omega)
theorem pop_none {i : Int} (h : isDim i = false) : pop32 (bitM i &&& 16777215) = 0 := by
  have h1 : ¬ (0 ≤ i ∧ i < 24) := by unfold isDim at h; simp at h; omega
  unfold bitM
  rw [if_neg h1]
  exact pop32_zero
theorem pop_dim (i : Int) : decide (((pop32 (bitM i &&& 16777215) : Nat) : Int) = 1) = isDim i := by
  cases h : isDim i
  · rw [pop_none h]; rfl
  · rw [pop_bit h]; rfl
theorem pop_dim0 (i : Int) : decide (((pop32 (bitM i &&& 16777215) : Nat) : Int) = 0) = !isDim i := by
  cases h : isDim i
  · rw [pop_none h]; rfl
  · rw [pop_bit h]; rfl
def bindE (x : EL) (k : List Cl → EL) : EL := if x.1 ≠ 0 then (x.1, []) else k x.2
theorem bindE_bad {x : EL} {k : List Cl → EL} (h : x.1 ≠ 0) : bindE x k = (x.1, []) := if_pos h
theorem bindE_ok {x : EL} {k : List Cl → EL} (h : x.1 = 0) : bindE x k = k x.2 := if_neg (by simp [h])
/-- On from a list, clause by clause. -/
def foldF (g : List Cl → Cl → EL) : List Cl → List Cl → EL
  | h, [] => (0, h)
  | h, c :: cs => bindE (g h c) fun h' => foldF g h' cs
theorem foldF_on {g : List Cl → Cl → EL} : ∀ {l m h h' : List Cl}, foldF g h l = (0, h') → foldF g h (l ++ m) = foldF g h' m
  | [], m, h, h', e => by
    rw [foldF, Prod.mk.injEq] at e
    rw [List.nil_append, e.2]
  | d :: l, m, h, h', e => by
    rw [foldF] at e
    by_cases h0 : (g h d).1 = 0
    · rw [bindE_ok h0] at e
      rw [List.cons_append, foldF, bindE_ok h0]
      exact foldF_on e
    · rw [bindE_bad h0, Prod.mk.injEq] at e
      exact absurd e.1 h0
theorem foldF_ok {g : List Cl → Cl → EL} {l h h' : List Cl} {i : Nat} (hi : i < l.length) (e : foldF g h (l.take i) = (0, h')) (h0 : (g h' (l.getD i cl0)).1 = 0) : foldF g h (l.take (i + 1)) = (0, (g h' (l.getD i cl0)).2) := by
  rw [take_succ_getD (d := cl0) hi, foldF_on e, foldF, bindE_ok h0, foldF]
theorem foldF_bad {g : List Cl → Cl → EL} {l h h' : List Cl} {i : Nat} (hi : i < l.length) (e : foldF g h (l.take i) = (0, h')) (h0 : (g h' (l.getD i cl0)).1 ≠ 0) : foldF g h l = ((g h' (l.getD i cl0)).1, []) := by
  have e2 : l = l.take i ++ l.getD i cl0 :: l.drop (i + 1) := by rw [getD_get (d := cl0) hi, List.getElem_cons_drop, List.take_append_drop]
  rw [e2, foldF_on e, ← e2, foldF, bindE_bad h0]
theorem foldF_all {g : List Cl → Cl → EL} {l h h' : List Cl} {i : Nat} (hi : i = l.length) (e : foldF g h (l.take i) = (0, h')) : foldF g h l = (0, h') := by
  rw [hi, List.take_length] at e
  exact e
/-! Formulas. -/
def joinF (f g : List Cl) : EL := leastF (f ++ g)
def meetL (f g : List Cl) : List Cl := f.flatMap fun a => g.map fun b => meetC a b
def meetF (f g : List Cl) : EL := leastF (meetL f g)
def oppL (c : Cl) : List Cl := ((listM c.pos).map fun i => (⟨0, bitM i⟩ : Cl)) ++ ((listM c.neg).map fun i => (⟨bitM i, 0⟩ : Cl))
def oppF (c : Cl) : EL := leastF (oppL c)
def notStep (h : List Cl) (c : Cl) : EL := bindE (oppF c) fun o => meetF h o
def notF (f : List Cl) : EL := foldF notStep [cl0] f
def notR (f : List Cl) : EL := if fRight f then notF f else (2, [])
def takeC (c : Cl) (i : Int) : Cl := ⟨withoutM c.pos i, withoutM c.neg i⟩
def putPos (i : Int) (r : List Cl) (c : Cl) : EL := if hasM c.pos i then meetF [takeC c i] r else (0, [takeC c i])
def putNeg (i : Int) (r : List Cl) (c : Cl) (g : List Cl) : EL := if hasM c.neg i then bindE (notF r) fun s => meetF g s else (0, g)
def putStep (i : Int) (r h : List Cl) (c : Cl) : EL := bindE (putPos i r c) fun g => bindE (putNeg i r c g) fun g => joinF h g
theorem putStep_bad1 {i : Int} {r h : List Cl} {c : Cl} {P : EL} (hP : putPos i r c = P) (h0 : P.1 ≠ 0) : putStep i r h c = (P.1, []) := by unfold putStep; rw [hP]; exact bindE_bad h0
theorem putStep_bad2 {i : Int} {r h : List Cl} {c : Cl} {P N : EL} (hP : putPos i r c = P) (h0 : P.1 = 0) (hN : putNeg i r c P.2 = N) (h1 : N.1 ≠ 0) : putStep i r h c = (N.1, []) := by unfold putStep; rw [hP, bindE_ok h0, hN]; exact bindE_bad h1
theorem putStep_end {i : Int} {r h : List Cl} {c : Cl} {P N : EL} (hP : putPos i r c = P) (h0 : P.1 = 0) (hN : putNeg i r c P.2 = N) (h1 : N.1 = 0) : putStep i r h c = joinF h N.2 := by unfold putStep; rw [hP, bindE_ok h0, hN]; exact bindE_ok h1
theorem putNeg_bad {i : Int} {r : List Cl} {c : Cl} {g : List Cl} {s : EL} (h : hasM c.neg i = true) (hs : s = notF r) (h0 : s.1 ≠ 0) : putNeg i r c g = (s.1, []) := by unfold putNeg; rw [if_pos h, ← hs]; exact bindE_bad h0
theorem putNeg_yes {i : Int} {r : List Cl} {c : Cl} {g : List Cl} {s m : EL} (h : hasM c.neg i = true) (hs : s = notF r) (h0 : s.1 = 0) (hm : m = meetF g s.2) : putNeg i r c g = m := by unfold putNeg; rw [if_pos h, ← hs, hm]; exact bindE_ok h0
theorem putNeg_no {i : Int} {r : List Cl} {c : Cl} {g : List Cl} (h : hasM c.neg i = false) : putNeg i r c g = (0, g) := by unfold putNeg; rw [if_neg (by simp [h])]
def formPut (f : List Cl) (i : Int) (r : List Cl) : EL := if (fRight f && fRight r) = false then (2, []) else if isDim i = false then (2, []) else foldF (putStep i r) [] f
/-! Faces. -/
def calmL (l : List Cl) : List Cl := l.filter fun c => !clash c
def ofF (f : List Cl) : EL := if fRight f then leastF (calmL f) else (2, [])
def ofZero (r : List Cl) : EL := bindE (notR r) ofF
def meetA (f g : List Cl) : EL := leastF (f.flatMap fun a => calmL (g.map fun b => meetC a b))
def facePart (i : Int) (r : List Cl) (c : Cl) : EL := if hasM c.pos i then bindE (ofF r) fun x => meetA [takeC c i] x else if hasM c.neg i then bindE (ofZero r) fun x => meetA [takeC c i] x else (0, [takeC c i])
def faceStep (i : Int) (r h : List Cl) (c : Cl) : EL := bindE (facePart i r c) fun g => joinF h g
theorem faceStep_ok {i : Int} {r h : List Cl} {c : Cl} {P : EL} (hP : facePart i r c = P) (h0 : P.1 = 0) : faceStep i r h c = joinF h P.2 := by unfold faceStep; rw [hP]; exact bindE_ok h0
theorem faceStep_bad {i : Int} {r h : List Cl} {c : Cl} {P : EL} (hP : facePart i r c = P) (h0 : P.1 ≠ 0) : faceStep i r h c = (P.1, []) := by unfold faceStep; rw [hP]; exact bindE_bad h0
theorem facePart_pos {i : Int} {r : List Cl} {c : Cl} {q m : EL} (h : hasM c.pos i = true) (hq : q = ofF r) (h0 : q.1 = 0) (hm : m = meetA [takeC c i] q.2) : facePart i r c = m := by unfold facePart; rw [if_pos h, ← hq, hm]; exact bindE_ok h0
theorem facePart_pose {i : Int} {r : List Cl} {c : Cl} {q : EL} (h : hasM c.pos i = true) (hq : q = ofF r) (h0 : q.1 ≠ 0) : facePart i r c = (q.1, []) := by unfold facePart; rw [if_pos h, ← hq]; exact bindE_bad h0
theorem facePart_neg {i : Int} {r : List Cl} {c : Cl} {q m : EL} (h1 : hasM c.pos i = false) (h : hasM c.neg i = true) (hq : q = ofZero r) (h0 : q.1 = 0) (hm : m = meetA [takeC c i] q.2) : facePart i r c = m := by unfold facePart; rw [if_neg (by simp [h1]), if_pos h, ← hq, hm]; exact bindE_ok h0
theorem facePart_nege {i : Int} {r : List Cl} {c : Cl} {q : EL} (h1 : hasM c.pos i = false) (h : hasM c.neg i = true) (hq : q = ofZero r) (h0 : q.1 ≠ 0) : facePart i r c = (q.1, []) := by unfold facePart; rw [if_neg (by simp [h1]), if_pos h, ← hq]; exact bindE_bad h0
theorem facePart_no {i : Int} {r : List Cl} {c : Cl} (h1 : hasM c.pos i = false) (h : hasM c.neg i = false) : facePart i r c = (0, [takeC c i]) := by unfold facePart; rw [if_neg (by simp [h1]), if_neg (by simp [h])]
def facePut (f : List Cl) (i : Int) (r : List Cl) : EL := if (faceRight f && isDim i && fRight r) = false then (2, []) else foldF (faceStep i r) [] f
def single (c : Cl) : Bool := right24 c && !clash c
def cutC (c d : Cl) : Cl := ⟨andNot32 d.pos c.pos, andNot32 d.neg c.neg⟩
def restrictL (f : List Cl) (c : Cl) : List Cl := (f.filter fun d => !clash (meetC c d)).map (cutC c)
def restrictF (f : List Cl) (c : Cl) : EL := if (faceRight f && single c) = false then (2, []) else leastF (restrictL f c)
def joinA (f g : List Cl) : EL := if (faceRight f && faceRight g) = false then (2, []) else joinF f g
def underF (c : Cl) (f : List Cl) : Bool := f.any fun d => below c d
/-! ### Rows that may lie in memory -/
abbrev okE (x : EL) : Prop := rowOk x.2
theorem rowOk_sub {l m : List Cl} (h : rowOk l) (hs : ∀ c, c ∈ m → c ∈ l) (hl : m.length ≤ l.length) : rowOk m := ⟨fun c hc => h.1 c (hs c hc), by have := h.2; omega⟩
theorem okE_least {l : List Cl} (h : ∀ c, c ∈ l → u32 c) : okE (leastF l) := leastF_ok h
theorem okE_bind {x : EL} {k : List Cl → EL} (h : x.1 = 0 → okE (k x.2)) : okE (bindE x k) := by
  by_cases h0 : x.1 = 0
  · rw [bindE_ok h0]; exact h h0
  · rw [bindE_bad h0]; exact rowOk_nil
theorem okE_fold {g : List Cl → Cl → EL} : ∀ {l h : List Cl}, (∀ h c, c ∈ l → rowOk h → okE (g h c)) → rowOk h → okE (foldF g h l)
  | [], h, _, h2 => h2
  | c :: l, h, h1, h2 => by
    rw [foldF]
    exact okE_bind fun _ => okE_fold (fun h' d hd => h1 h' d (List.mem_cons_of_mem _ hd)) (h1 h c List.mem_cons_self h2)
theorem u32_meet {a b : Cl} (h : u32 a) (h2 : u32 b) : u32 (meetC a b) := ⟨Nat.or_lt_two_pow (n := 32) h.1 h2.1, Nat.or_lt_two_pow (n := 32) h.2 h2.2⟩
theorem u32_join {f g : List Cl} (h : ∀ c, c ∈ f → u32 c) (h2 : ∀ c, c ∈ g → u32 c) : ∀ c, c ∈ f ++ g → u32 c := fun c hc => (List.mem_append.mp hc).elim (h c) (h2 c)
theorem u32_meetL {f g : List Cl} (h : ∀ c, c ∈ f → u32 c) (h2 : ∀ c, c ∈ g → u32 c) : ∀ c, c ∈ meetL f g → u32 c := fun c hc => by
  obtain ⟨a, ha, hc⟩ := List.mem_flatMap.mp hc
  obtain ⟨b, hb, rfl⟩ := List.mem_map.mp hc
  exact u32_meet (h a ha) (h2 b hb)
theorem u32_opp (c : Cl) : ∀ d, d ∈ oppL c → u32 d := fun d hd => by
  rcases List.mem_append.mp hd with hd | hd
  · obtain ⟨i, _, rfl⟩ := List.mem_map.mp hd
    exact ⟨by show (0 : Nat) < _; decide, by have := bitM_lt i; show bitM i < 4294967296; omega⟩
  · obtain ⟨i, _, rfl⟩ := List.mem_map.mp hd
    exact ⟨by have := bitM_lt i; show bitM i < 4294967296; omega, by show (0 : Nat) < _; decide⟩
theorem u32_take (c : Cl) (i : Int) : u32 (takeC c i) := ⟨by have := withoutM_lt c.pos i; show withoutM c.pos i < _; omega, by have := withoutM_lt c.neg i; show withoutM c.neg i < _; omega⟩
theorem rowOk_one {c : Cl} (h : u32 c) : rowOk [c] := ⟨fun d hd => by rw [List.mem_singleton] at hd; subst hd; exact h, by unfold reach; simp⟩
theorem okE_join {f g : List Cl} (h : rowOk f) (h2 : rowOk g) : okE (joinF f g) := okE_least (u32_join h.1 h2.1)
theorem okE_meet {f g : List Cl} (h : rowOk f) (h2 : rowOk g) : okE (meetF f g) := okE_least (u32_meetL h.1 h2.1)
theorem okE_opp (c : Cl) : okE (oppF c) := okE_least (u32_opp c)
theorem okE_notStep {h : List Cl} {c : Cl} (hh : rowOk h) : okE (notStep h c) := okE_bind fun _ => okE_meet hh (okE_opp c)
theorem rowOk_one0 : rowOk [cl0] := rowOk_one ⟨by decide, by decide⟩
theorem okE_not (f : List Cl) : okE (notF f) := okE_fold (fun h c _ hh => okE_notStep hh) rowOk_one0
theorem okE_notR (f : List Cl) : okE (notR f) := by unfold notR; split; exact okE_not f; exact rowOk_nil
theorem okE_putPos {i : Int} {r : List Cl} {c : Cl} (hr : rowOk r) : okE (putPos i r c) := by
  unfold putPos
  split
  · exact okE_meet (rowOk_one (u32_take c i)) hr
  · exact rowOk_one (u32_take c i)
theorem okE_putNeg {i : Int} {r : List Cl} {c : Cl} {g : List Cl} (hg : rowOk g) : okE (putNeg i r c g) := by
  unfold putNeg
  split
  · exact okE_bind fun _ => okE_meet hg (okE_not r)
  · exact hg
theorem okE_putStep {i : Int} {r h : List Cl} {c : Cl} (hr : rowOk r) (hh : rowOk h) : okE (putStep i r h c) := by
  unfold putStep
  refine okE_bind fun _ => okE_bind fun _ => okE_join hh ?_
  have h1 : okE (putPos i r c) := okE_putPos hr
  exact okE_putNeg h1
theorem okE_formPut {f r : List Cl} {i : Int} (hr : rowOk r) : okE (formPut f i r) := by
  unfold formPut
  split
  · exact rowOk_nil
  · split
    · exact rowOk_nil
    · exact okE_fold (fun h c _ hh => okE_putStep hr hh) rowOk_nil
theorem rowOk_calm {l : List Cl} (h : rowOk l) : rowOk (calmL l) := rowOk_sub h (fun c hc => (List.mem_filter.mp hc).1) (List.length_filter_le _ _)
theorem okE_of {f : List Cl} (h : rowOk f) : okE (ofF f) := by unfold ofF; split; exact okE_least (rowOk_calm h).1; exact rowOk_nil
theorem okE_ofZero (r : List Cl) : okE (ofZero r) := okE_bind fun _ => okE_of (okE_notR r)
theorem okE_meetA {f g : List Cl} (h : rowOk f) (h2 : rowOk g) : okE (meetA f g) := okE_least fun c hc => by
  obtain ⟨a, ha, hc⟩ := List.mem_flatMap.mp hc
  obtain ⟨b, hb, rfl⟩ := List.mem_map.mp (List.mem_filter.mp hc).1
  exact u32_meet (h.1 a ha) (h2.1 b hb)
theorem okE_facePart {i : Int} {r : List Cl} {c : Cl} (hr : rowOk r) : okE (facePart i r c) := by
  unfold facePart
  split
  · exact okE_bind fun _ => okE_meetA (rowOk_one (u32_take c i)) (okE_of hr)
  · split
    · exact okE_bind fun _ => okE_meetA (rowOk_one (u32_take c i)) (okE_ofZero r)
    · exact rowOk_one (u32_take c i)
theorem okE_faceStep {i : Int} {r h : List Cl} {c : Cl} (hr : rowOk r) (hh : rowOk h) : okE (faceStep i r h c) := okE_bind fun _ => okE_join hh (okE_facePart hr)
theorem okE_facePut {f r : List Cl} {i : Int} (hr : rowOk r) : okE (facePut f i r) := by
  unfold facePut
  split
  · exact rowOk_nil
  · exact okE_fold (fun h c _ hh => okE_faceStep hr hh) rowOk_nil
theorem u32_cut {c d : Cl} (h : u32 d) : u32 (cutC c d) := ⟨andNot32_lt _ _, andNot32_lt _ _⟩
theorem okE_restrict {f : List Cl} {c : Cl} (h : rowOk f) : okE (restrictF f c) := by
  unfold restrictF
  split
  · exact rowOk_nil
  · exact okE_least fun d hd => by
      obtain ⟨e, he, rfl⟩ := List.mem_map.mp hd
      exact u32_cut (h.1 e (List.mem_filter.mp he).1)
/-! No more than 64. -/
abbrev lenE (x : EL) : Prop := x.2.length ≤ 64
theorem len_least (l : List Cl) : lenE (leastF l) := by
  rcases leastF_cases l with ⟨_, _, h, h2⟩ | h | h
  · show (leastF l).2.length ≤ 64; rw [h]; exact h2
  · show (leastF l).2.length ≤ 64; rw [leastF_snd (by omega)]; decide
  · show (leastF l).2.length ≤ 64; rw [leastF_snd (by omega)]; decide
theorem len_bind {x : EL} {k : List Cl → EL} (h : x.1 = 0 → lenE (k x.2)) : lenE (bindE x k) := by
  by_cases h0 : x.1 = 0
  · rw [bindE_ok h0]; exact h h0
  · rw [bindE_bad h0]; show ([] : List Cl).length ≤ 64; decide
theorem len_fold {g : List Cl → Cl → EL} : ∀ {l h : List Cl}, (∀ h c, c ∈ l → h.length ≤ 64 → lenE (g h c)) → h.length ≤ 64 → lenE (foldF g h l)
  | [], h, _, h2 => h2
  | c :: l, h, h1, h2 => by
    rw [foldF]
    exact len_bind fun _ => len_fold (fun h' d hd => h1 h' d (List.mem_cons_of_mem _ hd)) (h1 h c List.mem_cons_self h2)
theorem len_notStep (h : List Cl) (c : Cl) : lenE (notStep h c) := len_bind fun _ => len_least _
theorem len_not (f : List Cl) : lenE (notF f) := len_fold (fun h c _ _ => len_notStep h c) (by decide)
theorem len_putStep (i : Int) (r h : List Cl) (c : Cl) : lenE (putStep i r h c) := len_bind fun _ => len_bind fun _ => len_least _
theorem len_of (f : List Cl) : lenE (ofF f) := by unfold ofF; split; exact len_least _; (show ([] : List Cl).length ≤ 64; decide)
theorem len_ofZero (r : List Cl) : lenE (ofZero r) := len_bind fun _ => len_of _
theorem len_right {f : List Cl} (h : fRight f = true) : f.length ≤ 64 := by
  unfold fRight at h
  simp only [Bool.and_eq_true, decide_eq_true_eq] at h
  exact h.2
theorem oppL_len (c : Cl) : (oppL c).length ≤ 48 := by
  unfold oppL
  rw [List.length_append, List.length_map, List.length_map]
  have h1 : (listM c.pos).length ≤ 24 := listTo_len _ _
  have h2 : (listM c.neg).length ≤ 24 := listTo_len _ _
  omega
theorem listM_at {s i : Nat} (h : i < (listM s).length) : 0 ≤ (listM s).getD i 0 ∧ (listM s).getD i 0 < 24 := by
  have h1 := listTo_in (getD_mem (d := (0 : Int)) h)
  exact ⟨h1.1, by have := h1.2; exact_mod_cast this⟩
theorem listM_in {s i : Nat} (h : i < (listM s).length) : in64 ((listM s).getD i 0) := by have := listM_at h; unfold in64; omega
theorem meetL_len (f g : List Cl) : (meetL f g).length = f.length * g.length := by
  unfold meetL
  induction f with
  | nil => simp
  | cons a f ih => rw [List.flatMap_cons, List.length_append, ih, List.length_map, List.length_cons, Nat.succ_mul]; omega
theorem meetL_snoc (f g : List Cl) (a : Cl) : meetL (f ++ [a]) g = meetL f g ++ g.map fun b => meetC a b := by unfold meetL; rw [List.flatMap_append]; simp
theorem rowOk_CL {ok : Nat → Prop} {l : List Cl} {a : SH} {w : World} (h : clsAt ok l a w) : rowOk l := ⟨h.2, h.1.2.1⟩
def dimF (i : Int) : EL := if isDim i then (0, [⟨bitM i, 0⟩]) else (2, [])
/-! ### From an own row to what is known -/
theorem St.litCC2 {B : Base} {Γ : List Fact} {Ms : List Res} {w : World} {e : TypeId} {b : Nat} {l m : List Cl} {a a' : SH} (hs : St B Γ (boxR b [sl a l.length, sl a' m.length] e :: Ms) w) {hBp : Prop} (hB : hBp) (hF : CL l a ∈ Γ) (hG : CL m a' ∈ Γ) : St B (CCF [(l, a), (m, a')] (some ⟨b, 0, Option.none⟩, 2) :: Γ) Ms w := by
  have h1 := ((hs.boxRow (sz := 1) (m := 2) rfl (by decide)).allNil cpE).allAdd (x := (l, a)) List.mem_cons_self (List.mem_cons_of_mem _ hF)
  have h2 := h1.allAdd (x := (m, a')) List.mem_cons_self (List.mem_cons_of_mem _ (List.mem_cons_of_mem _ hG))
  exact (h2.settleRow (F := cpCells) (E := cpE) (d := cp0) (bt := 24) (l := [(l, a), (m, a')]) (fun _ => rfl) hB List.mem_cons_self rfl rfl (by decide)).less (by simp +contextual)
theorem St.lit1C {B : Base} {Γ : List Fact} {Ms : List Res} {w : World} {b : Nat} {e : TypeId} {cs : List Value} {c : Cl} (hs : St B Γ (boxR b cs e :: Ms) w) {hBp : Prop} (hB : hBp) (hc : cs = clCells c) (hu : u32 c) : St B (CL [c] (some ⟨b, 0, Option.none⟩, 1) :: Γ) Ms w :=
  (hs.boxRow (sz := 2) (m := 1) (by rw [hc]; rfl) (by decide)).settleCL (l := [c]) hB (by rw [hc]; simp [clFlat]) rfl (rowOk_one hu).2 (rowOk_one hu).1
theorem Spec.rowF {P : Program} {k : FuncId} {args : Array Value} {pre : List Fact} {e : TypeId} {r r' : EL} (he : r' = r) (h : Spec P k args pre [] (fun x : SH => .tuple #[sl x r.2.length, .int .i64 r.1]) (fun _ => []) (fun x => [rowS 2 e x r.2.length (clFlat r.2)])) (hr : okE r) :
    Spec P k args pre [] (fun x : SH => .tuple #[sl x r'.2.length, .int .i64 r'.1]) (fun x => [CL r'.2 x]) (fun _ => []) := by
  subst he
  exact fun ok w hok hst => (h ok w hok hst).mono fun e w' hh => by
    obtain ⟨x, he, hs⟩ := hh
    exact ⟨x, he, hs.settleCL trivial rfl rfl hr.2 hr.1⟩
theorem Spec.rowH {P : Program} {k : FuncId} {args : Array Value} {pre : List Fact} {e : TypeId} {r r' : EL} (he : r' = r) (h : Spec P k args pre [] (fun x : SH => .tuple #[sl x r.2.length, .int .i64 r.1]) (fun _ => []) (fun x => [rowS 2 e x r.2.length (clFlat r.2)])) :
    Spec P k args pre [] (fun x : SH => .tuple #[sl x r'.2.length, .int .i64 r'.1]) (fun _ => []) (fun x => [rowS 2 e x r'.2.length (clFlat r'.2)]) := by
  subst he
  exact h
end Go.Hy
namespace Go.Hy
/-! ### A way through a term that changes rows alone -/
structure RowsW where
  form : Int → List Cl → EL
  face : Int → List Cl → EL
def elR (x : EL) : Res1 (List Cl) := if x.1 = 0 then .ok x.2 else .bad x.1
theorem elR_ok {x : EL} (h : x.1 = 0) : elR x = .ok x.2 := if_pos h
theorem elR_bad {x : EL} (h : x.1 ≠ 0) : elR x = .bad x.1 := if_neg h
theorem elR_ok_iff {x : EL} {g : List Cl} : elR x = .ok g ↔ x = (0, g) := by
  unfold elR
  split
  · rename_i h
    constructor
    · intro h2; injection h2 with h2; exact Prod.ext h h2
    · rintro rfl; rfl
  · rename_i h
    constructor
    · intro h2; cases h2
    · rintro rfl; exact absurd rfl h
theorem elR_bad_iff {x : EL} {e : Int} : elR x = .bad e ↔ x.1 = e ∧ e ≠ 0 := by
  unfold elR
  split
  · rename_i h
    constructor
    · intro h2; cases h2
    · rintro ⟨h2, h3⟩; exact absurd (h2.symm.trans h) h3
  · rename_i h
    constructor
    · intro h2; injection h2 with h2; exact ⟨h2, h2 ▸ h⟩
    · rintro ⟨h2, h3⟩; rw [h2]
def RowsW.row (W : RowsW) (k d : Int) (r : List Cl) : EL := if k = 14 then W.face d r else W.form d r
def rowsTr (W : RowsW) : Tr Int where
  own d k n _ r := (elR (W.row k d r)).bind fun g => .ok (.inr (n, g))
  face d f := (elR (W.face d f)).bind fun g => .ok (if g.length = 0 then none else some g)
  kid d b := .ok (d + b.2)
theorem rows_kid {W : RowsW} {d : Int} {b : Int × Int} : (rowsTr W).kid d b = .ok (d + b.2) := rfl
theorem rows_own_ok {W : RowsW} {d k n : Int} {nm : ByteArray} {r : List Cl} (h : (W.row k d r).1 = 0) : (rowsTr W).own d k n nm r = .ok (.inr (n, (W.row k d r).2)) := by
  show (elR _).bind _ = _; rw [elR_ok h]; rfl
theorem rows_own_bad {W : RowsW} {d k n : Int} {nm : ByteArray} {r : List Cl} (h : (W.row k d r).1 ≠ 0) : (rowsTr W).own d k n nm r = .bad (W.row k d r).1 := by
  show (elR _).bind _ = _; rw [elR_bad h]; rfl
theorem rows_own_inr {W : RowsW} {d k n : Int} {nm : ByteArray} {r : List Cl} {p : Int × List Cl} : (rowsTr W).own d k n nm r = .ok (.inr p) ↔ W.row k d r = (0, p.2) ∧ p.1 = n := by
  constructor
  · intro h
    obtain ⟨g, hg, h2⟩ := Res1.bind_ok (x := elR (W.row k d r)) h
    injection h2 with h2; injection h2 with h2; subst h2
    exact ⟨elR_ok_iff.mp hg, rfl⟩
  · rintro ⟨h1, h2⟩
    rw [rows_own_ok (by rw [h1]), h1, ← h2]
theorem rows_own_inl {W : RowsW} {d k n : Int} {nm : ByteArray} {r : List Cl} {u : T} : (rowsTr W).own d k n nm r ≠ .ok (.inl u) := by
  intro h
  obtain ⟨g, hg, h2⟩ := Res1.bind_ok (x := elR (W.row k d r)) h
  injection h2 with h2; cases h2
theorem rows_own_bad_iff {W : RowsW} {d k n e : Int} {nm : ByteArray} {r : List Cl} : (rowsTr W).own d k n nm r = .bad e ↔ (W.row k d r).1 = e ∧ e ≠ 0 := by
  rw [← elR_bad_iff]
  show (elR _).bind _ = _ ↔ _
  cases elR (W.row k d r) with
  | ok g => constructor <;> (intro h; cases h)
  | bad e' => exact Iff.intro (fun h => by injection h with h; rw [h]) (fun h => by injection h with h; rw [h]; rfl)
theorem rows_face_none {W : RowsW} {d : Int} {f : List Cl} (h : (W.face d f).1 = 0) (h2 : (W.face d f).2.length = 0) : (rowsTr W).face d f = .ok none := by
  show (elR _).bind _ = _; rw [elR_ok h]; show Res1.ok (if _ then _ else _) = _; rw [if_pos h2]
theorem rows_face_some {W : RowsW} {d : Int} {f : List Cl} (h : (W.face d f).1 = 0) (h2 : (W.face d f).2.length ≠ 0) : (rowsTr W).face d f = .ok (some (W.face d f).2) := by
  show (elR _).bind _ = _; rw [elR_ok h]; show Res1.ok (if _ then _ else _) = _; rw [if_neg h2]
theorem rows_face_bad {W : RowsW} {d : Int} {f : List Cl} (h : (W.face d f).1 ≠ 0) : (rowsTr W).face d f = .bad (W.face d f).1 := by
  show (elR _).bind _ = _; rw [elR_bad h]; rfl
theorem rows_face_none_iff {W : RowsW} {d : Int} {f : List Cl} : (rowsTr W).face d f = .ok none ↔ W.face d f = (0, []) := by
  constructor
  · intro h
    obtain ⟨g, hg, h2⟩ := Res1.bind_ok (x := elR (W.face d f)) h
    injection h2 with h2
    rw [elR_ok_iff.mp hg]
    split at h2
    · rename_i h3; rw [List.eq_nil_of_length_eq_zero h3]
    · cases h2
  · intro h; exact rows_face_none (by rw [h]) (by rw [h]; rfl)
theorem rows_face_some_iff {W : RowsW} {d : Int} {f g : List Cl} : (rowsTr W).face d f = .ok (some g) ↔ W.face d f = (0, g) ∧ g ≠ [] := by
  constructor
  · intro h
    obtain ⟨g', hg, h2⟩ := Res1.bind_ok (x := elR (W.face d f)) h
    injection h2 with h2
    split at h2
    · cases h2
    · rename_i h3
      injection h2 with h2; subst h2
      exact ⟨elR_ok_iff.mp hg, fun h => h3 (by rw [h]; rfl)⟩
  · rintro ⟨h, h2⟩
    have h3 := rows_face_some (W := W) (d := d) (f := f) (by rw [h]) (by rw [h]; intro h4; exact h2 (List.eq_nil_of_length_eq_zero h4))
    rw [h3, h]
theorem rows_face_bad_iff {W : RowsW} {d e : Int} {f : List Cl} : (rowsTr W).face d f = .bad e ↔ (W.face d f).1 = e ∧ e ≠ 0 := by
  rw [← elR_bad_iff]
  show (elR _).bind _ = _ ↔ _
  cases elR (W.face d f) with
  | ok g => constructor <;> (intro h; cases h)
  | bad e' => exact Iff.intro (fun h => by injection h with h; rw [h]) (fun h => by injection h with h; rw [h]; rfl)
/-! Terms of a list, one by one. -/
def eachT (g : Nat → T → Res1 T) : Nat → List T → Res1 (List T)
  | _, [] => .ok []
  | i, t :: ts => (g i t).bind fun t' => (eachT g (i + 1) ts).bind fun ts' => .ok (t' :: ts')
section
variable {g : Nat → T → Res1 T}
theorem eachT_snoc : ∀ (i : Nat) (l : List T) (t : T), eachT g i (l ++ [t]) = (eachT g i l).bind fun l' => (g (i + l.length) t).bind fun t' => .ok (l' ++ [t'])
  | i, [], t => by
    simp only [List.nil_append, eachT, Res1.bind, List.length_nil, Nat.add_zero]
  | i, a :: l, t => by
    simp only [List.cons_append, eachT, eachT_snoc (i + 1) l t, List.length_cons]
    rw [show i + 1 + l.length = i + (l.length + 1) by omega]
    cases g i a with
    | bad e => rfl
    | ok a' =>
      simp only [Res1.bind]
      cases eachT g (i + 1) l with
      | bad e => rfl
      | ok l' =>
        simp only
        cases g (i + (l.length + 1)) t with
        | bad e => rfl
        | ok c2 => rfl
theorem eachT_bad {e : Int} : ∀ {l m : List T} {i : Nat}, eachT g i l = .bad e → eachT g i (l ++ m) = .bad e
  | [], m, i, h => by rw [eachT] at h; cases h
  | a :: l, m, i, h => by
    rw [List.cons_append, eachT]
    rw [eachT] at h
    cases h1 : g i a with
    | bad e' => rw [h1] at h; exact h
    | ok a' =>
      rw [h1] at h
      simp only [Res1.bind] at h ⊢
      cases h3 : eachT g (i + 1) l with
      | bad e' => rw [h3] at h; rw [eachT_bad h3]; exact h
      | ok l' => rw [h3] at h; cases h
theorem eachT_at_ok {l us : List T} {i : Nat} {u : T} (hi : i < l.length) (h : eachT g 0 (l.take i) = .ok us) (hu : g i (l.getD i t0) = .ok u) : eachT g 0 (l.take (i + 1)) = .ok (us ++ [u]) := by
  rw [take_succ_getD (d := t0) hi, eachT_snoc, h]
  simp only [Res1.bind, List.length_take, Nat.zero_add, Nat.min_eq_left (Nat.le_of_lt hi)]
  rw [hu]
theorem eachT_at_bad {l us : List T} {i : Nat} {e : Int} (hi : i < l.length) (h : eachT g 0 (l.take i) = .ok us) (hu : g i (l.getD i t0) = .bad e) : eachT g 0 l = .bad e := by
  have h1 : eachT g 0 (l.take (i + 1)) = .bad e := by
    rw [take_succ_getD (d := t0) hi, eachT_snoc, h]
    simp only [Res1.bind, List.length_take, Nat.zero_add, Nat.min_eq_left (Nat.le_of_lt hi)]
    rw [hu]
  have h2 := eachT_bad (m := l.drop (i + 1)) h1
  rwa [List.take_append_drop] at h2
theorem eachT_len : ∀ {l us : List T} {i : Nat}, eachT g i l = .ok us → us.length = l.length
  | [], us, i, h => by rw [eachT] at h; injection h with h; subst h; rfl
  | a :: l, us, i, h => by
    rw [eachT] at h
    obtain ⟨a', _, h⟩ := Res1.bind_ok h
    obtain ⟨l', h2, h⟩ := Res1.bind_ok h
    injection h with h; subst h
    simp [eachT_len h2]
theorem eachT_why {e : Int} : ∀ {l : List T} {i : Nat}, eachT g i l = .bad e → ∃ j t, t ∈ l ∧ g j t = .bad e
  | [], i, h => by rw [eachT] at h; cases h
  | a :: l, i, h => by
    rw [eachT] at h
    cases h1 : g i a with
    | bad e' => rw [h1] at h; injection h with h; subst h; exact ⟨i, a, List.mem_cons_self, h1⟩
    | ok a' =>
      rw [h1] at h
      simp only [Res1.bind] at h
      cases h3 : eachT g (i + 1) l with
      | bad e' => rw [h3] at h; injection h with h; subst h; obtain ⟨j, t, ht, hj⟩ := eachT_why h3; exact ⟨j, t, List.mem_cons_of_mem _ ht, hj⟩
      | ok l' => rw [h3] at h; cases h
end
theorem travL_map {W : RowsW} {k d : Int} : ∀ {i : Nat} {ts : List T}, travL (rowsTr W) k i ts d = eachT (fun j t => trav (rowsTr W) t (d + (binds k j).2)) i ts
  | i, [] => by rw [travL_nil, eachT]
  | i, t :: ts => by rw [travL_cons, eachT, rows_kid, travL_map (i := i + 1) (ts := ts)]; rfl
theorem travS_map {W : RowsW} {k d : Int} : ∀ {i : Nat} {ts : List T}, travS (rowsTr W) k ts d = eachT (fun _ t => trav (rowsTr W) t (d + more k)) i ts
  | i, [] => by rw [travS_nil, eachT]
  | i, t :: ts => by rw [travS_cons, eachT, rows_kid, travS_map (i := i + 1) (ts := ts)]; rfl
theorem travB_at_none {C : Type} {A : Tr C} {k : Int} {c : C} {ss : List Br} {s : Nat} {bs : List Br} (hs : s < ss.length) (hb : travB A k (ss.take s) c = .ok bs) (hf : A.face c (ss.getD s br0).face = .ok none) : travB A k (ss.take (s + 1)) c = .ok bs := by
  rw [take_succ_getD (d := br0) hs, travB_snoc, hb]
  simp only [Res1.bind]
  rw [hf]
theorem trav_kids_bad {C : Type} {A : Tr C} {t : T} {c : C} {e : Int} {p : Int × List Cl} (h : A.own c t.kind t.n t.name t.r = .ok (.inr p)) (hl : travL A t.kind 0 t.kids c = .bad e) : trav A t c = .bad e := by
  rw [trav_eq, h]; simp only [Res1.bind]; rw [hl]
def asResL (r : Res1 (List T)) : Int × List T := match r with
  | .ok u => (0, u)
  | .bad e => (e, [])
theorem asRes_bad {r : Res1 T} (h : (asRes r).1 ≠ 0) : r = .bad (asRes r).1 := by
  cases r with
  | ok u => exact absurd rfl h
  | bad e => rfl
theorem asRes_ok {r : Res1 T} (hb : ∀ e, r = .bad e → e ≠ 0) (h : (asRes r).1 = 0) : r = .ok (asRes r).2 := by
  cases r with
  | ok u => rfl
  | bad e => exact absurd h (hb e rfl)
theorem asResL_bad {r : Res1 (List T)} (h : (asResL r).1 ≠ 0) : r = .bad (asResL r).1 := by
  cases r with
  | ok u => exact absurd rfl h
  | bad e => rfl
theorem asResL_ok {r : Res1 (List T)} (hb : ∀ e, r = .bad e → e ≠ 0) (h : (asResL r).1 = 0) : r = .ok (asResL r).2 := by
  cases r with
  | ok u => rfl
  | bad e => exact absurd h (hb e rfl)
theorem rows_bad_ne {W : RowsW} : ∀ (t : T) {d e : Int}, trav (rowsTr W) t d = .bad e → e ≠ 0 := T.ind fun t ih d e h => by
  rcases trav_why h with h1 | ⟨b, _, h1⟩ | ⟨p, hp, h1 | ⟨c', _, h2⟩⟩
  · exact (rows_own_bad_iff.mp h1).2
  · exact (rows_face_bad_iff.mp h1).2
  · cases h1
  · exact ih p hp h2
theorem eachT_bad_ne {W : RowsW} {b : Nat → Int} {l : List T} {i : Nat} {e d : Int} (h : eachT (fun j t => trav (rowsTr W) t (d + b j)) i l = .bad e) : e ≠ 0 := by
  obtain ⟨j, t, _, h1⟩ := eachT_why h
  exact rows_bad_ne t h1
abbrev walkR (W : RowsW) (t : T) (d : Int) : Int × T := asRes (trav (rowsTr W) t d)
abbrev walkL (W : RowsW) (b : Nat → Int) (l : List T) (d : Int) : Int × List T := asResL (eachT (fun j t => trav (rowsTr W) t (d + b j)) 0 l)
/-! Rows with a formula in a dimension's place; rows without a dimension. -/
def rowPut (P : List Cl → Int → List Cl → EL) (i : Int) (r : List Cl) (d : Int) (f : List Cl) : EL := if hasM (fDims f) (i + d) = false then (0, f) else bindE (formLift r 0 d) fun s => P f (i + d) s
def putW (i : Int) (r : List Cl) : RowsW := ⟨rowPut formPut i r, rowPut facePut i r⟩
theorem size_kid_mem {t k : T} (h : k ∈ t.kids) : size k < size t := by obtain ⟨p, hp, e⟩ := kid_mem_parts h; exact e ▸ size_part_lt hp
theorem size_sys_mem {t k : T} {b : Br} (h : b ∈ t.sys) (h2 : k ∈ b.kids) : size k < size t := by obtain ⟨p, hp, e⟩ := sys_mem_parts h h2; exact e ▸ size_part_lt hp
/-! What a call tells, under another name. -/
theorem Spec.treeH {P : Program} {k : FuncId} {args : Array Value} {pre : List Fact} {Ms0 : List Res} {y : Tys} {r r' : Int × T} (he : r' = r) (h : Spec P k args pre Ms0 (fun x : {h : HT // h.er = r.2} => .tuple #[.agg (tc r.2 x.1.vr x.1.vk x.1.vs).toArray, .int .i64 r.1]) (fun _ => []) (fun x => [bigR (treeR y x.1)])) :
    Spec P k args pre Ms0 (fun x : {h : HT // h.er = r'.2} => .tuple #[.agg (tc r'.2 x.1.vr x.1.vk x.1.vs).toArray, .int .i64 r'.1]) (fun _ => []) (fun x => [bigR (treeR y x.1)]) := by
  subst he
  exact h
theorem Spec.listH {P : Program} {k : FuncId} {args : Array Value} {pre : List Fact} {Ms0 : List Res} {y : Tys} {e : TypeId} {r r' : Int × List T} (he : r' = r) (h : Spec P k args pre Ms0 (fun x : {p : List HT × SH // p.1.map HT.er = r.2} => .tuple #[sl x.1.2 r.2.length, .int .i64 r.1]) (fun _ => []) (fun x => [rowS 6 e x.1.2 r.2.length (tpFlat (x.1.1.map HT.tp)), bigR (kidsR y x.1.1)])) :
    Spec P k args pre Ms0 (fun x : {p : List HT × SH // p.1.map HT.er = r'.2} => .tuple #[sl x.1.2 r'.2.length, .int .i64 r'.1]) (fun _ => []) (fun x => [rowS 6 e x.1.2 r'.2.length (tpFlat (x.1.1.map HT.tp)), bigR (kidsR y x.1.1)]) := by
  subst he
  exact h
end Go.Hy
namespace Go.Hy
/-! ### dims: what the program makes of a term -/
section
variable {W : RowsW}
mutual
theorem walk_size : ∀ {t u : T} {d : Int}, trav (rowsTr W) t d = .ok u → size u ≤ size t
  | .mk k n nm r ks ss, u, d, hu => by
    rw [trav_eq] at hu
    simp only [T.kind, T.n, T.name, T.r, T.kids, T.sys] at hu
    obtain ⟨o, h9, hu⟩ := Res1.bind_ok hu
    cases o with
    | inl v => exact absurd h9 rows_own_inl
    | inr p =>
      obtain ⟨ks', h10, hu⟩ := Res1.bind_ok hu
      obtain ⟨ss', h11, hu⟩ := Res1.bind_ok hu
      injection hu with hu
      subst hu
      rw [size_sumLB, size_sumLB]
      simp only [T.kids, T.sys]
      have h1 := walkL_size h10
      have h2 := walkB_size h11
      omega
theorem walkL_size {k : Int} : ∀ {ts us : List T} {i : Nat} {d : Int}, travL (rowsTr W) k i ts d = .ok us → sizeL us ≤ sizeL ts
  | [], us, i, d, hu => by rw [travL_nil] at hu; injection hu with hu; subst hu; exact Nat.le_refl _
  | t :: ts, us, i, d, hu => by
    rw [travL_cons] at hu
    obtain ⟨c', _, hu⟩ := Res1.bind_ok hu
    obtain ⟨t', h2, hu⟩ := Res1.bind_ok hu
    obtain ⟨ts', h3, hu⟩ := Res1.bind_ok hu
    injection hu with hu
    subst hu
    have h4 := walk_size h2
    have h5 := walkL_size h3
    simp only [sizeL]
    omega
theorem walkS_size {k : Int} : ∀ {ts us : List T} {d : Int}, travS (rowsTr W) k ts d = .ok us → sizeL us ≤ sizeL ts
  | [], us, d, hu => by rw [travS_nil] at hu; injection hu with hu; subst hu; exact Nat.le_refl _
  | t :: ts, us, d, hu => by
    rw [travS_cons] at hu
    obtain ⟨c', _, hu⟩ := Res1.bind_ok hu
    obtain ⟨t', h2, hu⟩ := Res1.bind_ok hu
    obtain ⟨ts', h3, hu⟩ := Res1.bind_ok hu
    injection hu with hu
    subst hu
    have h4 := walk_size h2
    have h5 := walkS_size h3
    simp only [sizeL]
    omega
theorem walkB_size {k : Int} : ∀ {bs us : List Br} {d : Int}, travB (rowsTr W) k bs d = .ok us → sizeB us ≤ sizeB bs
  | [], us, d, hu => by rw [travB_nil] at hu; injection hu with hu; subst hu; exact Nat.le_refl _
  | .mk f ks :: bs, us, d, hu => by
    rw [travB_cons] at hu
    simp only [Br.face, Br.kids] at hu
    obtain ⟨o, h5, hu⟩ := Res1.bind_ok hu
    cases o with
    | none => have h6 := walkB_size hu; simp only [sizeB]; omega
    | some g =>
      obtain ⟨ks', h7, hu⟩ := Res1.bind_ok hu
      obtain ⟨bs', h8, hu⟩ := Res1.bind_ok hu
      injection hu with hu
      subst hu
      have h1 := walkS_size h7
      have h2 := walkB_size h8
      simp only [sizeB, Br.kids]
      omega
end
theorem walk_okT (hW : ∀ d f, rowOk f → okE (W.form d f) ∧ okE (W.face d f)) {t u : T} {d : Int} (h : okT t) (hu : trav (rowsTr W) t d = .ok u) : okT u := by
  refine trav_okT (A := rowsTr W) ?_ ?_ ?_ t d u h hu
  · intro c k n nm r p _ hn hr ho
    obtain ⟨h1, h2⟩ := rows_own_inr.mp ho
    have h3 := hW c r hr
    have h4 : okE (W.row k c r) := by unfold RowsW.row; split; exact h3.2; exact h3.1
    unfold okE at h4
    rw [h1] at h4
    exact ⟨by rw [h2]; exact hn, h4⟩
  · intro c k n nm r u ho
    exact absurd ho rows_own_inl
  · intro c f f' hr ho
    obtain ⟨h1, _⟩ := rows_face_some_iff.mp ho
    have h3 := (hW c f hr).2
    unfold okE at h3
    rw [h1] at h3
    exact h3
theorem size_t0 : size t0 = 1 := by decide
theorem asRes_size {t : T} {d : Int} : size (walkR W t d).2 ≤ size t := by
  unfold walkR
  cases h : trav (rowsTr W) t d with
  | ok u => exact walk_size h
  | bad e => show size t0 ≤ size t; rw [size_t0]; exact size_pos' t
theorem asRes_okT (hW : ∀ d f, rowOk f → okE (W.form d f) ∧ okE (W.face d f)) {t : T} {d : Int} (h : okT t) : okT (walkR W t d).2 := by
  unfold walkR
  cases hu : trav (rowsTr W) t d with
  | ok u => exact walk_okT hW h hu
  | bad e => exact okT_t0
end
theorem okE_rowPut {P : List Cl → Int → List Cl → EL} (hP : ∀ f i r, rowOk f → rowOk r → okE (P f i r)) {i d : Int} {r f : List Cl} (hf : rowOk f) : okE (rowPut P i r d f) := by
  unfold rowPut
  split
  · exact hf
  · exact okE_bind fun _ => hP _ _ _ hf (formLift_ok r 0 d)
theorem okW_put (i : Int) (r : List Cl) : ∀ d f, rowOk f → okE ((putW i r).form d f) ∧ okE ((putW i r).face d f) := fun d f hf =>
  ⟨okE_rowPut (fun f i r _ hr => okE_formPut hr) hf, okE_rowPut (fun f i r _ hr => okE_facePut hr) hf⟩
def thenT (x : Int × T) (k : T → Int × T) : Int × T := if x.1 ≠ 0 then (x.1, t0) else k x.2
theorem thenT_bad {x : Int × T} {k : T → Int × T} (h : x.1 ≠ 0) : thenT x k = (x.1, t0) := if_pos h
theorem thenT_ok {x : Int × T} {k : T → Int × T} (h : x.1 = 0) : thenT x k = k x.2 := if_neg (by simp [h])
def foldT {α : Type} (g : α → T → Int × T) : List α → T → Int × T
  | [], t => (0, t)
  | a :: l, t => thenT (g a t) fun u => foldT g l u
section
variable {α : Type} {g : α → T → Int × T}
theorem foldT_on : ∀ {l m : List α} {t u : T}, foldT g l t = (0, u) → foldT g (l ++ m) t = foldT g m u
  | [], m, t, u, e => by
    rw [foldT, Prod.mk.injEq] at e
    rw [List.nil_append, e.2]
  | a :: l, m, t, u, e => by
    rw [foldT] at e
    by_cases h0 : (g a t).1 = 0
    · rw [thenT_ok h0] at e
      rw [List.cons_append, foldT, thenT_ok h0]
      exact foldT_on e
    · rw [thenT_bad h0, Prod.mk.injEq] at e
      exact absurd e.1 h0
theorem foldT_ok {l : List α} {d : α} {t u : T} {i : Nat} (hi : i < l.length) (e : foldT g (l.take i) t = (0, u)) (h0 : (g (l.getD i d) u).1 = 0) : foldT g (l.take (i + 1)) t = (0, (g (l.getD i d) u).2) := by
  rw [take_succ_getD (d := d) hi, foldT_on e, foldT, thenT_ok h0, foldT]
theorem foldT_bad {l : List α} {d : α} {t u : T} {i : Nat} (hi : i < l.length) (e : foldT g (l.take i) t = (0, u)) (h0 : (g (l.getD i d) u).1 ≠ 0) : foldT g l t = ((g (l.getD i d) u).1, t0) := by
  have e2 : l = l.take i ++ l.getD i d :: l.drop (i + 1) := by rw [getD_get (d := d) hi, List.getElem_cons_drop, List.take_append_drop]
  rw [e2, foldT_on e, ← e2, foldT, thenT_bad h0]
theorem foldT_all {l : List α} {t u : T} {i : Nat} (hi : i = l.length) (e : foldT g (l.take i) t = (0, u)) : foldT g l t = (0, u) := by
  rw [hi, List.take_length] at e
  exact e
theorem foldT_t0 : ∀ {l : List α} {t : T}, (foldT g l t).1 ≠ 0 → (foldT g l t).2 = t0
  | [], t, h => absurd rfl h
  | a :: l, t, h => by
    rw [foldT] at h ⊢
    by_cases h1 : (g a t).1 = 0
    · rw [thenT_ok h1] at h ⊢; exact foldT_t0 h
    · rw [thenT_bad h1]
theorem foldT_keep {p : T → Prop} (h0 : p t0) (hg : ∀ a u, p u → p (g a u).2) : ∀ {l : List α} {t : T}, p t → p (foldT g l t).2
  | [], t, h => h
  | a :: l, t, h => by
    rw [foldT]
    by_cases h1 : (g a t).1 = 0
    · rw [thenT_ok h1]; exact foldT_keep h0 hg (hg a t h)
    · rw [thenT_bad h1]; exact h0
end
def putsT (r : List Cl) (l : List Int) (t : T) : Int × T := foldT (fun i u => walkR (putW i r) u 0) l t
abbrev EP : Type := Nat × List Cl × SH
def epCells (p : EP) : List Value := [.int .u32 (p.1 : Int), sl p.2.2 p.2.1.length]
abbrev epE (p : EP) : Fact := CL p.2.1 p.2.2
def ep0 : EP := (0, [], none, 0)
abbrev ENF (l : List EP) (a : SH) : Fact := RowF 2 32 epCells epE ep0 l a
def endsT (l : List EP) (t : T) : Int × T := foldT (fun (p : EP) u => putsT p.2.1 (listM p.1) u) l t
def dimsUnder (t : T) (c : Cl) : Int × T := if formedP t ≠ 0 then (formedP t, t0) else if single c = false then (2, t0) else thenT (putsT [cl0] (listM c.pos) t) fun u => putsT [] (listM c.neg) u
theorem endsT_two {c : Cl} {a : SH} {t : T} : endsT [(c.pos, [cl0], a), (c.neg, [], none, 0)] t = thenT (putsT [cl0] (listM c.pos) t) fun u => putsT [] (listM c.neg) u := by
  unfold endsT
  simp only [foldT]
  congr 1
  funext u
  by_cases h : (putsT [] (listM c.neg) u).1 = 0
  · rw [thenT_ok h]; exact Prod.ext h.symm rfl
  · rw [thenT_bad h]
    unfold putsT at h ⊢
    refine Prod.ext rfl ?_
    show t0 = _
    exact (foldT_t0 h).symm
theorem putsT_okT {r : List Cl} {l : List Int} {t : T} (h : okT t) : okT (putsT r l t).2 := foldT_keep okT_t0 (fun i u hu => asRes_okT (okW_put i r) hu) h
section
variable {P : Program} [Tab P] {f : FuncId} {R : Ending → World → Prop} {B : Base} {n : Fz} {K : List Item} {ops : Array Oper} {l : List Nat} {σ : Nat → Value} {Γ : List Fact} {Ms : List Res} {dst : Option Tmp} {ty : TypeId} {x : Operand}
theorem o_ldEN {t : TypeId} {l' : List (Nat × Nat)} {bt bk o i' : Nat} {a : SH} {zv : Value} {ls : List EP} (k_ : RgT P f R B n K ops l (putS σ dst (.agg (epCells (ls.getD i' ep0)).toArray)) Γ Ms) (hF : ENF ls a ∈ Γ := by repeat (first | exact List.mem_cons_self | apply List.mem_cons_of_mem))
    (hx : ev σ x = .pointer (some ⟨bk, o + i' * 2, none⟩) := by exact wn_) (ha : a.1 = some ⟨bk, o, none⟩ := by assumption) (hu : Tab.lay P t = some l' := by rfl) (hi : Tab.inf P t = some (2, bt, zv) := by rfl) (hlt : i' < ls.length := by first | omega | (simp; omega)) (hd : dstOk n dst = true := by rfl) : OpT P f R B n K ops l (opr dst (.load t x) ty) σ Γ Ms :=
  sq_load (le_rowE (F := epCells) (fun _ => rfl) hx hF ha hu hi hlt) hd k_
end
/-! From what holds to what is asked. -/
theorem Spec.conj2 {P : Program} {k : FuncId} {args : Array Value} {pre L : List Fact} {G : Fact} {Ms0 : List Res} {X : Type} {val : X → Value} {N : X → List Fact} {Ms1 : X → List Res} (hp : ∀ F, F ∈ pre → F ∈ G :: L) (h : Spec P k args pre Ms0 val N Ms1) : Spec P k args [AllFs L, G] Ms0 val N Ms1 := fun ok w hok hs =>
  h ok w hok ⟨hs.chg, fun F hF => by
    rcases List.mem_cons.mp (hp F hF) with e | e
    · subst e; exact hs.facts _ (List.mem_cons_of_mem _ List.mem_cons_self)
    · exact hs.facts (AllFs L) List.mem_cons_self F e, hs.res, hs.lt, hs.disj⟩
theorem Spec.unconj2 {P : Program} {k : FuncId} {args : Array Value} {pre L : List Fact} {G : Fact} {Ms0 : List Res} {X : Type} {val : X → Value} {N : X → List Fact} {Ms1 : X → List Res} (hL : ∀ F, F ∈ L → F ∈ pre) (hG : G ∈ pre) (h : Spec P k args [AllFs L, G] Ms0 val N Ms1) : Spec P k args pre Ms0 val N Ms1 := fun ok w hok hs =>
  h ok w hok ⟨hs.chg, fun F hF => by
    rcases List.mem_cons.mp hF with e | e
    · subst e; exact fun F' hF' => hs.facts F' (hL F' hF')
    · rw [List.mem_singleton] at e; subst e; exact hs.facts _ hG, hs.res, hs.lt, hs.disj⟩
theorem St.litEN {B : Base} {Γ : List Fact} {Ms : List Res} {w : World} {e : TypeId} {b : Nat} {p q : EP} (hs : St B Γ (boxR b (epCells p ++ epCells q) e :: Ms) w) {hBp : Prop} (hB : hBp) (hF : epE p ∈ Γ) (hG : epE q ∈ Γ) : St B (ENF [p, q] (some ⟨b, 0, Option.none⟩, 2) :: Γ) Ms w := by
  have h1 := ((hs.boxRow (sz := 2) (m := 2) rfl (by decide)).allNil epE).allAdd (x := p) List.mem_cons_self (List.mem_cons_of_mem _ hF)
  have h2 := h1.allAdd (x := q) List.mem_cons_self (List.mem_cons_of_mem _ (List.mem_cons_of_mem _ hG))
  exact (h2.settleRow (F := epCells) (E := epE) (d := ep0) (bt := 32) (l := [p, q]) (fun _ => rfl) hB List.mem_cons_self (by simp) rfl (by decide)).less (by simp +contextual)
end Go.Hy
namespace Go.Hy
open Go Go.ChangeShapes Go.WideShapes Go.RowKit Go.Shelf Go.Proofs
/-! ### A law whose row lists a package-level table -/
theorem law_lifted_laid {C : Checked} {os : Os} {f : FuncId} {fn : Func} {s : ChangeSpec} {conds : List PathCond} {ts : List TypeId} {tb : TypeId} {H : Type} {enc : TypeId × Value → H} {L : List (String × DataW Unit)}
    (own : ownKnob C.prog.godebug = none) (started : os.Started) (noInit : C.prog.inits.idxOf? f = none) (hfn : C.prog.funcs[f]? = some fn)
    (witness : ∃ (w : World) (tape : Tape) (i : Input), w.os = os ∧ (w.forCall tape i).Shaped C.prog ∧ i.vars = [] ∧ Input.okWide C.prog (w.forCall tape i) .any w.heap.size f i ∧
      ((s.pre enc C.prog fn conds false (w.forCall tape i).memory i.args ∧ laidMetH C.prog L (w.forCall tape i).memory) ∧ sizedMet enc C.prog fn (OpenSpec.ofChange s) false (w.forCall tape i).memory i.args) ∧ Assume.holds {} C.prog (lone (Frame.enter C.prog f i.args .normal) [] (w.forCall tape i)))
    (laid : laidOutB C.prog = true) (hps : fn.params.toList = ts) (hread : ts.all (fun t => C.prog.readableRec t && decide (t < C.prog.types.size)) = true) (hres : fn.resultTypes = #[tb]) (hbool : C.prog.underlying tb = some .bool) (hvars : s.vars = [])
    (hsays : ∀ ds : List (DataW H), ds.length = ts.length → s.fn H ds = { results := [.lit (.bool true)], args := ds })
    (hcall : ∀ (W : World) (base : Nat) (args : Array Value) (ds : List (DataW H)) (p : List MemPlace), (∀ (j : Nat) t v, ts[j]? = some t → args[j]? = some v → Value.okWide C.prog W .any base t v) →
      DataW.TrodAll enc C.prog W 0 (fun _ => true) true ts args.toList ds p → (∀ x, x ∈ DataW.weightsEach C.prog ts ds → x ≤ reach) → laidMetH C.prog L W →
      Calls C.prog f args W fun e W' => e = .returned (.bool true) ∧ Below W.heap.size W W') :
    ReturnsInHanded {} C os f .any (fun w args => (s.pre enc C.prog fn conds false w args ∧ laidMetH C.prog L w) ∧ sizedMet enc C.prog fn (OpenSpec.ofChange s) false w args) (s.post enc C.prog fn false true false false) := by
  refine returnsInHanded_of_change_and (X := fun w _ => laidMetH C.prog L w) (fun _ _ _ hh h => h.of_heap hh) own started noInit hfn witness ?_
  intro W base args ds gs before hval hW hcnd hwt hL _
  have hW' := hW
  obtain ⟨p, q, hA, hV, rfl, hfz, hnd⟩ := hW
  rw [hvars] at hV
  obtain ⟨rfl, rfl⟩ := trodVars_none hV
  rw [hps] at hA hwt
  have hlen : ∀ {ts : List TypeId} {vs : List Value} {ds : List (DataW H)} {ps : List MemPlace}, DataW.TrodAll enc C.prog W 0 (fun _ => true) true ts vs ds ps → ds.length = ts.length := by
    intro ts
    induction ts with
    | nil => intro vs ds ps h; obtain ⟨_, rfl, _⟩ := trodAll_nil h; rfl
    | cons t ts ih =>
      intro vs ds ps h
      obtain ⟨v, vs1, d, ds1, a, b, rfl, rfl, rfl, _, h2⟩ := trodAll_cons h
      simp [ih h2]
  have hvt : s.plain.varTypes C.prog = [] := by
    have : s.plain.vars = [] := hvars
    unfold DataSpec.varTypes; rw [this]; rfl
  have hw2 : ∀ x, x ∈ DataW.weightsEach C.prog ts ds → x ≤ reach := by
    intro x hx
    rw [List.append_nil, hvt, List.append_nil] at hwt
    have := List.all_eq_true.mp hwt x hx
    exact of_decide_eq_true this
  refine (hcall W base args ds p (fun j t v ht hv => hval j t v (by rw [← Array.getElem?_toList, hps]; exact ht) hv) hA hw2 hL).mono ?_
  intro e W' ⟨he, hb⟩
  have hlt : ∀ x ∈ p, x.block < W.heap.size := fun x hx => hW'.lt x (by simpa using hx)
  refine ⟨.bool true, he, ds, [], p ++ [], [], p, [], hW', ?_, ?_, ?_, hb.frame _, fun h => by cases h⟩
  · rw [List.append_nil, hsays ds (hlen hA), hres]
    exact ⟨[], [], ⟨1, by simp [DataW.trod, Value.cells, hbool]⟩, rfl, rfl⟩
  · rw [List.append_nil, hsays ds (hlen hA), hps]
    refine trodAll_stays laid hb (fun t ht => ?_) hA hlt
    have := List.all_eq_true.mp hread t ht
    simpa using this
  · rw [List.append_nil, hsays ds (hlen hA), hvars]
    rfl
/-- What the row's condition gives the walks: the table's cells. -/
theorem tab_laid {P : Program} {W : World} {nm : String} {t e : TypeId} {tab : List Nat} (hg : P.globalNamed nm = some 0) (ht : (P.globals[0]?).map (·.type) = some t) (hu : P.underlying t = some (.array tab.length e)) (he : P.underlying e = some (.int .u8)) (hc : P.cellsOf e = 1) (hc2 : P.cellsOf t = tab.length) (hpos : 0 < tab.length)
    (hp : ([(nm, (DataW.agg (tab.map fun (v : Nat) => .lit (.int .u8 (v : Int))) : DataW Unit))].all fun x => x.2.handleName?.isNone) = true) (h : laidMetH P [(nm, .agg (tab.map fun (v : Nat) => .lit (.int .u8 (v : Int))))] W) : TabAt 0 tab W ∧ 0 < W.heap.size := by
  rw [MakeChecks.laidMetH_plain _ _ _ hp] at h
  obtain ⟨ps, ⟨g0, t0, cs0, f0, p0, q0, hg0, ht0, hv0, hd0, _⟩, _⟩ := h
  obtain rfl := Option.some.inj (hg.symm.trans hg0)
  obtain rfl := Option.some.inj (ht.symm.trans ht0)
  obtain ⟨xs, m1, rfl, hx1, hlen, hn3, hel⟩ := DataW.trod_array hu hd0
  simp only [Prod.mk.injEq, DataW.agg.injEq] at hx1
  have hcell : ∀ j, j < tab.length → W.cell? ⟨0, j, none⟩ = some (.int .u8 (tab.getD j 0)) := by
    intro j hj
    have h1 := hel j hj
    rw [hc, Nat.mul_one, List.getElem?_eq_getElem (by omega)] at h1
    obtain ⟨n, e1, e2, _⟩ := DataW.trod_int he h1
    have h2 := World.var?_cell hg0 hv0 j
    have h3 : cs0[j]? = some (.int .u8 n) := by
      have h4 := congrArg (fun l => l[0]?) e1
      simp only [List.getElem?_take, List.getElem?_drop, List.getElem?_cons_zero] at h4
      simpa using h4
    rw [h2, h3]
    have h5 : (tab.map fun (v : Nat) => (DataW.lit (.int .u8 (v : Int)) : DataW Unit))[j]? = (xs.map (·.1))[j]? := by rw [hx1.1]
    rw [List.getElem?_map, List.getElem?_map, List.getElem?_eq_getElem hj, List.getElem?_eq_getElem (show j < xs.length by omega)] at h5
    simp only [Option.map_some, Option.some.injEq] at h5
    rw [e2] at h5
    simp only [DataW.lit.injEq, Lit.int.injEq, true_and] at h5
    rw [List.getD_eq_getElem?_getD, List.getElem?_eq_getElem hj]
    simp [← h5]
  refine ⟨hcell, ?_⟩
  have h6 := hcell 0 hpos
  refine Nat.lt_of_not_le fun hz => ?_
  unfold World.cell? at h6
  rw [Array.getElem?_eq_none (show W.heap.size ≤ 0 from hz)] at h6
  simp at h6
theorem tab_fact {W : World} {tab : List Nat} (h : TabAt 0 tab W ∧ 0 < W.heap.size) : (At 0 0 (tab.map fun (v : Nat) => Value.int .u8 (v : Int))).f (okw W) W := by
  refine ⟨h.2, fun j v hj => ?_⟩
  rw [List.getElem?_map] at hj
  cases hq : tab[j]? with
  | none => rw [hq] at hj; cases hj
  | some k =>
    rw [hq] at hj
    injection hj with hj
    subst hj
    have hlt : j < tab.length := by
      refine Nat.lt_of_not_le fun hn => ?_
      rw [List.getElem?_eq_none hn] at hq
      cases hq
    have h1 := h.1 j hlt
    rw [List.getD_eq_getElem?_getD, hq] at h1
    rw [Nat.zero_add]
    exact h1
end Go.Hy
namespace Go.Hy
/-! ### What a row says in a world: dimensions that are so, and dimensions whose opposites are so -/
abbrev Wd : Type := Nat → Prop
def satC (c : Cl) (P N : Wd) : Prop := (∀ i, c.pos.testBit i = true → P i) ∧ ∀ i, c.neg.testBit i = true → N i
def sat (l : List Cl) (P N : Wd) : Prop := ∃ c, c ∈ l ∧ satC c P N
def bitsW (s : Nat) : Wd := fun i => s.testBit i = true
def calmW (P N : Wd) : Prop := ∀ i, ¬ (P i ∧ N i)
theorem or_sub {a b : Nat} : a ||| b = a ↔ ∀ i, b.testBit i = true → a.testBit i = true := by
  constructor
  · intro h i hi
    rw [← h, Nat.testBit_or, hi, Bool.or_true]
  · intro h
    refine Nat.eq_of_testBit_eq fun i => ?_
    rw [Nat.testBit_or]
    cases hb : b.testBit i with
    | false => simp
    | true => rw [h i hb]; rfl
theorem below_sat {a b : Cl} : below a b = true ↔ satC b (bitsW a.pos) (bitsW a.neg) := by
  unfold below satC bitsW
  rw [Bool.and_eq_true, decide_eq_true_eq, decide_eq_true_eq, or_sub, or_sub]
theorem satC_mono {c : Cl} {P N P' N' : Wd} (hp : ∀ i, P i → P' i) (hn : ∀ i, N i → N' i) (h : satC c P N) : satC c P' N' := ⟨fun i hi => hp i (h.1 i hi), fun i hi => hn i (h.2 i hi)⟩
theorem sat_mono {l : List Cl} {P N P' N' : Wd} (hp : ∀ i, P i → P' i) (hn : ∀ i, N i → N' i) (h : sat l P N) : sat l P' N' := by
  obtain ⟨c, hc, h⟩ := h
  exact ⟨c, hc, satC_mono hp hn h⟩
theorem satC_self (c : Cl) : satC c (bitsW c.pos) (bitsW c.neg) := ⟨fun i h => h, fun i h => h⟩
theorem sat_of_below {a b : Cl} {P N : Wd} (h : below a b = true) (hs : satC a P N) : satC b P N := by
  have h1 := below_sat.mp h
  exact ⟨fun i hi => hs.1 i (h1.1 i hi), fun i hi => hs.2 i (h1.2 i hi)⟩
theorem below_refl (c : Cl) : below c c = true := below_sat.mpr (satC_self c)
theorem below_trans {a b c : Cl} (h : below a b = true) (h2 : below b c = true) : below a c = true := below_sat.mpr (sat_of_below h2 (below_sat.mp h))
theorem below_anti {a b : Cl} (h : below a b = true) (h2 : below b a = true) : a = b := by
  have h1 := below_sat.mp h
  have h3 := below_sat.mp h2
  unfold satC bitsW at h1 h3
  have e1 : a.pos = b.pos := Nat.eq_of_testBit_eq fun i => by
    cases ha : a.pos.testBit i with
    | true => exact (h3.1 i ha).symm
    | false => cases hb : b.pos.testBit i with
      | false => rfl
      | true => rw [h1.1 i hb] at ha; cases ha
  have e2 : a.neg = b.neg := Nat.eq_of_testBit_eq fun i => by
    cases ha : a.neg.testBit i with
    | true => exact (h3.2 i ha).symm
    | false => cases hb : b.neg.testBit i with
      | false => rfl
      | true => rw [h1.2 i hb] at ha; cases ha
  cases a; cases b; simp_all
theorem needless_true {l : List Cl} {c : Cl} (h : needless l c = true) : ∃ d, d ∈ l ∧ c ≠ d ∧ below c d = true := by
  unfold needless at h
  obtain ⟨d, hd, h2⟩ := List.any_eq_true.mp h
  rw [Bool.and_eq_true] at h2
  exact ⟨d, hd, by simpa using h2.1, h2.2⟩
theorem least_cover {l : List Cl} : ∀ (n : Nat) (c : Cl), c.pos + c.neg ≤ n → c ∈ l → ∃ d, d ∈ refLeast l ∧ below c d = true
  | n, c, hn, hc => by
    cases h : needless l c with
    | false => exact ⟨c, refLeast_mem.mpr ⟨hc, h⟩, below_refl c⟩
    | true =>
      obtain ⟨d, hd, hne, hb⟩ := needless_true h
      have h1 : c.pos ||| d.pos = c.pos ∧ c.neg ||| d.neg = c.neg := by
        unfold below at hb
        rw [Bool.and_eq_true, decide_eq_true_eq, decide_eq_true_eq] at hb
        exact hb
      have h2 : d.pos ≤ c.pos := by have := Nat.right_le_or (n := c.pos) (m := d.pos); omega
      have h3 : d.neg ≤ c.neg := by have := Nat.right_le_or (n := c.neg) (m := d.neg); omega
      have h4 : d.pos + d.neg < c.pos + c.neg := by
        refine Nat.lt_of_le_of_ne (by omega) fun he => hne ?_
        have e1 : c.pos = d.pos := by omega
        have e2 : c.neg = d.neg := by omega
        cases c; cases d; simp_all
      obtain ⟨e, he, h5⟩ := least_cover (d.pos + d.neg) d (Nat.le_refl _) hd
      exact ⟨e, he, below_trans hb h5⟩
termination_by n c => c.pos + c.neg
theorem sat_refLeast {l : List Cl} {P N : Wd} : sat (refLeast l) P N ↔ sat l P N := by
  constructor
  · rintro ⟨c, hc, h⟩; exact ⟨c, (refLeast_mem.mp hc).1, h⟩
  · rintro ⟨c, hc, h⟩
    obtain ⟨d, hd, hb⟩ := least_cover _ c (Nat.le_refl _) hc
    exact ⟨d, hd, sat_of_below hb h⟩
theorem sat_least {l : List Cl} {P N : Wd} (h : (leastF l).1 = 0) : sat (leastF l).2 P N ↔ sat l P N := by
  rcases leastF_cases l with ⟨_, _, h2, _⟩ | h2 | h2
  · rw [h2]; exact sat_refLeast
  · rw [h2] at h; cases h
  · rw [h2] at h; cases h
theorem refLeast_ext {l m : List Cl} (Q : Wd → Wd → Prop) (hl : ∀ c, c ∈ l → Q (bitsW c.pos) (bitsW c.neg)) (hm : ∀ c, c ∈ m → Q (bitsW c.pos) (bitsW c.neg)) (h : ∀ P N, Q P N → (sat l P N ↔ sat m P N)) : refLeast l = refLeast m := by
  have half : ∀ {l m : List Cl}, (∀ c, c ∈ l → Q (bitsW c.pos) (bitsW c.neg)) → (∀ c, c ∈ m → Q (bitsW c.pos) (bitsW c.neg)) → (∀ P N, Q P N → (sat l P N ↔ sat m P N)) → ∀ x, x ∈ refLeast l → x ∈ refLeast m := by
    intro l m hl hm h x hx
    obtain ⟨h1, h2⟩ := refLeast_mem.mp hx
    have key : ∀ d, d ∈ m → below x d = true → x = d := by
      intro d hd hb
      obtain ⟨e, he, hse⟩ := (h _ _ (hm d hd)).mpr ⟨d, hd, satC_self d⟩
      have hb2 : below d e = true := below_sat.mpr hse
      rcases needless_iff.mp h2 e he with h3 | h3
      · subst h3; exact below_anti hb hb2
      · rw [below_trans hb hb2] at h3; cases h3
    obtain ⟨d, hd, hsd⟩ := (h _ _ (hl x h1)).mp ⟨x, h1, satC_self x⟩
    have hxd := key d hd (below_sat.mpr hsd)
    refine refLeast_mem.mpr ⟨hxd ▸ hd, needless_iff.mpr fun e he => ?_⟩
    cases hb : below x e with
    | false => exact .inr rfl
    | true => exact .inl (key e he hb)
  exact strict_ext (refLeast_sorted l) (refLeast_sorted m) fun x => ⟨half hl hm h x, half hm hl (fun P N hq => (h P N hq).symm) x⟩
theorem leastF_ext {l m : List Cl} (Q : Wd → Wd → Prop) (r1 : l.all right24 = true) (r2 : m.all right24 = true) (hl : ∀ c, c ∈ l → Q (bitsW c.pos) (bitsW c.neg)) (hm : ∀ c, c ∈ m → Q (bitsW c.pos) (bitsW c.neg)) (h : ∀ P N, Q P N → (sat l P N ↔ sat m P N)) : leastF l = leastF m := by
  unfold leastF
  rw [r1, r2, refLeast_ext Q hl hm h]
theorem fR_all {l : List Cl} (h : fRight l = true) : l.all right24 = true := by
  unfold fRight at h
  simp only [Bool.and_eq_true] at h
  exact h.1.1.1
theorem fR_ext {l m : List Cl} (Q : Wd → Wd → Prop) (h1 : fRight l = true) (h2 : fRight m = true) (hl : ∀ c, c ∈ l → Q (bitsW c.pos) (bitsW c.neg)) (hm : ∀ c, c ∈ m → Q (bitsW c.pos) (bitsW c.neg)) (h : ∀ P N, Q P N → (sat l P N ↔ sat m P N)) : l = m := by
  have h3 := leastF_ext Q (fR_all h1) (fR_all h2) hl hm h
  rw [leastF_fRight.mp h1, leastF_fRight.mp h2] at h3
  injection h3
theorem clash_iff {c : Cl} : clash c = false ↔ calmW (bitsW c.pos) (bitsW c.neg) := by
  unfold clash calmW bitsW
  rw [decide_eq_false_iff_not, Decidable.not_not]
  constructor
  · rintro h i ⟨h1, h2⟩
    have h3 : (c.pos &&& c.neg).testBit i = true := by rw [Nat.testBit_and, h1, h2]; rfl
    rw [h, Nat.zero_testBit] at h3
    cases h3
  · intro h
    refine Nat.eq_of_testBit_eq fun i => ?_
    rw [Nat.testBit_and, Nat.zero_testBit]
    cases h1 : c.pos.testBit i with
    | false => rfl
    | true => cases h2 : c.neg.testBit i with
      | false => rfl
      | true => exact absurd ⟨h1, h2⟩ (h i)
theorem face_calm {l : List Cl} (h : faceRight l = true) : fRight l = true ∧ ∀ c, c ∈ l → clash c = false := by
  unfold faceRight at h
  rw [Bool.and_eq_true, Bool.not_eq_true'] at h
  refine ⟨h.1, fun c hc => ?_⟩
  cases hq : clash c with
  | false => rfl
  | true => rw [List.any_eq_true.mpr ⟨c, hc, hq⟩] at h; cases h.2
theorem calm_face {l : List Cl} (h : fRight l = true) (h2 : ∀ c, c ∈ l → clash c = false) : faceRight l = true := by
  unfold faceRight
  rw [Bool.and_eq_true, Bool.not_eq_true', h]
  refine ⟨rfl, ?_⟩
  cases hq : l.any clash with
  | false => rfl
  | true => obtain ⟨c, hc, h3⟩ := List.any_eq_true.mp hq; rw [h2 c hc] at h3; cases h3
theorem face_ext {l m : List Cl} (h1 : faceRight l = true) (h2 : faceRight m = true) (h : ∀ P N, calmW P N → (sat l P N ↔ sat m P N)) : l = m :=
  fR_ext calmW (face_calm h1).1 (face_calm h2).1 (fun c hc => clash_iff.mp ((face_calm h1).2 c hc)) (fun c hc => clash_iff.mp ((face_calm h2).2 c hc)) h
/-! Joins, meets, opposites. -/
section
variable {f g l : List Cl} {P N : Wd} {a b c : Cl}
theorem sat_nil : ¬ sat [] P N := by rintro ⟨c, hc, _⟩; cases hc
theorem sat_append : sat (f ++ g) P N ↔ sat f P N ∨ sat g P N := by
  unfold sat
  simp only [List.mem_append]
  constructor
  · rintro ⟨c, h | h, h2⟩
    · exact .inl ⟨c, h, h2⟩
    · exact .inr ⟨c, h, h2⟩
  · rintro (⟨c, h, h2⟩ | ⟨c, h, h2⟩)
    · exact ⟨c, .inl h, h2⟩
    · exact ⟨c, .inr h, h2⟩
theorem sat_single : sat [c] P N ↔ satC c P N := by
  unfold sat
  constructor
  · rintro ⟨d, hd, h⟩; rw [List.mem_singleton] at hd; subst hd; exact h
  · intro h; exact ⟨c, List.mem_singleton.mpr rfl, h⟩
theorem satC_cl0 : satC cl0 P N := ⟨fun i hi => by simp [cl0] at hi, fun i hi => by simp [cl0] at hi⟩
theorem sat_one : sat [cl0] P N := sat_single.mpr satC_cl0
theorem satC_meet : satC (meetC a b) P N ↔ satC a P N ∧ satC b P N := by
  unfold satC meetC
  simp only [Nat.testBit_or, Bool.or_eq_true]
  constructor
  · rintro ⟨h1, h2⟩; exact ⟨⟨fun i hi => h1 i (.inl hi), fun i hi => h2 i (.inl hi)⟩, fun i hi => h1 i (.inr hi), fun i hi => h2 i (.inr hi)⟩
  · rintro ⟨h1, h2⟩; exact ⟨fun i hi => hi.elim (h1.1 i) (h2.1 i), fun i hi => hi.elim (h1.2 i) (h2.2 i)⟩
theorem sat_meetL : sat (meetL f g) P N ↔ sat f P N ∧ sat g P N := by
  unfold sat meetL
  simp only [List.mem_flatMap, List.mem_map]
  constructor
  · rintro ⟨c, ⟨a, ha, b, hb, rfl⟩, h⟩
    have h2 := satC_meet.mp h
    exact ⟨⟨a, ha, h2.1⟩, b, hb, h2.2⟩
  · rintro ⟨⟨a, ha, h1⟩, b, hb, h2⟩
    exact ⟨_, ⟨a, ha, b, hb, rfl⟩, satC_meet.mpr ⟨h1, h2⟩⟩
theorem sat_calm (hw : calmW P N) : sat (calmL l) P N ↔ sat l P N := by
  unfold sat calmL
  constructor
  · rintro ⟨c, hc, h⟩; exact ⟨c, (List.mem_filter.mp hc).1, h⟩
  · rintro ⟨c, hc, h⟩
    refine ⟨c, List.mem_filter.mpr ⟨hc, ?_⟩, h⟩
    rw [Bool.not_eq_true', clash_iff]
    rintro i ⟨h1, h2⟩
    exact hw i ⟨h.1 i h1, h.2 i h2⟩
end
theorem bitM_bit {i : Int} {j : Nat} : (bitM i).testBit j = true ↔ (0 ≤ i ∧ i < 24) ∧ (j : Int) = i := by
  unfold bitM
  split
  · rename_i h
    rw [Nat.testBit_two_pow, decide_eq_true_eq]
    omega
  · rename_i h
    rw [Nat.zero_testBit]
    constructor
    · intro h2; cases h2
    · rintro ⟨h2, _⟩; exact absurd h2 h
theorem withoutM_bit {s : Nat} {i : Int} {j : Nat} : (withoutM s i).testBit j = true ↔ j < 24 ∧ s.testBit j = true ∧ (j : Int) ≠ i := by
  unfold withoutM
  split
  · rename_i h
    rw [andNot32_bit, and24_bit, Nat.testBit_two_pow]
    simp only [Bool.and_eq_true, decide_eq_true_eq, Bool.not_eq_true', decide_eq_false_iff_not]
    constructor
    · rintro ⟨⟨_, h2, h3⟩, h4⟩; exact ⟨h2, h3, by omega⟩
    · rintro ⟨h1, h2, h3⟩; exact ⟨⟨by omega, h1, h2⟩, by omega⟩
  · rename_i h
    rw [and24_bit]
    simp only [Bool.and_eq_true, decide_eq_true_eq]
    constructor
    · rintro ⟨h1, h2⟩; exact ⟨h1, h2, by omega⟩
    · rintro ⟨h1, h2, _⟩; exact ⟨h1, h2⟩
theorem right24_bits {c : Cl} (h : right24 c = true) : (∀ i, c.pos.testBit i = true → i < 24) ∧ ∀ i, c.neg.testBit i = true → i < 24 := by
  obtain ⟨h1, h2⟩ := right24_iff.mp h
  have key : ∀ s i : Nat, s < 16777216 → s.testBit i = true → i < 24 := fun s i hs hi => by
    refine Decidable.byContradiction fun hn => ?_
    have h3 : s < 2 ^ i := Nat.lt_of_lt_of_le (show s < 2 ^ 24 by omega) (Nat.pow_le_pow_right (by omega) (by omega))
    rw [Nat.testBit_lt_two_pow h3] at hi
    cases hi
  exact ⟨fun i hi => key _ i h1 hi, fun i hi => key _ i h2 hi⟩
theorem satC_take {c : Cl} {i : Int} {P N : Wd} (hc : right24 c = true) : satC (takeC c i) P N ↔ (∀ j : Nat, c.pos.testBit j = true → (j : Int) ≠ i → P j) ∧ ∀ j : Nat, c.neg.testBit j = true → (j : Int) ≠ i → N j := by
  obtain ⟨h1, h2⟩ := right24_bits hc
  unfold satC takeC
  simp only [withoutM_bit]
  exact ⟨fun h => ⟨fun j hj hn => h.1 j ⟨h1 j hj, hj, hn⟩, fun j hj hn => h.2 j ⟨h2 j hj, hj, hn⟩⟩, fun h => ⟨fun j hj => h.1 j hj.2.1 hj.2.2, fun j hj => h.2 j hj.2.1 hj.2.2⟩⟩
theorem mem_listM {s : Nat} {x : Int} : x ∈ listM s ↔ 0 ≤ x ∧ x < 24 ∧ s.testBit x.toNat = true := listTo_mem
theorem sat_opp {c : Cl} {P N : Wd} (hc : right24 c = true) : sat (oppL c) P N ↔ (∃ i, c.pos.testBit i = true ∧ N i) ∨ ∃ i, c.neg.testBit i = true ∧ P i := by
  obtain ⟨b1, b2⟩ := right24_bits hc
  unfold oppL
  rw [sat_append]
  have one : ∀ (s : Nat) (hs : ∀ i, s.testBit i = true → i < 24) (mk : Nat → Cl) (Q : Wd) (hq : ∀ x : Int, 0 ≤ x → x < 24 → (satC (mk (bitM x)) P N ↔ Q x.toNat)), sat ((listM s).map fun i => mk (bitM i)) P N ↔ ∃ i, s.testBit i = true ∧ Q i := by
    intro s hs mk Q hq
    unfold sat
    simp only [List.mem_map]
    constructor
    · rintro ⟨_, ⟨x, hx, rfl⟩, h⟩
      obtain ⟨x0, x1, x2⟩ := mem_listM.mp hx
      exact ⟨x.toNat, x2, (hq x x0 x1).mp h⟩
    · rintro ⟨i, hi, h⟩
      have h3 := hs i hi
      exact ⟨_, ⟨(i : Int), mem_listM.mpr ⟨by omega, by omega, by simpa using hi⟩, rfl⟩, (hq (i : Int) (by omega) (by omega)).mpr (by simpa using h)⟩
  have e1 := one c.pos b1 (fun s => ⟨0, s⟩) N (fun x x0 x1 => by
    unfold satC
    simp only [Nat.zero_testBit, bitM_bit]
    constructor
    · intro h; exact h.2 x.toNat ⟨⟨x0, x1⟩, by omega⟩
    · intro h; exact ⟨fun i hi => (by cases hi), fun i hi => (show i = x.toNat by omega) ▸ h⟩)
  have e2 := one c.neg b2 (fun s => ⟨s, 0⟩) P (fun x x0 x1 => by
    unfold satC
    simp only [Nat.zero_testBit, bitM_bit]
    constructor
    · intro h; exact h.1 x.toNat ⟨⟨x0, x1⟩, by omega⟩
    · intro h; exact ⟨fun i hi => (show i = x.toNat by omega) ▸ h, fun i hi => (by cases hi)⟩)
  exact or_congr e1 e2
/-! Folds that are told. -/
theorem foldF_inv {g : List Cl → Cl → EL} {L : List Cl} {I : List Cl → List Cl → Prop} (hs : ∀ pre c h, c ∈ L → I pre h → (g h c).1 = 0 → I (pre ++ [c]) (g h c).2) : ∀ (m pre h : List Cl), I pre h → (∀ c, c ∈ m → c ∈ L) → (foldF g h m).1 = 0 → I (pre ++ m) (foldF g h m).2
  | [], pre, h, hi, _, _ => by rw [List.append_nil]; exact hi
  | c :: m, pre, h, hi, hm, h0 => by
    rw [foldF] at h0 ⊢
    by_cases h1 : (g h c).1 = 0
    · rw [bindE_ok h1] at h0 ⊢
      have h2 := foldF_inv hs m (pre ++ [c]) _ (hs pre c h (hm c List.mem_cons_self) hi h1) (fun d hd => hm d (List.mem_cons_of_mem _ hd)) h0
      rwa [List.append_assoc] at h2
    · rw [bindE_bad h1] at h0
      exact absurd h0 h1
theorem bindE_zero {x : EL} {k : List Cl → EL} (h : (bindE x k).1 = 0) : x.1 = 0 ∧ (k x.2).1 = 0 ∧ bindE x k = k x.2 := by
  by_cases h1 : x.1 = 0
  · rw [bindE_ok h1] at h ⊢; exact ⟨h1, h, rfl⟩
  · rw [bindE_bad h1] at h; exact absurd h h1
def coW (P : Wd) : Wd := fun i => ¬ P i
theorem sat_not {f : List Cl} {P N : Wd} (hf : ∀ c, c ∈ f → right24 c = true) (h : (notF f).1 = 0) : sat (notF f).2 P N ↔ ¬ sat f (coW N) (coW P) := by
  have h2 := foldF_inv (g := notStep) (L := f) (I := fun pre h => ∀ P N, sat h P N ↔ ∀ c, c ∈ pre → ¬ satC c (coW N) (coW P)) (fun pre c h hc hi h0 P N => by
    unfold notStep at h0 ⊢
    obtain ⟨a1, a2, a3⟩ := bindE_zero h0
    rw [a3]
    unfold meetF at a2 ⊢
    rw [sat_least a2, sat_meetL, hi]
    unfold oppF at a1 ⊢
    rw [sat_least a1, sat_opp (hf c hc)]
    simp only [List.mem_append, List.mem_singleton, or_imp, forall_and, forall_eq]
    refine and_congr Iff.rfl ?_
    unfold satC coW
    constructor
    · rintro (⟨i, hi, hn⟩ | ⟨i, hi, hn⟩) ⟨h1, h2⟩
      · exact h1 i hi hn
      · exact h2 i hi hn
    · intro h1
      refine Classical.byContradiction fun h2 => h1 ⟨fun i hi hn => h2 (.inl ⟨i, hi, hn⟩), fun i hi hn => h2 (.inr ⟨i, hi, hn⟩)⟩) f [] [cl0] (fun P N => ⟨fun _ c hc => (by cases hc), fun _ => sat_one⟩) (fun c hc => hc) h P N
  rw [List.nil_append] at h2
  unfold notF
  rw [h2]
  unfold sat
  constructor
  · rintro h3 ⟨c, hc, h4⟩; exact h3 c hc h4
  · intro h3 c hc h4; exact h3 ⟨c, hc, h4⟩
/-! A formula in a dimension's place. -/
def ovr (P : Wd) (i : Int) (A : Prop) : Wd := fun j => if (j : Int) = i then A else P j
theorem satC_ovr {c : Cl} {i : Int} {P N : Wd} {A A' : Prop} (hc : right24 c = true) : satC c (ovr P i A) (ovr N i A') ↔ satC (takeC c i) P N ∧ (hasM c.pos i = true → A) ∧ (hasM c.neg i = true → A') := by
  obtain ⟨b1, b2⟩ := right24_bits hc
  rw [satC_take hc]
  unfold satC ovr hasM
  simp only [Bool.and_eq_true, decide_eq_true_eq]
  constructor
  · rintro ⟨h1, h2⟩
    refine ⟨⟨fun j hj hn => ?_, fun j hj hn => ?_⟩, ?_, ?_⟩
    · have := h1 j hj; rwa [if_neg hn] at this
    · have := h2 j hj; rwa [if_neg hn] at this
    · rintro ⟨⟨h3, h4⟩, h5⟩; have := h1 _ h5; rwa [if_pos (by omega)] at this
    · rintro ⟨⟨h3, h4⟩, h5⟩; have := h2 _ h5; rwa [if_pos (by omega)] at this
  · rintro ⟨⟨h1, h2⟩, h3, h4⟩
    refine ⟨fun j hj => ?_, fun j hj => ?_⟩
    · split
      · rename_i h; have := b1 j hj; exact h3 ⟨⟨by omega, by omega⟩, by rw [← h]; simpa using hj⟩
      · rename_i h; exact h1 j hj h
    · split
      · rename_i h; have := b2 j hj; exact h4 ⟨⟨by omega, by omega⟩, by rw [← h]; simpa using hj⟩
      · rename_i h; exact h2 j hj h
end Go.Hy
namespace Go.Hy
/-! ### Faces: a formula in a dimension's place -/
theorem coW_mono {P N : Wd} (hw : calmW P N) : (∀ i, P i → coW N i) ∧ ∀ i, N i → coW P i := ⟨fun i hp hn => hw i ⟨hp, hn⟩, fun i hn hp => hw i ⟨hp, hn⟩⟩
theorem calm_ovr {P N : Wd} {i : Int} {r : List Cl} (hw : calmW P N) : calmW (ovr P i (sat r P N)) (ovr N i (¬ sat r (coW N) (coW P))) := by
  rintro j ⟨h1, h2⟩
  unfold ovr at h1 h2
  split at h1
  · rename_i h
    rw [if_pos h] at h2
    exact h2 (sat_mono (coW_mono hw).1 (coW_mono hw).2 h1)
  · rename_i h
    rw [if_neg h] at h2
    exact hw j ⟨h1, h2⟩
theorem sat_of {r : List Cl} {P N : Wd} (hw : calmW P N) (h : (ofF r).1 = 0) : sat (ofF r).2 P N ↔ sat r P N := by
  unfold ofF at h ⊢
  split at h
  · rename_i h1
    rw [if_pos h1, sat_least h, sat_calm hw]
  · cases h
theorem sat_ofZero {r : List Cl} {P N : Wd} (hw : calmW P N) (h : (ofZero r).1 = 0) : sat (ofZero r).2 P N ↔ ¬ sat r (coW N) (coW P) := by
  unfold ofZero at h ⊢
  obtain ⟨a1, a2, a3⟩ := bindE_zero h
  rw [a3, sat_of hw a2]
  unfold notR at a1 ⊢
  split at a1
  · rename_i h1
    rw [if_pos h1, sat_not (fun c hc => List.all_eq_true.mp (fR_all h1) c hc) a1]
  · cases a1
theorem meetA_one {c : Cl} {x : List Cl} : meetA [c] x = leastF (calmL (x.map fun b => meetC c b)) := by
  unfold meetA
  simp
theorem sat_map_meet {c : Cl} {x : List Cl} {P N : Wd} : sat (x.map fun b => meetC c b) P N ↔ satC c P N ∧ sat x P N := by
  have h := sat_meetL (f := [c]) (g := x) (P := P) (N := N)
  rw [sat_single] at h
  rw [← h]
  unfold meetL
  simp
theorem clash_take {c : Cl} {i : Int} (h : clash c = false) : clash (takeC c i) = false := by
  rw [clash_iff] at h ⊢
  rintro j ⟨h1, h2⟩
  exact h j ⟨(withoutM_bit.mp h1).2.1, (withoutM_bit.mp h2).2.1⟩
theorem has_both {c : Cl} {i : Int} (h : clash c = false) (h1 : hasM c.pos i = true) : hasM c.neg i = false := by
  cases h2 : hasM c.neg i with
  | false => rfl
  | true =>
    unfold hasM at h1 h2
    simp only [Bool.and_eq_true] at h1 h2
    exact absurd ⟨h1.2, h2.2⟩ (clash_iff.mp h _)
theorem sat_part {c : Cl} {r : List Cl} {i : Int} {P N : Wd} (hw : calmW P N) (hcl : clash c = false) (h : (facePart i r c).1 = 0) : sat (facePart i r c).2 P N ↔ satC (takeC c i) P N ∧ (hasM c.pos i = true → sat r P N) ∧ (hasM c.neg i = true → ¬ sat r (coW N) (coW P)) := by
  unfold facePart at h ⊢
  split at h
  · rename_i h1
    rw [if_pos h1]
    obtain ⟨a1, a2, a3⟩ := bindE_zero h
    rw [a3]
    rw [meetA_one] at a2 ⊢
    rw [sat_least a2, sat_calm hw, sat_map_meet, sat_of hw a1]
    have h2 := has_both hcl h1
    exact ⟨fun h => ⟨h.1, fun _ => h.2, fun h3 => by rw [h2] at h3; cases h3⟩, fun h => ⟨h.1, h.2.1 h1⟩⟩
  · rename_i h1
    rw [if_neg h1]
    split at h
    · rename_i h2
      rw [if_pos h2]
      obtain ⟨a1, a2, a3⟩ := bindE_zero h
      rw [a3]
      rw [meetA_one] at a2 ⊢
      rw [sat_least a2, sat_calm hw, sat_map_meet, sat_ofZero hw a1]
      exact ⟨fun h => ⟨h.1, fun h3 => absurd h3 h1, fun _ => h.2⟩, fun h => ⟨h.1, h.2.2 h2⟩⟩
    · rename_i h2
      rw [if_neg h2, sat_single]
      exact ⟨fun h => ⟨h, fun h3 => absurd h3 h1, fun h3 => absurd h3 h2⟩, fun h => h.1⟩
theorem part_calm {c : Cl} {r : List Cl} {i : Int} (hcl : clash c = false) (h : (facePart i r c).1 = 0) : ∀ d, d ∈ (facePart i r c).2 → clash d = false := by
  have key : ∀ x : List Cl, (meetA [takeC c i] x).1 = 0 → ∀ d, d ∈ (meetA [takeC c i] x).2 → clash d = false := by
    intro x hx d hd
    rw [meetA_one] at hx hd
    have h2 := leastF_sub hx hd
    unfold calmL at h2
    simpa using (List.mem_filter.mp h2).2
  unfold facePart at h ⊢
  split at h
  · rename_i h1
    rw [if_pos h1]
    obtain ⟨a1, a2, a3⟩ := bindE_zero h
    rw [a3]
    exact key _ a2
  · rename_i h1
    rw [if_neg h1]
    split at h
    · rename_i h2
      rw [if_pos h2]
      obtain ⟨a1, a2, a3⟩ := bindE_zero h
      rw [a3]
      exact key _ a2
    · rename_i h2
      rw [if_neg h2]
      intro d hd
      rw [List.mem_singleton] at hd
      subst hd
      exact clash_take hcl
theorem sat_facePut {f r : List Cl} {i : Int} (h : (facePut f i r).1 = 0) : faceRight f = true ∧ fRight r = true ∧ (0 ≤ i ∧ i < 24) ∧ faceRight (facePut f i r).2 = true ∧ ∀ P N, calmW P N → (sat (facePut f i r).2 P N ↔ sat f (ovr P i (sat r P N)) (ovr N i (¬ sat r (coW N) (coW P)))) := by
  unfold facePut at h ⊢
  split at h
  · cases h
  · rename_i h1
    rw [if_neg h1]
    simp only [Bool.not_eq_false, Bool.and_eq_true] at h1
    obtain ⟨⟨hf, hi⟩, hr⟩ := h1
    have h3 : 0 ≤ i ∧ i < 24 := by unfold isDim at hi; simpa using hi
    obtain ⟨hff, hfc⟩ := face_calm hf
    have hf24 := fR_all hff
    refine ⟨hf, hr, h3, ?_⟩
    have h4 := foldF_inv (g := faceStep i r) (L := f) (I := fun pre h => faceRight h = true ∧ ∀ P N, calmW P N → (sat h P N ↔ ∃ c, c ∈ pre ∧ satC c (ovr P i (sat r P N)) (ovr N i (¬ sat r (coW N) (coW P))))) (fun pre c h hc hi h0 => by
      unfold faceStep at h0 ⊢
      obtain ⟨a1, a2, a3⟩ := bindE_zero h0
      rw [a3]
      unfold joinF at a2 ⊢
      have hcl := hfc c hc
      refine ⟨calm_face (leastF_fR a2) fun d hd => ?_, fun P N hw => ?_⟩
      · rcases List.mem_append.mp (leastF_sub a2 hd) with hd | hd
        · exact (face_calm hi.1).2 d hd
        · exact part_calm hcl a1 d hd
      · rw [sat_least a2, sat_append, hi.2 P N hw, sat_part hw hcl a1]
        have hc24 := List.all_eq_true.mp hf24 c hc
        simp only [List.mem_append, List.mem_singleton]
        constructor
        · rintro (⟨d, hd, hs⟩ | hs)
          · exact ⟨d, .inl hd, hs⟩
          · exact ⟨c, .inr rfl, (satC_ovr hc24).mpr hs⟩
        · rintro ⟨d, hd | hd, hs⟩
          · exact .inl ⟨d, hd, hs⟩
          · subst hd
            exact .inr ((satC_ovr hc24).mp hs)) f [] [] ⟨by decide, fun P N _ => ⟨fun h => absurd h sat_nil, fun ⟨c, hc, _⟩ => (by cases hc)⟩⟩ (fun c hc => hc) h
    rw [List.nil_append] at h4
    exact h4
/-- A world, where some bits are so, and some not. -/
def unW (P : Wd) (a b : Nat) : Wd := fun j => a.testBit j = true ∨ (P j ∧ b.testBit j = false)
theorem satC_cut {c d : Cl} {P N : Wd} (hc : right24 c = true) (hd : right24 d = true) (h1 : clash c = false) (h2 : clash d = false) : satC d (unW P c.pos c.neg) (unW N c.neg c.pos) ↔ clash (meetC c d) = false ∧ satC (cutC c d) P N := by
  obtain ⟨b1, b2⟩ := right24_bits hd
  have c1 := clash_iff.mp h1
  have c2 := clash_iff.mp h2
  rw [clash_iff]
  unfold satC cutC meetC calmW bitsW unW at *
  simp only [andNot32_bit, Nat.testBit_or, Bool.or_eq_true, Bool.and_eq_true, decide_eq_true_eq, Bool.not_eq_true']
  constructor
  · rintro ⟨h3, h4⟩
    refine ⟨?_, fun i hi => ?_, fun i hi => ?_⟩
    · rintro i ⟨h5 | h5, h6 | h6⟩
      · exact c1 i ⟨h5, h6⟩
      · rcases h4 i h6 with h7 | ⟨_, h7⟩
        · exact c1 i ⟨h5, h7⟩
        · rw [h5] at h7; cases h7
      · rcases h3 i h5 with h7 | ⟨_, h7⟩
        · exact c1 i ⟨h7, h6⟩
        · rw [h6] at h7; cases h7
      · exact c2 i ⟨h5, h6⟩
    · rcases h3 i hi.1.2 with h7 | ⟨h7, _⟩
      · rw [hi.2] at h7; cases h7
      · exact h7
    · rcases h4 i hi.1.2 with h7 | ⟨h7, _⟩
      · rw [hi.2] at h7; cases h7
      · exact h7
  · rintro ⟨h3, h4, h5⟩
    refine ⟨fun i hi => ?_, fun i hi => ?_⟩
    · have := b1 i hi
      cases h6 : c.pos.testBit i with
      | true => exact .inl rfl
      | false =>
        refine .inr ⟨h4 i ⟨⟨by omega, hi⟩, h6⟩, ?_⟩
        cases h7 : c.neg.testBit i with
        | false => rfl
        | true => exact absurd ⟨.inr hi, .inl h7⟩ (h3 i)
    · have := b2 i hi
      cases h6 : c.neg.testBit i with
      | true => exact .inl rfl
      | false =>
        refine .inr ⟨h5 i ⟨⟨by omega, hi⟩, h6⟩, ?_⟩
        cases h7 : c.pos.testBit i with
        | false => rfl
        | true => exact absurd ⟨.inl h7, .inr hi⟩ (h3 i)
theorem single_iff {c : Cl} : single c = true ↔ right24 c = true ∧ clash c = false := by
  unfold single
  rw [Bool.and_eq_true, Bool.not_eq_true']
theorem sat_restrictL {f : List Cl} {c : Cl} {P N : Wd} (hf : faceRight f = true) (hc : single c = true) : sat (restrictL f c) P N ↔ sat f (unW P c.pos c.neg) (unW N c.neg c.pos) := by
  obtain ⟨h1, h2⟩ := face_calm hf
  obtain ⟨h3, h4⟩ := single_iff.mp hc
  have h24 := fR_all h1
  unfold sat restrictL
  simp only [List.mem_map, List.mem_filter]
  constructor
  · rintro ⟨_, ⟨d, ⟨hd, hm⟩, rfl⟩, hs⟩
    exact ⟨d, hd, (satC_cut h3 (List.all_eq_true.mp h24 d hd) h4 (h2 d hd)).mpr ⟨by simpa using hm, hs⟩⟩
  · rintro ⟨d, hd, hs⟩
    obtain ⟨h5, h6⟩ := (satC_cut h3 (List.all_eq_true.mp h24 d hd) h4 (h2 d hd)).mp hs
    exact ⟨_, ⟨d, ⟨hd, by simp [h5]⟩, rfl⟩, h6⟩
theorem rlLen (l : List Cl) : (refLeast l).length ≤ l.length := by
  have := rlTo_len l l.length
  rwa [rlTo_all] at this
theorem leastF_told {l : List Cl} (h : l.all right24 = true) (h2 : l.length ≤ 64) : (leastF l).1 = 0 := by
  unfold leastF
  rw [if_neg (by simp [h]), if_neg (by have := rlLen l; omega)]
theorem right24_cut {c d : Cl} (h : right24 d = true) : right24 (cutC c d) = true := by
  obtain ⟨h1, h2⟩ := right24_iff.mp h
  have key : ∀ a b : Nat, a < 16777216 → andNot32 a b < 16777216 := fun a b ha => by
    rw [show (16777216 : Nat) = 2 ^ 24 from rfl]
    exact Nat.lt_pow_two_of_testBit _ fun j hj => by
      rw [andNot32_bit]
      have h3 : a < 2 ^ j := Nat.lt_of_lt_of_le (show a < 2 ^ 24 by omega) (Nat.pow_le_pow_right (by omega) (by omega))
      rw [Nat.testBit_lt_two_pow h3]
      simp
  exact right24_iff.mpr ⟨key _ _ h1, key _ _ h2⟩
theorem restrict_told {f : List Cl} {c : Cl} (hf : faceRight f = true) (hc : single c = true) : (restrictF f c).1 = 0 ∧ restrictF f c = leastF (restrictL f c) ∧ faceRight (restrictF f c).2 = true := by
  obtain ⟨h1, h2⟩ := face_calm hf
  have h24 := fR_all h1
  have e : restrictF f c = leastF (restrictL f c) := by unfold restrictF; rw [if_neg (by simp [hf, hc])]
  have hr : (restrictL f c).all right24 = true := List.all_eq_true.mpr fun d hd => by
    obtain ⟨x, hx, rfl⟩ := List.mem_map.mp hd
    exact right24_cut (List.all_eq_true.mp h24 x (List.mem_filter.mp hx).1)
  have hl : (restrictL f c).length ≤ 64 := by
    unfold restrictL
    rw [List.length_map]
    exact Nat.le_trans (List.length_filter_le _ _) (len_right h1)
  have h0 := leastF_told hr hl
  rw [e]
  refine ⟨h0, rfl, calm_face (leastF_fR h0) fun d hd => ?_⟩
  obtain ⟨x, hx, rfl⟩ := List.mem_map.mp (leastF_sub h0 hd)
  have h5 := h2 x (List.mem_filter.mp hx).1
  rw [clash_iff] at h5 ⊢
  rintro i ⟨h6, h7⟩
  unfold bitsW cutC at h6 h7
  simp only [andNot32_bit, Bool.and_eq_true] at h6 h7
  exact h5 i ⟨h6.1.2, h7.1.2⟩
theorem sat_restrict {f : List Cl} {c : Cl} {P N : Wd} (hf : faceRight f = true) (hc : single c = true) : sat (restrictF f c).2 P N ↔ sat f (unW P c.pos c.neg) (unW N c.neg c.pos) := by
  obtain ⟨h1, h2, _⟩ := restrict_told hf hc
  rw [h2] at h1 ⊢
  rw [sat_least h1, sat_restrictL hf hc]
end Go.Hy
namespace Go.Hy
/-! ### Where a clause is so: one dimension behind another one -/
abbrev Stp : Type := Int × List Cl
def stepT (p : Stp) (u : T) : Int × T := walkR (putW p.1 p.2) u 0
def stepsC (c : Cl) : List Stp := ((listM c.pos).map fun i => (i, [cl0])) ++ ((listM c.neg).map fun i => (i, []))
theorem foldT_append {α : Type} {g : α → T → Int × T} : ∀ {l m : List α} {t : T}, foldT g (l ++ m) t = thenT (foldT g l t) fun u => foldT g m u
  | [], m, t => by rw [List.nil_append, foldT, thenT_ok rfl]
  | a :: l, m, t => by
    rw [List.cons_append, foldT, foldT]
    by_cases h : (g a t).1 = 0
    · rw [thenT_ok h, thenT_ok h]; exact foldT_append
    · rw [thenT_bad h, thenT_bad h, thenT_bad (x := ((g a t).1, t0)) h]
theorem foldT_map {α β : Type} {g : α → T → Int × T} {f : β → α} : ∀ {l : List β} {t : T}, foldT g (l.map f) t = foldT (fun b u => g (f b) u) l t
  | [], t => rfl
  | b :: l, t => by rw [List.map_cons, foldT, foldT]; congr 1; funext u; exact foldT_map
theorem under_steps {t : T} {c : Cl} (hf : formedP t = 0) (hc : single c = true) : dimsUnder t c = foldT stepT (stepsC c) t := by
  unfold dimsUnder stepsC
  rw [if_neg (by simp [hf]), if_neg (by simp [hc]), foldT_append, foldT_map]
  congr 1
  funext u
  rw [foldT_map]
  rfl
/-- Rows of faces, one step. -/
theorem travB_faces {W : RowsW} {k d : Int} : ∀ {bs us : List Br}, travB (rowsTr W) k bs d = .ok us → (∀ b, b ∈ bs → (W.face d b.face).1 = 0) ∧ us.map Br.face = (bs.map fun b => (W.face d b.face).2).filter fun f => decide (f ≠ [])
  | [], us, h => by rw [travB_nil] at h; injection h with h; subst h; exact ⟨fun b hb => (by cases hb), rfl⟩
  | b :: bs, us, h => by
    rw [travB_cons] at h
    obtain ⟨o, ho, h⟩ := Res1.bind_ok h
    cases o with
    | none =>
      have h1 := rows_face_none_iff.mp ho
      obtain ⟨h2, h3⟩ := travB_faces h
      refine ⟨fun b' hb' => ?_, ?_⟩
      · rcases List.mem_cons.mp hb' with e | e
        · subst e; rw [h1]
        · exact h2 b' e
      · rw [h3, List.map_cons, List.filter_cons_of_neg (by rw [h1]; simp)]
    | some g =>
      obtain ⟨h1, h4⟩ := rows_face_some_iff.mp ho
      obtain ⟨ks', _, h⟩ := Res1.bind_ok h
      obtain ⟨bs', h5, h⟩ := Res1.bind_ok h
      injection h with h
      subst h
      obtain ⟨h2, h3⟩ := travB_faces h5
      refine ⟨fun b' hb' => ?_, ?_⟩
      · rcases List.mem_cons.mp hb' with e | e
        · subst e; rw [h1]
        · exact h2 b' e
      · rw [List.map_cons, h3, List.map_cons, List.filter_cons_of_pos (by rw [h1]; simpa using h4), h1]; rfl
theorem walk_faces {W : RowsW} {t : T} {d : Int} (h : (walkR W t d).1 = 0) : (∀ b, b ∈ t.sys → (W.face d b.face).1 = 0) ∧ (walkR W t d).2.sys.map Br.face = (t.sys.map fun b => (W.face d b.face).2).filter fun f => decide (f ≠ []) := by
  obtain ⟨u, hu⟩ : ∃ u, u = (walkR W t d).2 := ⟨_, rfl⟩
  have h2 : trav (rowsTr W) t d = .ok u := hu ▸ asRes_ok (r := trav (rowsTr W) t d) (fun e => rows_bad_ne t) h
  rw [← hu]
  rw [trav_eq] at h2
  obtain ⟨o, ho, h2⟩ := Res1.bind_ok h2
  cases o with
  | inl v => exact absurd ho rows_own_inl
  | inr p =>
    obtain ⟨ks', h3, h2⟩ := Res1.bind_ok h2
    obtain ⟨ss', h4, h2⟩ := Res1.bind_ok h2
    injection h2 with h2
    have h5 := travB_faces h4
    refine ⟨h5.1, ?_⟩
    rw [← h2]
    exact h5.2
def putR1 (p : Stp) (f : List Cl) : EL := rowPut facePut p.1 p.2 0 f
def finS : List Stp → List Cl → List Cl
  | [], f => f
  | p :: S, f => finS S (putR1 p f).2
def toldF : List Stp → List Cl → Prop
  | [], _ => True
  | p :: S, f => (putR1 p f).1 = 0 ∧ toldF S (putR1 p f).2
theorem putR1_nil (p : Stp) : putR1 p [] = (0, []) := by
  unfold putR1 rowPut
  rw [if_pos]
  unfold hasM fDims
  simp
theorem finS_nil : ∀ S, finS S [] = []
  | [] => rfl
  | p :: S => by rw [finS, putR1_nil]; exact finS_nil S
theorem toldF_nil : ∀ S, toldF S []
  | [] => trivial
  | p :: S => by rw [toldF, putR1_nil]; exact ⟨rfl, toldF_nil S⟩
theorem steps_faces : ∀ (S : List Stp) (t : T), (foldT stepT S t).1 = 0 → (∀ b, b ∈ t.sys → toldF S b.face) ∧ (foldT stepT S t).2.sys.map Br.face = (t.sys.map fun b => finS S b.face).filter fun f => decide (f ≠ []) || decide (S = [])
  | [], t, h => ⟨fun b hb => trivial, by
      rw [foldT]
      show t.sys.map Br.face = _
      rw [List.filter_eq_self.mpr (fun a _ => by simp)]
      rfl⟩
  | p :: S, t, h => by
    rw [foldT] at h ⊢
    have h0 : (stepT p t).1 = 0 := by
      refine Decidable.byContradiction fun hn => ?_
      rw [thenT_bad hn] at h
      exact hn h
    rw [thenT_ok h0] at h ⊢
    obtain ⟨h1, h2⟩ := walk_faces (W := putW p.1 p.2) (t := t) (d := 0) h0
    obtain ⟨h3, h4⟩ := steps_faces S (stepT p t).2 h
    have h5 : ∀ b, b ∈ t.sys → toldF S (putR1 p b.face).2 := by
      intro b hb
      by_cases hn : (putR1 p b.face).2 = []
      · rw [hn]; exact toldF_nil S
      · have h6 : (putR1 p b.face).2 ∈ (stepT p t).2.sys.map Br.face := by
          show _ ∈ (walkR (putW p.1 p.2) t 0).2.sys.map Br.face
          rw [h2]
          exact List.mem_filter.mpr ⟨List.mem_map.mpr ⟨b, hb, rfl⟩, by simpa using hn⟩
        obtain ⟨b', hb', e⟩ := List.mem_map.mp h6
        rw [← e]
        exact h3 b' hb'
    refine ⟨fun b hb => ⟨h1 b hb, h5 b hb⟩, ?_⟩
    rw [h4]
    have e1 : ((stepT p t).2.sys.map fun b => finS S b.face) = (((t.sys.map fun b => (putR1 p b.face).2).filter fun f => decide (f ≠ [])).map (finS S)) := by
      have h7 : (stepT p t).2.sys.map Br.face = (t.sys.map fun b => (putR1 p b.face).2).filter fun f => decide (f ≠ []) := h2
      rw [← h7, List.map_map]
      rfl
    rw [e1]
    have key : ∀ L : List (List Cl), ((L.filter fun f => decide (f ≠ [])).map (finS S)).filter (fun f => decide (f ≠ []) || decide (S = [])) = (L.map (finS S)).filter fun f => decide (f ≠ []) := by
      intro L
      induction L with
      | nil => rfl
      | cons f L ih =>
        by_cases hf : f = []
        · subst hf
          rw [List.filter_cons_of_neg (by simp), ih, List.map_cons, List.filter_cons_of_neg (by rw [finS_nil]; simp)]
        · rw [List.filter_cons_of_pos (by simpa using hf), List.map_cons, List.map_cons]
          by_cases hg : finS S f = []
          · have hS : S ≠ [] := fun e => hf (by subst e; exact hg)
            rw [List.filter_cons_of_neg (by simp [hg, hS]), List.filter_cons_of_neg (by simp [hg]), ih]
          · rw [List.filter_cons_of_pos (by simp [hg]), List.filter_cons_of_pos (by simp [hg]), ih]
    rw [key, List.map_map]
    have e2 : (fun f : List Cl => decide (f ≠ []) || decide (p :: S = [])) = fun f => decide (f ≠ []) := by funext f; simp
    rw [e2]
    rfl
/-! In worlds. -/
def ov1 (p : Stp) (w : Wd × Wd) : Wd × Wd := (ovr w.1 p.1 (sat p.2 w.1 w.2), ovr w.2 p.1 (¬ sat p.2 (coW w.2) (coW w.1)))
def ovS : List Stp → Wd × Wd → Wd × Wd
  | [], w => w
  | p :: S, w => ov1 p (ovS S w)
theorem calm_ov1 {p : Stp} {w : Wd × Wd} (h : calmW w.1 w.2) : calmW (ov1 p w).1 (ov1 p w).2 := calm_ovr h
theorem calm_ovS : ∀ (S : List Stp) {w : Wd × Wd}, calmW w.1 w.2 → calmW (ovS S w).1 (ovS S w).2
  | [], w, h => h
  | p :: S, w, h => calm_ov1 (calm_ovS S h)
theorem satC_ovr_free {c : Cl} {i : Int} {P N : Wd} {A A' : Prop} (h : ∀ j : Nat, (c.pos ||| c.neg).testBit j = true → (j : Int) ≠ i) : satC c (ovr P i A) (ovr N i A') ↔ satC c P N := by
  unfold satC ovr
  constructor
  · rintro ⟨h1, h2⟩
    refine ⟨fun j hj => ?_, fun j hj => ?_⟩
    · have := h1 j hj; rwa [if_neg (h j (by rw [Nat.testBit_or, hj]; rfl))] at this
    · have := h2 j hj; rwa [if_neg (h j (by rw [Nat.testBit_or, hj, Bool.or_true]))] at this
  · rintro ⟨h1, h2⟩
    refine ⟨fun j hj => ?_, fun j hj => ?_⟩
    · rw [if_neg (h j (by rw [Nat.testBit_or, hj]; rfl))]; exact h1 j hj
    · rw [if_neg (h j (by rw [Nat.testBit_or, hj, Bool.or_true]))]; exact h2 j hj
theorem has_free {f : List Cl} {i : Int} (hf : f.all right24 = true) (h : hasM (fDims f) i = false) {c : Cl} (hc : c ∈ f) (j : Nat) (hj : (c.pos ||| c.neg).testBit j = true) : (j : Int) ≠ i := by
  intro e
  subst e
  obtain ⟨b1, b2⟩ := right24_bits (List.all_eq_true.mp hf c hc)
  have hlt : j < 24 := by
    rw [Nat.testBit_or, Bool.or_eq_true] at hj
    exact hj.elim (b1 j) (b2 j)
  unfold hasM at h
  rw [decide_eq_true (show (0 : Int) ≤ (j : Int) by omega), decide_eq_true (show (j : Int) < 24 by omega)] at h
  simp only [Bool.true_and, Int.toNat_natCast] at h
  rw [fDims_bit.mpr ⟨hlt, c, hc, hj⟩] at h
  cases h
theorem sat_free {f : List Cl} {i : Int} {P N : Wd} {A A' : Prop} (hf : f.all right24 = true) (h : hasM (fDims f) i = false) : sat f (ovr P i A) (ovr N i A') ↔ sat f P N := by
  unfold sat
  exact exists_congr fun c => and_congr_right fun hc => satC_ovr_free (fun j hj => has_free hf h hc j hj)
theorem lift_zero_told {r : List Cl} {d : Int} (h : (formLift r 0 d).1 = 0) (h0 : d = 0) : (formLift r 0 d).2 = r := by
  subst h0
  have hr := (formLift_cases h).1
  rw [formLift_keep hr (by omega) (by omega) (.inl rfl)]
theorem sat_putR1 {p : Stp} {f : List Cl} (hf : faceRight f = true) (h : (putR1 p f).1 = 0) : faceRight (putR1 p f).2 = true ∧ ∀ w : Wd × Wd, calmW w.1 w.2 → (sat (putR1 p f).2 w.1 w.2 ↔ sat f (ov1 p w).1 (ov1 p w).2) := by
  have h24 := fR_all (face_calm hf).1
  unfold putR1 rowPut at h ⊢
  rw [Int.add_zero] at h ⊢
  split at h
  · rename_i h1
    rw [if_pos h1]
    exact ⟨hf, fun w hw => (sat_free h24 h1).symm⟩
  · rename_i h1
    rw [if_neg h1]
    obtain ⟨a1, a2, a3⟩ := bindE_zero h
    rw [lift_zero_told a1 rfl] at a2 a3
    rw [a3]
    obtain ⟨_, _, _, b1, b2⟩ := sat_facePut a2
    exact ⟨b1, fun w hw => b2 _ _ hw⟩
theorem sat_finS : ∀ {S : List Stp} {f : List Cl}, faceRight f = true → toldF S f → faceRight (finS S f) = true ∧ ∀ w : Wd × Wd, calmW w.1 w.2 → (sat (finS S f) w.1 w.2 ↔ sat f (ovS S w).1 (ovS S w).2)
  | [], f, hf, h => ⟨hf, fun w hw => Iff.rfl⟩
  | p :: S, f, hf, h => by
    obtain ⟨h1, h2⟩ := sat_putR1 hf h.1
    obtain ⟨h3, h4⟩ := sat_finS h1 h.2
    exact ⟨h3, fun w hw => (h4 w hw).trans (h2 _ (calm_ovS S hw))⟩
theorem ovS_pos {S : List Stp} {w : Wd × Wd} {j : Nat} : ∀ {l : List Int}, ((ovS ((l.map fun i => (i, [cl0])) ++ S) w).1 j ↔ (j : Int) ∈ l ∨ (ovS S w).1 j) ∧ ((ovS ((l.map fun i => (i, [cl0])) ++ S) w).2 j ↔ ¬ (j : Int) ∈ l ∧ (ovS S w).2 j)
  | [] => by simp
  | i :: l => by
    obtain ⟨h1, h2⟩ := ovS_pos (S := S) (w := w) (j := j) (l := l)
    rw [List.map_cons, List.cons_append, ovS]
    unfold ov1 ovr
    dsimp only
    by_cases e : (j : Int) = i
    · rw [if_pos e, if_pos e]
      exact ⟨⟨fun _ => .inl (e ▸ List.mem_cons_self), fun _ => sat_one⟩, ⟨fun h => absurd sat_one h, fun h => absurd (e ▸ List.mem_cons_self) h.1⟩⟩
    · rw [if_neg e, if_neg e, h1, h2, List.mem_cons]
      exact ⟨⟨fun h => h.elim (fun h => .inl (.inr h)) .inr, fun h => h.elim (fun h => h.elim (fun h => absurd h e) .inl) .inr⟩, ⟨fun h => ⟨fun h3 => h3.elim e h.1, h.2⟩, fun h => ⟨fun h3 => h.1 (.inr h3), h.2⟩⟩⟩
theorem ovS_neg {w : Wd × Wd} {j : Nat} : ∀ {l : List Int}, ((ovS (l.map fun i => (i, [])) w).1 j ↔ ¬ (j : Int) ∈ l ∧ w.1 j) ∧ ((ovS (l.map fun i => (i, [])) w).2 j ↔ (j : Int) ∈ l ∨ w.2 j)
  | [] => by simp [ovS]
  | i :: l => by
    obtain ⟨h1, h2⟩ := ovS_neg (w := w) (j := j) (l := l)
    rw [List.map_cons, ovS]
    unfold ov1 ovr
    dsimp only
    by_cases e : (j : Int) = i
    · rw [if_pos e, if_pos e]
      exact ⟨⟨fun h => absurd h sat_nil, fun h => absurd (e ▸ List.mem_cons_self) h.1⟩, ⟨fun _ => .inl (e ▸ List.mem_cons_self), fun _ => sat_nil⟩⟩
    · rw [if_neg e, if_neg e, h1, h2, List.mem_cons]
      exact ⟨⟨fun h => ⟨fun h3 => h3.elim e h.1, h.2⟩, fun h => ⟨fun h3 => h.1 (.inr h3), h.2⟩⟩, ⟨fun h => h.elim (fun h => .inl (.inr h)) .inr, fun h => h.elim (fun h => h.elim (fun h => absurd h e) .inl) .inr⟩⟩
theorem sat_congr {f : List Cl} {P N P' N' : Wd} (hf : ∀ c, c ∈ f → right24 c = true) (h1 : ∀ j, j < 24 → (P j ↔ P' j)) (h2 : ∀ j, j < 24 → (N j ↔ N' j)) : sat f P N ↔ sat f P' N' := by
  unfold sat satC
  refine exists_congr fun c => and_congr_right fun hc => ?_
  obtain ⟨b1, b2⟩ := right24_bits (hf c hc)
  exact and_congr (forall_congr' fun i => ⟨fun h hi => (h1 i (b1 i hi)).mp (h hi), fun h hi => (h1 i (b1 i hi)).mpr (h hi)⟩) (forall_congr' fun i => ⟨fun h hi => (h2 i (b2 i hi)).mp (h hi), fun h hi => (h2 i (b2 i hi)).mpr (h hi)⟩)
theorem listM_nat {s j : Nat} (hj : j < 24) : (j : Int) ∈ listM s ↔ s.testBit j = true := by
  rw [mem_listM]
  simp only [Int.toNat_natCast]
  constructor
  · rintro ⟨_, _, h⟩; exact h
  · intro h; exact ⟨by omega, by omega, h⟩
theorem ov_steps {c : Cl} {P N : Wd} (hc : clash c = false) {j : Nat} (hj : j < 24) : ((ovS (stepsC c) (P, N)).1 j ↔ unW P c.pos c.neg j) ∧ ((ovS (stepsC c) (P, N)).2 j ↔ unW N c.neg c.pos j) := by
  have hcl := clash_iff.mp hc j
  unfold bitsW at hcl
  unfold stepsC
  obtain ⟨h1, h2⟩ := ovS_pos (S := (listM c.neg).map fun i => (i, [])) (w := (P, N)) (j := j) (l := listM c.pos)
  obtain ⟨h3, h4⟩ := ovS_neg (w := (P, N)) (j := j) (l := listM c.neg)
  rw [h1, h2, h3, h4, listM_nat hj, listM_nat hj]
  unfold unW
  dsimp only
  constructor
  · constructor
    · rintro (h | ⟨h, h5⟩)
      · exact .inl h
      · exact .inr ⟨h5, by simpa using h⟩
    · rintro (h | ⟨h5, h⟩)
      · exact .inl h
      · exact .inr ⟨by simp [h], h5⟩
  · constructor
    · rintro ⟨h5, h | h⟩
      · exact .inl h
      · exact .inr ⟨h, by simpa using h5⟩
    · rintro (h | ⟨h, h5⟩)
      · exact ⟨fun h6 => hcl ⟨h6, h⟩, .inl h⟩
      · exact ⟨by simp [h5], .inr h⟩
theorem fin_restrict {c : Cl} {f : List Cl} (hf : faceRight f = true) (hc : single c = true) (h : toldF (stepsC c) f) : finS (stepsC c) f = (restrictF f c).2 := by
  obtain ⟨h1, h2⟩ := sat_finS hf h
  have h24 := fR_all (face_calm hf).1
  refine face_ext h1 (restrict_told hf hc).2.2 fun P N hw => ?_
  rw [h2 (P, N) hw, sat_restrict hf hc]
  exact sat_congr (fun c hc => List.all_eq_true.mp h24 c hc) (fun j hj => (ov_steps (single_iff.mp hc).2 hj).1) (fun j hj => (ov_steps (single_iff.mp hc).2 hj).2)
def keepR (c : Cl) (f : List Cl) : Bool := !(decide (f = []) && !decide (c = cl0))
def facesU (c : Cl) (bs : List Br) : List (List Cl) := (bs.map fun b => (restrictF b.face c).2).filter (keepR c)
theorem steps_none {c : Cl} (h : right24 c = true) : stepsC c = [] ↔ c = cl0 := by
  obtain ⟨b1, b2⟩ := right24_bits h
  unfold stepsC
  rw [List.append_eq_nil_iff, List.map_eq_nil_iff, List.map_eq_nil_iff]
  constructor
  · rintro ⟨h1, h2⟩
    have key : ∀ s : Nat, (∀ i, s.testBit i = true → i < 24) → listM s = [] → s = 0 := fun s hs h3 => Nat.eq_of_testBit_eq fun i => by
      rw [Nat.zero_testBit]
      cases hi : s.testBit i with
      | false => rfl
      | true =>
        have := (listM_nat (hs i hi)).mpr hi
        rw [h3] at this
        cases this
    have e1 := key _ b1 h1
    have e2 := key _ b2 h2
    cases c
    simp only at e1 e2
    subst e1; subst e2
    rfl
  · rintro rfl
    exact ⟨by decide, by decide⟩
theorem under_faces {t : T} {c : Cl} (hf : formedP t = 0) (hc : single c = true) (h : (dimsUnder t c).1 = 0) : (dimsUnder t c).2.sys.map Br.face = facesU c t.sys := by
  rw [under_steps hf hc] at h ⊢
  obtain ⟨h1, h2⟩ := steps_faces (stepsC c) t h
  have hfine := (formed_fine.mp hf).2
  rw [h2]
  unfold facesU
  have e1 : (t.sys.map fun b => finS (stepsC c) b.face) = t.sys.map fun b => (restrictF b.face c).2 := List.map_congr_left fun b hb => fin_restrict (fine_face hfine hb) hc (h1 b hb)
  rw [e1]
  congr 1
  funext f
  unfold keepR
  have e2 : decide (stepsC c = []) = decide (c = cl0) := decide_eq_decide.mpr (steps_none (single_iff.mp hc).1)
  rw [e2]
  by_cases h3 : f = [] <;> by_cases h4 : c = cl0 <;> simp [h3, h4]
end Go.Hy
namespace Go.Hy
def uE : T := .mk 3 0 ⟨#[]⟩ [] [] []
def aE (t u : T) : T := .mk 6 0 ⟨#[]⟩ [] [t, u] []
end Go.Hy
namespace Go.Hy
def hcF : T := .mk 15 0 ⟨#[]⟩ [] [uE, uE] []
theorem thenT_okT {x : Int × T} {k : T → Int × T} (hx : okT x.2) (h : ∀ u, okT u → okT (k u).2) : okT (thenT x k).2 := by
  by_cases h1 : x.1 = 0
  · rw [thenT_ok h1]; exact h _ hx
  · rw [thenT_bad h1]; exact okT_t0
theorem dimsUnder_okT {t : T} {c : Cl} (h : okT t) : okT (dimsUnder t c).2 := by
  unfold dimsUnder
  split
  · exact okT_t0
  · split
    · exact okT_t0
    · exact thenT_okT (putsT_okT h) fun u hu => putsT_okT hu
theorem face_ok {f : List Cl} (h : faceRight f = true) : rowOk f := by
  have h1 := (face_calm h).1
  refine ⟨fun c hc => ?_, by have := len_right h1; unfold reach; omega⟩
  obtain ⟨h2, h3⟩ := right24_iff.mp (List.all_eq_true.mp (fR_all h1) c hc)
  exact ⟨by omega, by omega⟩
end Go.Hy
namespace Go.Hy
theorem all_app {f g : List Cl} (h : f.all right24 = true) (h2 : g.all right24 = true) : (f ++ g).all right24 = true := by rw [List.all_append, h, h2]; rfl
end Go.Hy
namespace Go.Hy
/-! ### Systems by themselves -/
def alwaysB (b : Br) : Bool := decide (b.face = [cl0])
def totalP : List Br → Int
  | [] => -1
  | b :: l => if alwaysB b then 0 else if totalP l = -1 then -1 else totalP l + 1
theorem totalP_ge : ∀ l, -1 ≤ totalP l
  | [] => Int.le_refl _
  | b :: l => by
    have := totalP_ge l
    rw [totalP]
    split
    · omega
    · split <;> omega
theorem total_none : ∀ {l : List Br}, (∀ j, j < l.length → alwaysB (l.getD j br0) = false) → totalP l = -1
  | [], _ => rfl
  | b :: l, h => by
    have h0 := h 0 (by simp)
    rw [List.getD_cons_zero] at h0
    rw [totalP, h0, total_none (l := l) fun j hj => by have := h (j + 1) (by simpa using hj); rwa [List.getD_cons_succ] at this]
    rfl
theorem total_at : ∀ {l : List Br} {i : Nat}, i < l.length → (∀ j, j < i → alwaysB (l.getD j br0) = false) → alwaysB (l.getD i br0) = true → totalP l = i
  | [], i, hi, _, _ => absurd hi (by simp)
  | b :: l, 0, hi, h, h1 => by
    rw [List.getD_cons_zero] at h1
    rw [totalP, h1]; rfl
  | b :: l, i + 1, hi, h, h1 => by
    have h0 := h 0 (by omega)
    rw [List.getD_cons_zero] at h0
    rw [List.getD_cons_succ] at h1
    have h2 := total_at (l := l) (i := i) (by simpa using hi) (fun j hj => by have := h (j + 1) (by omega); rwa [List.getD_cons_succ] at this) h1
    rw [totalP, h0, h2, if_neg (by simp), if_neg (by omega)]
    omega
theorem total_pos : ∀ {l : List Br}, 0 ≤ totalP l ↔ ∃ b, b ∈ l ∧ b.face = [cl0]
  | [] => ⟨fun h => absurd h (by decide), by rintro ⟨b, hb, _⟩; cases hb⟩
  | b :: l => by
    rw [totalP]
    have ih := total_pos (l := l)
    have hg := totalP_ge l
    by_cases h : b.face = [cl0]
    · rw [if_pos (show alwaysB b = true from decide_eq_true h)]
      exact ⟨fun _ => ⟨b, List.mem_cons_self, h⟩, fun _ => Int.le_refl 0⟩
    · rw [if_neg (by unfold alwaysB; simp [h])]
      constructor
      · intro h1
        split at h1
        · omega
        · obtain ⟨d, hd, e⟩ := ih.mp (by omega)
          exact ⟨d, List.mem_cons_of_mem _ hd, e⟩
      · rintro ⟨d, hd, e⟩
        rcases List.mem_cons.mp hd with rfl | hd
        · exact absurd e h
        · have := ih.mpr ⟨d, hd, e⟩
          rw [if_neg (by omega)]; omega
/-- Where a system has a branch. -/
def faceS : List Cl → List Br → EL
  | h, [] => (0, h)
  | h, b :: l => bindE (joinA h b.face) fun x => faceS x l
theorem faceS_bad {h : List Cl} {b : Br} {l : List Br} (e : (joinA h b.face).1 ≠ 0) : faceS h (b :: l) = ((joinA h b.face).1, []) := by rw [faceS, bindE_bad e]
theorem faceS_ok {h : List Cl} {b : Br} {l : List Br} (e : (joinA h b.face).1 = 0) : faceS h (b :: l) = faceS (joinA h b.face).2 l := by rw [faceS, bindE_ok e]
theorem joinA_len {f g : List Cl} (h : (joinA f g).1 = 0) : (joinA f g).2.length ≤ 64 ∧ faceRight (joinA f g).2 = true := by
  unfold joinA at h ⊢
  split at h
  · cases h
  · rename_i h1
    rw [if_neg h1]
    simp only [Bool.not_eq_false, Bool.and_eq_true] at h1
    unfold joinF at h ⊢
    have hr := leastF_fR h
    refine ⟨len_right hr, calm_face hr fun c hc => ?_⟩
    rcases List.mem_append.mp (leastF_sub h hc) with hc | hc
    · exact (face_calm h1.1).2 c hc
    · exact (face_calm h1.2).2 c hc
/-! ### A system's term -/
def ofT (k : Int) (l : List Br) : T := .mk k 0 ⟨#[]⟩ [] (List.replicate (kidsN k).toNat uE) l
def byR (k : Int) (l : List Br) (D : T → Int × T) : Int × List Br := if partsN k = 0 then (2, []) else ((D (ofT k l)).1, (D (ofT k l)).2.sys)
def sysT (l : List Br) : T := .mk 0 0 ⟨#[]⟩ [] [] l
theorem sum_mem : ∀ {l : List Nat} {n : Nat}, n ∈ l → n ≤ l.sum
  | a :: l, n, h => by
    rw [List.sum_cons]
    rcases List.mem_cons.mp h with rfl | h
    · omega
    · have := sum_mem h; omega
theorem sys_face {l : List Br} {m : Nat} (h : bulk (sysT l) ≤ m) {b : Br} (hb : b ∈ l) : b.face.length ≤ m := by
  rw [bulk_eq] at h
  have h1 : brBulk b ≤ (l.map brBulk).sum := sum_mem (List.mem_map_of_mem hb)
  have h2 : b.face.length ≤ brBulk b := by
    cases b
    simp only [brBulk, Br.face]
    omega
  have h3 : (sysT l).sys = l := rfl
  rw [h3] at h
  omega
theorem parts_kinds {k : Int} (h : partsN k ≠ 0) : (k = 15 ∨ k = 16 ∨ k = 17 ∨ k = 18) ∧ 0 ≤ kidsN k ∧ kidsN k ≤ 2 ∧ in64 k := by
  unfold partsN at h
  have hk : k = 15 ∨ k = 16 ∨ k = 17 ∨ k = 18 := by
    split at h
    · omega
    · split at h
      · omega
      · exact absurd rfl h
  refine ⟨hk, ?_⟩
  unfold in64
  rcases hk with rfl | rfl | rfl | rfl <;> decide
theorem size_rep {n : Nat} : sizeL (List.replicate n uE) = n := by
  induction n with
  | zero => rfl
  | succ n ih => rw [List.replicate_succ, sizeL, ih, show size uE = 1 by decide]; omega
theorem ofT_size {k : Int} {l : List Br} {m : Nat} (hp : partsN k ≠ 0) (h : bulk (sysT l) ≤ m) : size (ofT k l) ≤ m + 2 := by
  have h1 := size_le_bulk (sysT l)
  have h2 := (parts_kinds hp).2
  have e1 : size (ofT k l) = 1 + sizeL (List.replicate (kidsN k).toNat uE) + sizeB l := size_sumLB _
  have e2 : size (sysT l) = 1 + sizeL [] + sizeB l := size_sumLB _
  have e3 : sizeL [] = 0 := rfl
  rw [size_rep] at e1
  omega
theorem okJ {f g : List Cl} : okE (joinA f g) := by
  unfold joinA
  split
  · exact rowOk_nil
  · rename_i h
    simp only [Bool.not_eq_false, Bool.and_eq_true] at h
    exact okE_join (face_ok h.1) (face_ok h.2)
theorem always_two {b : Br} : (decide ((b.face.length : Int) = 1) && decide (b.face.getD 0 cl0 = cl0)) = alwaysB b := by
  unfold alwaysB
  rw [← Bool.decide_and]
  refine decide_eq_decide.mpr ⟨fun h => ?_, fun h => ?_⟩
  · match hf : b.face, h with
    | [], h => exact absurd h.1 (by simp)
    | [c], h => rw [show c = cl0 from h.2]
    | a :: c :: l, h => exact absurd h.1 (by simp; omega)
  · rw [h]; exact ⟨rfl, rfl⟩
end Go.Hy
namespace Go.Hy
/-! ### Systems without branches -/
section
variable {C : Type} {A : Tr C}
end
/-! ### The chapter's example -/
def endsL : List Br := [.mk [⟨0, 1⟩] [uE], .mk [⟨1, 0⟩] [uE]]
theorem ex_ends : faceS [] endsL = (0, [⟨0, 1⟩, ⟨1, 0⟩]) ∧ byR 15 endsL (fun t => dimsUnder t ⟨1, 0⟩) = (0, [.mk [cl0] [uE]]) ∧ totalP endsL = -1 ∧ totalP [.mk [cl0] [uE]] = 0 ∧ bulk (sysT endsL) ≤ 200 := by decide +kernel
/-! ### What the law says -/
theorem sat_joinA {f g : List Cl} {P N : Wd} (h : (joinA f g).1 = 0) : sat (joinA f g).2 P N ↔ sat f P N ∨ sat g P N := by
  unfold joinA at h ⊢
  split at h
  · cases h
  · rename_i h1
    rw [if_neg h1]
    unfold joinF at h ⊢
    rw [sat_least h, sat_append]
theorem sat_faceS : ∀ {l : List Br} {h : List Cl}, (faceS h l).1 = 0 → ∀ P N, sat (faceS h l).2 P N ↔ sat h P N ∨ ∃ b, b ∈ l ∧ sat b.face P N
  | [], h, _, P, N => by simp [faceS]
  | b :: l, h, h0, P, N => by
    by_cases h1 : (joinA h b.face).1 = 0
    · rw [faceS_ok h1] at h0 ⊢
      rw [sat_faceS h0, sat_joinA h1]
      simp only [List.mem_cons, exists_eq_or_imp, or_assoc]
    · rw [faceS_bad h1] at h0; exact absurd h0 h1
theorem right_faceS : ∀ {l : List Br} {h : List Cl}, faceRight h = true → (faceS h l).1 = 0 → faceRight (faceS h l).2 = true
  | [], h, hr, _ => hr
  | b :: l, h, hr, h0 => by
    by_cases h1 : (joinA h b.face).1 = 0
    · rw [faceS_ok h1] at h0 ⊢
      exact right_faceS (joinA_len h1).2 h0
    · rw [faceS_bad h1] at h0; exact absurd h0 h1
theorem faceS_told : ∀ {l : List Br} {h : List Cl}, (faceS h l).1 = 0 → ∀ b, b ∈ l → faceRight b.face = true
  | b :: l, h, h0, d, hd => by
    by_cases h1 : (joinA h b.face).1 = 0
    · rw [faceS_ok h1] at h0
      rcases List.mem_cons.mp hd with rfl | hd
      · unfold joinA at h1
        split at h1
        · cases h1
        · rename_i h2; simp only [Bool.not_eq_false, Bool.and_eq_true] at h2; exact h2.2
      · exact faceS_told h0 d hd
    · rw [faceS_bad h1] at h0; exact absurd h0 h1
theorem restrict_nil {c : Cl} (hc : single c = true) : (restrictF [] c).2 = [] := by
  rw [(restrict_told (f := []) (by decide) hc).2.1]; rfl
theorem all_restrictL {f : List Cl} {c : Cl} (hf : f.all right24 = true) : (restrictL f c).all right24 = true := List.all_eq_true.mpr fun d hd => by
  unfold restrictL at hd
  obtain ⟨e, he, rfl⟩ := List.mem_map.mp hd
  exact right24_cut (List.all_eq_true.mp hf e (List.mem_filter.mp he).1)
theorem join_restrict {h g : List Cl} {c : Cl} (hc : single c = true) (hh : faceRight h = true) (hg : faceRight g = true) (h0 : (joinA h g).1 = 0) : joinA (restrictF h c).2 (restrictF g c).2 = (0, (restrictF (joinA h g).2 c).2) := by
  have hj := (joinA_len h0).2
  obtain ⟨j1, j2, j3⟩ := restrict_told hj hc
  obtain ⟨_, _, a3⟩ := restrict_told hh hc
  obtain ⟨_, _, b3⟩ := restrict_told hg hc
  have e : joinA (restrictF h c).2 (restrictF g c).2 = restrictF (joinA h g).2 c := by
    unfold joinA
    rw [if_neg (by simp [a3, b3])]
    show joinF _ _ = restrictF (joinA h g).2 c
    rw [j2]
    unfold joinF
    refine leastF_ext (fun _ _ => True) (all_app (fR_all (face_calm a3).1) (fR_all (face_calm b3).1)) (all_restrictL (fR_all (face_calm hj).1)) (fun _ _ => trivial) (fun _ _ => trivial) fun P N _ => ?_
    rw [sat_append, sat_restrict hh hc, sat_restrict hg hc, sat_restrictL hj hc, sat_joinA h0]
  rw [e]
  exact Prod.ext j1 rfl
theorem facesU_cons {c : Cl} {b : Br} {l : List Br} : facesU c (b :: l) = if keepR c (restrictF b.face c).2 = true then (restrictF b.face c).2 :: facesU c l else facesU c l := by
  unfold facesU
  rw [List.map_cons, List.filter_cons]
theorem faceS_restrict {c : Cl} (hc : single c = true) : ∀ (l : List Br) (h : List Cl) (U : List Br), faceRight h = true → (faceS h l).1 = 0 → U.map Br.face = facesU c l → faceS (restrictF h c).2 U = (0, (restrictF (faceS h l).2 c).2)
  | [], h, U, hh, h0, hU => by
    have : U = [] := by
      cases U with
      | nil => rfl
      | cons u U => cases hU
    subst this
    rfl
  | b :: l, h, U, hh, h0, hU => by
    have hb := faceS_told h0 b List.mem_cons_self
    have h1 : (joinA h b.face).1 = 0 := by
      by_cases h1 : (joinA h b.face).1 = 0
      · exact h1
      · rw [faceS_bad h1] at h0; exact absurd h0 h1
    rw [faceS_ok h1] at h0 ⊢
    have hj := (joinA_len h1).2
    rw [facesU_cons] at hU
    by_cases hk : keepR c (restrictF b.face c).2 = true
    · rw [if_pos hk] at hU
      cases U with
      | nil => cases hU
      | cons u U =>
        rw [List.map_cons] at hU
        injection hU with e1 e2
        have hjr := join_restrict hc hh hb h1
        rw [← e1] at hjr
        rw [faceS_ok (by rw [hjr]), hjr]
        exact faceS_restrict hc l _ U hj h0 e2
    · rw [if_neg hk] at hU
      have hn : (restrictF b.face c).2 = [] := by
        unfold keepR at hk
        simp only [Bool.not_eq_true', Bool.and_eq_false_iff, decide_eq_false_iff_not, not_or, Decidable.not_not, Bool.not_eq_false', Bool.not_eq_true] at hk
        simpa using hk.1
      have he : (restrictF (joinA h b.face).2 c).2 = (restrictF h c).2 := face_ext (restrict_told hj hc).2.2 (restrict_told hh hc).2.2 fun P N _ => by
        rw [sat_restrict hj hc, sat_restrict hh hc, sat_joinA h1]
        refine ⟨fun h2 => h2.elim id fun h3 => ?_, .inl⟩
        have := (sat_restrict hb hc).mpr h3
        rw [hn] at this
        exact absurd this sat_nil
      rw [← he]
      exact faceS_restrict hc l _ U hj h0 hU
theorem always_sat {g : List Cl} (hg : faceRight g = true) : g = [cl0] ↔ sat g (fun _ => False) (fun _ => False) := by
  refine ⟨fun h => by rw [h]; exact sat_one, fun h => face_ext hg (by decide) fun P N _ => ⟨fun _ => sat_one, fun _ => sat_mono (fun _ h => h.elim) (fun _ h => h.elim) h⟩⟩
theorem un_none (a b : Nat) : unW (fun _ => False) a b = bitsW a := by
  funext j
  unfold unW bitsW
  exact propext ⟨fun h => h.elim id fun h => h.1.elim, .inl⟩
theorem under_sat {c : Cl} {f : List Cl} : underF c f = true ↔ sat f (bitsW c.pos) (bitsW c.neg) := by
  unfold underF sat
  rw [List.any_eq_true]
  exact exists_congr fun d => and_congr_right fun _ => below_sat
theorem sys_total {c : Cl} (hc : single c = true) {l U : List Br} (h0 : (faceS [] l).1 = 0) (hU : U.map Br.face = facesU c l) : 0 ≤ totalP U ↔ underF c (faceS [] l).2 = true := by
  rw [total_pos, under_sat, sat_faceS h0]
  have key : ∀ b, b ∈ l → ((restrictF b.face c).2 = [cl0] ↔ sat b.face (bitsW c.pos) (bitsW c.neg)) := fun b hb => by
    have hr := faceS_told h0 b hb
    rw [always_sat (restrict_told hr hc).2.2, sat_restrict hr hc, un_none, un_none]
  have h1 : (∃ u, u ∈ U ∧ u.face = [cl0]) ↔ [cl0] ∈ U.map Br.face := by
    rw [List.mem_map]
  rw [h1, hU]
  unfold facesU
  rw [List.mem_filter, List.mem_map]
  constructor
  · rintro ⟨⟨b, hb, e⟩, _⟩
    exact .inr ⟨b, hb, (key b hb).mp e⟩
  · rintro (h | ⟨b, hb, h⟩)
    · exact absurd h sat_nil
    · exact ⟨⟨b, hb, (key b hb).mpr h⟩, by unfold keepR; simp⟩
theorem sys_restricts {l : List Br} {c : Cl} (hc : single c = true) (h0 : (faceS [] l).1 = 0) (hg : (byR 15 l (fun t => dimsUnder t c)).1 = 0) : faceS [] (byR 15 l (fun t => dimsUnder t c)).2 = (0, (restrictF (faceS [] l).2 c).2) ∧ (restrictF (faceS [] l).2 c).1 = 0 ∧ faceRight (faceS [] l).2 = true ∧ (0 ≤ totalP (byR 15 l (fun t => dimsUnder t c)).2 ↔ underF c (faceS [] l).2 = true) := by
  have e : byR 15 l (fun t => dimsUnder t c) = ((dimsUnder (ofT 15 l) c).1, (dimsUnder (ofT 15 l) c).2.sys) := if_neg (by decide)
  rw [e] at hg ⊢
  have hf : formedP (ofT 15 l) = 0 := by
    refine Decidable.byContradiction fun h => ?_
    have : dimsUnder (ofT 15 l) c = (formedP (ofT 15 l), t0) := by unfold dimsUnder; rw [if_pos h]
    rw [this] at hg
    exact h hg
  have hU := under_faces hf hc hg
  have hr := right_faceS (by decide) h0
  have h2 := faceS_restrict hc l [] _ (by decide) h0 hU
  rw [restrict_nil hc] at h2
  exact ⟨h2, (restrict_told hr hc).1, hr, sys_total hc h0 hU⟩
theorem faces_len {U : List Br} {x : List Cl} (h : faceS [] U = (0, x)) : ∀ b, b ∈ U → b.face.length ≤ 1000000 := fun b hb => by
  have := len_right (face_calm (faceS_told (by rw [h]) b hb)).1
  omega
end Go.Hy
namespace Go.Hy
/-! A call of a closure among operations of any order. -/
section
variable {tn : Bool} {pn : Nat} {P : Program} [Tab P] {f : FuncId} {R : Ending → World → Prop} {B : Base} {n : Fz} {K : List Item} {ops : Array Oper} {i : Nat} {l fin : List Nat} {σ : Nat → Value} {Γ : List Fact} {Ms Ms2 : List Res}
variable {dst : Option Tmp} {ty : TypeId}
theorem v_callC {c : FuncId} {args cap al : List Value} {av : Array Operand} {ts : Array TypeId} {g : Operand} {pre : List Fact} {X : Type} {val : X → Value} {N : X → List Fact} {Ms1 : X → List Res}
    (hc : ∀ (args : Array Value) (w : World), (callFunc c args).run P w = .ok (.enter c args) w) (hsp : Spec P c al.toArray pre [] val N Ms1) (kk : ∀ x, NV tn pn P f R B n K ops fin l (putS σ dst (val x)) (N x ++ Γ) (Ms1 x ++ Ms))
    (hg : ev σ g = .func (.func c) #[] cap.toArray := by rfl) (ha : av.toList.map (ev σ) = args := by rfl) (hal : args ++ cap = al := by rfl) (hpre : ∀ F, F ∈ pre → F ∈ Γ := by first | (simp; done) | (simp +contextual; done)) (hd : dstOk n dst = true := by rfl) : NvT tn pn P f R B n K ops fin i l dst (.call { callee := .value g, args := av, argTypes := ts }) ty σ Γ Ms :=
  nv_call (enterC hg ha hc) (hal ▸ hsp) hpre rfl rfl hd kk
end
end Go.Hy
namespace Go.Hy
open Go.RowKit Go.Shelf
/-! ### A range over a function whose body never leaves the loop, and whose iterator may write what it has captured -/
theorem range_all {F : Fence} {n : Nat} {P : Program} {α : Type} {g : Operand} {ps : Array Tmp} {assign body : Code} {Q : Exit → Act → World → Prop} {a : Act} {w : World}
    (hro : F.round = none) (h1 : 1 ≤ n) {gf : Nat} {lb : Array Value} (hg : a.eval g = .func (.func gf) #[] lb) (hFg : F.fn gf) (eg : ∀ args w, (callFunc gf args).run P w = .ok (.enter gf args) w)
    {encs : α → Array Value} (hps : ∀ x, (encs x).size = ps.size) (I : List α → World → Prop) (Px : List α → α → Prop) (Kp : World → World → Prop)
    (hIp : ∀ (pre : List α) (A : World) (l : Nat) (o o0 : Obj), I pre A → A.heap[l]? = some o0 → o0.isCells = false → w.heap.size ≤ l → I pre (A.putObj l o)) (hIa : ∀ (pre : List α) (A : World) (o : Obj), I pre A → w.heap.size ≤ A.heap.size → I pre (A.alloc o)) (h0 : I [] w)
    (hKt : ∀ {A B C : World}, Kp A B → Kp B C → Kp A C) (hKp : ∀ (A : World) (l : Nat) (o o0 : Obj), A.heap[l]? = some o0 → o0.isCells = false → w.heap.size ≤ l → Kp A (A.putObj l o))
    (xs : List α)
    (hit : ∀ (l : Nat) (J : List α → World → Prop) (W1 : World), (∀ pre W, J pre W → I pre W) →
      (∀ pre A B, J pre A → I pre B → (∀ (k : Nat) (o : Obj), A.heap[k]? = some o → o.isCells = false → B.heap[k]? = some o) → J pre B) →
      (∀ pre x W, J pre W → Px pre x → YieldAt F (n - 1 - 1) P l (encs x) W fun e W' => e = .returned (.bool true) ∧ J (pre ++ [x]) W' ∧ Kp W W') → J [] W1 → (∀ (k : Nat), k < w.heap.size → W1.heap[k]? = w.heap[k]?) →
      CallsIn F (n - 1) P gf (#[.func (.yield l) #[] #[]] ++ lb) W1 fun e W' => (∃ v, e = .returned v) ∧ J xs W')
    (a₁ : α → Act)
    (hassign : ∀ (l : Nat) (x : α) (W : World) (K : Act → World → Prop), K (a₁ x) W →
      assign.wpIn (F.inRound l) (n - 1 - 1) P (Exit.then K (fun _ _ _ => False)) { tmps := (ps.zip (encs x)).foldl (fun t (p, v) => t.setIfInBounds p v) a.tmps, defers := [] } W)
    (hbody : ∀ (l : Nat) (pre : List α) (x : α) (W : World), I pre W → Px pre x →
      body.wpIn (F.inRound l) (n - 1 - 1) P (fun e _ W' => e = .normal ∧ KeepsOthers W W' ∧ Kp W W' ∧ I (pre ++ [x]) W') (a₁ x) W)
    (hdone : ∀ (D : Nat) (W : World), w.heap.size ≤ D → I xs W → W.heap[D]? = some (.deferred (some [])) → Q .normal { a with defers := { target := .collected D, args := #[] } :: a.defers } W) :
    (Code.rangeFunc g ps assign body).wpIn F n P Q a w := by
  refine wpIn_rangeFunc ?_
  intro fn hfn
  rw [hro]
  obtain ⟨rec, hrec⟩ : ∃ rec : LoopState → Option Code → Loop, rec = fun st pe => { state := st, pending := pe, fn, tmps := a.tmps, params := ps, assign, body, defers := w.heap.size } := ⟨_, rfl⟩
  obtain ⟨W1, hW1⟩ : ∃ W1, (w.alloc (.deferred (some []))).alloc (.loop (rec .ready none)) = W1 := ⟨_, rfl⟩
  have hL1 : W1.heap[w.heap.size + 1]? = some (.loop (rec .ready none)) := by
    rw [← hW1]; have := World.alloc_heap_new (w.alloc (.deferred (some []))) (.loop (rec .ready none)); rwa [World.size_alloc] at this
  have hK1 : W1.heap[w.heap.size]? = some (.deferred (some [])) := by
    rw [← hW1]; exact (Below.heap_alloc _ _ _ (by simp)).trans (World.alloc_heap_new w _)
  have hI1 : I [] W1 := by rw [← hW1]; exact hIa _ _ _ (hIa _ _ _ h0 (Nat.le_refl _)) (by simp)
  refine ⟨w.heap.size + 1, [{ target := .collected w.heap.size, args := #[] }], W1, { target := .fn (.func gf) lb, args := #[.func (.yield (w.heap.size + 1)) #[] #[]] }, W1, gf,
    #[.func (.yield (w.heap.size + 1)) #[] #[]] ++ lb, W1, ?_, ?_, ?_, ?_, fun _ => h1, ?_⟩
  · rw [← hW1, hrec]; exact run_enterLoop_outer _ _ _ _ _
  · simp only [resolve, hg]
    simp [go_sem]
  · intro f' hf'; simp [Target.leads] at hf'; subst hf'; exact hFg
  · simp [invoke, go_sem, eg]
  · refine (hit (w.heap.size + 1) (fun pre W => I pre W ∧ W.heap[w.heap.size + 1]? = some (.loop (rec .ready none)) ∧ W.heap[w.heap.size]? = some (.deferred (some []))) W1
      (fun pre W h => h.1) (fun pre A B hA hB hk => ⟨hB, hk _ _ hA.2.1 rfl, hk _ _ hA.2.2 rfl⟩) ?_ ⟨hI1, hL1, hK1⟩ (fun k hk => by rw [← hW1]; exact (Below.heap_alloc _ _ _ (by simp; omega)).trans (Below.heap_alloc _ _ _ hk))).mono ?_
    · rintro pre x W ⟨hi, hl, hk⟩ hpx
      have hlt : w.heap.size + 1 < W.heap.size := (Array.getElem?_eq_some_iff.1 hl).1
      have hy := run_yield (P := P) (args := encs x) hl (by rw [hrec]; exact hps x)
      rw [hrec] at hy
      refine ⟨fn, _, assign, body, hy, roundIn_of_wpIn hfn (hassign _ x W _ ⟨_, run_beginRound hl (by rw [hrec]), ?_⟩)⟩
      have hl2 : (W.putObj (w.heap.size + 1) (.loop { rec .ready none with state := .busy })).heap[w.heap.size + 1]? = some (.loop { rec .ready none with state := .busy }) := World.putObj_heap_same hlt
      have hk2 : (W.putObj (w.heap.size + 1) (.loop { rec .ready none with state := .busy })).heap[w.heap.size]? = some (.deferred (some [])) := (World.putObj_heap_other (by omega)).trans hk
      refine wpIn_mono (hbody _ pre x _ (hIp _ _ _ _ _ hi hl rfl (by omega)) hpx) ?_
      rintro e a3 W3 ⟨rfl, hk3, hkp3, hi3⟩
      have hl3 := hk3.same _ _ hl2 rfl
      have hend := run_endRound (P := P) none hl3
      rw [hrec] at hl3 hend
      refine ⟨_, _, hend, rfl, ⟨hIp _ _ _ _ _ hi3 hl3 rfl (by omega), ?_, ?_⟩, hKt (hKt (hKp _ _ _ _ hl rfl (by omega)) hkp3) (hKp _ _ _ _ hl3 rfl (by omega))⟩
      · rw [hrec]; exact World.putObj_heap_same (Array.getElem?_eq_some_iff.1 hl3).1
      · exact (World.putObj_heap_other (by omega)).trans (hk3.same _ _ hk2 rfl)
    · rintro e W2 ⟨⟨v, rfl⟩, hi, hl, hk⟩
      exact ⟨none, _, by have := run_endLoop (P := P) hl (by rw [hrec]; simp); rw [hrec] at this; exact this, hdone _ _ (Nat.le_refl _) (hIp _ _ _ _ _ hi hl rfl (by omega)) ((World.putObj_heap_other (by omega)).trans hk)⟩
end Go.Hy
namespace Go.Hy
open Go.Proofs
set_option maxRecDepth 100000
theorem rsameC (l : List Cl) (a_l : SH) (m : List Cl) (a_m : SH)  : Spec Tryz.prog 21 #[sl a_l (l.length), sl a_m (m.length)] [CL l a_l, CL m a_m] [] (fun _ : Unit => .bool ((decide (l = m)))) (fun _ : Unit => []) (fun _ : Unit => []) := by
  refine spec_go (args := [sl a_l (l.length), sl a_m (m.length)]) Tryz.func21 Tryz.ntmps21 rfl (by exact Nat.le_of_ble_eq_true rfl) fun B hB => ?_
  refine go_openCL (l := l) (a := a_l) (fun hl1 hA1 hU1 => ?_); refine go_openCL (l := m) (a := a_m) (fun hl2 hA2 hU2 => ?_); refine go_seq ?_; refine go_region ⟨_, Tryz.func21⟩ rfl ?_; refine q0 rfl (o_assign ?_); refine rg_nil ?_; refine go_seq ?_; refine go_seq ?_; refine go_region ⟨_, Tryz.func21⟩ rfl ?_; refine q0 rfl (o_move ?_); refine q0 rfl (o_len ?_); refine q0 rfl (o_move ?_); refine q0 rfl (o_len ?_); refine q0 rfl (o_neI ?_); refine rg_nil ?_; refine go_condI (fun h10 => ?_) (fun h10 => ?_)
  · have c10 : (decide ((l.length : Int) ≠ (m.length : Int))) = true := h10
    try simp only [sC, bne_iff_ne, beq_iff_eq, ne_eq] at c10
    have hne : ¬ l = m := fun e => by subst e; simp at h10
    refine go_seq ?_; refine go_region ⟨_, Tryz.func21⟩ rfl ?_; refine q0 rfl (o_assign ?_); refine rg_nil ?_; refine ret1 Tryz.func21 Tryz.results21 wn_ () (by rw [decide_eq_false hne]) (fun w hs => hs.none)
  · have c10 : (decide ((l.length : Int) ≠ (m.length : Int))) = false := h10
    try simp only [sC, bne_iff_ne, beq_iff_eq, ne_eq] at c10
    have hlen : l.length = m.length := by simp at h10; omega
    refine go_skip ?_; refine go_seq ?_; refine go_seq ?_; refine go_region ⟨_, Tryz.func21⟩ rfl ?_; refine q0 rfl (o_assign ?_); refine rg_nil ?_; refine go_block ?_; refine go_loopE (X := Nat) (fun s_ => s_ ≤ l.length ∧ ∀ j, j < s_ → l.getD j cl0 = m.getD j cl0) (fun s_ => [(0, sl a_l (l.length)), (1, sl a_m (m.length)), (5, .int .i64 ((s_ : Int)))]) (fun s_ G_ => G_) (fun s_ => []) (fun s_ => l.length - s_) (0) (⟨by omega, fun j hj => by omega⟩) (by exact ⟨rfl, rfl, rfl, trivial⟩) ?_ ?_
    · exact fun w hs => hs
    · intro i base0 ⟨hi, hok⟩ next0; refine go_seq ?_; refine go_seq ?_; refine go_region ⟨_, Tryz.func21⟩ rfl ?_; refine q0 rfl (o_move ?_); refine q0 rfl (o_move ?_); refine q0 rfl (o_len ?_); refine q0 rfl (o_lss ?_); refine rg_nil ?_; refine go_condI (fun h14 => ?_) (fun h14 => ?_)
      · have c14 : (decide ((i : Int) < (l.length : Int))) = true := h14
        try simp only [sC, bne_iff_ne, beq_iff_eq, ne_eq] at c14
        refine go_skip ?_; refine go_seq ?_; refine go_block ?_; refine go_seq ?_; refine go_draw (pn := 1000000) (tn := false) (A := [0, 0, 3, 7, 0, 0, 48, 112, 255]) (l := [0, 1, 2, 3, 4, 5, 6, 7, 8]) (fin := []) Tab.mixed ⟨_, Tryz.func21⟩ (by rfl) ?_; refine n0 rfl (v_move ?_); refine n0 rfl (v_move ?_); obtain ⟨bk3, o3, hav3⟩ := hA1 (by omega); refine n0 rfl (v_ixN ?_ (j := i)); refine n0 rfl (v_ldC ?_); refine n0 rfl (v_move ?_); refine n0 rfl (v_move ?_); obtain ⟨bk4, o4, hav4⟩ := hA2 (by omega); refine n0 rfl (v_ixN ?_ (j := i)); refine n0 rfl (v_ldC ?_); refine n0 rfl (v_neC ?_ (c := (l.getD i cl0)) (c' := (m.getD i cl0))); refine NV.done ?_; refine rg_nil ?_; refine go_condI (fun h25 => ?_) (fun h25 => ?_)
        · have c25 : (!decide ((l.getD i cl0) = (m.getD i cl0))) = true := h25
          try simp only [sC, bne_iff_ne, beq_iff_eq, ne_eq] at c25
          refine go_seq ?_; refine go_region ⟨_, Tryz.func21⟩ rfl ?_; refine q0 rfl (o_assign ?_); refine rg_nil ?_; refine ret1 Tryz.func21 Tryz.results21 wn_ () (by rw [decide_eq_false (fun e => by subst e; simp at h25)]) (fun w hs => hs.none)
        · have c25 : (!decide ((l.getD i cl0) = (m.getD i cl0))) = false := h25
          try simp only [sC, bne_iff_ne, beq_iff_eq, ne_eq] at c25
          refine go_skip ?_; refine go_inBlock ?_; refine go_region ⟨_, Tryz.func21⟩ rfl ?_; refine q0 rfl (o_move ?_); refine q0 rfl (o_add ?_); refine q0 rfl (o_assign ?_); refine rg_nil ?_; have hb : l.getD i cl0 = m.getD i cl0 := by simpa using h25
          refine go_state (fun w hs => ?_) (next0 (i + 1) _ (⟨by omega, succ_inv hok hb⟩) (by omega) ⟨rfl, rfl, rfl, trivial⟩); exact (hs.less (by simp +contextual))
      · have c14 : (decide ((i : Int) < (l.length : Int))) = false := h14
        try simp only [sC, bne_iff_ne, beq_iff_eq, ne_eq] at c14
        refine go_exit rfl ?_; refine go_seq ?_; refine go_region ⟨_, Tryz.func21⟩ rfl ?_; refine q0 rfl (o_assign ?_); refine rg_nil ?_; refine ret1 Tryz.func21 Tryz.results21 wn_ () (by rw [decide_eq_true (list_eq_of hlen (fun j hj => hok j (by omega)))]) (fun w hs => hs.none)
end Go.Hy
namespace Go.Hy
open Go.Proofs
set_option maxRecDepth 100000
attribute [local go_sem] Oper.semAt_some
open Go.RowKit Go.Shelf
set_option maxHeartbeats 1000000
theorem tz32 (F : Fence) (n : Nat) (hF : F.fn 209) (hro : F.round = none) (r : Nat) (k idx : Nat) (hk : k < 24) (h0 : ((r : Int) == 0) = false)
    (key : bits BinOp.and IntKind.u32 (r : Int) (-(r : Int) % 4294967296) * 125613361 % 4294967296 / 134217728 = (idx : Int)) (hi : idx < 32) (W : World) (hc : W.cell? ⟨0, idx, none⟩ = some (.int .u8 (k : Int))) :
    CallsIn F n Tryz.prog 209 #[.int .u32 (r : Int)] W fun e w' => e = .returned (.int .i64 (k : Int)) ∧ w' = W := by
  refine callsIn_of_wp Tryz.func209 rfl hF ?_ hro; simp only [Tryz.ntmps209, List.size_toArray, List.length_cons, List.length_nil, Nat.reduceAdd, Nat.reduceSub, Array.replicate_succ, Array.replicate_zero, List.push_toArray, List.append_toArray, List.nil_append, List.cons_append]
  gi_wp2_with (simp only [key])
  go_ret
  exact ⟨rfl, rfl⟩
theorem tz32' (F : Fence) (n : Nat) (hF : F.fn 209) (hro : F.round = none) (r : Nat) (h0 : ¬ r = 0) (hr : r < 16777216) (W : World) (hT : TabAt 0 Lib.deBruijn32tab W) :
    CallsIn F n Tryz.prog 209 #[.int .u32 (r : Int)] W fun e w' => e = .returned (.int .i64 (Lib.ctz 32 r : Int)) ∧ w' = W := by
  obtain ⟨hlow, hk⟩ := Lib.lowest_bit 32 r h0 (by omega); obtain ⟨hi, htab⟩ := Lib.deBruijn32_at _ hk; have hcell := hT _ hi; rw [htab] at hcell; exact tz32 F n hF hro r _ _ (listM_low h0 hr).1 (by simp; omega) (tz32_key r _ (by omega) h0 hlow) hi W hcell
theorem in1 (F : Fence) (n : Nat) (h208 : F.fn 208) (h209 : F.fn 209) (hro : F.round = none) (hn : 1 ≤ n) (l g : Nat) (s : Nat) (J : List Int → World → Prop)
    (hY : ∀ pre x W, J pre W → pre.length < 24 → (0 ≤ x ∧ x < 24) → YieldAt F (n - 1) Tryz.prog l #[.int .i64 x] W fun e W' => e = .returned (.bool true) ∧ J (pre ++ [x]) W' ∧ W'.heap[g]? = W.heap[g]?)
    (hT : ∀ pre W, J pre W → TabAt 0 Lib.deBruijn32tab W)
    (hJ : ∀ pre W v, J pre W → J pre (W.setCell ⟨g, 0, none⟩ v))
    (hs : s < 4294967296) (W : World) (hg : Boxed W g 43 (.int .u32 (s : Int))) (h0 : J [] W) :
    CallsIn F n Tryz.prog 208 #[.func (.yield l) #[] #[], .pointer (some ⟨g, 0, none⟩)] W fun e W' => (∃ v, e = .returned v) ∧ J (listM s) W' := by
  refine callsIn_of_wp Tryz.func208 rfl h208 ?_ hro; simp only [Tryz.ntmps208, List.size_toArray, List.length_cons, List.length_nil, Nat.reduceAdd, Nat.reduceSub, Array.replicate_succ, Array.replicate_zero, List.push_toArray, List.append_toArray, List.nil_append, List.cons_append]; have hc := hg.cell; have hf := hg.frozen
  gi_wp2
  gi_loopw [] (fun wr => ∃ (pre : List Int) (r : Nat), listM s = pre ++ listM r ∧ r < 16777216 ∧ Boxed wr g 43 (.int .u32 (r : Int)) ∧ J pre wr)
    (fun wr => match wr.cell? ⟨g, 0, none⟩ with | some (.int _ v) => v.toNat | _ => 0)
  case atStart =>
    refine ⟨[], s &&& 16777215, by rw [List.nil_append, listM_and], by rw [and24]; exact Nat.mod_lt _ (by decide), ?_, hJ _ _ _ h0⟩; rw [← bits_and_u32_nat s 16777215 hs (by decide)]; exact hg.set _
  case round =>
    obtain ⟨pre, r, hx, hr, hb, hj⟩ := hrel; have hc2 := hb.cell; have hf2 := hb.frozen; by_cases hr0 : r = 0
    · subst hr0
      gi_wp2
      go_end0
      exact ⟨⟨_, rfl⟩, by rw [hx, show listM 0 = [] from by decide, List.append_nil]; exact hj⟩
    · obtain ⟨hk, hlist⟩ := listM_low hr0 hr
      have hlen : pre.length < 24 := by
        have h1 := congrArg List.length hx; have h2 : (listM s).length ≤ 24 := listTo_len s 24; rw [List.length_append, hlist, List.length_cons] at h1; omega
      obtain ⟨fn, tmps, assign, body, hy, hR⟩ := hY pre (Lib.ctz 32 r : Int) wr hj hlen (by omega); have hbe : ((r : Int) != 0) = true := by simp; omega
      gi_wp2_with (gi_at_call 209; refine (tz32' F (n - 1) h209 hro r hr0 hr wr (hT _ _ hj)).mono ?_; rintro e w' ⟨rfl, rfl⟩)
      refine hR.mono ?_; rintro e W3 ⟨rfl, hJ3, hg3⟩; have hb3 : Boxed W3 g 43 (.int .u32 (r : Int)) := hg3.trans hb; have hc3 := hb3.cell; have hf3 := hb3.frozen
      gi_wp2
      have e1 : bits BinOp.and IntKind.u32 (r : Int) ((r : Int) - 1) = ((r &&& (r - 1) : Nat) : Int) := by
        rw [show (r : Int) - 1 = ((r - 1 : Nat) : Int) by omega]; exact bits_and_u32_nat r (r - 1) (by omega) (by omega)
      rw [e1]; have hb4 := hb3.set (.int .u32 ((r &&& (r - 1) : Nat) : Int)); have hlt := low_lt hr0
      go_roundw
      case rel => exact ⟨pre ++ [(Lib.ctz 32 r : Int)], r &&& (r - 1), by rw [hx, hlist, List.append_assoc]; rfl, by omega, hb4, hJ _ _ _ hJ3⟩
      case measure =>
        rw [hb4.cell, hc2]; simp only [Int.toNat_natCast]; exact hlt
theorem mk_in (F : Fence) (n : Nat) (h : F.fn 156) (hro : F.round = none) (s : Nat) (w : World) :
    CallsIn F n Tryz.prog 156 #[.int .u32 (s : Int)] w fun e w' => e = .returned (.func (.func 208) #[] #[.pointer (some ⟨w.heap.size, 0, none⟩)]) ∧ w' = w.alloc (.cells #[.int .u32 (s : Int)] 43) := by
  refine callsIn_of_wp Tryz.func156 rfl h ?_ hro; simp only [Tryz.ntmps156, List.size_toArray, List.length_cons, List.length_nil, Nat.reduceAdd, Nat.reduceSub, Array.replicate_succ, Array.replicate_zero, List.push_toArray, List.append_toArray, List.nil_append, List.cons_append]
  gi_wp2
  go_ret
  exact ⟨rfl, rfl⟩
theorem infoInt : (Tryz.prog.info? 3).map (fun i => (i.zero, i.size, i.bytes)) = some (some (.int .i64 0), 1, 8) := by kernel_rfl
theorem list_in (F : Fence) (n : Nat) (h81 : F.fn 81) (h156 : F.fn 156) (h208 : F.fn 208) (h209 : F.fn 209) (hro : F.round = none) (hn : 3 ≤ n) (s : Nat) (hs : s < 4294967296) (w : World) (hw : 0 < w.heap.size) (hT : TabAt 0 Lib.deBruijn32tab w) :
    CallsIn F n Tryz.prog 81 #[.int .u32 (s : Int)] w fun e W' => ∃ v, e = .returned v ∧ W'.ownsRow w.heap.size 3 1 v (listM s).length ((listM s).map (Value.int .i64)) ∧ Below w.heap.size w W' := by
  have h1 : 1 ≤ n := by omega
  obtain ⟨i0, hi, hz0, hz1, hz2⟩ := info_parts infoInt; refine callsIn_of_wp_marks Tryz.func81 rfl h81 ?_ hro; simp only [Tryz.ntmps81, List.size_toArray, List.length_cons, List.length_nil, Nat.reduceAdd, Nat.reduceSub, Array.replicate_succ, Array.replicate_zero, List.push_toArray, List.append_toArray, List.nil_append, List.cons_append]
  gi_wp2_with (gi_at_call 156; refine (mk_in F (n - 1) h156 hro _ _).mono ?_; rintro e w' ⟨rfl, rfl⟩)
  obtain ⟨w2, hw2⟩ : ∃ w2, (w.alloc (.cells #[.slice none 0 0] 117)).alloc (.cells #[.int .u32 (s : Int)] 43) = w2 := ⟨_, rfl⟩; have bO : Boxed w2 w.heap.size 117 (.slice none 0 0) := by rw [← hw2]; exact (Boxed.new w 117 (.slice none 0 0)).alloc _
  have bS : Boxed w2 (w.heap.size + 1) 43 (.int .u32 (s : Int)) := by rw [← hw2]; have := Boxed.new (w.alloc (.cells #[.slice none 0 0] 117)) 43 (.int .u32 (s : Int)); rwa [World.size_alloc] at this
  have hsz2 : w2.heap.size = w.heap.size + 2 := by rw [← hw2]; simp
  have hB2 : Below w.heap.size w w2 := by rw [← hw2]; exact ((Below.refl _ w).alloc (Nat.le_refl _) _).alloc (by simp) _
  have hrw : ∀ {A B : World}, B.heap[w.heap.size + 1]? = A.heap[w.heap.size + 1]? → ∀ u, Boxed A (w.heap.size + 1) 43 u → Boxed B (w.heap.size + 1) 43 u := fun h u hu => h.trans hu
  simp only [World.size_alloc, hw2]
  refine range_all hro h1 (gf := 208) (lb := #[.pointer (some ⟨w.heap.size + 1, 0, none⟩)]) rfl h208 (enters_of Tryz.func208 (by kernel_rfl) rfl) (encs := fun x : Int => #[Value.int .i64 x]) (fun _ => rfl)
    (fun pre W => (∃ v, Boxed W w.heap.size 117 v ∧ W.ownsRow w.heap.size 3 1 v pre.length (pre.map (Value.int .i64))) ∧ (∃ u, Boxed W (w.heap.size + 1) 43 u) ∧ Below w.heap.size w W)
    (fun pre x => pre.length < 24 ∧ (0 ≤ x ∧ x < 24)) (fun W W' => W'.heap[w.heap.size + 1]? = W.heap[w.heap.size + 1]?)
    ?ip ?ia ⟨⟨_, bO, World.ownsRow_nil _ _ _ _⟩, ⟨_, bS⟩, hB2⟩ (fun h k => k.trans h) ?kp (listM s) ?it
    (fun x => { tmps := #[.int .u32 (s : Int), undef, .slice none 0 0, .pointer (some ⟨w.heap.size, 0, none⟩), .int .i64 x, .int .u32 (s : Int), .func (.func 208) #[] #[.pointer (some ⟨w.heap.size + 1, 0, none⟩)], .int .i64 x, undef, undef, undef, undef, undef], defers := [] }) ?assign ?body ?done
  case ip =>
    rintro pre A l o o0 ⟨⟨v, hv, hr⟩, ⟨u, hu⟩, hB⟩ hl hc hle; refine ⟨⟨v, (World.putObj_heap_other (by omega)).trans hv, ownsRow_putObj hr o hl hc⟩, ⟨u, (World.putObj_heap_other (by omega)).trans hu⟩, hB.trans ⟨rfl, rfl, rfl, by simp, fun k hk => World.putObj_heap_other (by omega)⟩⟩
  case ia =>
    rintro pre A o ⟨⟨v, hv, hr⟩, ⟨u, hu⟩, hB⟩ hle; exact ⟨⟨v, hv.alloc o, hr.kept (World.grownBy_alloc A o none) (by rcases hr.2 with ⟨rfl, _⟩ | ⟨g, cap, cur, rfl, _⟩; exact .inl rfl; exact .inr (by simp [Value.ownBlock]))⟩, ⟨u, hu.alloc o⟩, hB.alloc (by omega) o⟩
  case kp =>
    intro A l o o0 hl hc hle; exact World.putObj_heap_other (by omega)
  case it =>
    intro l J W1 hJI hJk hY h0 hk1; refine in1 F (n - 1) h208 h209 hro (by omega) l (w.heap.size + 1) s J (fun pre x W hj hl hx => hY pre x W hj ⟨hl, hx⟩) (fun pre W hj => ?_) (fun pre W v hj => ?_) hs W1 ?_ h0
    · intro i hi; exact ((hJI _ _ hj).2.2.cell (p := ⟨0, i, none⟩) hw).trans (hT i hi)
    · obtain ⟨⟨v0, hv0, hr⟩, ⟨u, hu⟩, hB⟩ := hJI _ _ hj; refine hJk pre W _ hj ⟨⟨v0, hv0.other (by omega) v, hr.kept (grownBy_setCell' W (w.heap.size + 1) v) (.inr (hu.not_row (by decide) hr).symm)⟩, ⟨_, hu.set v⟩, hB.setCell (p := ⟨w.heap.size + 1, 0, none⟩) (by simp) v⟩ (fun k o hk ho => (KeepsOthers.setCell W _ v).same k o hk ho)
    · exact (hk1 _ (by omega)).trans bS
  case assign =>
    intro l x W K hK
    gi_wp2
    exact hK
  case body =>
    rintro l pre x W ⟨⟨v, hv, hrow⟩, ⟨u, hu⟩, hB⟩ ⟨hlt, hx⟩; have hc := hv.cell
    gi_wp2_with (gi_at_builtin; refine wpListIn_append_own _ rfl _ _ 117 rfl w.heap.size 3 i0 (.int .i64 0) 1 8 Tryz.underlying117 hi hz0 hz1 hz2 rfl (by decide) _ _ _ rfl (hrow.alloc _) ⟨W.heap.size, 0, none⟩ 1 1 [.int .i64 x] rfl rfl (cell_one_new _ _ _) (by simp [Value.oneCell']) (by unfold maxLen; omega) (by omega) (by have := hB.size; simp; omega) ?_; intro v' w1 hown' hgrow _; obtain ⟨g', cap', rfl⟩ := ownsRow_succ hown'; obtain ⟨hv1, hv2, hr2, hk2, hb2⟩ := hv.appended (by decide) hrow hB.size (Nat.le_refl _) hown' hgrow; have hc1 := hv1.cell; have hf1 := hv1.frozen)
    have hu1 := ((hu.alloc (.cells #[.int .i64 x] 3)).kept hgrow (hu.not_row (by decide) hrow)).other (B' := w.heap.size) (by omega) (.slice (some ⟨g', 0, none⟩) (pre.length + 1) cap'); exact ⟨hu1.trans hu.symm, ⟨_, hv2, by simpa using hr2⟩, ⟨u, hu1⟩, hB.trans hb2⟩
  case done =>
    rintro D W hD ⟨⟨v, hv, hrow⟩, _, hB⟩ hK; have hc := hv.cell
    gi_wp2
    refine ⟨by simp, .inl ⟨_, _, rfl, run_takeDeferred hK, ?_⟩⟩; exact ⟨_, results_tmp rfl _ _ _, v, rfl, ownsRow_putObj hrow _ hK rfl, hB.trans ⟨rfl, rfl, rfl, by simp, fun k hk => World.putObj_heap_other (by omega)⟩⟩
abbrev DBF : Fact := At 0 0 (Lib.deBruijn32tab.map fun (v : Nat) => Value.int .u8 (v : Int))
theorem tab_of {ok : Nat → Prop} {w : World} (h : DBF.f ok w) (hk : ∀ b, ok b → b < w.heap.size) : TabAt 0 Lib.deBruijn32tab w ∧ 0 < w.heap.size := by
  refine ⟨fun j hj => ?_, hk _ h.1⟩; have h1 := h.2 j (.int .u8 (Lib.deBruijn32tab.getD j 0 : Nat)) (by rw [List.getElem?_map, List.getD_eq_getElem?_getD, List.getElem?_eq_getElem hj]; rfl)
  rwa [Nat.zero_add] at h1
theorem maskListO (s : Nat) (hs : s < 4294967296) : Spec Tryz.prog 81 #[.int .u32 (s : Int)] [DBF] [] (fun x : SH => sl x (listM s).length) (fun _ => []) (fun x => [rowS 1 3 x (listM s).length (intFlat (listM s))]) := fun ok w hok hst => by
  obtain ⟨hT, hw⟩ := tab_of (hst.facts DBF List.mem_cons_self) (fun b hb => hb.2.1); refine (callsIn_wide.mp (list_in Fence.wide 3 trivial trivial trivial trivial rfl (Nat.le_refl _) s hs w hw hT)).mono fun e w' hh => ?_
  obtain ⟨v, rfl, hrow, hB⟩ := hh; obtain ⟨a, rfl⟩ := owns_sh hrow
  have hrow0 : w'.ownsRow 0 3 1 (sl a (listM s).length) (listM s).length (intFlat (listM s)) := by
    have h1 : w'.ownsRow 0 3 1 (sl a (listM s).length) (listM s).length ((listM s).map (Value.int .i64)) := ⟨hrow.1, hrow.2.imp id (fun ⟨g, cap, cur, q1, q2, q3⟩ => ⟨g, cap, cur, q1, Nat.zero_le _, q3⟩)⟩
    rwa [show (listM s).map (Value.int .i64) = intFlat (listM s) from by induction (listM s) with | nil => rfl | cons y ys ih => (simp only [List.map_cons, intFlat, List.flatMap_cons, intCells, List.singleton_append] at ih ⊢; rw [ih])] at h1
  refine ⟨a, rfl, ⟨hB.os, hB.tape, hB.output, hB.size, fun b hb _ => hB.block b hb⟩, fun _ hF => (by cases hF), ?_, ?_, List.pairwise_singleton _ _⟩
  · intro m hm w2 hw2; rw [List.mem_singleton] at hm; subst hm; exact rowR_keeps hrow0 (fun b hb => hw2 b hb)
  · intro m hm b hb; rw [List.mem_singleton] at hm; subst hm; have := hrow.lt b hb; exact ⟨this.2, .inr this.1⟩
theorem maskListF (s : Nat) (hs : s < 4294967296) : Spec Tryz.prog 81 #[.int .u32 (s : Int)] [DBF] [] (fun x : SH => sl x (listM s).length) (fun x => [IL (listM s) x]) (fun _ => []) := fun ok w hok hst => (maskListO s hs ok w hok hst).mono fun e w' hh => by
  obtain ⟨x, he, h⟩ := hh; have hl : (listM s).length ≤ 24 := listTo_len s 24; exact ⟨x, he, h.settleIL trivial rfl rfl (by unfold reach; omega) (fun c hc => by have := listTo_in hc; unfold in64; omega)⟩
end Go.Hy
