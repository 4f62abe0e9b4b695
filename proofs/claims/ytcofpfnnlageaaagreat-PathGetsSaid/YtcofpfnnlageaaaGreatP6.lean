/- Contracts of this program's functions and the laws that they need: a separation logic over the machine's rules, one theorem each (partly printed by a program of this repository). -/
import Derived.Test.YtcofpfnnlageaaaGreatP2
import Derived.Test.YtcofpfnnlageaaaGreatP3
import Derived.Test.YtcofpfnnlageaaaGreatP4
import Derived.Test.YtcofpfnnlageaaaGreatP5
namespace Go.Hy
set_option linter.unusedVariables false
set_option linter.unusedSimpArgs false
set_option linter.unusedSectionVars false
open Go.Proofs
set_option linter.unusedVariables false
set_option linter.unusedSimpArgs false
set_option maxRecDepth 100000
/-- A test of all parts. -/
theorem each_bool (t : T) (vr vk vs : SH) (c : FuncId) (cap : List Value) (FΓ : List Fact) (M : List Res) (g : Part → Bool)
    (hc : ∀ (args : Array Value) (w : World), (callFunc c args).run Tryz.prog w = .ok (.enter c args) w)
    (hcl : ∀ k v d, (k, v, d) ∈ parts t → ∀ vr vk vs, Spec Tryz.prog c (.agg (tc k vr vk vs).toArray :: .int .i64 v :: .int .i64 d :: cap).toArray (RT k vr vk vs :: FΓ) M (fun _ : Unit => .bool (g (k, v, d))) (fun _ => []) (fun _ => M)) :
    Spec Tryz.prog 37 #[.agg (tc t vr vk vs).toArray, .func (.func c) #[] cap.toArray] (RT t vr vk vs :: FΓ) M (fun _ : Unit => .bool ((parts t).all g)) (fun _ => []) (fun _ => M) := by
  have h := each_spec t vr vk vs c cap FΓ (fun _ => M) (fun _ => M) (atPart t g) hc (fun m k v d hm _ vr vk vs => by simpa [atPart_some hm] using hcl k v d (parts_mem hm) vr vk vs)
  rw [ff_parts] at h
  simpa using h
abbrev ShallowAt (t : T) : Prop := ∀ (left : Int) vr vk vs, in64 left → Spec Tryz.prog 85 #[.agg (tc t vr vk vs).toArray, .int .i64 left] [RT t vr vk vs] [] (fun _ : Unit => .bool (decide ((depth t : Int) ≤ left))) (fun _ => []) (fun _ => [])
theorem shallow1_walk (k : T) (vr vk vs : SH) (b : Nat) (left v d : Int) (h0 : 0 < left) (hl : in64 left) (ih : ShallowAt k) : Spec Tryz.prog 92 #[.agg (tc k vr vk vs).toArray, .int .i64 v, .int .i64 d, .pointer (some ⟨b, 0, none⟩)] [RT k vr vk vs] [boxR b [.int .i64 left] 3] (fun _ : Unit => .bool (decide ((depth k : Int) ≤ left - 1))) (fun _ => []) (fun _ => [boxR b [.int .i64 left] 3]) := by
  refine spec_go (args := [.agg (tc k vr vk vs).toArray, .int .i64 v, .int .i64 d, .pointer (some ⟨b, 0, none⟩)]) Tryz.func92 Tryz.ntmps92 rfl (by exact Nat.le_of_ble_eq_true rfl) fun B hB => ?_
  refine go_seq ?_
  refine go_region ⟨_, Tryz.func92⟩ rfl ?_
  refine q0 rfl (o_box fun b4 => ?_)
  refine q0 rfl (o_assign ?_)
  refine rg_nil ?_
  refine go_seq ?_
  refine go_region ⟨_, Tryz.func92⟩ rfl ?_
  refine q0 rfl (o_lds ?_)
  refine q0 rfl (o_ld ?_)
  refine q0 rfl (o_sub ?_)
  refine q0 rfl (o_call Tryz.call85 (ih (left - 1) vr vk vs (by unfold in64 at *; omega)) (fun x11 => ?_))
  refine q0 rfl (o_assign ?_)
  refine rg_nil ?_
  refine ret1 Tryz.func92 Tryz.results92 wn_ () rfl (fun w hs => (hs.less (by simp)).drop)
theorem shallow_walk (t : T) (ih : ∀ p, p ∈ parts t → ShallowAt p.1) (left : Int) (vr vk vs : SH) (hl : in64 left) : Spec Tryz.prog 85 #[.agg (tc t vr vk vs).toArray, .int .i64 left] [RT t vr vk vs] [] (fun _ : Unit => .bool (decide ((depth t : Int) ≤ left))) (fun _ => []) (fun _ => []) := by
  refine spec_go (args := [.agg (tc t vr vk vs).toArray, .int .i64 left]) Tryz.func85 Tryz.ntmps85 rfl (by exact Nat.le_of_ble_eq_true rfl) fun B hB => ?_
  refine go_seq ?_
  refine go_region ⟨_, Tryz.func85⟩ rfl ?_
  refine q0 rfl (o_box fun b2 => ?_)
  refine q0 rfl (o_box fun b3 => ?_)
  refine q0 rfl (o_assign ?_)
  refine rg_nil ?_
  refine go_seq ?_
  refine go_region ⟨_, Tryz.func85⟩ rfl ?_
  refine q0 rfl (o_ld ?_)
  refine q0 rfl (o_gtr ?_)
  refine q0 rfl (o_move ?_)
  refine qI rfl rfl rfl wl_ (fun hg7 => o_lds ?_) (fun hg7 => ?_)
  · refine qT rfl rfl rfl (o_func ?_)
    have h0 : 0 < left := of_decide_eq_true hg7
    have hE := each_bool t vr vk vs 92 [.pointer (some ⟨b3, 0, none⟩)] [] [boxR b3 [.int .i64 left] 3] (fun p => decide ((depth p.1 : Int) ≤ left - 1)) Tryz.call92 (fun k v d hm vr vk vs => shallow1_walk k vr vk vs b3 left v d h0 hl (ih _ hm))
    rw [← depth_int t left h0] at hE
    refine qT rfl rfl rfl (o_call Tryz.call37 (hE) (fun x10 => ?_))
    refine q0 rfl (o_pickT ?_)
    refine q0 rfl (o_assign ?_)
    refine rg_nil ?_
    refine ret1 Tryz.func85 Tryz.results85 wn_ () rfl (fun w hs => hs.none)
  · refine qF rfl rfl rfl ?_
    refine qF rfl rfl rfl ?_
    refine q0 rfl (o_pickF ?_)
    refine q0 rfl (o_assign ?_)
    refine rg_nil ?_
    have h0 : ¬ 0 < left := of_decide_eq_false hg7
    have hp := depth_pos t
    refine ret1 Tryz.func85 Tryz.results85 wn_ () (by rw [decide_eq_false (by omega)]) (fun w hs => hs.none)
theorem shallow_spec : ∀ t : T, ShallowAt t := T.ind fun t ih left vr vk vs hl => shallow_walk t ih left vr vk vs hl
/-- What is left of a number of nodes. -/
def leftOf (t : T) (m : Int) : Int := if (size t : Int) ≤ m then m - size t else -1
abbrev CountCap (b bc : Nat) : List Value := [.pointer (some ⟨b, 0, none⟩), .pointer (some ⟨bc, 0, none⟩)]
abbrev CountM (b bc : Nat) (m : Int) : List Res := [boxR b [.int .i64 m] 3, boxR bc [.func (.func 93) #[] (CountCap b bc).toArray] 27]
abbrev CountAt (t : T) : Prop := ∀ (m : Int) b bc vr vk vs, 0 ≤ m → in64 m → Spec Tryz.prog 93 #[.agg (tc t vr vk vs).toArray, .pointer (some ⟨b, 0, none⟩), .pointer (some ⟨bc, 0, none⟩)] [RT t vr vk vs] (CountM b bc m) (fun _ : Unit => .bool (decide ((size t : Int) ≤ m))) (fun _ => []) (fun _ => CountM b bc (leftOf t m))
theorem small11_walk (k : T) (vr vk vs : SH) (b bc : Nat) (m v d : Int) (h0 : 0 ≤ m) (hl : in64 m) (ih : CountAt k) : Spec Tryz.prog 94 #[.agg (tc k vr vk vs).toArray, .int .i64 v, .int .i64 d, .pointer (some ⟨bc, 0, none⟩)] [RT k vr vk vs] (CountM b bc m) (fun _ : Unit => .bool (decide ((size k : Int) ≤ m))) (fun _ => []) (fun _ => CountM b bc (leftOf k m)) := by
  refine spec_go (args := [.agg (tc k vr vk vs).toArray, .int .i64 v, .int .i64 d, .pointer (some ⟨bc, 0, none⟩)]) Tryz.func94 Tryz.ntmps94 rfl (by exact Nat.le_of_ble_eq_true rfl) fun B hB => ?_
  refine go_seq ?_
  refine go_region ⟨_, Tryz.func94⟩ rfl ?_
  refine q0 rfl (o_box fun b4 => ?_)
  refine q0 rfl (o_assign ?_)
  refine rg_nil ?_
  refine go_seq ?_
  refine go_region ⟨_, Tryz.func94⟩ rfl ?_
  refine q0 rfl (o_ld ?_)
  refine q0 rfl (o_lds ?_)
  refine q0 rfl (o_callC Tryz.call93 (ih m b bc vr vk vs h0 hl) (cap := CountCap b bc) (fun x10 => ?_))
  refine q0 rfl (o_assign ?_)
  refine rg_nil ?_
  refine ret1 Tryz.func94 Tryz.results94 wn_ () rfl (fun w hs => (hs.less (by simp)).dropR (A := CountM b bc (leftOf k m)))
theorem count_each (t : T) (ih : ∀ p, p ∈ parts t → CountAt p.1) (m : Int) (b bc : Nat) (vr vk vs : SH) (h0 : 0 < m) (hl : in64 m) :
    Spec Tryz.prog 37 #[.agg (tc t vr vk vs).toArray, .func (.func 94) #[] #[.pointer (some ⟨bc, 0, none⟩)]] [RT t vr vk vs] (CountM b bc (m - 1)) (fun _ : Unit => .bool (decide ((size t : Int) ≤ m))) (fun _ => []) (fun _ => CountM b bc (leftOf t m)) := by
  have h := each_spec t vr vk vs 94 [.pointer (some ⟨bc, 0, none⟩)] [] (fun j => CountM b bc (if (sizeUpto t j : Int) ≤ m then m - sizeUpto t j else -1)) (fun _ => CountM b bc (-1)) (fun j => decide ((sizeUpto t (j + 1) : Int) ≤ m)) Tryz.call94 ?_
  · have hall : (ff (fun j => decide ((sizeUpto t (j + 1) : Int) ≤ m)) (parts t).length == (parts t).length) = decide ((size t : Int) ≤ m) := by
      rw [Bool.eq_iff_iff, beq_iff_eq, ff_eq_iff, decide_eq_true_iff]
      constructor
      · intro h
        cases hn : (parts t).length with
        | zero => have := sizeUpto_all t; rw [hn, sizeUpto_zero] at this; omega
        | succ n =>
          have := h n (by omega)
          rw [← hn, sizeUpto_all] at this
          exact of_decide_eq_true this
      · intro h j hj
        have := sizeUpto_le t (j + 1)
        exact decide_eq_true (by omega)
    simp only [hall, sizeUpto_zero, sizeUpto_all, beq_iff_eq] at h
    rw [if_pos (by omega)] at h
    by_cases hs : (size t : Int) ≤ m
    · have e : ff (fun j => decide ((sizeUpto t (j + 1) : Int) ≤ m)) (parts t).length = (parts t).length := by rw [← beq_iff_eq, hall]; exact decide_eq_true hs
      simp only [e, if_true, if_pos hs] at h
      unfold leftOf; rw [if_pos hs]; exact h
    · have e : ¬ ff (fun j => decide ((sizeUpto t (j + 1) : Int) ≤ m)) (parts t).length = (parts t).length := by rw [← beq_iff_eq, hall]; simpa using hs
      simp only [if_neg e] at h
      unfold leftOf; rw [if_neg hs]; exact h
  · intro j k v d hm hβ vr vk vs
    have hs := sizeUpto_succ hm
    simp only at hs
    have hp := size_pos k
    have hj : (sizeUpto t j : Int) ≤ m := by
      cases j with
      | zero => rw [sizeUpto_zero]; omega
      | succ j => exact of_decide_eq_true (hβ j (by omega))
    have := small11_walk k vr vk vs b bc (m - sizeUpto t j) v d (by omega) (by unfold in64 at *; omega) (ih _ (parts_mem hm))
    rw [if_pos hj]
    have e1 : decide ((size k : Int) ≤ m - sizeUpto t j) = decide ((sizeUpto t (j + 1) : Int) ≤ m) := by rw [hs]; congr 1; apply propext; omega
    rw [e1] at this
    have e2 : CountM b bc (leftOf k (m - sizeUpto t j)) = if decide ((sizeUpto t (j + 1) : Int) ≤ m) = true then CountM b bc (if (sizeUpto t (j + 1) : Int) ≤ m then m - sizeUpto t (j + 1) else -1) else CountM b bc (-1) := by
      unfold leftOf
      by_cases hk : (sizeUpto t (j + 1) : Int) ≤ m
      · rw [if_pos (by omega), if_pos (decide_eq_true hk), if_pos hk, hs]; congr 1; omega
      · rw [if_neg (by omega), if_neg (by simpa using hk)]
    rw [e2] at this
    exact this
theorem small1_walk (t : T) (ih : ∀ p, p ∈ parts t → CountAt p.1) (m : Int) (b bc : Nat) (vr vk vs : SH) (h0 : 0 ≤ m) (hl : in64 m) : Spec Tryz.prog 93 #[.agg (tc t vr vk vs).toArray, .pointer (some ⟨b, 0, none⟩), .pointer (some ⟨bc, 0, none⟩)] [RT t vr vk vs] (CountM b bc m) (fun _ : Unit => .bool (decide ((size t : Int) ≤ m))) (fun _ => []) (fun _ => CountM b bc (leftOf t m)) := by
  refine spec_go (args := [.agg (tc t vr vk vs).toArray, .pointer (some ⟨b, 0, none⟩), .pointer (some ⟨bc, 0, none⟩)]) Tryz.func93 Tryz.ntmps93 rfl (by exact Nat.le_of_ble_eq_true rfl) fun B hB => ?_
  refine go_seq ?_
  refine go_region ⟨_, Tryz.func93⟩ rfl ?_
  refine q0 rfl (o_box fun b3 => ?_)
  refine q0 rfl (o_assign ?_)
  refine rg_nil ?_
  refine go_seq ?_
  refine go_region ⟨_, Tryz.func93⟩ rfl ?_
  refine q0 rfl (o_ld ?_)
  refine q0 rfl (o_sub ?_)
  refine q0 rfl (o_stc ?_)
  refine rg_nil ?_
  refine go_seq ?_
  refine go_region ⟨_, Tryz.func93⟩ rfl ?_
  refine q0 rfl (o_ld ?_)
  refine q0 rfl (o_geq ?_)
  refine q0 rfl (o_move ?_)
  refine qI rfl rfl rfl wl_ (fun hg9 => o_lds ?_) (fun hg9 => ?_)
  · refine qT rfl rfl rfl (o_func ?_)
    have h1 : 0 ≤ m - 1 := of_decide_eq_true hg9
    have hE := count_each t ih m b bc vr vk vs (by omega) hl
    refine qT rfl rfl rfl (o_call Tryz.call37 (hE) (fun x12 => ?_) (hm := (List.Perm.swap _ _ _).cons _))
    refine q0 rfl (o_pickT ?_)
    refine q0 rfl (o_assign ?_)
    refine rg_nil ?_
    refine ret1 Tryz.func93 Tryz.results93 wn_ () rfl (fun w hs => (hs.less (by simp)).dropR (A := CountM b bc (leftOf t m)))
  · refine qF rfl rfl rfl ?_
    refine qF rfl rfl rfl ?_
    refine q0 rfl (o_pickF ?_)
    refine q0 rfl (o_assign ?_)
    refine rg_nil ?_
    have h1 : ¬ 0 ≤ m - 1 := of_decide_eq_false hg9
    have hp := size_pos t
    refine ret1 Tryz.func93 Tryz.results93 wn_ () (by rw [decide_eq_false (by omega)]) (fun w hs => by rw [leftOf, if_neg (by omega), show (-1 : Int) = m - 1 by omega]; exact ((hs.less (Γ' := []) (by simp)).perm ((List.Perm.swap _ _ _).cons _)).dropR (A := CountM b bc (m - 1)))
theorem count_spec : ∀ t : T, CountAt t := T.ind fun t ih m b bc vr vk vs h0 hl => small1_walk t ih m b bc vr vk vs h0 hl
end Go.Hy
namespace Go.Hy
set_option linter.unusedVariables false
set_option linter.unusedSimpArgs false
set_option linter.unusedSectionVars false
open Go.Proofs
set_option linter.unusedVariables false
set_option linter.unusedSimpArgs false
set_option maxRecDepth 100000
def FRight : Prop := ∀ (l : List Cl) (a : SH), Spec Tryz.prog 98 #[sl a l.length] [CL l a] [] (fun _ : Unit => .bool (fRight l)) (fun _ => []) (fun _ => [])
def FaceRight : Prop := ∀ (l : List Cl) (a : SH), Spec Tryz.prog 100 #[sl a l.length] [CL l a] [] (fun _ : Unit => .bool (faceRight l)) (fun _ => []) (fun _ => [])
def FDims : Prop := ∀ (l : List Cl) (a : SH), Spec Tryz.prog 40 #[sl a l.length] [CL l a] [] (fun _ : Unit => .int .u32 (fDims l : Int)) (fun _ => []) (fun _ => [])
def FORM : Prop := FRight ∧ FaceRight ∧ FDims
end Go.Hy
namespace Go.Hy
set_option linter.unusedVariables false
set_option linter.unusedSimpArgs false
set_option linter.unusedSectionVars false
open Go.Proofs
set_option linter.unusedVariables false
set_option linter.unusedSimpArgs false
set_option maxRecDepth 100000
theorem small_spec (t : T) (vr vk vs : SH) (most : Int) (h0 : 0 ≤ most) (hl : in64 most) : Spec Tryz.prog 86 #[.agg (tc t vr vk vs).toArray, .int .i64 most] [RT t vr vk vs] [] (fun _ : Unit => .bool (decide ((size t : Int) ≤ most))) (fun _ => []) (fun _ => []) := by
  refine spec_go (args := [.agg (tc t vr vk vs).toArray, .int .i64 most]) Tryz.func86 Tryz.ntmps86 rfl (by exact Nat.le_of_ble_eq_true rfl) fun B hB => ?_
  refine go_seq ?_
  refine go_region ⟨_, Tryz.func86⟩ rfl ?_
  refine q0 rfl (o_box fun b2 => ?_)
  refine q0 rfl (o_box fun b3 => ?_)
  refine q0 rfl (o_assign ?_)
  refine rg_nil ?_
  refine go_seq ?_
  refine go_region ⟨_, Tryz.func86⟩ rfl ?_
  refine q0 rfl (o_new fun b5 => ?_)
  refine rg_nil ?_
  refine go_seq ?_
  refine go_region ⟨_, Tryz.func86⟩ rfl ?_
  refine q0 rfl (o_func ?_)
  refine q0 rfl (o_st ?_)
  refine rg_nil ?_
  refine go_seq ?_
  refine go_region ⟨_, Tryz.func86⟩ rfl ?_
  refine q0 rfl (o_ld ?_)
  refine q0 rfl (o_lds ?_)
  refine q0 rfl (o_callC Tryz.call93 (count_spec t most b3 b5 vr vk vs h0 hl) (cap := CountCap b3 b5) (fun x9 => ?_))
  refine q0 rfl (o_assign ?_)
  refine rg_nil ?_
  refine ret1 Tryz.func86 Tryz.results86 wn_ () rfl (fun w hs => hs.none)
theorem sized_spec (t : T) (vr vk vs : SH) : Spec Tryz.prog 63 #[.agg (tc t vr vk vs).toArray] [RT t vr vk vs] [] (fun _ : Unit => .int .i64 (sized t)) (fun _ => []) (fun _ => []) := by
  refine spec_go (args := [.agg (tc t vr vk vs).toArray]) Tryz.func63 Tryz.ntmps63 rfl (by exact Nat.le_of_ble_eq_true rfl) fun B hB => ?_
  refine go_seq ?_
  refine go_region ⟨_, Tryz.func63⟩ rfl ?_
  refine q0 rfl (o_box fun b1 => ?_)
  refine q0 rfl (o_assign ?_)
  refine rg_nil ?_
  refine go_seq ?_
  refine go_block ?_
  refine go_seq ?_
  refine go_region ⟨_, Tryz.func63⟩ rfl ?_
  refine q0 rfl (o_lds ?_)
  refine q0 rfl (o_call Tryz.call85 (shallow_spec t 200 vr vk vs (by unfold in64; omega)) (fun x5 => ?_))
  refine q0 rfl (o_not ?_)
  refine q0 rfl (o_assign ?_)
  refine rg_nil ?_
  refine go_condI (fun h3 => ?_) (fun h3 => ?_)
  · refine go_seq ?_
    refine go_region ⟨_, Tryz.func63⟩ rfl ?_
    refine q0 rfl (o_assign ?_)
    refine rg_nil ?_
    have h : 200 < depth t := by simp at h3; omega
    refine ret1 Tryz.func63 Tryz.results63 wn_ () (by rw [sized, if_pos h]) (fun w hs => hs.none)
  · refine go_seq ?_
    refine go_region ⟨_, Tryz.func63⟩ rfl ?_
    refine q0 rfl (o_lds ?_)
    refine q0 rfl (o_call Tryz.call86 (small_spec t vr vk vs 20000 (by omega) (by unfold in64; omega)) (fun x9 => ?_))
    refine q0 rfl (o_not ?_)
    refine q0 rfl (o_assign ?_)
    refine rg_nil ?_
    refine go_condI (fun h7 => ?_) (fun h7 => ?_)
    · refine go_seq ?_
      refine go_region ⟨_, Tryz.func63⟩ rfl ?_
      refine q0 rfl (o_assign ?_)
      refine rg_nil ?_
      have h : ¬ 200 < depth t := by simp at h3; omega
      have h2 : 20000 < size t := by simp at h7; omega
      refine ret1 Tryz.func63 Tryz.results63 wn_ () (by rw [sized, if_neg h, if_pos h2]) (fun w hs => hs.none)
    · refine go_skip ?_
      refine go_inBlock ?_
      refine go_seq ?_
      refine go_region ⟨_, Tryz.func63⟩ rfl ?_
      refine q0 rfl (o_assign ?_)
      refine rg_nil ?_
      have h : ¬ 200 < depth t := by simp at h3; omega
      have h2 : ¬ 20000 < size t := by simp at h7; omega
      refine ret1 Tryz.func63 Tryz.results63 wn_ () (by rw [sized, if_neg h, if_neg h2]) (fun w hs => hs.none)
theorem name_spec (s : ByteArray) (hs : s.size ≤ cap47) : Spec Tryz.prog 97 #[.string s] [] [] (fun _ : Unit => .bool (nameOK s)) (fun _ => []) (fun _ => []) := by
  refine spec_go (args := [.string s]) Tryz.func97 Tryz.ntmps97 rfl (by exact Nat.le_of_ble_eq_true rfl) fun B hB => ?_
  refine go_seq ?_
  refine go_region ⟨_, Tryz.func97⟩ rfl ?_
  refine q0 rfl (o_assign ?_)
  refine rg_nil ?_
  refine go_seq ?_
  refine go_seq ?_
  refine go_region ⟨_, Tryz.func97⟩ rfl ?_
  refine q0 rfl (o_move ?_)
  refine q0 rfl (o_lenStr ?_)
  refine q0 rfl (o_move ?_)
  refine rg_nil ?_
  refine go_block ?_
  refine go_loopI (X := Nat) (fun i => i ≤ s.size ∧ ∀ j, j < i → okAt s j = true) (fun i => [(0, .string s), (7, .int .i64 (s.size : Int)), (8, .int .i64 (i : Int))]) (fun i => []) (fun i => []) (fun i => s.size - i) (0) (⟨Nat.zero_le _, fun j hj => by omega⟩) (by exact ⟨rfl, rfl, rfl, trivial⟩) ?_ ?_
  · exact fun w hs => hs.none
  · intro i base0 ⟨hi, hok⟩ next0
    refine go_seq ?_
    refine go_region ⟨_, Tryz.func97⟩ rfl ?_
    refine q0 rfl (o_lss ?_)
    refine rg_nil ?_
    refine go_seq ?_
    refine go_condI (fun h9 => ?_) (fun h9 => ?_)
    · have hlt : i < s.size := by have := of_decide_eq_true h9; omega
      obtain ⟨c, hc, hca⟩ := byte_at hlt
      refine go_skip ?_
      refine go_seq ?_
      refine go_block ?_
      refine go_seq ?_
      refine go_region ⟨_, Tryz.func97⟩ rfl ?_
      refine q0 rfl (o_move ?_)
      refine q0 rfl (o_assign ?_)
      refine rg_nil ?_
      refine go_seq ?_
      refine go_region ⟨_, Tryz.func97⟩ rfl ?_
      refine q0 rfl (o_move ?_)
      refine q0 rfl (o_move ?_)
      refine q0 rfl (o_ixStr ?_)
      refine q0 rfl (o_assign ?_)
      refine rg_nil ?_
      refine go_seq ?_
      refine go_cutS ([(0, .string s), (3, .int .i64 (i : Int)), (4, .int .u8 c.toNat), (5, .bool (letter c.toNat)), (7, .int .i64 (s.size : Int)), (8, .int .i64 (i : Int))]) (fun hK => ?_) (fun base => ?_)
      · refine go_region ⟨_, Tryz.func97⟩ rfl ?_
        refine q0 rfl (o_move ?_)
        refine q0 rfl (o_geq ?_)
        refine q0 rfl (o_move ?_)
        refine qI rfl rfl rfl wl_ (fun hg16 => o_move ?_) (fun hg16 => ?_)
        · refine qT rfl rfl rfl (o_leq ?_)
          refine q0 rfl (o_pickT ?_)
          refine q0 rfl (o_move ?_)
          refine qI rfl rfl rfl wl_ (fun hg20 => o_move ?_) (fun hg20 => ?_)
          · refine qT rfl rfl rfl (o_geq ?_)
            refine qT rfl rfl rfl (o_move ?_)
            refine qI rfl rfl rfl wl_ (fun hg23 => o_move ?_) (fun hg23 => ?_)
            · refine qT rfl rfl rfl (o_leq ?_)
              refine qT rfl rfl rfl (o_pickT ?_)
              refine q0 rfl (o_pickF ?_)
              refine q0 rfl (o_move ?_)
              refine qI rfl rfl rfl wl_ (fun hg28 => o_move ?_) (fun hg28 => ?_)
              · refine qT rfl rfl rfl (o_eqI ?_)
                refine q0 rfl (o_pickF ?_)
                refine q0 rfl (o_assign ?_)
                refine rg_nil ?_
                exact hK _ ⟨rfl, rfl, rfl, (by (conv => lhs; whnf); first | (simp_all [letter]; done) | (simp_all [letter]; omega)), rfl, rfl, trivial⟩
              · refine qF rfl rfl rfl ?_
                refine q0 rfl (o_pickT ?_)
                refine q0 rfl (o_assign ?_)
                refine rg_nil ?_
                exact hK _ ⟨rfl, rfl, rfl, (by (conv => lhs; whnf); first | (simp_all [letter]; done) | (simp_all [letter]; omega)), rfl, rfl, trivial⟩
            · refine qF rfl rfl rfl ?_
              refine qT rfl rfl rfl (o_pickF ?_)
              refine q0 rfl (o_pickF ?_)
              refine q0 rfl (o_move ?_)
              refine qT rfl rfl rfl (o_move ?_)
              refine qT rfl rfl rfl (o_eqI ?_)
              refine q0 rfl (o_pickF ?_)
              refine q0 rfl (o_assign ?_)
              refine rg_nil ?_
              exact hK _ ⟨rfl, rfl, rfl, (by (conv => lhs; whnf); first | (simp_all [letter]; done) | (simp_all [letter]; omega)), rfl, rfl, trivial⟩
          · refine qF rfl rfl rfl ?_
            refine qF rfl rfl rfl ?_
            refine qU rfl rfl rfl ?_
            refine qU rfl rfl rfl ?_
            refine qF rfl rfl rfl ?_
            refine q0 rfl (o_pickT ?_)
            refine q0 rfl (o_move ?_)
            refine qF rfl rfl rfl ?_
            refine qF rfl rfl rfl ?_
            refine q0 rfl (o_pickT ?_)
            refine q0 rfl (o_assign ?_)
            refine rg_nil ?_
            exact hK _ ⟨rfl, rfl, rfl, (by (conv => lhs; whnf); first | (simp_all [letter]; done) | (simp_all [letter]; omega)), rfl, rfl, trivial⟩
        · refine qF rfl rfl rfl ?_
          refine q0 rfl (o_pickF ?_)
          refine q0 rfl (o_move ?_)
          refine qT rfl rfl rfl (o_move ?_)
          refine qT rfl rfl rfl (o_geq ?_)
          refine qT rfl rfl rfl (o_move ?_)
          refine qI rfl rfl rfl wl_ (fun hg23 => o_move ?_) (fun hg23 => ?_)
          · refine qT rfl rfl rfl (o_leq ?_)
            refine qT rfl rfl rfl (o_pickT ?_)
            refine q0 rfl (o_pickF ?_)
            refine q0 rfl (o_move ?_)
            refine qI rfl rfl rfl wl_ (fun hg28 => o_move ?_) (fun hg28 => ?_)
            · refine qT rfl rfl rfl (o_eqI ?_)
              refine q0 rfl (o_pickF ?_)
              refine q0 rfl (o_assign ?_)
              refine rg_nil ?_
              exact hK _ ⟨rfl, rfl, rfl, (by (conv => lhs; whnf); first | (simp_all [letter]; done) | (simp_all [letter]; omega)), rfl, rfl, trivial⟩
            · refine qF rfl rfl rfl ?_
              refine q0 rfl (o_pickT ?_)
              refine q0 rfl (o_assign ?_)
              refine rg_nil ?_
              exact hK _ ⟨rfl, rfl, rfl, (by (conv => lhs; whnf); first | (simp_all [letter]; done) | (simp_all [letter]; omega)), rfl, rfl, trivial⟩
          · refine qF rfl rfl rfl ?_
            refine qT rfl rfl rfl (o_pickF ?_)
            refine q0 rfl (o_pickF ?_)
            refine q0 rfl (o_move ?_)
            refine qT rfl rfl rfl (o_move ?_)
            refine qT rfl rfl rfl (o_eqI ?_)
            refine q0 rfl (o_pickF ?_)
            refine q0 rfl (o_assign ?_)
            refine rg_nil ?_
            exact hK _ ⟨rfl, rfl, rfl, (by (conv => lhs; whnf); first | (simp_all [letter]; done) | (simp_all [letter]; omega)), rfl, rfl, trivial⟩
      · refine go_seq ?_
        refine go_cutS ([(0, .string s), (7, .int .i64 (s.size : Int)), (8, .int .i64 (i : Int)), (45, .bool (!(okAt s i)))]) (fun hK => ?_) (fun base => ?_)
        · refine go_region ⟨_, Tryz.func97⟩ rfl ?_
          refine q0 rfl (o_move ?_)
          refine q0 rfl (o_not ?_)
          refine q0 rfl (o_move ?_)
          refine qI rfl rfl rfl wl_ (fun hg34 => o_move ?_) (fun hg34 => ?_)
          · refine qT rfl rfl rfl (o_eqI ?_)
            refine qT rfl rfl rfl (o_move ?_)
            refine qI rfl rfl rfl wl_ (fun hg37 => o_move ?_) (fun hg37 => ?_)
            · refine qT rfl rfl rfl (o_lss ?_)
              refine qT rfl rfl rfl (o_pickF ?_)
              refine qT rfl rfl rfl (o_move ?_)
              refine qI rfl rfl rfl wl_ (fun hg41 => o_move ?_) (fun hg41 => ?_)
              · refine qT rfl rfl rfl (o_gtr ?_)
                refine qT rfl rfl rfl (o_pickF ?_)
                refine q0 rfl (o_pickT ?_)
                refine rg_nil ?_
                exact hK _ ⟨rfl, rfl, rfl, (by (conv => lhs; whnf); rw [hca]; first | (simp_all [digit]; done) | (simp_all [digit]; omega) | (simp_all [digit]; rw [← decide_not]; congr 1; apply propext; omega)), trivial⟩
              · refine qF rfl rfl rfl ?_
                refine qT rfl rfl rfl (o_pickT ?_)
                refine q0 rfl (o_pickT ?_)
                refine rg_nil ?_
                exact hK _ ⟨rfl, rfl, rfl, (by (conv => lhs; whnf); rw [hca]; first | (simp_all [digit]; done) | (simp_all [digit]; omega) | (simp_all [digit]; rw [← decide_not]; congr 1; apply propext; omega)), trivial⟩
            · refine qF rfl rfl rfl ?_
              refine qT rfl rfl rfl (o_pickT ?_)
              refine qT rfl rfl rfl (o_move ?_)
              refine qF rfl rfl rfl ?_
              refine qF rfl rfl rfl ?_
              refine qT rfl rfl rfl (o_pickT ?_)
              refine q0 rfl (o_pickT ?_)
              refine rg_nil ?_
              exact hK _ ⟨rfl, rfl, rfl, (by (conv => lhs; whnf); rw [hca]; first | (simp_all [digit]; done) | (simp_all [digit]; omega) | (simp_all [digit]; rw [← decide_not]; congr 1; apply propext; omega)), trivial⟩
          · refine qF rfl rfl rfl ?_
            refine qF rfl rfl rfl ?_
            refine qU rfl rfl rfl ?_
            refine qU rfl rfl rfl ?_
            refine qF rfl rfl rfl ?_
            refine qF rfl rfl rfl ?_
            refine qU rfl rfl rfl ?_
            refine qU rfl rfl rfl ?_
            refine qF rfl rfl rfl ?_
            refine q0 rfl (o_pickF ?_)
            refine rg_nil ?_
            exact hK _ ⟨rfl, rfl, rfl, (by (conv => lhs; whnf); rw [hca]; first | (simp_all [digit]; done) | (simp_all [digit]; omega) | (simp_all [digit]; rw [← decide_not]; congr 1; apply propext; omega)), trivial⟩
        · refine go_condI (fun h45 => ?_) (fun h45 => ?_)
          · refine go_seq ?_
            refine go_region ⟨_, Tryz.func97⟩ rfl ?_
            refine q0 rfl (o_assign ?_)
            refine rg_nil ?_
            refine ret1 Tryz.func97 Tryz.results97 wn_ () (by rw [nameOK_not hlt (by simpa using h45)]) (fun w hs => hs.none)
          · refine go_skip ?_
            refine go_inBlock ?_
            refine go_region ⟨_, Tryz.func97⟩ rfl ?_
            refine q0 rfl (o_add ?_)
            refine q0 rfl (o_move ?_)
            refine rg_nil ?_
            have hb : okAt s i = true := by simpa using h45
            refine go_state (fun w hs => hs) (next0 (i + 1) _ ⟨hlt, fun j hj => (by rcases Nat.lt_succ_iff_lt_or_eq.mp hj with h | h; exact hok j h; subst h; exact hb)⟩ (by omega) ⟨rfl, rfl, rfl, trivial⟩)
    · have hge : i = s.size := by have := of_decide_eq_false h9; omega
      refine go_exit rfl ?_
      refine go_seq ?_
      refine go_region ⟨_, Tryz.func97⟩ rfl ?_
      refine q0 rfl (o_move ?_)
      refine q0 rfl (o_neS ?_)
      refine q0 rfl (o_assign ?_)
      refine rg_nil ?_
      refine ret1 Tryz.func97 Tryz.results97 wn_ () (by rw [nameOK_all (by rw [← hge]; exact hok), empty_eq]; rfl) (fun w hs => hs.none)
theorem within_spec (hF : FDims) (l : List Cl) (a : SH) (dims : Int) (h0 : 0 ≤ dims) (hl : in64 dims) : Spec Tryz.prog 99 #[sl a l.length, .int .i64 dims] [CL l a] [] (fun _ : Unit => .bool (within l dims)) (fun _ => []) (fun _ => []) := by
  refine spec_go (args := [sl a l.length, .int .i64 dims]) Tryz.func99 Tryz.ntmps99 rfl (by exact Nat.le_of_ble_eq_true rfl) fun B hB => ?_
  refine go_seq ?_
  refine go_region ⟨_, Tryz.func99⟩ rfl ?_
  refine q0 rfl (o_assign ?_)
  refine rg_nil ?_
  refine go_seq ?_
  refine go_region ⟨_, Tryz.func99⟩ rfl ?_
  refine q0 rfl (o_move ?_)
  refine q0 rfl (o_geq ?_)
  refine q0 rfl (o_move ?_)
  refine qI rfl rfl rfl wl_ (fun hg7 => o_move ?_) (fun hg7 => ?_)
  · refine qT rfl rfl rfl (o_call Tryz.call40 (hF l a) (fun x9 => ?_))
    refine qT rfl rfl rfl (o_move ?_)
    refine qT rfl rfl rfl (o_conv ?_)
    refine qT rfl rfl rfl (o_shrU32 ?_ (m := dims.toNat) (hy := congrArg (Value.int .u64) (toNat_u64 h0 hl)))
    refine qT rfl rfl rfl (o_eqI ?_)
    refine q0 rfl (o_pickF ?_)
    refine q0 rfl (o_assign ?_)
    refine rg_nil ?_
    refine ret1 Tryz.func99 Tryz.results99 wn_ () (by first | (simp_all [within]; done) | (simp_all [within]; intros; omega)) (fun w hs => hs.none)
  · refine qF rfl rfl rfl ?_
    refine qF rfl rfl rfl ?_
    refine qF rfl rfl rfl ?_
    refine qF rfl rfl rfl ?_
    refine qF rfl rfl rfl ?_
    refine q0 rfl (o_pickT ?_)
    refine q0 rfl (o_assign ?_)
    refine rg_nil ?_
    refine ret1 Tryz.func99 Tryz.results99 wn_ () (by first | (simp_all [within]; done) | (simp_all [within]; intros; omega)) (fun w hs => hs.none)
end Go.Hy
namespace Go.Hy
set_option linter.unusedVariables false
set_option linter.unusedSimpArgs false
set_option linter.unusedSectionVars false
open Go.Proofs
set_option linter.unusedVariables false
set_option linter.unusedSimpArgs false
set_option maxRecDepth 100000
theorem own_spec (t : T) (hf : plain1 t = true ∨ FORM) (vr vk vs : SH) (vars dims : Int) (hd : 0 ≤ dims) (hl : in64 dims) : Spec Tryz.prog 87 #[.agg (tc t vr vk vs).toArray, .int .i64 vars, .int .i64 dims] [RT t vr vk vs] [] (fun _ : Unit => .bool (ownP t vars dims)) (fun _ => []) (fun _ => []) := by
  refine spec_go (args := [.agg (tc t vr vk vs).toArray, .int .i64 vars, .int .i64 dims]) Tryz.func87 Tryz.ntmps87 rfl (by exact Nat.le_of_ble_eq_true rfl) fun B hB => ?_
  refine go_open (fun hk hn hnm => ?_)
  refine go_openTL (ts := t.kids) (fun VR VK VS hl1 hA1 => ?_)
  refine go_openBL (bs := t.sys) (fun VF VK2 hl2 hA2 => ?_)
  refine go_seq ?_
  refine go_region ⟨_, Tryz.func87⟩ rfl ?_
  refine q0 rfl (o_box fun b3 => ?_)
  refine q0 rfl (o_assign ?_)
  refine rg_nil ?_
  refine go_seq ?_
  refine go_seq ?_
  refine go_cutS ([(1, .int .i64 vars), (2, .int .i64 dims), (3, .pointer (some ⟨b3, 0, none⟩)), (47, .bool (own1 t))]) (fun hK => ?_) (fun base => ?_)
  · refine go_draw (tn := false) (A := [0, 1, 3, 0, 8, 24, 63, 127, 255, 511, 1023, 2047, 4095, 8191, 16383, 32767, 65535, 131071, 262143, 524287, 1048575, 2097151, 4194303, 8388607, 16777215, 33554431, 67108863, 134217727, 268435455, 536870911, 1073741823, 2147483647, 4294967295, 8589934591, 17179869183, 34359738367, 68719476735, 137438953471, 274877906943]) (l := [0, 1, 3, 4, 5, 2, 6, 7, 8, 9, 10, 11, 12, 13, 14, 15, 16, 17, 18, 19, 20, 21, 22, 23, 24, 25, 26, 27, 28, 29, 30, 31, 32, 33, 34, 35, 36, 37, 38]) (fin := []) Tab.mixed ⟨_, Tryz.func87⟩ (by rfl) ?_
    refine n0 rfl (v_fa ?_)
    refine n0 rfl (v_ld ?_)
    refine n0 rfl (v_fa ?_)
    refine n0 rfl (v_ld ?_)
    refine n0 rfl (v_len ?_)
    refine n0 rfl (v_call Tryz.call95 (kids_spec t.kind) (fun x11 => ?_))
    refine n0 rfl (v_neI ?_)
    refine n0 rfl (v_move ?_)
    refine nI rfl rfl rfl wl_ (fun hg16 => v_fa ?_) (fun hg16 => ?_)
    · refine nT rfl rfl rfl (v_ld ?_)
      refine nT rfl rfl rfl (v_neI ?_)
      refine nT rfl rfl rfl (v_move ?_)
      refine nI rfl rfl rfl wl_ (fun hg20 => v_fa ?_) (fun hg20 => ?_)
      · refine nT rfl rfl rfl (v_ld ?_)
        refine nT rfl rfl rfl (v_neI ?_)
        refine nT rfl rfl rfl (v_pickT ?_)
        refine n0 rfl (v_pickF ?_)
        refine n0 rfl (v_move ?_)
        refine nI rfl rfl rfl wl_ (fun hg26 => v_fa ?_) (fun hg26 => ?_)
        · refine nT rfl rfl rfl (v_ld ?_)
          refine nT rfl rfl rfl (v_neI ?_)
          refine nT rfl rfl rfl (v_move ?_)
          refine nI rfl rfl rfl wl_ (fun hg30 => v_fa ?_) (fun hg30 => ?_)
          · refine nT rfl rfl rfl (v_ld ?_)
            refine nT rfl rfl rfl (v_neS ?_)
            refine nT rfl rfl rfl (v_pickT ?_)
            refine n0 rfl (v_pickF ?_)
            refine n0 rfl (v_move ?_)
            refine nI rfl rfl rfl wl_ (fun hg36 => v_fa ?_) (fun hg36 => ?_)
            · refine nT rfl rfl rfl (v_ld ?_)
              refine nT rfl rfl rfl (v_call Tryz.call96 (parts_spec t.kind) (fun x39 => ?_))
              refine nT rfl rfl rfl (v_eqI ?_)
              refine nT rfl rfl rfl (v_move ?_)
              refine nI rfl rfl rfl wl_ (fun hg41 => v_fa ?_) (fun hg41 => ?_)
              · refine nT rfl rfl rfl (v_ld ?_)
                refine nT rfl rfl rfl (v_len ?_)
                refine nT rfl rfl rfl (v_gtr ?_)
                refine nT rfl rfl rfl (v_pickT ?_)
                refine n0 rfl (v_pickF ?_)
                refine NV.done ?_
                refine rg_nil ?_
                exact hK _ ⟨rfl, rfl, rfl, (by (conv => lhs; whnf); first | (simp_all [own1]; done) | (simp_all [own1]; omega)), trivial⟩
              · refine nF rfl rfl rfl ?_
                refine nF rfl rfl rfl ?_
                refine nF rfl rfl rfl ?_
                refine nT rfl rfl rfl (v_pickF ?_)
                refine n0 rfl (v_pickF ?_)
                refine NV.done ?_
                refine rg_nil ?_
                exact hK _ ⟨rfl, rfl, rfl, (by (conv => lhs; whnf); first | (simp_all [own1]; done) | (simp_all [own1]; omega)), trivial⟩
            · refine nF rfl rfl rfl ?_
              refine nF rfl rfl rfl ?_
              refine nF rfl rfl rfl ?_
              refine nF rfl rfl rfl ?_
              refine nU rfl rfl rfl ?_
              refine nU rfl rfl rfl ?_
              refine nU rfl rfl rfl ?_
              refine nU rfl rfl rfl ?_
              refine nF rfl rfl rfl ?_
              refine n0 rfl (v_pickT ?_)
              refine NV.done ?_
              refine rg_nil ?_
              exact hK _ ⟨rfl, rfl, rfl, (by (conv => lhs; whnf); first | (simp_all [own1]; done) | (simp_all [own1]; omega)), trivial⟩
          · refine nF rfl rfl rfl ?_
            refine nF rfl rfl rfl ?_
            refine nT rfl rfl rfl (v_pickF ?_)
            refine n0 rfl (v_pickF ?_)
            refine n0 rfl (v_move ?_)
            refine nT rfl rfl rfl (v_fa ?_)
            refine nT rfl rfl rfl (v_ld ?_)
            refine nT rfl rfl rfl (v_call Tryz.call96 (parts_spec t.kind) (fun x39 => ?_))
            refine nT rfl rfl rfl (v_eqI ?_)
            refine nT rfl rfl rfl (v_move ?_)
            refine nI rfl rfl rfl wl_ (fun hg41 => v_fa ?_) (fun hg41 => ?_)
            · refine nT rfl rfl rfl (v_ld ?_)
              refine nT rfl rfl rfl (v_len ?_)
              refine nT rfl rfl rfl (v_gtr ?_)
              refine nT rfl rfl rfl (v_pickT ?_)
              refine n0 rfl (v_pickF ?_)
              refine NV.done ?_
              refine rg_nil ?_
              exact hK _ ⟨rfl, rfl, rfl, (by (conv => lhs; whnf); first | (simp_all [own1]; done) | (simp_all [own1]; omega)), trivial⟩
            · refine nF rfl rfl rfl ?_
              refine nF rfl rfl rfl ?_
              refine nF rfl rfl rfl ?_
              refine nT rfl rfl rfl (v_pickF ?_)
              refine n0 rfl (v_pickF ?_)
              refine NV.done ?_
              refine rg_nil ?_
              exact hK _ ⟨rfl, rfl, rfl, (by (conv => lhs; whnf); first | (simp_all [own1]; done) | (simp_all [own1]; omega)), trivial⟩
        · refine nF rfl rfl rfl ?_
          refine nF rfl rfl rfl ?_
          refine nF rfl rfl rfl ?_
          refine nU rfl rfl rfl ?_
          refine nU rfl rfl rfl ?_
          refine nU rfl rfl rfl ?_
          refine nF rfl rfl rfl ?_
          refine n0 rfl (v_pickT ?_)
          refine n0 rfl (v_move ?_)
          refine nF rfl rfl rfl ?_
          refine nF rfl rfl rfl ?_
          refine nF rfl rfl rfl ?_
          refine nF rfl rfl rfl ?_
          refine nF rfl rfl rfl ?_
          refine nU rfl rfl rfl ?_
          refine nU rfl rfl rfl ?_
          refine nU rfl rfl rfl ?_
          refine nU rfl rfl rfl ?_
          refine nF rfl rfl rfl ?_
          refine n0 rfl (v_pickT ?_)
          refine NV.done ?_
          refine rg_nil ?_
          exact hK _ ⟨rfl, rfl, rfl, (by (conv => lhs; whnf); first | (simp_all [own1]; done) | (simp_all [own1]; omega)), trivial⟩
      · refine nF rfl rfl rfl ?_
        refine nF rfl rfl rfl ?_
        refine nT rfl rfl rfl (v_pickF ?_)
        refine n0 rfl (v_pickF ?_)
        refine n0 rfl (v_move ?_)
        refine nT rfl rfl rfl (v_fa ?_)
        refine nT rfl rfl rfl (v_ld ?_)
        refine nT rfl rfl rfl (v_neI ?_)
        refine nT rfl rfl rfl (v_move ?_)
        refine nI rfl rfl rfl wl_ (fun hg30 => v_fa ?_) (fun hg30 => ?_)
        · refine nT rfl rfl rfl (v_ld ?_)
          refine nT rfl rfl rfl (v_neS ?_)
          refine nT rfl rfl rfl (v_pickT ?_)
          refine n0 rfl (v_pickF ?_)
          refine n0 rfl (v_move ?_)
          refine nI rfl rfl rfl wl_ (fun hg36 => v_fa ?_) (fun hg36 => ?_)
          · refine nT rfl rfl rfl (v_ld ?_)
            refine nT rfl rfl rfl (v_call Tryz.call96 (parts_spec t.kind) (fun x39 => ?_))
            refine nT rfl rfl rfl (v_eqI ?_)
            refine nT rfl rfl rfl (v_move ?_)
            refine nI rfl rfl rfl wl_ (fun hg41 => v_fa ?_) (fun hg41 => ?_)
            · refine nT rfl rfl rfl (v_ld ?_)
              refine nT rfl rfl rfl (v_len ?_)
              refine nT rfl rfl rfl (v_gtr ?_)
              refine nT rfl rfl rfl (v_pickT ?_)
              refine n0 rfl (v_pickF ?_)
              refine NV.done ?_
              refine rg_nil ?_
              exact hK _ ⟨rfl, rfl, rfl, (by (conv => lhs; whnf); first | (simp_all [own1]; done) | (simp_all [own1]; omega)), trivial⟩
            · refine nF rfl rfl rfl ?_
              refine nF rfl rfl rfl ?_
              refine nF rfl rfl rfl ?_
              refine nT rfl rfl rfl (v_pickF ?_)
              refine n0 rfl (v_pickF ?_)
              refine NV.done ?_
              refine rg_nil ?_
              exact hK _ ⟨rfl, rfl, rfl, (by (conv => lhs; whnf); first | (simp_all [own1]; done) | (simp_all [own1]; omega)), trivial⟩
          · refine nF rfl rfl rfl ?_
            refine nF rfl rfl rfl ?_
            refine nF rfl rfl rfl ?_
            refine nF rfl rfl rfl ?_
            refine nU rfl rfl rfl ?_
            refine nU rfl rfl rfl ?_
            refine nU rfl rfl rfl ?_
            refine nU rfl rfl rfl ?_
            refine nF rfl rfl rfl ?_
            refine n0 rfl (v_pickT ?_)
            refine NV.done ?_
            refine rg_nil ?_
            exact hK _ ⟨rfl, rfl, rfl, (by (conv => lhs; whnf); first | (simp_all [own1]; done) | (simp_all [own1]; omega)), trivial⟩
        · refine nF rfl rfl rfl ?_
          refine nF rfl rfl rfl ?_
          refine nT rfl rfl rfl (v_pickF ?_)
          refine n0 rfl (v_pickF ?_)
          refine n0 rfl (v_move ?_)
          refine nT rfl rfl rfl (v_fa ?_)
          refine nT rfl rfl rfl (v_ld ?_)
          refine nT rfl rfl rfl (v_call Tryz.call96 (parts_spec t.kind) (fun x39 => ?_))
          refine nT rfl rfl rfl (v_eqI ?_)
          refine nT rfl rfl rfl (v_move ?_)
          refine nI rfl rfl rfl wl_ (fun hg41 => v_fa ?_) (fun hg41 => ?_)
          · refine nT rfl rfl rfl (v_ld ?_)
            refine nT rfl rfl rfl (v_len ?_)
            refine nT rfl rfl rfl (v_gtr ?_)
            refine nT rfl rfl rfl (v_pickT ?_)
            refine n0 rfl (v_pickF ?_)
            refine NV.done ?_
            refine rg_nil ?_
            exact hK _ ⟨rfl, rfl, rfl, (by (conv => lhs; whnf); first | (simp_all [own1]; done) | (simp_all [own1]; omega)), trivial⟩
          · refine nF rfl rfl rfl ?_
            refine nF rfl rfl rfl ?_
            refine nF rfl rfl rfl ?_
            refine nT rfl rfl rfl (v_pickF ?_)
            refine n0 rfl (v_pickF ?_)
            refine NV.done ?_
            refine rg_nil ?_
            exact hK _ ⟨rfl, rfl, rfl, (by (conv => lhs; whnf); first | (simp_all [own1]; done) | (simp_all [own1]; omega)), trivial⟩
    · refine nF rfl rfl rfl ?_
      refine nF rfl rfl rfl ?_
      refine nF rfl rfl rfl ?_
      refine nU rfl rfl rfl ?_
      refine nU rfl rfl rfl ?_
      refine nU rfl rfl rfl ?_
      refine nF rfl rfl rfl ?_
      refine n0 rfl (v_pickT ?_)
      refine n0 rfl (v_move ?_)
      refine nF rfl rfl rfl ?_
      refine nF rfl rfl rfl ?_
      refine nF rfl rfl rfl ?_
      refine nF rfl rfl rfl ?_
      refine nU rfl rfl rfl ?_
      refine nU rfl rfl rfl ?_
      refine nU rfl rfl rfl ?_
      refine nF rfl rfl rfl ?_
      refine n0 rfl (v_pickT ?_)
      refine n0 rfl (v_move ?_)
      refine nF rfl rfl rfl ?_
      refine nF rfl rfl rfl ?_
      refine nF rfl rfl rfl ?_
      refine nF rfl rfl rfl ?_
      refine nF rfl rfl rfl ?_
      refine nU rfl rfl rfl ?_
      refine nU rfl rfl rfl ?_
      refine nU rfl rfl rfl ?_
      refine nU rfl rfl rfl ?_
      refine nF rfl rfl rfl ?_
      refine n0 rfl (v_pickT ?_)
      refine NV.done ?_
      refine rg_nil ?_
      exact hK _ ⟨rfl, rfl, rfl, (by (conv => lhs; whnf); first | (simp_all [own1]; done) | (simp_all [own1]; omega)), trivial⟩
  · refine go_condI (fun h47 => ?_) (fun h47 => ?_)
    · refine go_seq ?_
      refine go_region ⟨_, Tryz.func87⟩ rfl ?_
      refine q0 rfl (o_assign ?_)
      refine rg_nil ?_
      refine ret1 Tryz.func87 Tryz.results87 wn_ () (by simp [ownP, h47]) (fun w hs => hs.none)
    · refine go_skip ?_
      refine go_seq ?_
      refine go_seq ?_
      refine go_region ⟨_, Tryz.func87⟩ rfl ?_
      refine q0 rfl (o_fa ?_)
      refine q0 rfl (o_ld ?_)
      refine rg_nil ?_
      refine go_block ?_
      refine go_seq ?_
      refine go_region ⟨_, Tryz.func87⟩ rfl ?_
      refine q0 rfl (o_eqI ?_)
      refine q0 rfl (o_assign ?_)
      refine rg_nil ?_
      refine go_condI (fun h50 => ?_) (fun h50 => ?_)
      · refine go_seq ?_
        refine go_cutS ([(6, .bool (decide ((t.r.length : Int) = 0) && decide (0 ≤ t.n) && (decide (vars < 0) || decide (t.n < vars))))]) (fun hK => ?_) (fun base => ?_)
        · refine go_region ⟨_, Tryz.func87⟩ rfl ?_
          refine q0 rfl (o_fa ?_)
          refine q0 rfl (o_ld ?_)
          refine q0 rfl (o_len ?_)
          refine q0 rfl (o_eqI ?_)
          refine q0 rfl (o_move ?_)
          refine qI rfl rfl rfl wl_ (fun hg56 => o_fa ?_) (fun hg56 => ?_)
          · refine qT rfl rfl rfl (o_ld ?_)
            refine qT rfl rfl rfl (o_geq ?_)
            refine q0 rfl (o_pickT ?_)
            refine q0 rfl (o_move ?_)
            refine qI rfl rfl rfl wl_ (fun hg61 => o_move ?_) (fun hg61 => ?_)
            · refine qT rfl rfl rfl (o_lss ?_)
              refine qT rfl rfl rfl (o_move ?_)
              refine qI rfl rfl rfl wl_ (fun hg64 => o_fa ?_) (fun hg64 => ?_)
              · refine qT rfl rfl rfl (o_ld ?_)
                refine qT rfl rfl rfl (o_move ?_)
                refine qT rfl rfl rfl (o_lss ?_)
                refine qT rfl rfl rfl (o_pickF ?_)
                refine q0 rfl (o_pickT ?_)
                refine q0 rfl (o_assign ?_)
                refine rg_nil ?_
                exact hK _ ⟨(by (conv => lhs; whnf); first | (simp_all [Bool.and_assoc]; done) | (simp_all [Bool.and_assoc]; omega)), trivial⟩
              · refine qF rfl rfl rfl ?_
                refine qF rfl rfl rfl ?_
                refine qF rfl rfl rfl ?_
                refine qT rfl rfl rfl (o_pickT ?_)
                refine q0 rfl (o_pickT ?_)
                refine q0 rfl (o_assign ?_)
                refine rg_nil ?_
                exact hK _ ⟨(by (conv => lhs; whnf); first | (simp_all [Bool.and_assoc]; done) | (simp_all [Bool.and_assoc]; omega)), trivial⟩
            · refine qF rfl rfl rfl ?_
              refine qF rfl rfl rfl ?_
              refine qU rfl rfl rfl ?_
              refine qU rfl rfl rfl ?_
              refine qU rfl rfl rfl ?_
              refine qU rfl rfl rfl ?_
              refine qF rfl rfl rfl ?_
              refine q0 rfl (o_pickF ?_)
              refine q0 rfl (o_assign ?_)
              refine rg_nil ?_
              exact hK _ ⟨(by (conv => lhs; whnf); first | (simp_all [Bool.and_assoc]; done) | (simp_all [Bool.and_assoc]; omega)), trivial⟩
          · refine qF rfl rfl rfl ?_
            refine qF rfl rfl rfl ?_
            refine q0 rfl (o_pickF ?_)
            refine q0 rfl (o_move ?_)
            refine qF rfl rfl rfl ?_
            refine qF rfl rfl rfl ?_
            refine qF rfl rfl rfl ?_
            refine qU rfl rfl rfl ?_
            refine qU rfl rfl rfl ?_
            refine qU rfl rfl rfl ?_
            refine qU rfl rfl rfl ?_
            refine qF rfl rfl rfl ?_
            refine q0 rfl (o_pickF ?_)
            refine q0 rfl (o_assign ?_)
            refine rg_nil ?_
            exact hK _ ⟨(by (conv => lhs; whnf); first | (simp_all [Bool.and_assoc]; done) | (simp_all [Bool.and_assoc]; omega)), trivial⟩
        · refine ret1 Tryz.func87 Tryz.results87 wn_ () (by simp_all [ownP, Bool.and_assoc]) (fun w hs => hs.none)
      · refine go_seq ?_
        refine go_region ⟨_, Tryz.func87⟩ rfl ?_
        refine q0 rfl (o_eqI ?_)
        refine q0 rfl (o_assign ?_)
        refine rg_nil ?_
        refine go_condI (fun h71 => ?_) (fun h71 => ?_)
        · refine go_seq ?_
          refine go_cutS ([(6, .bool (decide ((t.r.length : Int) = 0) && nameOK t.name))]) (fun hK => ?_) (fun base => ?_)
          · refine go_region ⟨_, Tryz.func87⟩ rfl ?_
            refine q0 rfl (o_fa ?_)
            refine q0 rfl (o_ld ?_)
            refine q0 rfl (o_len ?_)
            refine q0 rfl (o_eqI ?_)
            refine q0 rfl (o_move ?_)
            refine qI rfl rfl rfl wl_ (fun hg77 => o_fa ?_) (fun hg77 => ?_)
            · refine qT rfl rfl rfl (o_ld ?_)
              refine qT rfl rfl rfl (o_call Tryz.call97 (name_spec t.name hnm) (fun x80 => ?_))
              refine q0 rfl (o_pickT ?_)
              refine q0 rfl (o_assign ?_)
              refine rg_nil ?_
              exact hK _ ⟨(by (conv => lhs; whnf); first | (simp_all [Bool.and_assoc]; done) | (simp_all [Bool.and_assoc]; omega)), trivial⟩
            · refine qF rfl rfl rfl ?_
              refine qF rfl rfl rfl ?_
              refine q0 rfl (o_pickF ?_)
              refine q0 rfl (o_assign ?_)
              refine rg_nil ?_
              exact hK _ ⟨(by (conv => lhs; whnf); first | (simp_all [Bool.and_assoc]; done) | (simp_all [Bool.and_assoc]; omega)), trivial⟩
          · refine ret1 Tryz.func87 Tryz.results87 wn_ () (by simp_all [ownP, Bool.and_assoc]) (fun w hs => hs.none)
        · refine go_seq ?_
          refine go_seq ?_
          refine go_region ⟨_, Tryz.func87⟩ rfl ?_
          refine q0 rfl (o_eqI ?_)
          refine q0 rfl (o_assign ?_)
          refine rg_nil ?_
          refine go_condI (fun h82 => ?_) (fun h82 => ?_)
          · refine go_skip ?_
            refine go_condT ?_
            refine go_seq ?_
            refine go_cutS ([(6, .bool (fRight t.r && within t.r dims))]) (fun hK => ?_) (fun base => ?_)
            · refine go_region ⟨_, Tryz.func87⟩ rfl ?_
              refine q0 rfl (o_fa ?_)
              refine q0 rfl (o_ld ?_)
              refine q0 rfl (o_call Tryz.call98 ((form_kind hf (by simp_all)).1 t.r vr) (fun x88 => ?_))
              refine q0 rfl (o_move ?_)
              refine qI rfl rfl rfl wl_ (fun hg89 => o_fa ?_) (fun hg89 => ?_)
              · refine qT rfl rfl rfl (o_ld ?_)
                refine qT rfl rfl rfl (o_move ?_)
                refine qT rfl rfl rfl (o_call Tryz.call99 (within_spec (form_kind hf (by simp_all)).2.2 t.r vr dims hd hl) (fun x93 => ?_))
                refine q0 rfl (o_pickT ?_)
                refine q0 rfl (o_assign ?_)
                refine rg_nil ?_
                exact hK _ ⟨(by (conv => lhs; whnf); first | (simp_all [Bool.and_assoc]; done) | (simp_all [Bool.and_assoc]; omega)), trivial⟩
              · refine qF rfl rfl rfl ?_
                refine qF rfl rfl rfl ?_
                refine qF rfl rfl rfl ?_
                refine q0 rfl (o_pickF ?_)
                refine q0 rfl (o_assign ?_)
                refine rg_nil ?_
                exact hK _ ⟨(by (conv => lhs; whnf); first | (simp_all [Bool.and_assoc]; done) | (simp_all [Bool.and_assoc]; omega)), trivial⟩
            · refine ret1 Tryz.func87 Tryz.results87 wn_ () (by simp_all [ownP, Bool.and_assoc]) (fun w hs => hs.none)
          · refine go_seq ?_
            refine go_region ⟨_, Tryz.func87⟩ rfl ?_
            refine q0 rfl (o_eqI ?_)
            refine q0 rfl (o_assign ?_)
            refine rg_nil ?_
            refine go_condI (fun h82 => ?_) (fun h82 => ?_)
            · refine go_skip ?_
              refine go_condT ?_
              refine go_seq ?_
              refine go_cutS ([(6, .bool (fRight t.r && within t.r dims))]) (fun hK => ?_) (fun base => ?_)
              · refine go_region ⟨_, Tryz.func87⟩ rfl ?_
                refine q0 rfl (o_fa ?_)
                refine q0 rfl (o_ld ?_)
                refine q0 rfl (o_call Tryz.call98 ((form_kind hf (by simp_all)).1 t.r vr) (fun x88 => ?_))
                refine q0 rfl (o_move ?_)
                refine qI rfl rfl rfl wl_ (fun hg89 => o_fa ?_) (fun hg89 => ?_)
                · refine qT rfl rfl rfl (o_ld ?_)
                  refine qT rfl rfl rfl (o_move ?_)
                  refine qT rfl rfl rfl (o_call Tryz.call99 (within_spec (form_kind hf (by simp_all)).2.2 t.r vr dims hd hl) (fun x93 => ?_))
                  refine q0 rfl (o_pickT ?_)
                  refine q0 rfl (o_assign ?_)
                  refine rg_nil ?_
                  exact hK _ ⟨(by (conv => lhs; whnf); first | (simp_all [Bool.and_assoc]; done) | (simp_all [Bool.and_assoc]; omega)), trivial⟩
                · refine qF rfl rfl rfl ?_
                  refine qF rfl rfl rfl ?_
                  refine qF rfl rfl rfl ?_
                  refine q0 rfl (o_pickF ?_)
                  refine q0 rfl (o_assign ?_)
                  refine rg_nil ?_
                  exact hK _ ⟨(by (conv => lhs; whnf); first | (simp_all [Bool.and_assoc]; done) | (simp_all [Bool.and_assoc]; omega)), trivial⟩
              · refine ret1 Tryz.func87 Tryz.results87 wn_ () (by simp_all [ownP, Bool.and_assoc]) (fun w hs => hs.none)
            · refine go_region ⟨_, Tryz.func87⟩ rfl ?_
              refine q0 rfl (o_eqI ?_)
              refine q0 rfl (o_assign ?_)
              refine rg_nil ?_
              refine go_condI (fun h82 => ?_) (fun h82 => ?_)
              · refine go_seq ?_
                refine go_cutS ([(6, .bool (fRight t.r && within t.r dims))]) (fun hK => ?_) (fun base => ?_)
                · refine go_region ⟨_, Tryz.func87⟩ rfl ?_
                  refine q0 rfl (o_fa ?_)
                  refine q0 rfl (o_ld ?_)
                  refine q0 rfl (o_call Tryz.call98 ((form_kind hf (by simp_all)).1 t.r vr) (fun x88 => ?_))
                  refine q0 rfl (o_move ?_)
                  refine qI rfl rfl rfl wl_ (fun hg89 => o_fa ?_) (fun hg89 => ?_)
                  · refine qT rfl rfl rfl (o_ld ?_)
                    refine qT rfl rfl rfl (o_move ?_)
                    refine qT rfl rfl rfl (o_call Tryz.call99 (within_spec (form_kind hf (by simp_all)).2.2 t.r vr dims hd hl) (fun x93 => ?_))
                    refine q0 rfl (o_pickT ?_)
                    refine q0 rfl (o_assign ?_)
                    refine rg_nil ?_
                    exact hK _ ⟨(by (conv => lhs; whnf); first | (simp_all [Bool.and_assoc]; done) | (simp_all [Bool.and_assoc]; omega)), trivial⟩
                  · refine qF rfl rfl rfl ?_
                    refine qF rfl rfl rfl ?_
                    refine qF rfl rfl rfl ?_
                    refine q0 rfl (o_pickF ?_)
                    refine q0 rfl (o_assign ?_)
                    refine rg_nil ?_
                    exact hK _ ⟨(by (conv => lhs; whnf); first | (simp_all [Bool.and_assoc]; done) | (simp_all [Bool.and_assoc]; omega)), trivial⟩
                · refine ret1 Tryz.func87 Tryz.results87 wn_ () (by simp_all [ownP, Bool.and_assoc]) (fun w hs => hs.none)
              · refine go_seq ?_
                refine go_region ⟨_, Tryz.func87⟩ rfl ?_
                refine q0 rfl (o_eqI ?_)
                refine q0 rfl (o_assign ?_)
                refine rg_nil ?_
                refine go_condI (fun h95 => ?_) (fun h95 => ?_)
                · refine go_seq ?_
                  refine go_cutS ([(6, .bool (faceRight t.r && within t.r dims))]) (fun hK => ?_) (fun base => ?_)
                  · refine go_region ⟨_, Tryz.func87⟩ rfl ?_
                    refine q0 rfl (o_fa ?_)
                    refine q0 rfl (o_ld ?_)
                    refine q0 rfl (o_call Tryz.call100 ((form_kind hf (by simp_all)).2.1 t.r vr) (fun x99 => ?_))
                    refine q0 rfl (o_move ?_)
                    refine qI rfl rfl rfl wl_ (fun hg100 => o_fa ?_) (fun hg100 => ?_)
                    · refine qT rfl rfl rfl (o_ld ?_)
                      refine qT rfl rfl rfl (o_move ?_)
                      refine qT rfl rfl rfl (o_call Tryz.call99 (within_spec (form_kind hf (by simp_all)).2.2 t.r vr dims hd hl) (fun x104 => ?_))
                      refine q0 rfl (o_pickT ?_)
                      refine q0 rfl (o_assign ?_)
                      refine rg_nil ?_
                      exact hK _ ⟨(by (conv => lhs; whnf); first | (simp_all [Bool.and_assoc]; done) | (simp_all [Bool.and_assoc]; omega)), trivial⟩
                    · refine qF rfl rfl rfl ?_
                      refine qF rfl rfl rfl ?_
                      refine qF rfl rfl rfl ?_
                      refine q0 rfl (o_pickF ?_)
                      refine q0 rfl (o_assign ?_)
                      refine rg_nil ?_
                      exact hK _ ⟨(by (conv => lhs; whnf); first | (simp_all [Bool.and_assoc]; done) | (simp_all [Bool.and_assoc]; omega)), trivial⟩
                  · refine ret1 Tryz.func87 Tryz.results87 wn_ () (by simp_all [ownP, Bool.and_assoc]) (fun w hs => hs.none)
                · refine go_skip ?_
                  refine go_inBlock ?_
                  refine go_seq ?_
                  refine go_seq ?_
                  refine go_region ⟨_, Tryz.func87⟩ rfl ?_
                  refine q0 rfl (o_fa ?_)
                  refine q0 rfl (o_ld ?_)
                  refine q0 rfl (o_len ?_)
                  refine q0 rfl (o_move ?_)
                  refine rg_nil ?_
                  refine go_block ?_
                  refine go_loopI (X := Nat) (fun i => i ≤ t.sys.length ∧ ∀ j, j < i → ownB t dims (t.sys.getD j br0) = true) (fun i => [(2, .int .i64 dims), (3, .pointer (some ⟨b3, 0, none⟩)), (107, sl vs t.sys.length), (108, .int .i64 (t.sys.length : Int)), (109, .int .i64 (i : Int))]) (fun i => BLx t.sys vs VF VK2 :: RT t vr vk vs :: []) (fun i => [boxR b3 (tc t vr vk vs) 26]) (fun i => t.sys.length - i) (0) (⟨Nat.zero_le _, fun j hj => by omega⟩) (by exact ⟨rfl, rfl, rfl, rfl, rfl, trivial⟩) ?_ ?_
                  · exact fun w hs => hs.less (by simp +contextual)
                  · intro i base0 ⟨hi, hok⟩ next0
                    refine go_seq ?_
                    refine go_region ⟨_, Tryz.func87⟩ rfl ?_
                    refine q0 rfl (o_lss ?_)
                    refine rg_nil ?_
                    refine go_seq ?_
                    refine go_condI (fun h110 => ?_) (fun h110 => ?_)
                    · have hlt : i < t.sys.length := by have := of_decide_eq_true h110; omega
                      obtain ⟨bk, o, hav⟩ := hA2 (by omega)
                      refine go_skip ?_
                      refine go_seq ?_
                      refine go_block ?_
                      refine go_seq ?_
                      refine go_region ⟨_, Tryz.func87⟩ rfl ?_
                      refine q0 rfl (o_ixN ?_)
                      refine q0 rfl (o_ldB ?_)
                      refine q0 rfl (o_new fun b8 => ?_)
                      refine q0 rfl (o_st ?_)
                      refine rg_nil ?_
                      refine go_seq ?_
                      refine go_branch i hlt ?_
                      refine go_cutS ([(2, .int .i64 dims), (3, .pointer (some ⟨b3, 0, none⟩)), (107, sl vs t.sys.length), (108, .int .i64 (t.sys.length : Int)), (109, .int .i64 (i : Int)), (132, .bool (!(ownB t dims (t.sys.getD i br0))))]) (fun hK => ?_) (fun base => ?_)
                      · refine go_draw (tn := false) (A := [0, 1, 3, 0, 8, 24, 63, 127, 255, 511, 1023, 2047, 4095, 8191, 16383, 32767, 16383, 131071, 262143, 524287]) (l := [0, 1, 2, 3, 4, 5, 6, 7, 8, 9, 10, 11, 12, 13, 14, 15, 16, 17, 18, 19]) (fin := []) Tab.mixed ⟨_, Tryz.func87⟩ (by rfl) ?_
                        refine n0 rfl (v_fa ?_)
                        refine n0 rfl (v_ld ?_)
                        refine n0 rfl (v_len ?_)
                        refine n0 rfl (v_fa ?_)
                        refine n0 rfl (v_ld ?_)
                        refine n0 rfl (v_call Tryz.call96 (parts_spec t.kind) (fun x118 => ?_))
                        refine n0 rfl (v_neI ?_)
                        refine n0 rfl (v_move ?_)
                        refine nI rfl rfl rfl wl_ (fun hg120 => v_fa ?_) (fun hg120 => ?_)
                        · refine nT rfl rfl rfl (v_ld ?_)
                          refine nT rfl rfl rfl (v_call Tryz.call100 ((form_sys hf hlt).2.1 _ (VF i)) (fun x123 => ?_))
                          refine nT rfl rfl rfl (v_not ?_)
                          refine n0 rfl (v_pickF ?_)
                          refine n0 rfl (v_move ?_)
                          refine nI rfl rfl rfl wl_ (fun hg126 => v_fa ?_) (fun hg126 => ?_)
                          · refine nT rfl rfl rfl (v_ld ?_)
                            refine nT rfl rfl rfl (v_move ?_)
                            refine nT rfl rfl rfl (v_call Tryz.call99 (within_spec (form_sys hf hlt).2.2 _ (VF i) dims hd hl) (fun x130 => ?_))
                            refine nT rfl rfl rfl (v_not ?_)
                            refine n0 rfl (v_pickF ?_)
                            refine NV.done ?_
                            refine rg_nil ?_
                            exact hK _ ⟨rfl, rfl, rfl, rfl, rfl, (by (conv => lhs; whnf); first | (simp_all [ownB]; done) | (simp_all [ownB]; omega)), trivial⟩
                          · refine nF rfl rfl rfl ?_
                            refine nF rfl rfl rfl ?_
                            refine nF rfl rfl rfl ?_
                            refine nF rfl rfl rfl ?_
                            refine n0 rfl (v_pickT ?_)
                            refine NV.done ?_
                            refine rg_nil ?_
                            exact hK _ ⟨rfl, rfl, rfl, rfl, rfl, (by (conv => lhs; whnf); first | (simp_all [ownB]; done) | (simp_all [ownB]; omega)), trivial⟩
                        · refine nF rfl rfl rfl ?_
                          refine nF rfl rfl rfl ?_
                          refine nF rfl rfl rfl ?_
                          refine n0 rfl (v_pickT ?_)
                          refine n0 rfl (v_move ?_)
                          refine nF rfl rfl rfl ?_
                          refine nF rfl rfl rfl ?_
                          refine nF rfl rfl rfl ?_
                          refine nF rfl rfl rfl ?_
                          refine nF rfl rfl rfl ?_
                          refine n0 rfl (v_pickT ?_)
                          refine NV.done ?_
                          refine rg_nil ?_
                          exact hK _ ⟨rfl, rfl, rfl, rfl, rfl, (by (conv => lhs; whnf); first | (simp_all [ownB]; done) | (simp_all [ownB]; omega)), trivial⟩
                      · refine go_condI (fun h132 => ?_) (fun h132 => ?_)
                        · refine go_seq ?_
                          refine go_region ⟨_, Tryz.func87⟩ rfl ?_
                          refine q0 rfl (o_assign ?_)
                          refine rg_nil ?_
                          have ha := all_getD_not hlt (by simpa using h132)
                          refine ret1 Tryz.func87 Tryz.results87 wn_ () (by rw [ownP, ha]; clear hok ha h132; simp_all [Bool.and_assoc]) (fun w hs => hs.none)
                        · refine go_skip ?_
                          refine go_inBlock ?_
                          refine go_region ⟨_, Tryz.func87⟩ rfl ?_
                          refine q0 rfl (o_add ?_)
                          refine q0 rfl (o_move ?_)
                          refine rg_nil ?_
                          have hb : ownB t dims (t.sys.getD i br0) = true := by simpa using h132
                          refine go_state (fun w hs => ?_) (next0 (i + 1) _ ⟨hlt, fun j hj => (by rcases Nat.lt_succ_iff_lt_or_eq.mp hj with h | h; exact hok j h; subst h; exact hb)⟩ (by omega) ⟨rfl, rfl, rfl, rfl, rfl, trivial⟩)
                          exact (hs.less (by simp +contextual)).drop
                    · have hge : i = t.sys.length := by have := of_decide_eq_false h110; omega
                      refine go_exit rfl ?_
                      refine go_seq ?_
                      refine go_region ⟨_, Tryz.func87⟩ rfl ?_
                      refine q0 rfl (o_fa ?_)
                      refine q0 rfl (o_ld ?_)
                      refine q0 rfl (o_len ?_)
                      refine q0 rfl (o_eqI ?_)
                      refine q0 rfl (o_assign ?_)
                      refine rg_nil ?_
                      have ha := all_getD (t := t) (g := ownB t dims) (by rw [← hge]; exact hok)
                      refine ret1 Tryz.func87 Tryz.results87 wn_ () (by rw [ownP, ha]; clear hok ha; simp_all [Bool.and_assoc]) (fun w hs => hs.none)
abbrev AllAt (t : T) : Prop := (plainT t = true ∨ FORM) → ∀ (vars dims : Int) (bound : Bool) vr vk vs, in64 vars → 0 ≤ dims → dims + depth t ≤ 1152921504606846976 → Spec Tryz.prog 64 #[.agg (tc t vr vk vs).toArray, .int .i64 vars, .int .i64 dims, .bool bound] [RT t vr vk vs] [] (fun _ : Unit => .bool (allP t vars dims bound)) (fun _ => []) (fun _ => [])
abbrev AllCap (b1 b2 b3 : Nat) : List Value := [.pointer (some ⟨b1, 0, none⟩), .pointer (some ⟨b2, 0, none⟩), .pointer (some ⟨b3, 0, none⟩)]
abbrev AllM (b1 b2 b3 : Nat) (vars dims : Int) (bound : Bool) : List Res := [boxR b1 [.int .i64 vars] 3, boxR b2 [.int .i64 dims] 3, boxR b3 [.bool bound] 4]
def bindsIn (v d : Int) : Prop := 0 ≤ v ∧ v ≤ 1 ∧ 0 ≤ d ∧ d ≤ 1
theorem binds_in (k i : Int) : bindsIn (binds k i).1 (binds k i).2 := by
  unfold binds bindsIn; repeat (split; (simp))
  simp
theorem parts_in {t : T} {k : T} {v d : Int} (h : (k, v, d) ∈ parts t) : bindsIn v d := by
  have hk : ∀ (kind : Int) (i : Nat) (ks : List T), (k, v, d) ∈ kidParts kind i ks → bindsIn v d := by
    intro kind i ks
    induction ks generalizing i with
    | nil => intro h; simp [kidParts] at h
    | cons a ks ih =>
      intro h
      simp only [kidParts, List.mem_cons] at h
      rcases h with h | h
      · have e : (v, d) = binds kind i := (Prod.mk.inj h).2
        have := binds_in kind i
        rw [← e] at this; exact this
      · exact ih _ h
  have hs : ∀ (kind : Int) (bs : List Br), (k, v, d) ∈ sysParts kind bs → bindsIn v d := by
    intro kind bs
    induction bs with
    | nil => intro h; simp [sysParts] at h
    | cons b bs ih =>
      intro h
      simp only [sysParts, List.mem_append, List.mem_map] at h
      rcases h with ⟨a, ha, e⟩ | h
      · have e2 := (Prod.mk.inj e).2
        have e3 := (Prod.mk.inj e2)
        rw [← e3.1, ← e3.2]
        unfold bindsIn more; split <;> simp
      · exact ih h
  unfold parts at h
  rcases List.mem_append.mp h with h | h
  · exact hk _ _ _ h
  · exact hs _ _ h
theorem depth_mem {t : T} {p : Part} (h : p ∈ parts t) : depth p.1 < depth t := by
  obtain ⟨m, hm⟩ := List.mem_iff_getElem?.mp h
  exact depth_part hm
theorem size_mem {t : T} {p : Part} (h : p ∈ parts t) : size p.1 < size t := by
  obtain ⟨m, hm⟩ := List.mem_iff_getElem?.mp h
  have := size_part hm; have := sizeUpto_pos t m; omega
theorem all1_walk (k : T) (vr vk vs : SH) (b1 b2 b3 : Nat) (vars dims v d : Int) (bound : Bool) (hv : in64 vars) (h0 : 0 ≤ dims) (hvd : bindsIn v d) (hl : dims + 1 + depth k ≤ 1152921504606846976) (hp : plainT k = true ∨ FORM) (ih : AllAt k) : Spec Tryz.prog 88 #[.agg (tc k vr vk vs).toArray, .int .i64 v, .int .i64 d, .pointer (some ⟨b1, 0, none⟩), .pointer (some ⟨b2, 0, none⟩), .pointer (some ⟨b3, 0, none⟩)] [RT k vr vk vs] (AllM b1 b2 b3 vars dims bound) (fun _ : Unit => .bool (allP k (IntKind.i64.wrap (vars + if vars < 0 then 0 else v)) (dims + d) bound)) (fun _ => []) (fun _ => AllM b1 b2 b3 vars dims bound) := by
  refine spec_go (args := [.agg (tc k vr vk vs).toArray, .int .i64 v, .int .i64 d, .pointer (some ⟨b1, 0, none⟩), .pointer (some ⟨b2, 0, none⟩), .pointer (some ⟨b3, 0, none⟩)]) Tryz.func88 Tryz.ntmps88 rfl (by exact Nat.le_of_ble_eq_true rfl) fun B hB => ?_
  obtain ⟨hv0, hv1, hd0, hd1⟩ := hvd
  refine go_seq ?_
  refine go_region ⟨_, Tryz.func88⟩ rfl ?_
  refine q0 rfl (o_box fun b6 => ?_)
  refine q0 rfl (o_assign ?_)
  refine rg_nil ?_
  refine go_seq ?_
  refine go_seq ?_
  refine go_region ⟨_, Tryz.func88⟩ rfl ?_
  refine q0 rfl (o_ld ?_)
  refine q0 rfl (o_lss ?_)
  refine rg_nil ?_
  refine go_cutS ([(1, .int .i64 (if vars < 0 then 0 else v)), (2, .int .i64 d), (3, .pointer (some ⟨b1, 0, none⟩)), (4, .pointer (some ⟨b2, 0, none⟩)), (5, .pointer (some ⟨b3, 0, none⟩)), (6, .pointer (some ⟨b6, 0, none⟩))]) (fun hK => ?_) (fun base => ?_)
  · refine go_condI (fun h11 => ?_) (fun h11 => ?_)
    · refine go_region ⟨_, Tryz.func88⟩ rfl ?_
      refine q0 rfl (o_assign ?_)
      refine rg_nil ?_
      exact hK _ ⟨(by first | (rw [if_pos (of_decide_eq_true h11)]; rfl) | (rw [if_neg (of_decide_eq_false h11)]; rfl)), rfl, rfl, rfl, rfl, rfl, trivial⟩
    · refine go_skip ?_
      exact hK _ ⟨(by first | (rw [if_pos (of_decide_eq_true h11)]; rfl) | (rw [if_neg (of_decide_eq_false h11)]; rfl)), rfl, rfl, rfl, rfl, rfl, trivial⟩
  · refine go_seq ?_
    refine go_region ⟨_, Tryz.func88⟩ rfl ?_
    refine q0 rfl (o_lds ?_)
    refine q0 rfl (o_ld ?_)
    refine q0 rfl (o_move ?_)
    refine q0 rfl (o_addW ?_)
    refine q0 rfl (o_ld ?_)
    refine q0 rfl (o_move ?_)
    refine q0 rfl (o_add ?_)
    refine q0 rfl (o_ld ?_)
    refine q0 rfl (o_call Tryz.call64 (ih hp (IntKind.i64.wrap (vars + if vars < 0 then 0 else v)) (dims + d) bound vr vk vs (wrap_in _) (by omega) (by omega)) (fun x20 => ?_))
    refine q0 rfl (o_assign ?_)
    refine rg_nil ?_
    refine ret1 Tryz.func88 Tryz.results88 wn_ () rfl (fun w hs => (hs.less (by simp)).drop)
theorem all_walk (t : T) (hp : plainT t = true ∨ FORM) (ih : ∀ p, p ∈ parts t → AllAt p.1) (vars dims : Int) (bound : Bool) (vr vk vs : SH) (hv : in64 vars) (h0 : 0 ≤ dims) (hl : dims + depth t ≤ 1152921504606846976) : Spec Tryz.prog 64 #[.agg (tc t vr vk vs).toArray, .int .i64 vars, .int .i64 dims, .bool bound] [RT t vr vk vs] [] (fun _ : Unit => .bool (allP t vars dims bound)) (fun _ => []) (fun _ => []) := by
  refine spec_go (args := [.agg (tc t vr vk vs).toArray, .int .i64 vars, .int .i64 dims, .bool bound]) Tryz.func64 Tryz.ntmps64 rfl (by exact Nat.le_of_ble_eq_true rfl) fun B hB => ?_
  refine go_seq ?_
  refine go_region ⟨_, Tryz.func64⟩ rfl ?_
  refine q0 rfl (o_box fun b4 => ?_)
  refine q0 rfl (o_box fun b5 => ?_)
  refine q0 rfl (o_box fun b6 => ?_)
  refine q0 rfl (o_box fun b7 => ?_)
  refine q0 rfl (o_assign ?_)
  refine rg_nil ?_
  refine go_seq ?_
  refine go_seq ?_
  refine go_cutS ([(4, .pointer (some ⟨b4, 0, none⟩)), (5, .pointer (some ⟨b5, 0, none⟩)), (6, .pointer (some ⟨b6, 0, none⟩)), (7, .pointer (some ⟨b7, 0, none⟩)), (20, .bool ((bound && decide (24 < dims)) || !(ownP t vars dims)))]) (fun hK => ?_) (fun base => ?_)
  · refine go_region ⟨_, Tryz.func64⟩ rfl ?_
    refine q0 rfl (o_ld ?_)
    refine q0 rfl (o_move ?_)
    refine qI rfl rfl rfl wl_ (fun hg10 => o_ld ?_) (fun hg10 => ?_)
    · refine qT rfl rfl rfl (o_gtr ?_)
      refine q0 rfl (o_pickT ?_)
      refine q0 rfl (o_move ?_)
      refine qI rfl rfl rfl wl_ (fun hg14 => o_lds ?_) (fun hg14 => ?_)
      · refine qT rfl rfl rfl (o_ld ?_)
        refine qT rfl rfl rfl (o_ld ?_)
        refine qT rfl rfl rfl (o_call Tryz.call87 (own_spec t (plain_node hp) vr vk vs vars dims h0 (by unfold in64; omega)) (fun x18 => ?_))
        refine qT rfl rfl rfl (o_not ?_)
        refine q0 rfl (o_pickF ?_)
        refine rg_nil ?_
        exact hK _ ⟨rfl, rfl, rfl, rfl, (by (conv => lhs; whnf); first | (simp_all [Bool.and_assoc]; done) | (simp_all [Bool.and_assoc]; omega)), trivial⟩
      · refine qF rfl rfl rfl ?_
        refine qF rfl rfl rfl ?_
        refine qF rfl rfl rfl ?_
        refine qF rfl rfl rfl ?_
        refine q0 rfl (o_pickT ?_)
        refine rg_nil ?_
        exact hK _ ⟨rfl, rfl, rfl, rfl, (by (conv => lhs; whnf); first | (simp_all [Bool.and_assoc]; done) | (simp_all [Bool.and_assoc]; omega)), trivial⟩
    · refine qF rfl rfl rfl ?_
      refine q0 rfl (o_pickF ?_)
      refine q0 rfl (o_move ?_)
      refine qT rfl rfl rfl (o_lds ?_)
      refine qT rfl rfl rfl (o_ld ?_)
      refine qT rfl rfl rfl (o_ld ?_)
      refine qT rfl rfl rfl (o_call Tryz.call87 (own_spec t (plain_node hp) vr vk vs vars dims h0 (by unfold in64; omega)) (fun x18 => ?_))
      refine qT rfl rfl rfl (o_not ?_)
      refine q0 rfl (o_pickF ?_)
      refine rg_nil ?_
      exact hK _ ⟨rfl, rfl, rfl, rfl, (by (conv => lhs; whnf); first | (simp_all [Bool.and_assoc]; done) | (simp_all [Bool.and_assoc]; omega)), trivial⟩
  · refine go_condI (fun h20 => ?_) (fun h20 => ?_)
    · refine go_seq ?_
      refine go_region ⟨_, Tryz.func64⟩ rfl ?_
      refine q0 rfl (o_assign ?_)
      refine rg_nil ?_
      refine ret1 Tryz.func64 Tryz.results64 wn_ () (by rw [allP_eq, h20]; rfl) (fun w hs => hs.none)
    · refine go_skip ?_
      refine go_seq ?_
      refine go_region ⟨_, Tryz.func64⟩ rfl ?_
      refine q0 rfl (o_lds ?_)
      refine q0 rfl (o_func ?_)
      have hE := each_bool t vr vk vs 88 (AllCap b5 b6 b7) [] (AllM b5 b6 b7 vars dims bound) (fun p => allP p.1 (IntKind.i64.wrap (vars + if vars < 0 then 0 else p.2.1)) (dims + p.2.2) bound) Tryz.call88 (fun k v d hm vr vk vs => all1_walk k vr vk vs b5 b6 b7 vars dims v d bound hv h0 (parts_in hm) (by have := depth_mem hm; simp only at this; omega) (plain_part hp hm) (ih _ hm))
      refine q0 rfl (o_call Tryz.call37 (hE) (fun x23 => ?_))
      refine q0 rfl (o_assign ?_)
      refine rg_nil ?_
      refine ret1 Tryz.func64 Tryz.results64 wn_ () (by rw [allP_eq, h20]; rfl) (fun w hs => hs.none)
theorem all_spec : ∀ t : T, AllAt t := T.ind fun t ih hp vars dims bound vr vk vs hv h0 hl => all_walk t hp ih vars dims bound vr vk vs hv h0 hl
theorem formed_spec (t : T) (hp : plainT t = true ∨ FORM) (vr vk vs : SH) (hsz : size t ≤ 1152921504606846) : Spec Tryz.prog 45 #[.agg (tc t vr vk vs).toArray] [RT t vr vk vs] [] (fun _ : Unit => .int .i64 (formedP t)) (fun _ => []) (fun _ => []) := by
  refine spec_go (args := [.agg (tc t vr vk vs).toArray]) Tryz.func45 Tryz.ntmps45 rfl (by exact Nat.le_of_ble_eq_true rfl) fun B hB => ?_
  have hds := depth_le_size t
  refine go_seq ?_
  refine go_region ⟨_, Tryz.func45⟩ rfl ?_
  refine q0 rfl (o_box fun b1 => ?_)
  refine q0 rfl (o_assign ?_)
  refine rg_nil ?_
  refine go_seq ?_
  refine go_seq ?_
  refine go_region ⟨_, Tryz.func45⟩ rfl ?_
  refine q0 rfl (o_lds ?_)
  refine q0 rfl (o_call Tryz.call63 (sized_spec t vr vk vs) (fun x5 => ?_))
  refine q0 rfl (o_assign ?_)
  refine rg_nil ?_
  refine go_seq ?_
  refine go_region ⟨_, Tryz.func45⟩ rfl ?_
  refine q0 rfl (o_move ?_)
  refine q0 rfl (o_neI ?_)
  refine rg_nil ?_
  refine go_condI (fun h7 => ?_) (fun h7 => ?_)
  · have hs := of_decide_eq_true h7
    refine go_seq ?_
    refine go_region ⟨_, Tryz.func45⟩ rfl ?_
    refine q0 rfl (o_move ?_)
    refine q0 rfl (o_assign ?_)
    refine rg_nil ?_
    refine ret1 Tryz.func45 Tryz.results45 wn_ () (by rw [formedP, if_pos hs]) (fun w hs => hs.none)
  · have hs := of_decide_eq_false h7
    refine go_skip ?_
    refine go_seq ?_
    refine go_seq ?_
    refine go_region ⟨_, Tryz.func45⟩ rfl ?_
    refine q0 rfl (o_lds ?_)
    refine q0 rfl (o_call Tryz.call64 (all_spec t hp (-1) 24 false vr vk vs (by unfold in64; omega) (by omega) (by omega)) (fun x10 => ?_))
    refine q0 rfl (o_not ?_)
    refine rg_nil ?_
    refine go_condI (fun h11 => ?_) (fun h11 => ?_)
    · refine go_seq ?_
      refine go_region ⟨_, Tryz.func45⟩ rfl ?_
      refine q0 rfl (o_assign ?_)
      refine rg_nil ?_
      refine ret1 Tryz.func45 Tryz.results45 wn_ () (by rw [formedP, if_neg hs]; simp_all) (fun w hs => hs.none)
    · refine go_skip ?_
      refine go_seq ?_
      refine go_region ⟨_, Tryz.func45⟩ rfl ?_
      refine q0 rfl (o_assign ?_)
      refine rg_nil ?_
      refine ret1 Tryz.func45 Tryz.results45 wn_ () (by rw [formedP, if_neg hs]; simp_all) (fun w hs => hs.none)
end Go.Hy
namespace Go.Hy
set_option linter.unusedVariables false
set_option linter.unusedSimpArgs false
set_option linter.unusedSectionVars false
set_option linter.unusedVariables false
theorem wrap_id {n : Int} (h : in64 n) : IntKind.i64.wrap n = n := by rw [IntKind.wrap_i64]; unfold in64 at h; omega
theorem sized_zero {t : T} : sized t = 0 ↔ depth t ≤ 200 ∧ size t ≤ 20000 := by
  unfold sized
  split
  · simp; omega
  · split
    · simp; omega
    · simp; omega
theorem formed_zero {t : T} : formedP t = 0 ↔ sized t = 0 ∧ allP t (-1) 24 false = true := by
  unfold formedP
  split
  · rename_i h; constructor
    · intro h2; exact absurd h2 h
    · intro h2; exact absurd h2.1 h
  · rename_i h
    have h : sized t = 0 := by simpa using h
    split
    · rename_i h3; simp [h, h3]
    · rename_i h3; simp [h3]
theorem within_big {l : List Cl} {d : Int} (h : 24 ≤ d) : within l d = true := by unfold within; rw [decide_eq_true h]; rfl
theorem own_big {t : T} {v d e : Int} (h : 24 ≤ d) (h2 : 24 ≤ e) : ownP t v d = ownP t v e := by
  unfold ownP
  rw [within_big h, within_big h2]
  have : ownB t d = ownB t e := by funext b; unfold ownB; rw [within_big h, within_big h2]
  rw [this]
/-- Without a bound, beyond all dimensions, more dimensions change nothing. -/
theorem all_big : ∀ (t : T) (v d e : Int), 24 ≤ d → 24 ≤ e → allP t v d false = allP t v e false := T.ind fun t ih v d e hd he => by
  rw [allP_eq, allP_eq, own_big hd he]
  simp only [Bool.false_and, Bool.false_or]
  congr 1
  rw [Bool.eq_iff_iff, List.all_eq_true, List.all_eq_true]
  have hx : ∀ p, p ∈ parts t → allP p.1 (IntKind.i64.wrap (v + if v < 0 then 0 else p.2.1)) (d + p.2.2) false = allP p.1 (IntKind.i64.wrap (v + if v < 0 then 0 else p.2.1)) (e + p.2.2) false := fun p hp => by
    have := parts_in (k := p.1) (v := p.2.1) (d := p.2.2) hp
    exact ih p hp _ _ _ (by unfold bindsIn at this; omega) (by unfold bindsIn at this; omega)
  exact ⟨fun h p hp => by rw [← hx p hp]; exact h p hp, fun h p hp => by rw [hx p hp]; exact h p hp⟩
theorem formed_part {t : T} {p : Part} (h : formedP t = 0) (hp : p ∈ parts t) : formedP p.1 = 0 := by
  rw [formed_zero, sized_zero] at h ⊢
  have h1 := depth_mem hp
  have h2 := size_mem hp
  refine ⟨⟨by omega, by omega⟩, ?_⟩
  have h3 := h.2
  rw [allP_eq, Bool.and_eq_true] at h3
  have h4 := List.all_eq_true.mp h3.2 p hp
  have h5 := parts_in (k := p.1) (v := p.2.1) (d := p.2.2) hp
  unfold bindsIn at h5
  rw [all_big p.1 _ 24 (24 + p.2.2) (by omega) (by omega)]
  simpa [show (-1 : Int) < 0 by omega, wrap_id (show in64 (-1) by unfold in64; omega)] using h4
theorem depth_kid {t k : T} (hk : k ∈ t.kids) : depth k < depth t := by obtain ⟨p, hp, e⟩ := kid_mem_parts hk; exact e ▸ depth_mem hp
end Go.Hy
namespace Go.Hy
set_option linter.unusedVariables false
set_option linter.unusedSimpArgs false
set_option linter.unusedSectionVars false
set_option linter.unusedVariables false
/-! ### What was put is got -/
theorem getRes_ok {t : T} {p : List Int} (h : (getRes t p).1 = 0) : formedP t = 0 ∧ getP t p = some (getRes t p).2 := by
  unfold getRes at h ⊢
  split at h
  · rename_i h1; exact absurd h h1
  · rename_i h1
    rw [if_neg h1]
    refine ⟨by simpa using h1, ?_⟩
    split at h
    · cases h
    · rename_i s hs; rw [hs]
theorem partAt_some {t : T} {k : Int} {q : Part} (h : partAt t k = some q) : k = (k.toNat : Int) ∧ (parts t)[k.toNat]? = some q := by
  unfold partAt at h
  split at h
  · exact ⟨by omega, h⟩
  · cases h
theorem getP_cons {t : T} {k : Int} {p : List Int} {s : Part} (h : getP t (k :: p) = some s) : ∃ m q s', k = (m : Nat) ∧ (parts t)[m]? = some q ∧ getP q.1 p = some s' ∧ s = addPt q s' := by
  simp only [getP] at h
  obtain ⟨q, hq, h⟩ := Option.bind_eq_some_iff.mp h
  obtain ⟨x, hx, h⟩ := Option.map_eq_some_iff.mp h
  obtain ⟨h1, h2⟩ := partAt_some hq
  exact ⟨_, q, x, h1, h2, hx, h.symm⟩
theorem getP_len : ∀ (p : List Int) {t : T} {s : Part}, getP t p = some s → p.length < size t ∧ 0 ≤ s.2.1 ∧ s.2.1 ≤ p.length ∧ 0 ≤ s.2.2 ∧ s.2.2 ≤ p.length
  | [], t, s, h => by
    simp only [getP, Option.some.injEq] at h
    subst h
    have := size_pos' t
    simp; omega
  | k :: p, t, s, h => by
    obtain ⟨m, q, s', hk, hq, hs', e⟩ := getP_cons h
    subst e
    have h1 := getP_len p hs'
    have h2 := size_part_lt (List.mem_of_getElem? hq)
    have h3 := parts_01 (List.mem_of_getElem? hq)
    simp only [addPt, List.length_cons]
    omega
end Go.Hy
namespace Go.Hy
set_option linter.unusedVariables false
set_option linter.unusedSimpArgs false
set_option linter.unusedSectionVars false
set_option linter.unusedVariables false
theorem list_len_ind {α : Type} {P : List α → Prop} (h : ∀ p, (0 < p.length → P (p.drop 1)) → P p) : ∀ p, P p
  | [] => h [] (fun h => by simp at h)
  | a :: p => h (a :: p) (fun _ => list_len_ind h p)
/-! Get, by a node's parts. -/
theorem getRes_bad {t : T} {p : List Int} (h : formedP t ≠ 0) : getRes t p = (formedP t, t0, 0, 0) := by rw [getRes, if_pos h]
theorem getRes_nil {t : T} {p : List Int} (h : formedP t = 0) (hp : p.length = 0) : getRes t p = (0, t, 0, 0) := by
  rw [getRes, if_neg (by simp [h]), List.eq_nil_of_length_eq_zero hp]; rfl
theorem getRes_miss {t : T} {p : List Int} (h : formedP t = 0) (hp : 0 < p.length) (hm : p.getD 0 0 < 0 ∨ ((parts t).length : Int) ≤ p.getD 0 0) : getRes t p = (90, t0, 0, 0) := by
  have := getP_miss (c := (t, 0, 0)) hp hm
  rw [List.drop_zero, addPt_zero] at this
  rw [getRes, if_neg (by simp [h]), this]
theorem getRes_at {t : T} {p : List Int} {m : Nat} {q : Part} (h : formedP t = 0) (hp : 0 < p.length) (hm : p.getD 0 0 = (m : Int)) (hq : (parts t)[m]? = some q) :
    getRes t p = if (getRes q.1 (p.drop 1)).1 ≠ 0 then ((getRes q.1 (p.drop 1)).1, t0, 0, 0) else (0, addPt q (getRes q.1 (p.drop 1)).2) := by
  have hf := formed_part h (List.mem_of_getElem? hq)
  have h1 := getP_step (c := (t, 0, 0)) hp hm hq
  rw [List.drop_zero, addPt_zero] at h1
  have e1 : getRes t p = match (getP q.1 (p.drop 1)).map (addPt (q.1, 0 + q.2.1, 0 + q.2.2)) with | none => (90, t0, 0, 0) | some s => (0, s) := by rw [← h1, getRes, if_neg (by simp [h])]; rfl
  have e2 : getRes q.1 (p.drop 1) = match getP q.1 (p.drop 1) with | none => (90, t0, 0, 0) | some s => (0, s) := by rw [getRes, if_neg (by simp [hf])]; rfl
  rw [e1, e2]
  cases getP q.1 (p.drop 1) with
  | none => rfl
  | some s => simp [addPt]
theorem getRes_len {t : T} {p : List Int} (h : (getRes t p).1 = 0) : p.length < size t ∧ 0 ≤ (getRes t p).2.2.1 ∧ (getRes t p).2.2.1 ≤ p.length ∧ 0 ≤ (getRes t p).2.2.2 ∧ (getRes t p).2.2.2 ≤ p.length :=
  getP_len p (getRes_ok h).2
end Go.Hy
namespace Go.Hy
set_option linter.unusedVariables false
set_option linter.unusedSimpArgs false
set_option linter.unusedSectionVars false
set_option linter.unusedVariables false
/-! ### A row of spots whose terms are the call's own -/
abbrev HQ := HT × Int × Int
def hq (z : HQ) : QP := (z.1.tp, z.2)
def hqe (z : HQ) : Part := (z.1.er, z.2)
def hq0 : HQ := (h0, 0, 0)
theorem hq_at {hs : List HQ} {i : Nat} (h : i < hs.length) : (hs.map hq).getD i qp0 = hq (hs.getD i hq0) := getD_map h
theorem hq_part {hs : List HQ} {t : T} {qs : List QP} {i : Nat} (h : hs.map hqe = parts t) (h2 : qs.map qer = parts t) (hi : i < hs.length) : hqe (hs.getD i hq0) = qer (qs.getD i qp0) := by
  have hl : hs.length = qs.length := by simpa using congrArg List.length (h.trans h2.symm)
  have h1 := getD_map (d := hq0) (e := pt0) (f := hqe) (l := hs) hi
  have h3 := getD_map (d := qp0) (e := pt0) (f := qer) (l := qs) (i := i) (by omega)
  rw [← h1, ← h3, h, h2]
theorem hq_step {hs : List HQ} {qs : List QP} {u : HQ} {i : Nat} (hl : hs.length = i) (hi : i < qs.length) : (hs.map hq ++ qs.drop i).set i (hq u) = (hs ++ [u]).map hq ++ qs.drop (i + 1) := by
  rw [List.set_append_right _ _ (by simp [hl]), List.length_map, hl, Nat.sub_self, drop_getD qp0 hi]
  simp
theorem hq_old {hs : List HQ} {qs : List QP} {i : Nat} (hl : hs.length = i) : (hs.map hq ++ qs.drop i).getD i qp0 = qs.getD i qp0 := by
  rw [List.getD_eq_getElem?_getD, List.getElem?_append_right (by simp [hl]), List.length_map, hl, Nat.sub_self, List.getElem?_drop, Nat.add_zero, ← List.getD_eq_getElem?_getD]
theorem okT_hq {hs : List HQ} {t : T} {i : Nat} (ht : okT t) (h : hs.map hqe = parts t) (hi : i < hs.length) : okT (hs.getD i hq0).1.er := by
  have : hqe (hs.getD i hq0) ∈ parts t := by rw [← h]; exact List.mem_map.mpr ⟨_, getD_mem hi, rfl⟩
  exact okT_part ht this
end Go.Hy
namespace Go.Hy
set_option linter.unusedVariables false
set_option linter.unusedSimpArgs false
set_option linter.unusedSectionVars false
set_option linter.unusedVariables false
set_option linter.unusedSectionVars false
/-! Wrappers: comparisons whose answer is known (printed by a program of this repository). -/
section
variable {tn : Bool} {P : Program} [Tab P] {f : FuncId} {R : Ending → World → Prop} {B : Base} {n : Nat} {K : List Item} {ops : Array Oper} {i : Nat} {l fin : List Nat} {σ : Nat → Value} {Γ : List Fact} {Ms Ms2 : List Res}
variable {dst : Option Tmp} {op : Op} {ty : TypeId} {pos : String} {after : Array Edge} {v : Value} {x y z : Operand}
theorem o_neIN {t t' : TypeId} {k : IntKind} {a b : Int} (k_ : RgT P f R B n K ops l (putS σ dst (.bool false)) Γ Ms) (hx : ev σ x = .int k a := by first | ((conv => lhs; whnf); done) | rfl) (hy : ev σ y = .int k b := by first | ((conv => lhs; whnf); done) | rfl) (hp : ¬ (a ≠ b) := by first | omega | (simp; done)) (hd : dstOk n dst = true := by rfl) : OpT P f R B n K ops l (opr dst (.binOp .neq t x y t') ty) σ Γ Ms := sq_pure (show PureE P σ (.binOp .neq t x y t') ty (.bool false) from (decide_eq_false hp : decide (a ≠ b) = false) ▸ pe_neI hx hy) hd k_
theorem v_st {t T' : TypeId} {b s bt : Nat} {zv : Value} {cs cs' : List Value} (k_ : NV tn P f R B n K ops fin l σ Γ (boxR b cs' T' :: Ms2)) (hx : ev σ x = .pointer (some ⟨b, 0, none⟩) := by first | ((conv => lhs; whnf); done) | rfl) (hm : Ms.Perm (boxR b cs T' :: Ms2) := by first | exact perm0 | exact perm1 | exact perm2 | exact perm3 | exact perm4 | exact perm5 | exact perm6 | exact perm7 | exact perm8) (hy : (ev σ y).cells = cs'.toArray := by rfl) (hi : Tab.inf P t = some (s, bt, zv) := by rfl) (hl : cs'.length = s := by rfl) (hl2 : cs.length = s := by rfl) (h1 : oneCells cs' = true := by rfl) : NvT tn P f R B n K ops fin i l none (.store t x y) ty σ Γ Ms := nv_store (r := [boxR b cs T']) (r' := [boxR b cs' T']) (fun M => se_box hx hy (List.Perm.refl _) hi hl hl2 h1) rfl hm k_
end
end Go.Hy
namespace Go.Hy
set_option linter.unusedVariables false
set_option linter.unusedSimpArgs false
set_option linter.unusedSectionVars false
open Go.Proofs
set_option linter.unusedVariables false
set_option linter.unusedSimpArgs false
set_option maxRecDepth 100000
def tys : Tys := ⟨89, 26, 71⟩
theorem cloneO (l : List Cl) (a_l : SH)  : Spec Tryz.prog 70 #[sl a_l (l.length)] [CL l a_l] [] (fun x : SH => sl x l.length) (fun x : SH => []) (fun x : SH => [rowS 2 tys.c x l.length (clFlat l)]) := by
  refine spec_go (args := [sl a_l (l.length)]) Tryz.func70 Tryz.ntmps70 rfl (by exact Nat.le_of_ble_eq_true rfl) fun B hB => ?_
  refine go_openCL (l := l) (a := a_l) (fun hl1 hA1 hU1 => ?_)
  refine go_seq ?_
  refine go_region ⟨_, Tryz.func70⟩ rfl ?_
  refine q0 rfl (o_assign ?_)
  refine rg_nil ?_
  refine go_seq ?_
  refine go_seq ?_
  refine go_region ⟨_, Tryz.func70⟩ rfl ?_
  refine q0 rfl (o_move ?_)
  refine q0 rfl (o_eqNil ?_)
  refine rg_nil ?_
  refine go_condI (fun h4 => ?_) (fun h4 => ?_)
  · refine go_seq ?_
    refine go_region ⟨_, Tryz.func70⟩ rfl ?_
    refine q0 rfl (o_assign ?_)
    refine rg_nil ?_
    have hl : l = [] := by (rcases Nat.eq_zero_or_pos l.length with h | h; exact List.eq_nil_of_length_eq_zero h; obtain ⟨bk, o, hav⟩ := hA1 h; rw [hav] at h4; cases h4)
    subst hl
    refine ret1 Tryz.func70 Tryz.results70 wn_ (none, 0) rfl (fun w hs => ((hs.less (by simp)).bare).rowS0 2 89)
  · refine go_skip ?_
    refine go_seq ?_
    refine go_region ⟨_, Tryz.func70⟩ rfl ?_
    refine q0 rfl (o_lit0 fun b5 => ?_)
    refine q0 rfl (o_move ?_)
    refine rg_state (fun w hs => hs.boxRow (sz := 2) (m := 0) rfl (by decide)) ?_
    refine q0 rfl (o_appCL (fun a7 => ?_) (by simp) (a := (some ⟨b5, 0, none⟩, 0)) (n' := 0) (b := a_l) (ls := l))
    refine rg_state (fun w hs => hs.appFlatC (l := []) (m := l)) ?_
    refine q0 rfl (o_assign ?_)
    refine rg_nil ?_
    refine ret1 Tryz.func70 Tryz.results70 wn_ a7 (by (conv => lhs; whnf); simp [sl]) (fun w hs => by have h := hs.less (Γ' := []) (by simp); simp only [Nat.zero_add, List.nil_append] at h; exact h)
abbrev CopyO (t : T) : Prop := ∀ vr vk vs, Spec Tryz.prog 36 #[.agg (tc t vr vk vs).toArray] [RT t vr vk vs] [] (fun x : {h : HT // h.er = t} => .agg (tc t x.1.vr x.1.vk x.1.vs).toArray) (fun _ => []) (fun x => [bigR (treeR tys x.1)])
theorem copiedO (ts : List T) (a_ts : SH) (ih : ∀ t, t ∈ ts → CopyO t) : Spec Tryz.prog 71 #[sl a_ts (ts.length)] [TL ts a_ts] [] (fun x : SH × {hs : List HT // hs.map HT.er = ts} => sl x.1 ts.length) (fun x : SH × {hs : List HT // hs.map HT.er = ts} => []) (fun x : SH × {hs : List HT // hs.map HT.er = ts} => [rowS 6 tys.t x.1 ts.length (tpFlat (x.2.1.map HT.tp)), bigR (kidsR tys x.2.1)]) := by
  refine spec_go (args := [sl a_ts (ts.length)]) Tryz.func71 Tryz.ntmps71 rfl (by exact Nat.le_of_ble_eq_true rfl) fun B hB => ?_
  refine go_openTL (ts := ts) (a := a_ts) (fun VR1 VK1 VS1 hl1 hA1 => ?_)
  refine go_seq ?_
  refine go_region ⟨_, Tryz.func71⟩ rfl ?_
  refine q0 rfl (o_assign ?_)
  refine rg_nil ?_
  refine go_seq ?_
  refine go_region ⟨_, Tryz.func71⟩ rfl ?_
  refine q0 rfl (o_assign ?_)
  refine rg_nil ?_
  refine go_seq ?_
  refine go_seq ?_
  refine go_region ⟨_, Tryz.func71⟩ rfl ?_
  refine q0 rfl (o_move ?_)
  refine q0 rfl (o_len ?_)
  refine q0 rfl (o_move ?_)
  refine rg_nil ?_
  refine go_block ?_
  refine go_loopE (X := Nat × SH × List HT) (fun s_ => s_.1 ≤ ts.length ∧ s_.2.2.map HT.er = ts.take s_.1) (fun s_ => [(3, sl s_.2.1 (s_.1)), (6, sl a_ts (ts.length)), (7, .int .i64 ((ts.length : Int))), (8, .int .i64 ((s_.1 : Int)))]) (fun s_ G_ => G_) (fun s_ => [bigR (kidsR tys s_.2.2), rowS 6 26 s_.2.1 (s_.1) (tpFlat (s_.2.2.map HT.tp))]) (fun s_ => ts.length - s_.1) (0, (none, 0), []) (⟨by omega, rfl⟩) (by exact ⟨rfl, rfl, rfl, rfl, trivial⟩) ?_ ?_
  · exact fun w hs => ((hs.rowS0 6 26).bigNil)
  · intro ⟨i, a, ks⟩ base0 ⟨hi, hks⟩ next0
    dsimp only at  hi  hks  next0 ⊢
    refine go_seq ?_
    refine go_region ⟨_, Tryz.func71⟩ rfl ?_
    refine q0 rfl (o_lss ?_)
    refine rg_nil ?_
    refine go_seq ?_
    refine go_condI (fun h9 => ?_) (fun h9 => ?_)
    · have c9 : (decide ((i : Int) < (ts.length : Int))) = true := h9
      try simp only [sC, bne_iff_ne, beq_iff_eq, ne_eq] at c9
      refine go_skip ?_
      refine go_seq ?_
      refine go_block ?_
      refine go_seq ?_
      refine go_kid (ts := ts) (a := a_ts) (VR := VR1) (VK := VK1) (VS := VS1) i (by omega) ?_
      refine go_region ⟨_, Tryz.func71⟩ rfl ?_
      obtain ⟨bk2, o2, hav2⟩ := hA1 (by omega)
      refine q0 rfl (o_ixN ?_ (j := i))
      refine q0 rfl (o_ldT ?_)
      refine q0 rfl (o_new fun b5 => ?_)
      refine q0 rfl (o_st ?_)
      refine rg_nil ?_
      refine go_region ⟨_, Tryz.func71⟩ rfl ?_
      refine q0 rfl (o_move ?_)
      refine q0 rfl (o_lds ?_)
      refine q0 rfl (o_call Tryz.call36 (ih _ (getD_mem (show i < ts.length by omega)) (VR1 i) (VK1 i) (VS1 i)) (fun x14 => ?_))
      refine q0 rfl (o_lit1 fun b15 => ?_)
      refine q0 rfl (o_appS (fun a16 => ?_) (a := a) (n' := i))
      refine rg_state (fun w hs => ((hs.perm perm1).drop).snocT) ?_
      refine q0 rfl (o_assign ?_)
      refine rg_nil ?_
      refine go_inBlock ?_
      refine go_region ⟨_, Tryz.func71⟩ rfl ?_
      refine q0 rfl (o_add ?_)
      refine q0 rfl (o_move ?_)
      refine rg_nil ?_
      refine go_state (fun w hs => ?_) (next0 (i + 1, a16, ks ++ [x14.1]) _ (⟨by omega, by rw [List.map_append, hks, take_succ_getD (d := t0) (by omega)]; simp [x14.2]⟩) (by (try simp only); omega) ⟨rfl, rfl, rfl, rfl, trivial⟩)
      have e1 : (ks ++ [x14.1]).map HT.tp = ks.map HT.tp ++ [(ts.getD i t0, x14.1.vr, x14.1.vk, x14.1.vs)] := by simp only [List.map_append, List.map_cons, List.map_nil, HT.tp, x14.2]
      rw [e1]; exact (((((((((hs.less (by simp +contextual)).perm perm2).perm perm1).perm perm3).perm perm3).joinK).perm perm1).perm perm1).dropR (A := [_, _]))
    · have c9 : (decide ((i : Int) < (ts.length : Int))) = false := h9
      try simp only [sC, bne_iff_ne, beq_iff_eq, ne_eq] at c9
      refine go_exit rfl ?_
      refine go_seq ?_
      refine go_region ⟨_, Tryz.func71⟩ rfl ?_
      refine q0 rfl (o_move ?_)
      refine q0 rfl (o_assign ?_)
      refine rg_nil ?_
      have he : i = ts.length := by omega
      have hks2 : ks.map HT.er = ts := by rw [hks, he, List.take_length]
      refine ret1 Tryz.func71 Tryz.results71 wn_ (a, ⟨ks, hks2⟩) (by rw [he]; rfl) (fun w hs => by rw [← he]; exact ((hs.perm perm1).less (by simp)))
theorem copyO_walk (t : T) (vr_t vk_t vs_t : SH) (ih : ∀ p, p ∈ parts t → CopyO p.1) : Spec Tryz.prog 36 #[.agg (tc t vr_t vk_t vs_t).toArray] [RT t vr_t vk_t vs_t] [] (fun x : {h : HT // h.er = t} => .agg (tc t x.1.vr x.1.vk x.1.vs).toArray) (fun x : {h : HT // h.er = t} => []) (fun x : {h : HT // h.er = t} => [bigR (treeR tys x.1)]) := by
  refine spec_go (args := [.agg (tc t vr_t vk_t vs_t).toArray]) Tryz.func36 Tryz.ntmps36 rfl (by exact Nat.le_of_ble_eq_true rfl) fun B hB => ?_
  refine go_open (t := t) (vr := vr_t) (vk := vk_t) (vs := vs_t) (fun hk1 hn1 hm1 => ?_)
  refine go_openCL (l := (t).r) (a := vr_t) (fun hl2 hA2 hU2 => ?_)
  refine go_openTL (ts := (t).kids) (a := vk_t) (fun VR3 VK3 VS3 hl3 hA3 => ?_)
  refine go_openBL (bs := (t).sys) (a := vs_t) (fun VF4 VK4 hl4 hA4 => ?_)
  refine go_seq ?_
  refine go_region ⟨_, Tryz.func36⟩ rfl ?_
  refine q0 rfl (o_box fun b1 => ?_)
  refine q0 rfl (o_new fun b2 => ?_)
  refine rg_nil ?_
  refine go_seq ?_
  refine go_draw (tn := false) (A := [0, 1, 0, 4, 0, 16, 0, 64, 192, 0, 512, 1984, 4095, 0, 16383]) (l := [0, 1, 2, 3, 4, 5, 6, 7, 9, 10, 8, 11, 12, 13]) (fin := [14]) Tab.mixed ⟨_, Tryz.func36⟩ (by rfl) ?_
  refine n0 rfl (v_fa ?_)
  refine n0 rfl (v_ld ?_)
  refine n0 rfl (v_fa ?_)
  refine n0 rfl (v_ld ?_)
  refine n0 rfl (v_fa ?_)
  refine n0 rfl (v_ld ?_)
  refine n0 rfl (v_fa ?_)
  refine n0 rfl (v_ld ?_)
  refine n0 rfl (v_fa ?_)
  refine n0 rfl (v_ld ?_)
  refine n0 rfl (v_call Tryz.call70 (cloneO ((t).r) vr_t ) (fun x14 => ?_))
  refine n0 rfl (v_call Tryz.call71 (copiedO ((t).kids) vk_t (fun k hk => (by obtain ⟨p, hp, e⟩ := kid_mem_parts hk; exact e ▸ ih p hp))) (fun x17 => ?_))
  refine n0 rfl (v_build (cs := [.int .i64 ((t).kind), .int .i64 ((t).n), .string ((t).name), sl x14 (((t).r).length), sl x17.1 (((t).kids).length), sl (none, 0) (0)]) ?_)
  refine n0 rfl (v_new fun b3 => ?_)
  refine NV.done ?_
  refine q0 rfl (o_st ?_)
  refine rg_nil ?_
  refine go_seq ?_
  refine go_seq ?_
  refine go_region ⟨_, Tryz.func36⟩ rfl ?_
  refine q0 rfl (o_fa ?_)
  refine q0 rfl (o_ld ?_)
  refine q0 rfl (o_len ?_)
  refine q0 rfl (o_move ?_)
  refine rg_nil ?_
  refine go_block ?_
  refine go_loopE (X := Nat × SH × List HB) (fun s_ => s_.1 ≤ t.sys.length ∧ s_.2.2.map HB.er = t.sys.take s_.1) (fun s_ => [(2, .pointer (some ⟨b2, 0, none⟩)), (3, .pointer (some ⟨b3, 0, none⟩)), (20, sl vs_t ((t).sys.length)), (21, .int .i64 (((t).sys.length : Int))), (22, .int .i64 ((s_.1 : Int)))]) (fun s_ G_ => G_) (fun s_ => [bigR (brsR tys s_.2.2), rowS 2 71 s_.2.1 (s_.1) (bpFlat (s_.2.2.map HB.bp)), boxR b3 [.int .i64 (t.kind), .int .i64 (t.n), .string (t.name), sl x14 (t.r.length), sl x17.1 (t.kids.length), sl s_.2.1 (s_.1)] 26, rowS 6 26 x17.1 (((t).kids).length) (tpFlat (x17.2.1.map HT.tp)), bigR (kidsR tys x17.2.1), rowS 2 89 x14 (((t).r).length) (clFlat ((t).r)), boxR b2 [.int .i64 (0), .int .i64 (0), .string ((ByteArray.mk #[])), sl (none, 0) (0), sl (none, 0) (0), sl (none, 0) (0)] 26, boxR b1 (tc t vr_t vk_t vs_t) 26]) (fun s_ => t.sys.length - s_.1) (0, (none, 0), []) (⟨by omega, rfl⟩) (by exact ⟨rfl, rfl, rfl, rfl, rfl, trivial⟩) ?_ ?_
  · exact fun w hs => ((hs.rowS0 2 71).bigNil)
  · intro ⟨i, a, bs⟩ base0 ⟨hi, hbs⟩ next0
    dsimp only at  hi  hbs  next0 ⊢
    refine go_seq ?_
    refine go_region ⟨_, Tryz.func36⟩ rfl ?_
    refine q0 rfl (o_lss ?_)
    refine rg_nil ?_
    refine go_seq ?_
    refine go_condI (fun h23 => ?_) (fun h23 => ?_)
    · have c23 : (decide ((i : Int) < ((t).sys.length : Int))) = true := h23
      try simp only [sC, bne_iff_ne, beq_iff_eq, ne_eq] at c23
      refine go_skip ?_
      refine go_seq ?_
      refine go_block ?_
      refine go_seq ?_
      refine go_branch (bs := (t).sys) (a := vs_t) (VF := VF4) (VK := VK4) i (by omega) ?_
      refine go_openCL (l := (((t).sys).getD i br0).face) (a := VF4 i) (fun hl5 hA5 hU5 => ?_)
      refine go_openTL (ts := (((t).sys).getD i br0).kids) (a := VK4 i) (fun VR6 VK6 VS6 hl6 hA6 => ?_)
      refine go_region ⟨_, Tryz.func36⟩ rfl ?_
      obtain ⟨bk7, o7, hav7⟩ := hA4 (by omega)
      refine q0 rfl (o_ixN ?_ (j := i))
      refine q0 rfl (o_ldB ?_)
      refine q0 rfl (o_new fun b5 => ?_)
      refine q0 rfl (o_st ?_)
      refine rg_nil ?_
      refine go_draw (tn := false) (A := [0, 1, 0, 4, 12, 0, 32, 124, 252, 508, 1023, 2047, 4095]) (l := [0, 1, 2, 3, 5, 6, 4, 7, 8, 9]) (fin := [10, 11, 12]) Tab.mixed ⟨_, Tryz.func36⟩ (by rfl) ?_
      refine n0 rfl (v_fa ?_)
      refine n0 rfl (v_ld ?_)
      refine n0 rfl (v_fa ?_)
      refine n0 rfl (v_ld ?_)
      refine n0 rfl (v_fa ?_)
      refine n0 rfl (v_ld ?_)
      refine n0 rfl (v_call Tryz.call70 (cloneO ((((t).sys).getD i br0).face) (VF4 i) ) (fun x30 => ?_))
      refine n0 rfl (v_call Tryz.call71 (copiedO ((((t).sys).getD i br0).kids) (VK4 i) (fun k hk => (by obtain ⟨p, hp, e⟩ := sys_mem_parts (getD_mem (show i < t.sys.length by omega)) hk; exact e ▸ ih p hp))) (fun x33 => ?_))
      refine n0 rfl (v_build (cs := bc (t.sys.getD i br0) x30 x33.1) ?_)
      refine n0 rfl (v_lit1 fun b35 => ?_)
      refine NV.done ?_
      refine q0 rfl (o_appS (fun a36 => ?_) (a := a) (n' := i))
      refine rg_state (fun w hs => ((hs.perm perm1).drop).snocB) ?_
      refine q0 rfl (o_fa ?_)
      refine q0 rfl (o_stc ?_)
      refine rg_nil ?_
      refine go_inBlock ?_
      refine go_region ⟨_, Tryz.func36⟩ rfl ?_
      refine q0 rfl (o_add ?_)
      refine q0 rfl (o_move ?_)
      refine rg_nil ?_
      refine go_state (fun w hs => ?_) (next0 (i + 1, a36, bs ++ [HB.mk (t.sys.getD i br0).face x30 x33.2.1 x33.1]) _ (⟨by omega, by rw [List.map_append, hbs, take_succ_getD (d := br0) (by omega)]; simp [HB.er, HT.erL_eq, x33.2.2, Br.eta]⟩) (by (try simp only); omega) ⟨rfl, rfl, rfl, rfl, rfl, trivial⟩)
      have e1 : (bs ++ [HB.mk (t.sys.getD i br0).face x30 x33.2.1 x33.1]).map HB.bp = bs.map HB.bp ++ [(t.sys.getD i br0, x30, x33.1)] := by simp only [List.map_append, List.map_cons, List.map_nil, HB.bp, HB.er, HB.vf, HB.vk, HT.erL_eq, x33.2.2, Br.eta]
      rw [e1]; exact (((((((((((((((((((((((hs.less (by simp +contextual)).perm perm11).perm perm11).perm perm11).perm perm11).perm perm11).perm perm10).perm perm7).perm perm7).perm perm11).perm perm10).perm perm10).perm perm11).joinB rfl (by simpa using (congrArg List.length x33.2.2).symm) rfl rfl).perm perm8).perm perm8).perm perm8).perm perm8).perm perm8).perm perm6).perm perm7).perm perm7).dropR (A := [_, _, _, _, _, _, _, _]))
    · have c23 : (decide ((i : Int) < ((t).sys.length : Int))) = false := h23
      try simp only [sC, bne_iff_ne, beq_iff_eq, ne_eq] at c23
      refine go_exit rfl ?_
      refine go_seq ?_
      refine go_region ⟨_, Tryz.func36⟩ rfl ?_
      refine q0 rfl (o_lds ?_)
      refine q0 rfl (o_st ?_)
      refine rg_nil ?_
      have he : i = t.sys.length := by omega
      have hb2 : bs.map HB.er = t.sys := by rw [hbs, he, List.take_length]
      have hbl : bs.length = t.sys.length := by rw [← hb2]; simp
      have hkl : x17.2.1.length = t.kids.length := by rw [← congrArg List.length x17.2.2]; simp
      have her : (HT.mk t.kind t.n t.name t.r x14 x17.2.1 x17.1 bs a).er = t := by simp only [HT.er, HT.erL_eq, HT.erB_eq]; rw [x17.2.2, hb2, T.eta]
      refine retC Tryz.func36 Tryz.results36 ⟨(HT.mk t.kind t.n t.name t.r x14 x17.2.1 x17.1 bs a), her⟩ rfl mm_ rfl rfl rfl (by simp only [tc, HT.vr, HT.vk, HT.vs, he]; rfl) (fun w hs => ?_)
      exact (((((((((((hs.less (by simp)).perm perm7).perm perm4).perm perm2).perm perm3).perm perm6).perm perm5).perm perm6).perm perm7).joinT (y := tys) (k := t.kind) (n := t.n) (nm := t.name) rfl hkl.symm (by omega) rfl rfl rfl).dropR (A := [_]))
theorem copyO : ∀ t : T, CopyO t := T.ind fun t ih vr vk vs => copyO_walk t vr vk vs ih
end Go.Hy
namespace Go.Hy
set_option linter.unusedVariables false
set_option linter.unusedSimpArgs false
set_option linter.unusedSectionVars false
open Go.Proofs
set_option linter.unusedVariables false
set_option linter.unusedSimpArgs false
set_option maxRecDepth 100000
theorem pmore (k : Int)  : Spec Tryz.prog 79 #[.int .i64 (k)] [] [] (fun _ : Unit => .int .i64 (more k)) (fun _ : Unit => []) (fun _ : Unit => []) := by
  refine spec_go (args := [.int .i64 (k)]) Tryz.func79 Tryz.ntmps79 rfl (by exact Nat.le_of_ble_eq_true rfl) fun B hB => ?_
  refine go_seq ?_
  refine go_region ⟨_, Tryz.func79⟩ rfl ?_
  refine q0 rfl (o_assign ?_)
  refine rg_nil ?_
  refine go_seq ?_
  refine go_seq ?_
  refine go_region ⟨_, Tryz.func79⟩ rfl ?_
  refine q0 rfl (o_move ?_)
  refine q0 rfl (o_eqI ?_)
  refine rg_nil ?_
  refine go_condI (fun h4 => ?_) (fun h4 => ?_)
  · have c4 : (decide (k = 15)) = true := h4
    try simp only [sC, bne_iff_ne, beq_iff_eq, ne_eq] at c4
    refine go_seq ?_
    refine go_region ⟨_, Tryz.func79⟩ rfl ?_
    refine q0 rfl (o_assign ?_)
    refine rg_nil ?_
    refine ret1 Tryz.func79 Tryz.results79 wn_ () (by first | rfl | (simp_all [more]; done) | (simp_all [more]; omega)) (fun w hs => hs.none)
  · have c4 : (decide (k = 15)) = false := h4
    try simp only [sC, bne_iff_ne, beq_iff_eq, ne_eq] at c4
    refine go_skip ?_
    refine go_seq ?_
    refine go_region ⟨_, Tryz.func79⟩ rfl ?_
    refine q0 rfl (o_assign ?_)
    refine rg_nil ?_
    refine ret1 Tryz.func79 Tryz.results79 wn_ () (by first | rfl | (simp_all [more]; done) | (simp_all [more]; omega)) (fun w hs => hs.none)
end Go.Hy
namespace Go.Hy
set_option linter.unusedVariables false
set_option linter.unusedSimpArgs false
set_option linter.unusedSectionVars false
open Go.Proofs
set_option linter.unusedVariables false
set_option linter.unusedSimpArgs false
set_option maxRecDepth 100000
theorem parts_walk (t : T) (vr_t vk_t vs_t : SH) (hz : size t ≤ 1000000000) : Spec Tryz.prog 50 #[.agg (tc t vr_t vk_t vs_t).toArray] [RT t vr_t vk_t vs_t] [] (fun x : {x : SH × List QP // x.2.map qer = parts t} => sl x.1.1 x.1.2.length) (fun x : {x : SH × List QP // x.2.map qer = parts t} => [AllF qE x.1.2]) (fun x : {x : SH × List QP // x.2.map qer = parts t} => [rowS 8 44 x.1.1 x.1.2.length (spFlat x.1.2)]) := by
  refine spec_go (args := [.agg (tc t vr_t vk_t vs_t).toArray]) Tryz.func50 Tryz.ntmps50 rfl (by exact Nat.le_of_ble_eq_true rfl) fun B hB => ?_
  refine go_open (t := t) (vr := vr_t) (vk := vk_t) (vs := vs_t) (fun hk1 hn1 hm1 => ?_)
  refine go_openCL (l := (t).r) (a := vr_t) (fun hl2 hA2 hU2 => ?_)
  refine go_openTL (ts := (t).kids) (a := vk_t) (fun VR3 VK3 VS3 hl3 hA3 => ?_)
  refine go_openBL (bs := (t).sys) (a := vs_t) (fun VF4 VK4 hl4 hA4 => ?_)
  have hpn := parts_len t
  have hp0 : t.kids.length ≤ (parts t).length := sys_le (t := t) (Nat.zero_le _)
  refine go_seq ?_
  refine go_region ⟨_, Tryz.func50⟩ rfl ?_
  refine q0 rfl (o_box fun b1 => ?_)
  refine q0 rfl (o_assign ?_)
  refine rg_nil ?_
  refine go_seq ?_
  refine go_region ⟨_, Tryz.func50⟩ rfl ?_
  refine q0 rfl (o_assign ?_)
  refine rg_nil ?_
  refine go_seq ?_
  refine go_seq ?_
  refine go_region ⟨_, Tryz.func50⟩ rfl ?_
  refine q0 rfl (o_fa ?_)
  refine q0 rfl (o_ld ?_)
  refine q0 rfl (o_len ?_)
  refine q0 rfl (o_move ?_)
  refine rg_nil ?_
  refine go_block ?_
  refine go_loopE (X := Nat × SH × List QP) (fun s_ => s_.1 ≤ t.kids.length ∧ s_.2.2.map qer = (parts t).take s_.1) (fun s_ => [(1, .pointer (some ⟨b1, 0, none⟩)), (3, sl s_.2.1 (s_.1)), (13, sl vk_t ((t).kids.length)), (14, .int .i64 (((t).kids.length : Int))), (15, .int .i64 ((s_.1 : Int)))]) (fun s_ G_ => AllF qE s_.2.2 :: G_) (fun s_ => [rowS 8 44 s_.2.1 (s_.1) (spFlat s_.2.2), boxR b1 (tc t vr_t vk_t vs_t) 26]) (fun s_ => t.kids.length - s_.1) (0, (none, 0), []) (⟨by omega, rfl⟩) (by exact ⟨rfl, rfl, rfl, rfl, rfl, trivial⟩) ?_ ?_
  · exact fun w hs => ((hs.rowS0 8 44).allNil qE)
  · intro ⟨i, a, qs⟩ base0 ⟨hi, hqs⟩ next0
    dsimp only at  hi  hqs  next0 ⊢
    refine go_seq ?_
    refine go_region ⟨_, Tryz.func50⟩ rfl ?_
    refine q0 rfl (o_lss ?_)
    refine rg_nil ?_
    refine go_seq ?_
    refine go_condI (fun h16 => ?_) (fun h16 => ?_)
    · have c16 : (decide ((i : Int) < ((t).kids.length : Int))) = true := h16
      try simp only [sC, bne_iff_ne, beq_iff_eq, ne_eq] at c16
      refine go_skip ?_
      refine go_seq ?_
      refine go_block ?_
      refine go_seq ?_
      refine go_kid (ts := (t).kids) (a := vk_t) (VR := VR3) (VK := VK3) (VS := VS3) i (by omega) ?_
      refine go_region ⟨_, Tryz.func50⟩ rfl ?_
      refine q0 rfl (o_move ?_)
      obtain ⟨bk5, o5, hav5⟩ := hA3 (by omega)
      refine q0 rfl (o_ixN ?_ (j := i))
      refine q0 rfl (o_ldT ?_)
      refine q0 rfl (o_new fun b5 => ?_)
      refine q0 rfl (o_assign ?_)
      refine q0 rfl (o_st ?_)
      refine rg_nil ?_
      refine go_seq ?_
      refine go_region ⟨_, Tryz.func50⟩ rfl ?_
      refine q0 rfl (o_fa ?_)
      refine q0 rfl (o_ld ?_)
      refine q0 rfl (o_move ?_)
      refine q0 rfl (o_call Tryz.call72 (binds_spec ((t).kind) (i : Int) ) (fun x24 => ?_))
      refine q0 rfl (o_move ?_)
      refine q0 rfl (o_extract ?_)
      refine q0 rfl (o_extract ?_)
      refine q0 rfl (o_assign ?_)
      refine q0 rfl (o_assign ?_)
      refine rg_nil ?_
      refine go_region ⟨_, Tryz.func50⟩ rfl ?_
      refine q0 rfl (o_move ?_)
      refine q0 rfl (o_lds ?_)
      refine q0 rfl (o_move ?_)
      refine q0 rfl (o_move ?_)
      refine q0 rfl (o_build (cs := [.int .i64 ((((t).kids).getD i t0).kind), .int .i64 ((((t).kids).getD i t0).n), .string ((((t).kids).getD i t0).name), sl (VR3 i) ((((t).kids).getD i t0).r.length), sl (VK3 i) ((((t).kids).getD i t0).kids.length), sl (VS3 i) ((((t).kids).getD i t0).sys.length), .int .i64 ((binds ((t).kind) (i : Int)).1), .int .i64 ((binds ((t).kind) (i : Int)).2)]) ?_ (hb := fill_spot012 (by rfl) (by rfl)))
      refine q0 rfl (o_lit1 fun b32 => ?_)
      refine q0 rfl (o_appS (fun a33 => ?_) (a := a) (n' := i))
      refine rg_state (fun w hs => ((hs.perm perm1).drop).snocQ (q := ((((t).kids).getD i t0, VR3 i, VK3 i, VS3 i), (binds ((t).kind) (i : Int)).1, (binds ((t).kind) (i : Int)).2)) rfl) ?_
      refine q0 rfl (o_assign ?_)
      refine rg_nil ?_
      refine go_inBlock ?_
      refine go_region ⟨_, Tryz.func50⟩ rfl ?_
      refine q0 rfl (o_add ?_)
      refine q0 rfl (o_move ?_)
      refine rg_nil ?_
      refine go_state (fun w hs => ?_) (next0 (i + 1, a33, (qs ++ [((((t).kids).getD i t0, VR3 i, VK3 i, VS3 i), (binds ((t).kind) (i : Int)).1, (binds ((t).kind) (i : Int)).2)])) _ (⟨by omega, by rw [List.map_append, hqs, take_snoc (parts_kid t i (by omega))]; rfl⟩) (by (try simp only); omega) ⟨rfl, rfl, rfl, rfl, rfl, trivial⟩)
      exact (((((hs.allAdd (E := qE) (l := qs) (x := ((((t).kids).getD i t0, VR3 i, VK3 i, VS3 i), (binds ((t).kind) (i : Int)).1, (binds ((t).kind) (i : Int)).2)) mf_ mf_).less (by simp +contextual)).perm perm2).perm perm1).dropR (A := [_, _]))
    · have c16 : (decide ((i : Int) < ((t).kids.length : Int))) = false := h16
      try simp only [sC, bne_iff_ne, beq_iff_eq, ne_eq] at c16
      have hei : i = t.kids.length := by omega
      refine go_ms (Ms' := [rowS 8 44 a (t.kids.length) (spFlat qs), boxR b1 (tc t vr_t vk_t vs_t) 26]) (by rw [hei]) ?_
      refine go_exit rfl ?_
      refine go_seq ?_
      refine go_seq ?_
      refine go_region ⟨_, Tryz.func50⟩ rfl ?_
      refine q0 rfl (o_fa ?_)
      refine q0 rfl (o_ld ?_)
      refine q0 rfl (o_len ?_)
      refine q0 rfl (o_move ?_)
      refine rg_nil ?_
      refine go_block ?_
      refine go_loopE (X := Nat × SH × List QP) (fun s_ => s_.1 ≤ t.sys.length ∧ s_.2.2.map qer = (parts t).take (t.kids.length + sysBefore s_.1 t.sys)) (fun s_ => [(1, .pointer (some ⟨b1, 0, none⟩)), (3, sl s_.2.1 ((t.kids.length + sysBefore s_.1 t.sys))), (36, sl vs_t ((t).sys.length)), (37, .int .i64 (((t).sys.length : Int))), (38, .int .i64 ((s_.1 : Int)))]) (fun s_ G_ => AllF qE s_.2.2 :: G_) (fun s_ => [rowS 8 44 s_.2.1 ((t.kids.length + sysBefore s_.1 t.sys)) (spFlat s_.2.2), boxR b1 (tc t vr_t vk_t vs_t) 26]) (fun s_ => t.sys.length - s_.1) (0, a, qs) (⟨by omega, by rw [hqs, hei]; rfl⟩) (by exact ⟨rfl, (by (conv => lhs; whnf); rw [hei]; rfl), rfl, rfl, rfl, trivial⟩) ?_ ?_
      · exact fun w hs => (hs.less (by simp +contextual))
      · intro ⟨s, a2, qs2⟩ base1 ⟨hs1, hq2⟩ next1
        dsimp only at  hs1  hq2  next1 ⊢
        refine go_seq ?_
        refine go_region ⟨_, Tryz.func50⟩ rfl ?_
        refine q0 rfl (o_lss ?_)
        refine rg_nil ?_
        refine go_seq ?_
        refine go_condI (fun h39 => ?_) (fun h39 => ?_)
        · have c39 : (decide ((s : Int) < ((t).sys.length : Int))) = true := h39
          try simp only [sC, bne_iff_ne, beq_iff_eq, ne_eq] at c39
          have hp1 := sys_le (t := t) (s := s + 1) (by omega)
          rw [sysBefore_succ s t.sys (by omega)] at hp1
          refine go_skip ?_
          refine go_seq ?_
          refine go_block ?_
          refine go_seq ?_
          refine go_branch (bs := (t).sys) (a := vs_t) (VF := VF4) (VK := VK4) s (by omega) ?_
          refine go_openCL (l := (((t).sys).getD s br0).face) (a := VF4 s) (fun hl6 hA6 hU6 => ?_)
          refine go_openTL (ts := (((t).sys).getD s br0).kids) (a := VK4 s) (fun VR7 VK7 VS7 hl7 hA7 => ?_)
          refine go_region ⟨_, Tryz.func50⟩ rfl ?_
          obtain ⟨bk8, o8, hav8⟩ := hA4 (by omega)
          refine q0 rfl (o_ixN ?_ (j := s))
          refine q0 rfl (o_ldB ?_)
          refine q0 rfl (o_new fun b9 => ?_)
          refine q0 rfl (o_st ?_)
          refine rg_nil ?_
          refine go_seq ?_
          refine go_region ⟨_, Tryz.func50⟩ rfl ?_
          refine q0 rfl (o_fa ?_)
          refine q0 rfl (o_ld ?_)
          refine q0 rfl (o_len ?_)
          refine q0 rfl (o_move ?_)
          refine rg_nil ?_
          refine go_block ?_
          refine go_loopE (X := Nat × SH × List QP) (fun s_ => s_.1 ≤ (t.sys.getD s br0).kids.length ∧ s_.2.2.map qer = (parts t).take (t.kids.length + sysBefore s t.sys + s_.1)) (fun s_ => [(1, .pointer (some ⟨b1, 0, none⟩)), (3, sl s_.2.1 ((t.kids.length + sysBefore s t.sys + s_.1))), (36, sl vs_t ((t).sys.length)), (37, .int .i64 (((t).sys.length : Int))), (38, .int .i64 ((s : Int))), (43, sl (VK4 s) ((((t).sys).getD s br0).kids.length)), (44, .int .i64 (((((t).sys).getD s br0).kids.length : Int))), (45, .int .i64 ((s_.1 : Int)))]) (fun s_ G_ => AllF qE s_.2.2 :: G_) (fun s_ => [boxR b9 (bc (((t).sys).getD s br0) (VF4 s) (VK4 s)) 71, rowS 8 44 s_.2.1 ((t.kids.length + sysBefore s t.sys + s_.1)) (spFlat s_.2.2), boxR b1 (tc t vr_t vk_t vs_t) 26]) (fun s_ => (t.sys.getD s br0).kids.length - s_.1) (0, a2, qs2) (⟨by omega, hq2⟩) (by exact ⟨rfl, rfl, rfl, rfl, rfl, rfl, rfl, rfl, trivial⟩) ?_ ?_
          · exact fun w hs => (hs.less (by simp +contextual))
          · intro ⟨k, a3, qs3⟩ base2 ⟨hk1, hq3⟩ next2
            dsimp only at  hk1  hq3  next2 ⊢
            refine go_seq ?_
            refine go_region ⟨_, Tryz.func50⟩ rfl ?_
            refine q0 rfl (o_lss ?_)
            refine rg_nil ?_
            refine go_seq ?_
            refine go_condI (fun h46 => ?_) (fun h46 => ?_)
            · have c46 : (decide ((k : Int) < ((((t).sys).getD s br0).kids.length : Int))) = true := h46
              try simp only [sC, bne_iff_ne, beq_iff_eq, ne_eq] at c46
              refine go_skip ?_
              refine go_seq ?_
              refine go_block ?_
              refine go_seq ?_
              refine go_kid (ts := (((t).sys).getD s br0).kids) (a := VK4 s) (VR := VR7) (VK := VK7) (VS := VS7) k (by omega) ?_
              refine go_region ⟨_, Tryz.func50⟩ rfl ?_
              obtain ⟨bk9, o9, hav9⟩ := hA7 (by omega)
              refine q0 rfl (o_ixN ?_ (j := k))
              refine q0 rfl (o_ldT ?_)
              refine q0 rfl (o_new fun b11 => ?_)
              refine q0 rfl (o_st ?_)
              refine rg_nil ?_
              refine go_draw (tn := false) (A := [0, 0, 0, 4, 12, 30, 62, 127, 255]) (l := [0, 1, 2, 3, 4, 5, 6]) (fin := [7, 8]) Tab.mixed ⟨_, Tryz.func50⟩ (by rfl) ?_
              refine n0 rfl (v_move ?_)
              refine n0 rfl (v_lds ?_)
              refine n0 rfl (v_fa ?_)
              refine n0 rfl (v_ld ?_)
              refine n0 rfl (v_call Tryz.call79 (pmore ((t).kind) ) (fun x53 => ?_))
              refine n0 rfl (v_build (cs := [.int .i64 ((((((t).sys).getD s br0).kids).getD k t0).kind), .int .i64 ((((((t).sys).getD s br0).kids).getD k t0).n), .string ((((((t).sys).getD s br0).kids).getD k t0).name), sl (VR7 k) ((((((t).sys).getD s br0).kids).getD k t0).r.length), sl (VK7 k) ((((((t).sys).getD s br0).kids).getD k t0).kids.length), sl (VS7 k) ((((((t).sys).getD s br0).kids).getD k t0).sys.length), .int .i64 (0), .int .i64 (more ((t).kind))]) ?_ (hb := fill_spot012 (by rfl) (by rfl)))
              refine n0 rfl (v_lit1 fun b55 => ?_)
              refine NV.done ?_
              refine q0 rfl (o_appS (fun a56 => ?_) (a := a3) (n' := (t.kids.length + sysBefore s t.sys + k)))
              refine rg_state (fun w hs => ((hs.perm perm1).drop).snocQ (q := ((((((t).sys).getD s br0).kids).getD k t0, VR7 k, VK7 k, VS7 k), 0, more ((t).kind))) rfl) ?_
              refine q0 rfl (o_assign ?_)
              refine rg_nil ?_
              refine go_inBlock ?_
              refine go_region ⟨_, Tryz.func50⟩ rfl ?_
              refine q0 rfl (o_add ?_)
              refine q0 rfl (o_move ?_)
              refine rg_nil ?_
              refine go_state (fun w hs => ?_) (next2 (k + 1, a56, (qs3 ++ [((((((t).sys).getD s br0).kids).getD k t0, VR7 k, VK7 k, VS7 k), 0, more ((t).kind))])) _ (⟨by omega, by rw [List.map_append, hq3, ← Nat.add_assoc, take_snoc (parts_sys t s k (by omega) (by omega))]; rfl⟩) (by (try simp only); omega) ⟨rfl, rfl, rfl, rfl, rfl, rfl, rfl, rfl, trivial⟩)
              exact ((((((hs.allAdd (E := qE) (l := qs3) (x := ((((((t).sys).getD s br0).kids).getD k t0, VR7 k, VK7 k, VS7 k), 0, more ((t).kind))) mf_ mf_).less (by simp +contextual)).perm perm3).perm perm1).perm perm3).dropR (A := [_, _, _]))
            · have c46 : (decide ((k : Int) < ((((t).sys).getD s br0).kids.length : Int))) = false := h46
              try simp only [sC, bne_iff_ne, beq_iff_eq, ne_eq] at c46
              have hek : k = (t.sys.getD s br0).kids.length := by omega
              refine go_ms (Ms' := [boxR b9 (bc (((t).sys).getD s br0) (VF4 s) (VK4 s)) 71, rowS 8 44 a3 ((t.kids.length + sysBefore s t.sys + (t.sys.getD s br0).kids.length)) (spFlat qs3), boxR b1 (tc t vr_t vk_t vs_t) 26]) (by rw [hek]) ?_
              refine go_exit rfl ?_
              refine go_inBlock ?_
              refine go_region ⟨_, Tryz.func50⟩ rfl ?_
              refine q0 rfl (o_add ?_)
              refine q0 rfl (o_move ?_)
              refine rg_nil ?_
              refine go_state (fun w hs => ?_) (next1 (s + 1, a3, qs3) _ (⟨by omega, by rw [hq3, hek, sysBefore_succ s t.sys (by omega), Nat.add_assoc]⟩) (by (try simp only); omega) ⟨rfl, (by (conv => lhs; whnf); rw [hek, Nat.add_assoc, ← sysBefore_succ s t.sys (by omega)]; rfl), rfl, rfl, rfl, trivial⟩)
              have e9 : t.kids.length + sysBefore s t.sys + (t.sys.getD s br0).kids.length = t.kids.length + sysBefore (s + 1) t.sys := by rw [Nat.add_assoc, ← sysBefore_succ s t.sys (by omega)]
              rw [← e9]; exact ((((hs.less (by simp +contextual)).perm perm2).perm perm2).dropR (A := [_, _]))
        · have c39 : (decide ((s : Int) < ((t).sys.length : Int))) = false := h39
          try simp only [sC, bne_iff_ne, beq_iff_eq, ne_eq] at c39
          refine go_exit rfl ?_
          refine go_seq ?_
          refine go_region ⟨_, Tryz.func50⟩ rfl ?_
          refine q0 rfl (o_move ?_)
          refine q0 rfl (o_assign ?_)
          refine rg_nil ?_
          have hes : s = t.sys.length := by omega
          have hnn : t.kids.length + sysBefore s t.sys = (parts t).length := by rw [parts_length, hes]
          have hfull : qs2.map qer = parts t := by rw [hq2, hnn, List.take_length]
          have hln : t.kids.length + sysBefore s t.sys = qs2.length := by rw [hnn, ← hfull, List.length_map]
          refine ret1 Tryz.func50 Tryz.results50 wn_ ⟨(a2, qs2), hfull⟩ (by (conv => lhs; whnf); rw [hln]; rfl) (fun w hs => by have h := ((hs.less (Γ' := [AllF qE qs2]) (by simp)).dropR (A := [_])); rw [hln] at h; exact h)
end Go.Hy
namespace Go.Hy
set_option linter.unusedVariables false
set_option linter.unusedSimpArgs false
set_option linter.unusedSectionVars false
set_option linter.unusedVariables false
theorem and24_lt (s : Nat) : s &&& 16777215 < 16777216 := by rw [and24]; exact Nat.mod_lt _ (by decide)
theorem fDims_lt (l : List Cl) : fDims l < 16777216 := by rw [fDims_eq]; exact and24_lt _
end Go.Hy
namespace Go.Hy
set_option linter.unusedVariables false
set_option linter.unusedSimpArgs false
set_option linter.unusedSectionVars false
set_option linter.unusedVariables false
/-! ### More variables, more dimensions; what a term has that may be -/
theorem all_iff {t : T} {v d : Int} {b : Bool} : allP t v d b = true ↔ (¬ (b = true ∧ 24 < d)) ∧ ownP t v d = true ∧ ∀ p, p ∈ parts t → allP p.1 (IntKind.i64.wrap (v + if v < 0 then 0 else p.2.1)) (d + p.2.2) b = true := by
  rw [allP_eq, Bool.and_eq_true, List.all_eq_true]
  simp only [Bool.not_eq_true', Bool.or_eq_false_iff, Bool.and_eq_false_iff, decide_eq_false_iff_not, Bool.not_eq_false']
  constructor
  · rintro ⟨⟨h1, h2⟩, h3⟩
    refine ⟨?_, h2, h3⟩
    rintro ⟨h4, h5⟩
    rcases h1 with h1 | h1
    · rw [h1] at h4; cases h4
    · exact h1 h5
  · rintro ⟨h1, h2, h3⟩
    refine ⟨⟨?_, h2⟩, h3⟩
    cases b
    · exact .inl rfl
    · exact .inr (fun h => h1 ⟨rfl, h⟩)
/-- What a node of itself must be, row by row. -/
theorem own_iff {t : T} {v d : Int} : ownP t v d = true ↔ own1 t = false ∧
    (if t.kind = 1 then t.r.length = 0 ∧ 0 ≤ t.n ∧ (v < 0 ∨ t.n < v)
     else if t.kind = 2 then t.r.length = 0 ∧ nameOK t.name = true
     else if t.kind = 13 ∨ t.kind = 21 ∨ t.kind = 26 then fRight t.r = true ∧ within t.r d = true
     else if t.kind = 14 then faceRight t.r = true ∧ within t.r d = true
     else (∀ x, x ∈ t.sys → ownB t d x = true) ∧ t.r.length = 0) := by
  unfold ownP
  rw [Bool.and_eq_true, Bool.not_eq_true']
  apply and_congr Iff.rfl
  split
  · simp only [Bool.and_eq_true, decide_eq_true_eq, Bool.or_eq_true, and_assoc]; constructor <;> (rintro ⟨h1, h2⟩; exact ⟨by omega, h2⟩)
  · split
    · simp only [Bool.and_eq_true, decide_eq_true_eq]; constructor <;> (rintro ⟨h1, h2⟩; exact ⟨by omega, h2⟩)
    · split
      · simp only [Bool.and_eq_true]
      · split
        · simp only [Bool.and_eq_true]
        · simp only [Bool.and_eq_true, decide_eq_true_eq, List.all_eq_true]; constructor <;> (rintro ⟨h1, h2⟩; exact ⟨h1, by omega⟩)
theorem within_iff {l : List Cl} {d : Int} (h0 : 0 ≤ d) : within l d = true ↔ ∀ i : Nat, d ≤ (i : Int) → (fDims l).testBit i = false := by
  have hlt := fDims_lt l
  unfold within
  rw [Bool.or_eq_true, decide_eq_true_eq, decide_eq_true_eq]
  by_cases h24 : 24 ≤ d
  · constructor
    · intro _ i hi
      exact Nat.testBit_lt_two_pow (Nat.lt_of_lt_of_le hlt (Nat.pow_le_pow_right (n := 2) (by omega) (show 24 ≤ i by omega)))
    · intro _; exact .inl h24
  · have hm : min d.toNat 32 = d.toNat := by omega
    rw [hm]
    constructor
    · rintro (h | h) i hi
      · exact absurd h h24
      · have h1 : fDims l / 2 ^ d.toNat = 0 := by omega
        have h2 : fDims l < 2 ^ d.toNat := by
          have := Nat.div_eq_zero_iff.mp h1
          have hp : 0 < 2 ^ d.toNat := Nat.pow_pos (by omega)
          omega
        exact Nat.testBit_lt_two_pow (Nat.lt_of_lt_of_le h2 (Nat.pow_le_pow_right (n := 2) (by omega) (by omega)))
    · intro h
      right
      have h2 : fDims l < 2 ^ d.toNat := Nat.lt_pow_two_of_testBit _ (fun i hi => h i (by omega))
      rw [Nat.div_eq_of_lt h2]; rfl
theorem sys_nil {t : T} (h : own1 t = false) (hp : partsN t.kind = 0) : t.sys = [] := by
  unfold own1 at h
  simp only [Bool.or_eq_false_iff, Bool.and_eq_false_iff, decide_eq_false_iff_not] at h
  rcases h.2 with h2 | h2
  · exact absurd hp h2
  · exact List.eq_nil_of_length_eq_zero (by omega)
end Go.Hy
namespace Go.Hy
set_option linter.unusedVariables false
set_option linter.unusedSimpArgs false
set_option linter.unusedSectionVars false
set_option linter.unusedVariables false
/-! ### The document's check of all nodes -/
theorem listTo_sorted (s n : Nat) : (listTo s n).Pairwise fun a b => a < b := by
  unfold listTo
  rw [List.pairwise_map]
  refine (List.Pairwise.filter _ List.pairwise_lt_range).imp (fun h => by omega)
theorem last_max {l : List Int} (hs : l.Pairwise fun a b => a < b) {x : Int} (hx : x ∈ l) : x ≤ l.getD (l.length - 1) 0 := by
  obtain ⟨j, hj, e⟩ := List.mem_iff_getElem.mp hx
  have hs := List.pairwise_iff_getElem.mp hs
  have hl : l.length - 1 < l.length := by omega
  rw [getD_get (d := (0 : Int)) hl]
  rcases Nat.lt_or_ge j (l.length - 1) with h2 | h2
  · have := hs j (l.length - 1) hj hl h2
    rw [e] at this
    exact Int.le_of_lt this
  · have hje : j = l.length - 1 := by omega
    subst hje
    exact Int.le_of_eq e.symm
/-- Has a formula dimensions below so many alone, by its last one? -/
def lowP (l : List Cl) (d : Int) : Bool := decide (((listM (fDims l)).length : Int) = 0) || decide ((listM (fDims l)).getD ((listM (fDims l)).length - 1) 0 < d)
theorem low_within {l : List Cl} {d : Int} (h0 : 0 ≤ d) : lowP l d = within l d := by
  rw [Bool.eq_iff_iff, within_iff h0]
  unfold lowP
  rw [Bool.or_eq_true, decide_eq_true_eq, decide_eq_true_eq]
  have hlt := fDims_lt l
  constructor
  · intro h i hi
    apply Bool.eq_false_iff.mpr
    intro hb
    have hi24 : i < 24 := by
      apply Classical.byContradiction
      intro hc
      have := Nat.testBit_lt_two_pow (Nat.lt_of_lt_of_le hlt (Nat.pow_le_pow_right (n := 2) (by omega) (show 24 ≤ i by omega)))
      rw [this] at hb; cases hb
    have hm : ((i : Nat) : Int) ∈ listM (fDims l) := listTo_mem.mpr ⟨by omega, by omega, by simpa using hb⟩
    rcases h with h | h
    · have : listM (fDims l) = [] := List.eq_nil_of_length_eq_zero (by omega)
      rw [this] at hm; cases hm
    · have := last_max (l := listM (fDims l)) (listTo_sorted (fDims l) 24) hm
      omega
  · intro h
    by_cases hn : (listM (fDims l)).length = 0
    · exact .inl (by omega)
    · right
      have hmem : (listM (fDims l)).getD ((listM (fDims l)).length - 1) 0 ∈ listM (fDims l) := getD_mem (by omega)
      have hx := listTo_mem.mp hmem
      apply Classical.byContradiction
      intro hc
      have := h ((listM (fDims l)).getD ((listM (fDims l)).length - 1) 0).toNat (by omega)
      rw [this] at hx; cases hx.2.2
/-- The checks ahead of a node's parts. -/
structure Ahead (t : T) (v d : Int) (b : Bool) : Prop where
  bound : ¬ (b = true ∧ 24 < d)
  kids : kidsN t.kind = (t.kids.length : Int)
  sys : partsN t.kind = 0 → t.sys.length = 0
  n1 : if t.kind = 1 then 0 ≤ t.n ∧ (v < 0 ∨ t.n < v) else t.n = 0
  nm : if t.kind = 2 then nameOK t.name = true else (t.name.toList == (ByteArray.mk #[]).toList) = true
  r : if t.kind = 13 ∨ t.kind = 21 ∨ t.kind = 26 then fRight t.r = true else if t.kind = 14 then faceRight t.r = true else t.r.length = 0
  low : within t.r d = true
theorem ahead_own {t : T} {v d : Int} {b : Bool} (h : Ahead t v d b) (hs : ∀ x, x ∈ t.sys → ownB t d x = true) : ownP t v d = true := by
  rw [own_iff]
  have h1 := h.n1; have h2 := h.nm; have h3 := h.r
  refine ⟨?_, ?_⟩
  · simp only [own1, Bool.or_eq_false_iff, Bool.and_eq_false_iff, decide_eq_false_iff_not, Bool.not_eq_false']
    refine ⟨⟨⟨fun hc => hc h.kids, ?_⟩, ?_⟩, ?_⟩
    · by_cases hk : t.kind = 1
      · exact .inl (fun hc => hc hk)
      · rw [if_neg hk] at h1; exact .inr (fun hc => hc h1)
    · by_cases hk : t.kind = 2
      · exact .inl (fun hc => hc hk)
      · rw [if_neg hk] at h2; exact .inr h2
    · by_cases hk : partsN t.kind = 0
      · have := h.sys hk; exact .inr (by omega)
      · exact .inl hk
  · by_cases k1 : t.kind = 1
    · rw [if_pos k1] at h1 ⊢
      rw [if_neg (by omega), if_neg (by omega)] at h3
      exact ⟨h3, h1⟩
    · rw [if_neg k1]
      by_cases k2 : t.kind = 2
      · rw [if_pos k2] at h2 ⊢
        rw [if_neg (by omega), if_neg (by omega)] at h3
        exact ⟨h3, h2⟩
      · rw [if_neg k2]
        by_cases k3 : t.kind = 13 ∨ t.kind = 21 ∨ t.kind = 26
        · rw [if_pos k3] at h3 ⊢; exact ⟨h3, h.low⟩
        · rw [if_neg k3] at h3 ⊢
          by_cases k4 : t.kind = 14
          · rw [if_pos k4] at h3 ⊢; exact ⟨h3, h.low⟩
          · rw [if_neg k4] at h3 ⊢; exact ⟨hs, h3⟩
theorem own_ahead {t : T} {v d : Int} {b : Bool} (h0 : ¬ (b = true ∧ 24 < d)) (hd : 0 ≤ d) (h : ownP t v d = true) : Ahead t v d b := by
  rw [own_iff] at h
  obtain ⟨h1, h2⟩ := h
  have hsys := fun hp => sys_nil h1 hp
  simp only [own1, Bool.or_eq_false_iff, Bool.and_eq_false_iff, decide_eq_false_iff_not, Bool.not_eq_false', ne_eq, Decidable.not_not] at h1
  obtain ⟨⟨⟨a1, a2⟩, a3⟩, a4⟩ := h1
  have hwn : t.r.length = 0 → within t.r d = true := fun hr => by
    rw [List.eq_nil_of_length_eq_zero hr, within_iff hd]; intro i _; simp [fDims]
  refine ⟨h0, a1, fun hp => by rw [hsys hp]; rfl, ?_, ?_, ?_, ?_⟩
  · by_cases k1 : t.kind = 1
    · rw [if_pos k1] at h2 ⊢; exact h2.2
    · rw [if_neg k1]; exact a2.resolve_left k1
  · by_cases k2 : t.kind = 2
    · rw [if_neg (by omega), if_pos k2] at h2
      rw [if_pos k2]; exact h2.2
    · rw [if_neg k2]; exact a3.resolve_left k2
  · split at h2
    · rw [if_neg (by omega), if_neg (by omega)]; exact h2.1
    · split at h2
      · rw [if_neg (by omega), if_neg (by omega)]; exact h2.1
      · split at h2
        · rename_i k; rw [if_pos k]; exact h2.1
        · rename_i k; rw [if_neg k]
          split at h2
          · rename_i k; rw [if_pos k]; exact h2.1
          · rename_i k; rw [if_neg k]; exact h2.2
  · split at h2
    · exact hwn h2.1
    · split at h2
      · exact hwn h2.1
      · split at h2
        · exact h2.2
        · split at h2
          · exact h2.2
          · exact hwn h2.2
def kidOK (t : T) (v d : Int) (b : Bool) (i : Nat) : Bool := allP (t.kids.getD i t0) (IntKind.i64.wrap (v + if v < 0 then 0 else (binds t.kind i).1)) (d + (binds t.kind i).2) b
def brOK (t : T) (v d : Int) (b : Bool) (x : Br) : Bool := ownB t d x && x.kids.all fun k => allP k v (d + more t.kind) b
theorem ownB_sys {t : T} {v d : Int} (h : ownP t v d = true) : ∀ x, x ∈ t.sys → ownB t d x = true := by
  rw [own_iff] at h
  have h2 := h.2
  have hs := fun hp => sys_nil h.1 hp
  split at h2
  · rename_i k; rw [hs (by rw [k]; decide)]; intro x hx; cases hx
  · split at h2
    · rename_i k; rw [hs (by rw [k]; decide)]; intro x hx; cases hx
    · split at h2
      · rename_i k; rw [hs (by rcases k with k | k | k <;> rw [k] <;> decide)]; intro x hx; cases hx
      · split at h2
        · rename_i k; rw [hs (by rw [k]; decide)]; intro x hx; cases hx
        · exact h2.1
/-- All nodes: the checks ahead, the kids, the branches. -/
theorem all_steps {t : T} {v d : Int} {b : Bool} (hv : in64 v) (hd : 0 ≤ d) : allP t v d b = true ↔ Ahead t v d b ∧ (∀ i, i < t.kids.length → kidOK t v d b i = true) ∧ ∀ i, i < t.sys.length → brOK t v d b (t.sys.getD i br0) = true := by
  rw [all_iff]
  constructor
  · rintro ⟨h1, h2, h3⟩
    refine ⟨own_ahead h1 hd h2, fun i hi => ?_, fun i hi => ?_⟩
    · exact h3 _ (parts_mem (parts_kid t i hi))
    · unfold brOK
      rw [Bool.and_eq_true, List.all_eq_true]
      refine ⟨ownB_sys h2 _ (getD_mem hi), fun k hk => ?_⟩
      obtain ⟨j, hj, e⟩ := List.mem_iff_getElem.mp hk
      have := h3 _ (parts_mem (parts_sys t i j hi hj))
      simp only at this
      rw [show (if v < 0 then (0 : Int) else 0) = 0 by split <;> rfl, Int.add_zero, wrap_id hv] at this
      rwa [getD_get (d := t0) hj, e] at this
  · rintro ⟨h1, h2, h3⟩
    have hb : ∀ x, x ∈ t.sys → brOK t v d b x = true := fun x hx => by
      obtain ⟨i, hi, e⟩ := List.mem_iff_getElem.mp hx
      have := h3 i hi
      rwa [getD_get (d := br0) hi, e] at this
    refine ⟨h1.bound, ahead_own h1 (fun x hx => by have := hb x hx; unfold brOK at this; rw [Bool.and_eq_true] at this; exact this.1), fun p hp => ?_⟩
    obtain ⟨m, hm⟩ := List.mem_iff_getElem?.mp hp
    have hlt : m < (parts t).length := (List.getElem?_eq_some_iff.mp hm).1
    rcases Nat.lt_or_ge m t.kids.length with hmk | hmk
    · rw [parts_kid t m hmk] at hm
      injection hm with hm
      subst hm
      exact h2 m hmk
    · unfold parts at hp hm
      rw [List.getElem?_append_right (by rw [kidParts_length]; exact hmk)] at hm
      have hp2 : p ∈ sysParts t.kind t.sys := List.mem_iff_getElem?.mpr ⟨_, hm⟩
      have key : ∀ (bs : List Br), (∀ x, x ∈ bs → x ∈ t.sys) → p ∈ sysParts t.kind bs → allP p.1 (IntKind.i64.wrap (v + if v < 0 then 0 else p.2.1)) (d + p.2.2) b = true := by
        intro bs
        induction bs with
        | nil => intro _ h; simp [sysParts] at h
        | cons x bs ih =>
          intro hx h
          simp only [sysParts, List.mem_append, List.mem_map] at h
          rcases h with ⟨k, hk, e⟩ | h
          · subst e
            simp only
            rw [show (if v < 0 then (0 : Int) else 0) = 0 by split <;> rfl, Int.add_zero, wrap_id hv]
            have := hb x (hx x List.mem_cons_self)
            unfold brOK at this
            rw [Bool.and_eq_true, List.all_eq_true] at this
            exact this.2 k hk
          · exact ih (fun y hy => hx y (List.mem_cons_of_mem _ hy)) h
      exact key t.sys (fun _ h => h) hp2
theorem all_no1 {t : T} {v d : Int} {b : Bool} (hv : in64 v) (hd : 0 ≤ d) (hn : ¬ Ahead t v d b) : allP t v d b = false := Bool.eq_false_iff.mpr fun h => hn ((all_steps hv hd).mp h).1
theorem all_no2 {t : T} {v d : Int} {b : Bool} (hv : in64 v) (hd : 0 ≤ d) {i : Nat} (hi : i < t.kids.length) (hn : kidOK t v d b i = false) : allP t v d b = false := Bool.eq_false_iff.mpr fun h => by
  have h9 := ((all_steps hv hd).mp h).2.1 i hi
  rw [hn] at h9; cases h9
theorem all_no3 {t : T} {v d : Int} {b : Bool} (hv : in64 v) (hd : 0 ≤ d) {i : Nat} (hi : i < t.sys.length) (hn : brOK t v d b (t.sys.getD i br0) = false) : allP t v d b = false := Bool.eq_false_iff.mpr fun h => by
  have h9 := ((all_steps hv hd).mp h).2.2 i hi
  rw [hn] at h9; cases h9
end Go.Hy
