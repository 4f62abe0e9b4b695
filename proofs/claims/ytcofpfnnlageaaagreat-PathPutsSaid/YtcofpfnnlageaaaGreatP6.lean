/- Contracts of this program's functions and the laws that they need: a separation logic over the machine's rules, one theorem each (partly printed by a program of this repository). -/
import Derived.Test.YtcofpfnnlageaaaGreatP2
import Derived.Test.YtcofpfnnlageaaaGreatP3
import Derived.Test.YtcofpfnnlageaaaGreatP4
import Derived.Test.YtcofpfnnlageaaaGreatP5
namespace Go.Hy
set_option linter.unusedVariables false
set_option linter.unusedSimpArgs false
set_option linter.unusedSectionVars false
open Go.Proofs
set_option linter.unusedVariables false
set_option linter.unusedSimpArgs false
set_option maxRecDepth 100000
theorem small_spec (t : T) (vr vk vs : SH) (most : Int) (h0 : 0 ≤ most) (hl : in64 most) : Spec Tryz.prog 86 #[.agg (tc t vr vk vs).toArray, .int .i64 most] [RT t vr vk vs] [] (fun _ : Unit => .bool (decide ((size t : Int) ≤ most))) (fun _ => []) (fun _ => []) := by
  refine spec_go (args := [.agg (tc t vr vk vs).toArray, .int .i64 most]) Tryz.func86 Tryz.ntmps86 rfl (by exact Nat.le_of_ble_eq_true rfl) fun B hB => ?_
  refine go_seq ?_
  refine go_region ⟨_, Tryz.func86⟩ rfl ?_
  refine q0 rfl (o_box fun b2 => ?_)
  refine q0 rfl (o_box fun b3 => ?_)
  refine q0 rfl (o_assign ?_)
  refine rg_nil ?_
  refine go_seq ?_
  refine go_region ⟨_, Tryz.func86⟩ rfl ?_
  refine q0 rfl (o_new fun b5 => ?_)
  refine rg_nil ?_
  refine go_seq ?_
  refine go_region ⟨_, Tryz.func86⟩ rfl ?_
  refine q0 rfl (o_func ?_)
  refine q0 rfl (o_st ?_)
  refine rg_nil ?_
  refine go_seq ?_
  refine go_region ⟨_, Tryz.func86⟩ rfl ?_
  refine q0 rfl (o_ld ?_)
  refine q0 rfl (o_lds ?_)
  refine q0 rfl (o_callC Tryz.call93 (count_spec t most b3 b5 vr vk vs h0 hl) (cap := CountCap b3 b5) (fun x9 => ?_))
  refine q0 rfl (o_assign ?_)
  refine rg_nil ?_
  refine ret1 Tryz.func86 Tryz.results86 wn_ () rfl (fun w hs => hs.none)
theorem sized_spec (t : T) (vr vk vs : SH) : Spec Tryz.prog 63 #[.agg (tc t vr vk vs).toArray] [RT t vr vk vs] [] (fun _ : Unit => .int .i64 (sized t)) (fun _ => []) (fun _ => []) := by
  refine spec_go (args := [.agg (tc t vr vk vs).toArray]) Tryz.func63 Tryz.ntmps63 rfl (by exact Nat.le_of_ble_eq_true rfl) fun B hB => ?_
  refine go_seq ?_
  refine go_region ⟨_, Tryz.func63⟩ rfl ?_
  refine q0 rfl (o_box fun b1 => ?_)
  refine q0 rfl (o_assign ?_)
  refine rg_nil ?_
  refine go_seq ?_
  refine go_block ?_
  refine go_seq ?_
  refine go_region ⟨_, Tryz.func63⟩ rfl ?_
  refine q0 rfl (o_lds ?_)
  refine q0 rfl (o_call Tryz.call85 (shallow_spec t 200 vr vk vs (by unfold in64; omega)) (fun x5 => ?_))
  refine q0 rfl (o_not ?_)
  refine q0 rfl (o_assign ?_)
  refine rg_nil ?_
  refine go_condI (fun h3 => ?_) (fun h3 => ?_)
  · refine go_seq ?_
    refine go_region ⟨_, Tryz.func63⟩ rfl ?_
    refine q0 rfl (o_assign ?_)
    refine rg_nil ?_
    have h : 200 < depth t := by simp at h3; omega
    refine ret1 Tryz.func63 Tryz.results63 wn_ () (by rw [sized, if_pos h]) (fun w hs => hs.none)
  · refine go_seq ?_
    refine go_region ⟨_, Tryz.func63⟩ rfl ?_
    refine q0 rfl (o_lds ?_)
    refine q0 rfl (o_call Tryz.call86 (small_spec t vr vk vs 20000 (by omega) (by unfold in64; omega)) (fun x9 => ?_))
    refine q0 rfl (o_not ?_)
    refine q0 rfl (o_assign ?_)
    refine rg_nil ?_
    refine go_condI (fun h7 => ?_) (fun h7 => ?_)
    · refine go_seq ?_
      refine go_region ⟨_, Tryz.func63⟩ rfl ?_
      refine q0 rfl (o_assign ?_)
      refine rg_nil ?_
      have h : ¬ 200 < depth t := by simp at h3; omega
      have h2 : 20000 < size t := by simp at h7; omega
      refine ret1 Tryz.func63 Tryz.results63 wn_ () (by rw [sized, if_neg h, if_pos h2]) (fun w hs => hs.none)
    · refine go_skip ?_
      refine go_inBlock ?_
      refine go_seq ?_
      refine go_region ⟨_, Tryz.func63⟩ rfl ?_
      refine q0 rfl (o_assign ?_)
      refine rg_nil ?_
      have h : ¬ 200 < depth t := by simp at h3; omega
      have h2 : ¬ 20000 < size t := by simp at h7; omega
      refine ret1 Tryz.func63 Tryz.results63 wn_ () (by rw [sized, if_neg h, if_neg h2]) (fun w hs => hs.none)
theorem name_spec (s : ByteArray) (hs : s.size ≤ cap47) : Spec Tryz.prog 97 #[.string s] [] [] (fun _ : Unit => .bool (nameOK s)) (fun _ => []) (fun _ => []) := by
  refine spec_go (args := [.string s]) Tryz.func97 Tryz.ntmps97 rfl (by exact Nat.le_of_ble_eq_true rfl) fun B hB => ?_
  refine go_seq ?_
  refine go_region ⟨_, Tryz.func97⟩ rfl ?_
  refine q0 rfl (o_assign ?_)
  refine rg_nil ?_
  refine go_seq ?_
  refine go_seq ?_
  refine go_region ⟨_, Tryz.func97⟩ rfl ?_
  refine q0 rfl (o_move ?_)
  refine q0 rfl (o_lenStr ?_)
  refine q0 rfl (o_move ?_)
  refine rg_nil ?_
  refine go_block ?_
  refine go_loopI (X := Nat) (fun i => i ≤ s.size ∧ ∀ j, j < i → okAt s j = true) (fun i => [(0, .string s), (7, .int .i64 (s.size : Int)), (8, .int .i64 (i : Int))]) (fun i => []) (fun i => []) (fun i => s.size - i) (0) (⟨Nat.zero_le _, fun j hj => by omega⟩) (by exact ⟨rfl, rfl, rfl, trivial⟩) ?_ ?_
  · exact fun w hs => hs.none
  · intro i base0 ⟨hi, hok⟩ next0
    refine go_seq ?_
    refine go_region ⟨_, Tryz.func97⟩ rfl ?_
    refine q0 rfl (o_lss ?_)
    refine rg_nil ?_
    refine go_seq ?_
    refine go_condI (fun h9 => ?_) (fun h9 => ?_)
    · have hlt : i < s.size := by have := of_decide_eq_true h9; omega
      obtain ⟨c, hc, hca⟩ := byte_at hlt
      refine go_skip ?_
      refine go_seq ?_
      refine go_block ?_
      refine go_seq ?_
      refine go_region ⟨_, Tryz.func97⟩ rfl ?_
      refine q0 rfl (o_move ?_)
      refine q0 rfl (o_assign ?_)
      refine rg_nil ?_
      refine go_seq ?_
      refine go_region ⟨_, Tryz.func97⟩ rfl ?_
      refine q0 rfl (o_move ?_)
      refine q0 rfl (o_move ?_)
      refine q0 rfl (o_ixStr ?_)
      refine q0 rfl (o_assign ?_)
      refine rg_nil ?_
      refine go_seq ?_
      refine go_cutS ([(0, .string s), (3, .int .i64 (i : Int)), (4, .int .u8 c.toNat), (5, .bool (letter c.toNat)), (7, .int .i64 (s.size : Int)), (8, .int .i64 (i : Int))]) (fun hK => ?_) (fun base => ?_)
      · refine go_region ⟨_, Tryz.func97⟩ rfl ?_
        refine q0 rfl (o_move ?_)
        refine q0 rfl (o_geq ?_)
        refine q0 rfl (o_move ?_)
        refine qI rfl rfl rfl wl_ (fun hg16 => o_move ?_) (fun hg16 => ?_)
        · refine qT rfl rfl rfl (o_leq ?_)
          refine q0 rfl (o_pickT ?_)
          refine q0 rfl (o_move ?_)
          refine qI rfl rfl rfl wl_ (fun hg20 => o_move ?_) (fun hg20 => ?_)
          · refine qT rfl rfl rfl (o_geq ?_)
            refine qT rfl rfl rfl (o_move ?_)
            refine qI rfl rfl rfl wl_ (fun hg23 => o_move ?_) (fun hg23 => ?_)
            · refine qT rfl rfl rfl (o_leq ?_)
              refine qT rfl rfl rfl (o_pickT ?_)
              refine q0 rfl (o_pickF ?_)
              refine q0 rfl (o_move ?_)
              refine qI rfl rfl rfl wl_ (fun hg28 => o_move ?_) (fun hg28 => ?_)
              · refine qT rfl rfl rfl (o_eqI ?_)
                refine q0 rfl (o_pickF ?_)
                refine q0 rfl (o_assign ?_)
                refine rg_nil ?_
                exact hK _ ⟨rfl, rfl, rfl, (by (conv => lhs; whnf); first | (simp_all [letter]; done) | (simp_all [letter]; omega)), rfl, rfl, trivial⟩
              · refine qF rfl rfl rfl ?_
                refine q0 rfl (o_pickT ?_)
                refine q0 rfl (o_assign ?_)
                refine rg_nil ?_
                exact hK _ ⟨rfl, rfl, rfl, (by (conv => lhs; whnf); first | (simp_all [letter]; done) | (simp_all [letter]; omega)), rfl, rfl, trivial⟩
            · refine qF rfl rfl rfl ?_
              refine qT rfl rfl rfl (o_pickF ?_)
              refine q0 rfl (o_pickF ?_)
              refine q0 rfl (o_move ?_)
              refine qT rfl rfl rfl (o_move ?_)
              refine qT rfl rfl rfl (o_eqI ?_)
              refine q0 rfl (o_pickF ?_)
              refine q0 rfl (o_assign ?_)
              refine rg_nil ?_
              exact hK _ ⟨rfl, rfl, rfl, (by (conv => lhs; whnf); first | (simp_all [letter]; done) | (simp_all [letter]; omega)), rfl, rfl, trivial⟩
          · refine qF rfl rfl rfl ?_
            refine qF rfl rfl rfl ?_
            refine qU rfl rfl rfl ?_
            refine qU rfl rfl rfl ?_
            refine qF rfl rfl rfl ?_
            refine q0 rfl (o_pickT ?_)
            refine q0 rfl (o_move ?_)
            refine qF rfl rfl rfl ?_
            refine qF rfl rfl rfl ?_
            refine q0 rfl (o_pickT ?_)
            refine q0 rfl (o_assign ?_)
            refine rg_nil ?_
            exact hK _ ⟨rfl, rfl, rfl, (by (conv => lhs; whnf); first | (simp_all [letter]; done) | (simp_all [letter]; omega)), rfl, rfl, trivial⟩
        · refine qF rfl rfl rfl ?_
          refine q0 rfl (o_pickF ?_)
          refine q0 rfl (o_move ?_)
          refine qT rfl rfl rfl (o_move ?_)
          refine qT rfl rfl rfl (o_geq ?_)
          refine qT rfl rfl rfl (o_move ?_)
          refine qI rfl rfl rfl wl_ (fun hg23 => o_move ?_) (fun hg23 => ?_)
          · refine qT rfl rfl rfl (o_leq ?_)
            refine qT rfl rfl rfl (o_pickT ?_)
            refine q0 rfl (o_pickF ?_)
            refine q0 rfl (o_move ?_)
            refine qI rfl rfl rfl wl_ (fun hg28 => o_move ?_) (fun hg28 => ?_)
            · refine qT rfl rfl rfl (o_eqI ?_)
              refine q0 rfl (o_pickF ?_)
              refine q0 rfl (o_assign ?_)
              refine rg_nil ?_
              exact hK _ ⟨rfl, rfl, rfl, (by (conv => lhs; whnf); first | (simp_all [letter]; done) | (simp_all [letter]; omega)), rfl, rfl, trivial⟩
            · refine qF rfl rfl rfl ?_
              refine q0 rfl (o_pickT ?_)
              refine q0 rfl (o_assign ?_)
              refine rg_nil ?_
              exact hK _ ⟨rfl, rfl, rfl, (by (conv => lhs; whnf); first | (simp_all [letter]; done) | (simp_all [letter]; omega)), rfl, rfl, trivial⟩
          · refine qF rfl rfl rfl ?_
            refine qT rfl rfl rfl (o_pickF ?_)
            refine q0 rfl (o_pickF ?_)
            refine q0 rfl (o_move ?_)
            refine qT rfl rfl rfl (o_move ?_)
            refine qT rfl rfl rfl (o_eqI ?_)
            refine q0 rfl (o_pickF ?_)
            refine q0 rfl (o_assign ?_)
            refine rg_nil ?_
            exact hK _ ⟨rfl, rfl, rfl, (by (conv => lhs; whnf); first | (simp_all [letter]; done) | (simp_all [letter]; omega)), rfl, rfl, trivial⟩
      · refine go_seq ?_
        refine go_cutS ([(0, .string s), (7, .int .i64 (s.size : Int)), (8, .int .i64 (i : Int)), (45, .bool (!(okAt s i)))]) (fun hK => ?_) (fun base => ?_)
        · refine go_region ⟨_, Tryz.func97⟩ rfl ?_
          refine q0 rfl (o_move ?_)
          refine q0 rfl (o_not ?_)
          refine q0 rfl (o_move ?_)
          refine qI rfl rfl rfl wl_ (fun hg34 => o_move ?_) (fun hg34 => ?_)
          · refine qT rfl rfl rfl (o_eqI ?_)
            refine qT rfl rfl rfl (o_move ?_)
            refine qI rfl rfl rfl wl_ (fun hg37 => o_move ?_) (fun hg37 => ?_)
            · refine qT rfl rfl rfl (o_lss ?_)
              refine qT rfl rfl rfl (o_pickF ?_)
              refine qT rfl rfl rfl (o_move ?_)
              refine qI rfl rfl rfl wl_ (fun hg41 => o_move ?_) (fun hg41 => ?_)
              · refine qT rfl rfl rfl (o_gtr ?_)
                refine qT rfl rfl rfl (o_pickF ?_)
                refine q0 rfl (o_pickT ?_)
                refine rg_nil ?_
                exact hK _ ⟨rfl, rfl, rfl, (by (conv => lhs; whnf); rw [hca]; first | (simp_all [digit]; done) | (simp_all [digit]; omega) | (simp_all [digit]; rw [← decide_not]; congr 1; apply propext; omega)), trivial⟩
              · refine qF rfl rfl rfl ?_
                refine qT rfl rfl rfl (o_pickT ?_)
                refine q0 rfl (o_pickT ?_)
                refine rg_nil ?_
                exact hK _ ⟨rfl, rfl, rfl, (by (conv => lhs; whnf); rw [hca]; first | (simp_all [digit]; done) | (simp_all [digit]; omega) | (simp_all [digit]; rw [← decide_not]; congr 1; apply propext; omega)), trivial⟩
            · refine qF rfl rfl rfl ?_
              refine qT rfl rfl rfl (o_pickT ?_)
              refine qT rfl rfl rfl (o_move ?_)
              refine qF rfl rfl rfl ?_
              refine qF rfl rfl rfl ?_
              refine qT rfl rfl rfl (o_pickT ?_)
              refine q0 rfl (o_pickT ?_)
              refine rg_nil ?_
              exact hK _ ⟨rfl, rfl, rfl, (by (conv => lhs; whnf); rw [hca]; first | (simp_all [digit]; done) | (simp_all [digit]; omega) | (simp_all [digit]; rw [← decide_not]; congr 1; apply propext; omega)), trivial⟩
          · refine qF rfl rfl rfl ?_
            refine qF rfl rfl rfl ?_
            refine qU rfl rfl rfl ?_
            refine qU rfl rfl rfl ?_
            refine qF rfl rfl rfl ?_
            refine qF rfl rfl rfl ?_
            refine qU rfl rfl rfl ?_
            refine qU rfl rfl rfl ?_
            refine qF rfl rfl rfl ?_
            refine q0 rfl (o_pickF ?_)
            refine rg_nil ?_
            exact hK _ ⟨rfl, rfl, rfl, (by (conv => lhs; whnf); rw [hca]; first | (simp_all [digit]; done) | (simp_all [digit]; omega) | (simp_all [digit]; rw [← decide_not]; congr 1; apply propext; omega)), trivial⟩
        · refine go_condI (fun h45 => ?_) (fun h45 => ?_)
          · refine go_seq ?_
            refine go_region ⟨_, Tryz.func97⟩ rfl ?_
            refine q0 rfl (o_assign ?_)
            refine rg_nil ?_
            refine ret1 Tryz.func97 Tryz.results97 wn_ () (by rw [nameOK_not hlt (by simpa using h45)]) (fun w hs => hs.none)
          · refine go_skip ?_
            refine go_inBlock ?_
            refine go_region ⟨_, Tryz.func97⟩ rfl ?_
            refine q0 rfl (o_add ?_)
            refine q0 rfl (o_move ?_)
            refine rg_nil ?_
            have hb : okAt s i = true := by simpa using h45
            refine go_state (fun w hs => hs) (next0 (i + 1) _ ⟨hlt, fun j hj => (by rcases Nat.lt_succ_iff_lt_or_eq.mp hj with h | h; exact hok j h; subst h; exact hb)⟩ (by omega) ⟨rfl, rfl, rfl, trivial⟩)
    · have hge : i = s.size := by have := of_decide_eq_false h9; omega
      refine go_exit rfl ?_
      refine go_seq ?_
      refine go_region ⟨_, Tryz.func97⟩ rfl ?_
      refine q0 rfl (o_move ?_)
      refine q0 rfl (o_neS ?_)
      refine q0 rfl (o_assign ?_)
      refine rg_nil ?_
      refine ret1 Tryz.func97 Tryz.results97 wn_ () (by rw [nameOK_all (by rw [← hge]; exact hok), empty_eq]; rfl) (fun w hs => hs.none)
theorem within_spec (hF : FDims) (l : List Cl) (a : SH) (dims : Int) (h0 : 0 ≤ dims) (hl : in64 dims) : Spec Tryz.prog 99 #[sl a l.length, .int .i64 dims] [CL l a] [] (fun _ : Unit => .bool (within l dims)) (fun _ => []) (fun _ => []) := by
  refine spec_go (args := [sl a l.length, .int .i64 dims]) Tryz.func99 Tryz.ntmps99 rfl (by exact Nat.le_of_ble_eq_true rfl) fun B hB => ?_
  refine go_seq ?_
  refine go_region ⟨_, Tryz.func99⟩ rfl ?_
  refine q0 rfl (o_assign ?_)
  refine rg_nil ?_
  refine go_seq ?_
  refine go_region ⟨_, Tryz.func99⟩ rfl ?_
  refine q0 rfl (o_move ?_)
  refine q0 rfl (o_geq ?_)
  refine q0 rfl (o_move ?_)
  refine qI rfl rfl rfl wl_ (fun hg7 => o_move ?_) (fun hg7 => ?_)
  · refine qT rfl rfl rfl (o_call Tryz.call40 (hF l a) (fun x9 => ?_))
    refine qT rfl rfl rfl (o_move ?_)
    refine qT rfl rfl rfl (o_conv ?_)
    refine qT rfl rfl rfl (o_shrU32 ?_ (m := dims.toNat) (hy := congrArg (Value.int .u64) (toNat_u64 h0 hl)))
    refine qT rfl rfl rfl (o_eqI ?_)
    refine q0 rfl (o_pickF ?_)
    refine q0 rfl (o_assign ?_)
    refine rg_nil ?_
    refine ret1 Tryz.func99 Tryz.results99 wn_ () (by first | (simp_all [within]; done) | (simp_all [within]; intros; omega)) (fun w hs => hs.none)
  · refine qF rfl rfl rfl ?_
    refine qF rfl rfl rfl ?_
    refine qF rfl rfl rfl ?_
    refine qF rfl rfl rfl ?_
    refine qF rfl rfl rfl ?_
    refine q0 rfl (o_pickT ?_)
    refine q0 rfl (o_assign ?_)
    refine rg_nil ?_
    refine ret1 Tryz.func99 Tryz.results99 wn_ () (by first | (simp_all [within]; done) | (simp_all [within]; intros; omega)) (fun w hs => hs.none)
end Go.Hy
namespace Go.Hy
set_option linter.unusedVariables false
set_option linter.unusedSimpArgs false
set_option linter.unusedSectionVars false
open Go.Proofs
set_option linter.unusedVariables false
set_option linter.unusedSimpArgs false
set_option maxRecDepth 100000
theorem own_spec (t : T) (hf : plain1 t = true ∨ FORM) (vr vk vs : SH) (vars dims : Int) (hd : 0 ≤ dims) (hl : in64 dims) : Spec Tryz.prog 87 #[.agg (tc t vr vk vs).toArray, .int .i64 vars, .int .i64 dims] [RT t vr vk vs] [] (fun _ : Unit => .bool (ownP t vars dims)) (fun _ => []) (fun _ => []) := by
  refine spec_go (args := [.agg (tc t vr vk vs).toArray, .int .i64 vars, .int .i64 dims]) Tryz.func87 Tryz.ntmps87 rfl (by exact Nat.le_of_ble_eq_true rfl) fun B hB => ?_
  refine go_open (fun hk hn hnm => ?_)
  refine go_openTL (ts := t.kids) (fun VR VK VS hl1 hA1 => ?_)
  refine go_openBL (bs := t.sys) (fun VF VK2 hl2 hA2 => ?_)
  refine go_seq ?_
  refine go_region ⟨_, Tryz.func87⟩ rfl ?_
  refine q0 rfl (o_box fun b3 => ?_)
  refine q0 rfl (o_assign ?_)
  refine rg_nil ?_
  refine go_seq ?_
  refine go_seq ?_
  refine go_cutS ([(1, .int .i64 vars), (2, .int .i64 dims), (3, .pointer (some ⟨b3, 0, none⟩)), (47, .bool (own1 t))]) (fun hK => ?_) (fun base => ?_)
  · refine go_draw (tn := false) (A := [0, 1, 3, 0, 8, 24, 63, 127, 255, 511, 1023, 2047, 4095, 8191, 16383, 32767, 65535, 131071, 262143, 524287, 1048575, 2097151, 4194303, 8388607, 16777215, 33554431, 67108863, 134217727, 268435455, 536870911, 1073741823, 2147483647, 4294967295, 8589934591, 17179869183, 34359738367, 68719476735, 137438953471, 274877906943]) (l := [0, 1, 3, 4, 5, 2, 6, 7, 8, 9, 10, 11, 12, 13, 14, 15, 16, 17, 18, 19, 20, 21, 22, 23, 24, 25, 26, 27, 28, 29, 30, 31, 32, 33, 34, 35, 36, 37, 38]) (fin := []) Tab.mixed ⟨_, Tryz.func87⟩ (by rfl) ?_
    refine n0 rfl (v_fa ?_)
    refine n0 rfl (v_ld ?_)
    refine n0 rfl (v_fa ?_)
    refine n0 rfl (v_ld ?_)
    refine n0 rfl (v_len ?_)
    refine n0 rfl (v_call Tryz.call95 (kids_spec t.kind) (fun x11 => ?_))
    refine n0 rfl (v_neI ?_)
    refine n0 rfl (v_move ?_)
    refine nI rfl rfl rfl wl_ (fun hg16 => v_fa ?_) (fun hg16 => ?_)
    · refine nT rfl rfl rfl (v_ld ?_)
      refine nT rfl rfl rfl (v_neI ?_)
      refine nT rfl rfl rfl (v_move ?_)
      refine nI rfl rfl rfl wl_ (fun hg20 => v_fa ?_) (fun hg20 => ?_)
      · refine nT rfl rfl rfl (v_ld ?_)
        refine nT rfl rfl rfl (v_neI ?_)
        refine nT rfl rfl rfl (v_pickT ?_)
        refine n0 rfl (v_pickF ?_)
        refine n0 rfl (v_move ?_)
        refine nI rfl rfl rfl wl_ (fun hg26 => v_fa ?_) (fun hg26 => ?_)
        · refine nT rfl rfl rfl (v_ld ?_)
          refine nT rfl rfl rfl (v_neI ?_)
          refine nT rfl rfl rfl (v_move ?_)
          refine nI rfl rfl rfl wl_ (fun hg30 => v_fa ?_) (fun hg30 => ?_)
          · refine nT rfl rfl rfl (v_ld ?_)
            refine nT rfl rfl rfl (v_neS ?_)
            refine nT rfl rfl rfl (v_pickT ?_)
            refine n0 rfl (v_pickF ?_)
            refine n0 rfl (v_move ?_)
            refine nI rfl rfl rfl wl_ (fun hg36 => v_fa ?_) (fun hg36 => ?_)
            · refine nT rfl rfl rfl (v_ld ?_)
              refine nT rfl rfl rfl (v_call Tryz.call96 (parts_spec t.kind) (fun x39 => ?_))
              refine nT rfl rfl rfl (v_eqI ?_)
              refine nT rfl rfl rfl (v_move ?_)
              refine nI rfl rfl rfl wl_ (fun hg41 => v_fa ?_) (fun hg41 => ?_)
              · refine nT rfl rfl rfl (v_ld ?_)
                refine nT rfl rfl rfl (v_len ?_)
                refine nT rfl rfl rfl (v_gtr ?_)
                refine nT rfl rfl rfl (v_pickT ?_)
                refine n0 rfl (v_pickF ?_)
                refine NV.done ?_
                refine rg_nil ?_
                exact hK _ ⟨rfl, rfl, rfl, (by (conv => lhs; whnf); first | (simp_all [own1]; done) | (simp_all [own1]; omega)), trivial⟩
              · refine nF rfl rfl rfl ?_
                refine nF rfl rfl rfl ?_
                refine nF rfl rfl rfl ?_
                refine nT rfl rfl rfl (v_pickF ?_)
                refine n0 rfl (v_pickF ?_)
                refine NV.done ?_
                refine rg_nil ?_
                exact hK _ ⟨rfl, rfl, rfl, (by (conv => lhs; whnf); first | (simp_all [own1]; done) | (simp_all [own1]; omega)), trivial⟩
            · refine nF rfl rfl rfl ?_
              refine nF rfl rfl rfl ?_
              refine nF rfl rfl rfl ?_
              refine nF rfl rfl rfl ?_
              refine nU rfl rfl rfl ?_
              refine nU rfl rfl rfl ?_
              refine nU rfl rfl rfl ?_
              refine nU rfl rfl rfl ?_
              refine nF rfl rfl rfl ?_
              refine n0 rfl (v_pickT ?_)
              refine NV.done ?_
              refine rg_nil ?_
              exact hK _ ⟨rfl, rfl, rfl, (by (conv => lhs; whnf); first | (simp_all [own1]; done) | (simp_all [own1]; omega)), trivial⟩
          · refine nF rfl rfl rfl ?_
            refine nF rfl rfl rfl ?_
            refine nT rfl rfl rfl (v_pickF ?_)
            refine n0 rfl (v_pickF ?_)
            refine n0 rfl (v_move ?_)
            refine nT rfl rfl rfl (v_fa ?_)
            refine nT rfl rfl rfl (v_ld ?_)
            refine nT rfl rfl rfl (v_call Tryz.call96 (parts_spec t.kind) (fun x39 => ?_))
            refine nT rfl rfl rfl (v_eqI ?_)
            refine nT rfl rfl rfl (v_move ?_)
            refine nI rfl rfl rfl wl_ (fun hg41 => v_fa ?_) (fun hg41 => ?_)
            · refine nT rfl rfl rfl (v_ld ?_)
              refine nT rfl rfl rfl (v_len ?_)
              refine nT rfl rfl rfl (v_gtr ?_)
              refine nT rfl rfl rfl (v_pickT ?_)
              refine n0 rfl (v_pickF ?_)
              refine NV.done ?_
              refine rg_nil ?_
              exact hK _ ⟨rfl, rfl, rfl, (by (conv => lhs; whnf); first | (simp_all [own1]; done) | (simp_all [own1]; omega)), trivial⟩
            · refine nF rfl rfl rfl ?_
              refine nF rfl rfl rfl ?_
              refine nF rfl rfl rfl ?_
              refine nT rfl rfl rfl (v_pickF ?_)
              refine n0 rfl (v_pickF ?_)
              refine NV.done ?_
              refine rg_nil ?_
              exact hK _ ⟨rfl, rfl, rfl, (by (conv => lhs; whnf); first | (simp_all [own1]; done) | (simp_all [own1]; omega)), trivial⟩
        · refine nF rfl rfl rfl ?_
          refine nF rfl rfl rfl ?_
          refine nF rfl rfl rfl ?_
          refine nU rfl rfl rfl ?_
          refine nU rfl rfl rfl ?_
          refine nU rfl rfl rfl ?_
          refine nF rfl rfl rfl ?_
          refine n0 rfl (v_pickT ?_)
          refine n0 rfl (v_move ?_)
          refine nF rfl rfl rfl ?_
          refine nF rfl rfl rfl ?_
          refine nF rfl rfl rfl ?_
          refine nF rfl rfl rfl ?_
          refine nF rfl rfl rfl ?_
          refine nU rfl rfl rfl ?_
          refine nU rfl rfl rfl ?_
          refine nU rfl rfl rfl ?_
          refine nU rfl rfl rfl ?_
          refine nF rfl rfl rfl ?_
          refine n0 rfl (v_pickT ?_)
          refine NV.done ?_
          refine rg_nil ?_
          exact hK _ ⟨rfl, rfl, rfl, (by (conv => lhs; whnf); first | (simp_all [own1]; done) | (simp_all [own1]; omega)), trivial⟩
      · refine nF rfl rfl rfl ?_
        refine nF rfl rfl rfl ?_
        refine nT rfl rfl rfl (v_pickF ?_)
        refine n0 rfl (v_pickF ?_)
        refine n0 rfl (v_move ?_)
        refine nT rfl rfl rfl (v_fa ?_)
        refine nT rfl rfl rfl (v_ld ?_)
        refine nT rfl rfl rfl (v_neI ?_)
        refine nT rfl rfl rfl (v_move ?_)
        refine nI rfl rfl rfl wl_ (fun hg30 => v_fa ?_) (fun hg30 => ?_)
        · refine nT rfl rfl rfl (v_ld ?_)
          refine nT rfl rfl rfl (v_neS ?_)
          refine nT rfl rfl rfl (v_pickT ?_)
          refine n0 rfl (v_pickF ?_)
          refine n0 rfl (v_move ?_)
          refine nI rfl rfl rfl wl_ (fun hg36 => v_fa ?_) (fun hg36 => ?_)
          · refine nT rfl rfl rfl (v_ld ?_)
            refine nT rfl rfl rfl (v_call Tryz.call96 (parts_spec t.kind) (fun x39 => ?_))
            refine nT rfl rfl rfl (v_eqI ?_)
            refine nT rfl rfl rfl (v_move ?_)
            refine nI rfl rfl rfl wl_ (fun hg41 => v_fa ?_) (fun hg41 => ?_)
            · refine nT rfl rfl rfl (v_ld ?_)
              refine nT rfl rfl rfl (v_len ?_)
              refine nT rfl rfl rfl (v_gtr ?_)
              refine nT rfl rfl rfl (v_pickT ?_)
              refine n0 rfl (v_pickF ?_)
              refine NV.done ?_
              refine rg_nil ?_
              exact hK _ ⟨rfl, rfl, rfl, (by (conv => lhs; whnf); first | (simp_all [own1]; done) | (simp_all [own1]; omega)), trivial⟩
            · refine nF rfl rfl rfl ?_
              refine nF rfl rfl rfl ?_
              refine nF rfl rfl rfl ?_
              refine nT rfl rfl rfl (v_pickF ?_)
              refine n0 rfl (v_pickF ?_)
              refine NV.done ?_
              refine rg_nil ?_
              exact hK _ ⟨rfl, rfl, rfl, (by (conv => lhs; whnf); first | (simp_all [own1]; done) | (simp_all [own1]; omega)), trivial⟩
          · refine nF rfl rfl rfl ?_
            refine nF rfl rfl rfl ?_
            refine nF rfl rfl rfl ?_
            refine nF rfl rfl rfl ?_
            refine nU rfl rfl rfl ?_
            refine nU rfl rfl rfl ?_
            refine nU rfl rfl rfl ?_
            refine nU rfl rfl rfl ?_
            refine nF rfl rfl rfl ?_
            refine n0 rfl (v_pickT ?_)
            refine NV.done ?_
            refine rg_nil ?_
            exact hK _ ⟨rfl, rfl, rfl, (by (conv => lhs; whnf); first | (simp_all [own1]; done) | (simp_all [own1]; omega)), trivial⟩
        · refine nF rfl rfl rfl ?_
          refine nF rfl rfl rfl ?_
          refine nT rfl rfl rfl (v_pickF ?_)
          refine n0 rfl (v_pickF ?_)
          refine n0 rfl (v_move ?_)
          refine nT rfl rfl rfl (v_fa ?_)
          refine nT rfl rfl rfl (v_ld ?_)
          refine nT rfl rfl rfl (v_call Tryz.call96 (parts_spec t.kind) (fun x39 => ?_))
          refine nT rfl rfl rfl (v_eqI ?_)
          refine nT rfl rfl rfl (v_move ?_)
          refine nI rfl rfl rfl wl_ (fun hg41 => v_fa ?_) (fun hg41 => ?_)
          · refine nT rfl rfl rfl (v_ld ?_)
            refine nT rfl rfl rfl (v_len ?_)
            refine nT rfl rfl rfl (v_gtr ?_)
            refine nT rfl rfl rfl (v_pickT ?_)
            refine n0 rfl (v_pickF ?_)
            refine NV.done ?_
            refine rg_nil ?_
            exact hK _ ⟨rfl, rfl, rfl, (by (conv => lhs; whnf); first | (simp_all [own1]; done) | (simp_all [own1]; omega)), trivial⟩
          · refine nF rfl rfl rfl ?_
            refine nF rfl rfl rfl ?_
            refine nF rfl rfl rfl ?_
            refine nT rfl rfl rfl (v_pickF ?_)
            refine n0 rfl (v_pickF ?_)
            refine NV.done ?_
            refine rg_nil ?_
            exact hK _ ⟨rfl, rfl, rfl, (by (conv => lhs; whnf); first | (simp_all [own1]; done) | (simp_all [own1]; omega)), trivial⟩
    · refine nF rfl rfl rfl ?_
      refine nF rfl rfl rfl ?_
      refine nF rfl rfl rfl ?_
      refine nU rfl rfl rfl ?_
      refine nU rfl rfl rfl ?_
      refine nU rfl rfl rfl ?_
      refine nF rfl rfl rfl ?_
      refine n0 rfl (v_pickT ?_)
      refine n0 rfl (v_move ?_)
      refine nF rfl rfl rfl ?_
      refine nF rfl rfl rfl ?_
      refine nF rfl rfl rfl ?_
      refine nF rfl rfl rfl ?_
      refine nU rfl rfl rfl ?_
      refine nU rfl rfl rfl ?_
      refine nU rfl rfl rfl ?_
      refine nF rfl rfl rfl ?_
      refine n0 rfl (v_pickT ?_)
      refine n0 rfl (v_move ?_)
      refine nF rfl rfl rfl ?_
      refine nF rfl rfl rfl ?_
      refine nF rfl rfl rfl ?_
      refine nF rfl rfl rfl ?_
      refine nF rfl rfl rfl ?_
      refine nU rfl rfl rfl ?_
      refine nU rfl rfl rfl ?_
      refine nU rfl rfl rfl ?_
      refine nU rfl rfl rfl ?_
      refine nF rfl rfl rfl ?_
      refine n0 rfl (v_pickT ?_)
      refine NV.done ?_
      refine rg_nil ?_
      exact hK _ ⟨rfl, rfl, rfl, (by (conv => lhs; whnf); first | (simp_all [own1]; done) | (simp_all [own1]; omega)), trivial⟩
  · refine go_condI (fun h47 => ?_) (fun h47 => ?_)
    · refine go_seq ?_
      refine go_region ⟨_, Tryz.func87⟩ rfl ?_
      refine q0 rfl (o_assign ?_)
      refine rg_nil ?_
      refine ret1 Tryz.func87 Tryz.results87 wn_ () (by simp [ownP, h47]) (fun w hs => hs.none)
    · refine go_skip ?_
      refine go_seq ?_
      refine go_seq ?_
      refine go_region ⟨_, Tryz.func87⟩ rfl ?_
      refine q0 rfl (o_fa ?_)
      refine q0 rfl (o_ld ?_)
      refine rg_nil ?_
      refine go_block ?_
      refine go_seq ?_
      refine go_region ⟨_, Tryz.func87⟩ rfl ?_
      refine q0 rfl (o_eqI ?_)
      refine q0 rfl (o_assign ?_)
      refine rg_nil ?_
      refine go_condI (fun h50 => ?_) (fun h50 => ?_)
      · refine go_seq ?_
        refine go_cutS ([(6, .bool (decide ((t.r.length : Int) = 0) && decide (0 ≤ t.n) && (decide (vars < 0) || decide (t.n < vars))))]) (fun hK => ?_) (fun base => ?_)
        · refine go_region ⟨_, Tryz.func87⟩ rfl ?_
          refine q0 rfl (o_fa ?_)
          refine q0 rfl (o_ld ?_)
          refine q0 rfl (o_len ?_)
          refine q0 rfl (o_eqI ?_)
          refine q0 rfl (o_move ?_)
          refine qI rfl rfl rfl wl_ (fun hg56 => o_fa ?_) (fun hg56 => ?_)
          · refine qT rfl rfl rfl (o_ld ?_)
            refine qT rfl rfl rfl (o_geq ?_)
            refine q0 rfl (o_pickT ?_)
            refine q0 rfl (o_move ?_)
            refine qI rfl rfl rfl wl_ (fun hg61 => o_move ?_) (fun hg61 => ?_)
            · refine qT rfl rfl rfl (o_lss ?_)
              refine qT rfl rfl rfl (o_move ?_)
              refine qI rfl rfl rfl wl_ (fun hg64 => o_fa ?_) (fun hg64 => ?_)
              · refine qT rfl rfl rfl (o_ld ?_)
                refine qT rfl rfl rfl (o_move ?_)
                refine qT rfl rfl rfl (o_lss ?_)
                refine qT rfl rfl rfl (o_pickF ?_)
                refine q0 rfl (o_pickT ?_)
                refine q0 rfl (o_assign ?_)
                refine rg_nil ?_
                exact hK _ ⟨(by (conv => lhs; whnf); first | (simp_all [Bool.and_assoc]; done) | (simp_all [Bool.and_assoc]; omega)), trivial⟩
              · refine qF rfl rfl rfl ?_
                refine qF rfl rfl rfl ?_
                refine qF rfl rfl rfl ?_
                refine qT rfl rfl rfl (o_pickT ?_)
                refine q0 rfl (o_pickT ?_)
                refine q0 rfl (o_assign ?_)
                refine rg_nil ?_
                exact hK _ ⟨(by (conv => lhs; whnf); first | (simp_all [Bool.and_assoc]; done) | (simp_all [Bool.and_assoc]; omega)), trivial⟩
            · refine qF rfl rfl rfl ?_
              refine qF rfl rfl rfl ?_
              refine qU rfl rfl rfl ?_
              refine qU rfl rfl rfl ?_
              refine qU rfl rfl rfl ?_
              refine qU rfl rfl rfl ?_
              refine qF rfl rfl rfl ?_
              refine q0 rfl (o_pickF ?_)
              refine q0 rfl (o_assign ?_)
              refine rg_nil ?_
              exact hK _ ⟨(by (conv => lhs; whnf); first | (simp_all [Bool.and_assoc]; done) | (simp_all [Bool.and_assoc]; omega)), trivial⟩
          · refine qF rfl rfl rfl ?_
            refine qF rfl rfl rfl ?_
            refine q0 rfl (o_pickF ?_)
            refine q0 rfl (o_move ?_)
            refine qF rfl rfl rfl ?_
            refine qF rfl rfl rfl ?_
            refine qF rfl rfl rfl ?_
            refine qU rfl rfl rfl ?_
            refine qU rfl rfl rfl ?_
            refine qU rfl rfl rfl ?_
            refine qU rfl rfl rfl ?_
            refine qF rfl rfl rfl ?_
            refine q0 rfl (o_pickF ?_)
            refine q0 rfl (o_assign ?_)
            refine rg_nil ?_
            exact hK _ ⟨(by (conv => lhs; whnf); first | (simp_all [Bool.and_assoc]; done) | (simp_all [Bool.and_assoc]; omega)), trivial⟩
        · refine ret1 Tryz.func87 Tryz.results87 wn_ () (by simp_all [ownP, Bool.and_assoc]) (fun w hs => hs.none)
      · refine go_seq ?_
        refine go_region ⟨_, Tryz.func87⟩ rfl ?_
        refine q0 rfl (o_eqI ?_)
        refine q0 rfl (o_assign ?_)
        refine rg_nil ?_
        refine go_condI (fun h71 => ?_) (fun h71 => ?_)
        · refine go_seq ?_
          refine go_cutS ([(6, .bool (decide ((t.r.length : Int) = 0) && nameOK t.name))]) (fun hK => ?_) (fun base => ?_)
          · refine go_region ⟨_, Tryz.func87⟩ rfl ?_
            refine q0 rfl (o_fa ?_)
            refine q0 rfl (o_ld ?_)
            refine q0 rfl (o_len ?_)
            refine q0 rfl (o_eqI ?_)
            refine q0 rfl (o_move ?_)
            refine qI rfl rfl rfl wl_ (fun hg77 => o_fa ?_) (fun hg77 => ?_)
            · refine qT rfl rfl rfl (o_ld ?_)
              refine qT rfl rfl rfl (o_call Tryz.call97 (name_spec t.name hnm) (fun x80 => ?_))
              refine q0 rfl (o_pickT ?_)
              refine q0 rfl (o_assign ?_)
              refine rg_nil ?_
              exact hK _ ⟨(by (conv => lhs; whnf); first | (simp_all [Bool.and_assoc]; done) | (simp_all [Bool.and_assoc]; omega)), trivial⟩
            · refine qF rfl rfl rfl ?_
              refine qF rfl rfl rfl ?_
              refine q0 rfl (o_pickF ?_)
              refine q0 rfl (o_assign ?_)
              refine rg_nil ?_
              exact hK _ ⟨(by (conv => lhs; whnf); first | (simp_all [Bool.and_assoc]; done) | (simp_all [Bool.and_assoc]; omega)), trivial⟩
          · refine ret1 Tryz.func87 Tryz.results87 wn_ () (by simp_all [ownP, Bool.and_assoc]) (fun w hs => hs.none)
        · refine go_seq ?_
          refine go_seq ?_
          refine go_region ⟨_, Tryz.func87⟩ rfl ?_
          refine q0 rfl (o_eqI ?_)
          refine q0 rfl (o_assign ?_)
          refine rg_nil ?_
          refine go_condI (fun h82 => ?_) (fun h82 => ?_)
          · refine go_skip ?_
            refine go_condT ?_
            refine go_seq ?_
            refine go_cutS ([(6, .bool (fRight t.r && within t.r dims))]) (fun hK => ?_) (fun base => ?_)
            · refine go_region ⟨_, Tryz.func87⟩ rfl ?_
              refine q0 rfl (o_fa ?_)
              refine q0 rfl (o_ld ?_)
              refine q0 rfl (o_call Tryz.call98 ((form_kind hf (by simp_all)).1 t.r vr) (fun x88 => ?_))
              refine q0 rfl (o_move ?_)
              refine qI rfl rfl rfl wl_ (fun hg89 => o_fa ?_) (fun hg89 => ?_)
              · refine qT rfl rfl rfl (o_ld ?_)
                refine qT rfl rfl rfl (o_move ?_)
                refine qT rfl rfl rfl (o_call Tryz.call99 (within_spec (form_kind hf (by simp_all)).2.2 t.r vr dims hd hl) (fun x93 => ?_))
                refine q0 rfl (o_pickT ?_)
                refine q0 rfl (o_assign ?_)
                refine rg_nil ?_
                exact hK _ ⟨(by (conv => lhs; whnf); first | (simp_all [Bool.and_assoc]; done) | (simp_all [Bool.and_assoc]; omega)), trivial⟩
              · refine qF rfl rfl rfl ?_
                refine qF rfl rfl rfl ?_
                refine qF rfl rfl rfl ?_
                refine q0 rfl (o_pickF ?_)
                refine q0 rfl (o_assign ?_)
                refine rg_nil ?_
                exact hK _ ⟨(by (conv => lhs; whnf); first | (simp_all [Bool.and_assoc]; done) | (simp_all [Bool.and_assoc]; omega)), trivial⟩
            · refine ret1 Tryz.func87 Tryz.results87 wn_ () (by simp_all [ownP, Bool.and_assoc]) (fun w hs => hs.none)
          · refine go_seq ?_
            refine go_region ⟨_, Tryz.func87⟩ rfl ?_
            refine q0 rfl (o_eqI ?_)
            refine q0 rfl (o_assign ?_)
            refine rg_nil ?_
            refine go_condI (fun h82 => ?_) (fun h82 => ?_)
            · refine go_skip ?_
              refine go_condT ?_
              refine go_seq ?_
              refine go_cutS ([(6, .bool (fRight t.r && within t.r dims))]) (fun hK => ?_) (fun base => ?_)
              · refine go_region ⟨_, Tryz.func87⟩ rfl ?_
                refine q0 rfl (o_fa ?_)
                refine q0 rfl (o_ld ?_)
                refine q0 rfl (o_call Tryz.call98 ((form_kind hf (by simp_all)).1 t.r vr) (fun x88 => ?_))
                refine q0 rfl (o_move ?_)
                refine qI rfl rfl rfl wl_ (fun hg89 => o_fa ?_) (fun hg89 => ?_)
                · refine qT rfl rfl rfl (o_ld ?_)
                  refine qT rfl rfl rfl (o_move ?_)
                  refine qT rfl rfl rfl (o_call Tryz.call99 (within_spec (form_kind hf (by simp_all)).2.2 t.r vr dims hd hl) (fun x93 => ?_))
                  refine q0 rfl (o_pickT ?_)
                  refine q0 rfl (o_assign ?_)
                  refine rg_nil ?_
                  exact hK _ ⟨(by (conv => lhs; whnf); first | (simp_all [Bool.and_assoc]; done) | (simp_all [Bool.and_assoc]; omega)), trivial⟩
                · refine qF rfl rfl rfl ?_
                  refine qF rfl rfl rfl ?_
                  refine qF rfl rfl rfl ?_
                  refine q0 rfl (o_pickF ?_)
                  refine q0 rfl (o_assign ?_)
                  refine rg_nil ?_
                  exact hK _ ⟨(by (conv => lhs; whnf); first | (simp_all [Bool.and_assoc]; done) | (simp_all [Bool.and_assoc]; omega)), trivial⟩
              · refine ret1 Tryz.func87 Tryz.results87 wn_ () (by simp_all [ownP, Bool.and_assoc]) (fun w hs => hs.none)
            · refine go_region ⟨_, Tryz.func87⟩ rfl ?_
              refine q0 rfl (o_eqI ?_)
              refine q0 rfl (o_assign ?_)
              refine rg_nil ?_
              refine go_condI (fun h82 => ?_) (fun h82 => ?_)
              · refine go_seq ?_
                refine go_cutS ([(6, .bool (fRight t.r && within t.r dims))]) (fun hK => ?_) (fun base => ?_)
                · refine go_region ⟨_, Tryz.func87⟩ rfl ?_
                  refine q0 rfl (o_fa ?_)
                  refine q0 rfl (o_ld ?_)
                  refine q0 rfl (o_call Tryz.call98 ((form_kind hf (by simp_all)).1 t.r vr) (fun x88 => ?_))
                  refine q0 rfl (o_move ?_)
                  refine qI rfl rfl rfl wl_ (fun hg89 => o_fa ?_) (fun hg89 => ?_)
                  · refine qT rfl rfl rfl (o_ld ?_)
                    refine qT rfl rfl rfl (o_move ?_)
                    refine qT rfl rfl rfl (o_call Tryz.call99 (within_spec (form_kind hf (by simp_all)).2.2 t.r vr dims hd hl) (fun x93 => ?_))
                    refine q0 rfl (o_pickT ?_)
                    refine q0 rfl (o_assign ?_)
                    refine rg_nil ?_
                    exact hK _ ⟨(by (conv => lhs; whnf); first | (simp_all [Bool.and_assoc]; done) | (simp_all [Bool.and_assoc]; omega)), trivial⟩
                  · refine qF rfl rfl rfl ?_
                    refine qF rfl rfl rfl ?_
                    refine qF rfl rfl rfl ?_
                    refine q0 rfl (o_pickF ?_)
                    refine q0 rfl (o_assign ?_)
                    refine rg_nil ?_
                    exact hK _ ⟨(by (conv => lhs; whnf); first | (simp_all [Bool.and_assoc]; done) | (simp_all [Bool.and_assoc]; omega)), trivial⟩
                · refine ret1 Tryz.func87 Tryz.results87 wn_ () (by simp_all [ownP, Bool.and_assoc]) (fun w hs => hs.none)
              · refine go_seq ?_
                refine go_region ⟨_, Tryz.func87⟩ rfl ?_
                refine q0 rfl (o_eqI ?_)
                refine q0 rfl (o_assign ?_)
                refine rg_nil ?_
                refine go_condI (fun h95 => ?_) (fun h95 => ?_)
                · refine go_seq ?_
                  refine go_cutS ([(6, .bool (faceRight t.r && within t.r dims))]) (fun hK => ?_) (fun base => ?_)
                  · refine go_region ⟨_, Tryz.func87⟩ rfl ?_
                    refine q0 rfl (o_fa ?_)
                    refine q0 rfl (o_ld ?_)
                    refine q0 rfl (o_call Tryz.call100 ((form_kind hf (by simp_all)).2.1 t.r vr) (fun x99 => ?_))
                    refine q0 rfl (o_move ?_)
                    refine qI rfl rfl rfl wl_ (fun hg100 => o_fa ?_) (fun hg100 => ?_)
                    · refine qT rfl rfl rfl (o_ld ?_)
                      refine qT rfl rfl rfl (o_move ?_)
                      refine qT rfl rfl rfl (o_call Tryz.call99 (within_spec (form_kind hf (by simp_all)).2.2 t.r vr dims hd hl) (fun x104 => ?_))
                      refine q0 rfl (o_pickT ?_)
                      refine q0 rfl (o_assign ?_)
                      refine rg_nil ?_
                      exact hK _ ⟨(by (conv => lhs; whnf); first | (simp_all [Bool.and_assoc]; done) | (simp_all [Bool.and_assoc]; omega)), trivial⟩
                    · refine qF rfl rfl rfl ?_
                      refine qF rfl rfl rfl ?_
                      refine qF rfl rfl rfl ?_
                      refine q0 rfl (o_pickF ?_)
                      refine q0 rfl (o_assign ?_)
                      refine rg_nil ?_
                      exact hK _ ⟨(by (conv => lhs; whnf); first | (simp_all [Bool.and_assoc]; done) | (simp_all [Bool.and_assoc]; omega)), trivial⟩
                  · refine ret1 Tryz.func87 Tryz.results87 wn_ () (by simp_all [ownP, Bool.and_assoc]) (fun w hs => hs.none)
                · refine go_skip ?_
                  refine go_inBlock ?_
                  refine go_seq ?_
                  refine go_seq ?_
                  refine go_region ⟨_, Tryz.func87⟩ rfl ?_
                  refine q0 rfl (o_fa ?_)
                  refine q0 rfl (o_ld ?_)
                  refine q0 rfl (o_len ?_)
                  refine q0 rfl (o_move ?_)
                  refine rg_nil ?_
                  refine go_block ?_
                  refine go_loopI (X := Nat) (fun i => i ≤ t.sys.length ∧ ∀ j, j < i → ownB t dims (t.sys.getD j br0) = true) (fun i => [(2, .int .i64 dims), (3, .pointer (some ⟨b3, 0, none⟩)), (107, sl vs t.sys.length), (108, .int .i64 (t.sys.length : Int)), (109, .int .i64 (i : Int))]) (fun i => BLx t.sys vs VF VK2 :: RT t vr vk vs :: []) (fun i => [boxR b3 (tc t vr vk vs) 26]) (fun i => t.sys.length - i) (0) (⟨Nat.zero_le _, fun j hj => by omega⟩) (by exact ⟨rfl, rfl, rfl, rfl, rfl, trivial⟩) ?_ ?_
                  · exact fun w hs => hs.less (by simp +contextual)
                  · intro i base0 ⟨hi, hok⟩ next0
                    refine go_seq ?_
                    refine go_region ⟨_, Tryz.func87⟩ rfl ?_
                    refine q0 rfl (o_lss ?_)
                    refine rg_nil ?_
                    refine go_seq ?_
                    refine go_condI (fun h110 => ?_) (fun h110 => ?_)
                    · have hlt : i < t.sys.length := by have := of_decide_eq_true h110; omega
                      obtain ⟨bk, o, hav⟩ := hA2 (by omega)
                      refine go_skip ?_
                      refine go_seq ?_
                      refine go_block ?_
                      refine go_seq ?_
                      refine go_region ⟨_, Tryz.func87⟩ rfl ?_
                      refine q0 rfl (o_ixN ?_)
                      refine q0 rfl (o_ldB ?_)
                      refine q0 rfl (o_new fun b8 => ?_)
                      refine q0 rfl (o_st ?_)
                      refine rg_nil ?_
                      refine go_seq ?_
                      refine go_branch i hlt ?_
                      refine go_cutS ([(2, .int .i64 dims), (3, .pointer (some ⟨b3, 0, none⟩)), (107, sl vs t.sys.length), (108, .int .i64 (t.sys.length : Int)), (109, .int .i64 (i : Int)), (132, .bool (!(ownB t dims (t.sys.getD i br0))))]) (fun hK => ?_) (fun base => ?_)
                      · refine go_draw (tn := false) (A := [0, 1, 3, 0, 8, 24, 63, 127, 255, 511, 1023, 2047, 4095, 8191, 16383, 32767, 16383, 131071, 262143, 524287]) (l := [0, 1, 2, 3, 4, 5, 6, 7, 8, 9, 10, 11, 12, 13, 14, 15, 16, 17, 18, 19]) (fin := []) Tab.mixed ⟨_, Tryz.func87⟩ (by rfl) ?_
                        refine n0 rfl (v_fa ?_)
                        refine n0 rfl (v_ld ?_)
                        refine n0 rfl (v_len ?_)
                        refine n0 rfl (v_fa ?_)
                        refine n0 rfl (v_ld ?_)
                        refine n0 rfl (v_call Tryz.call96 (parts_spec t.kind) (fun x118 => ?_))
                        refine n0 rfl (v_neI ?_)
                        refine n0 rfl (v_move ?_)
                        refine nI rfl rfl rfl wl_ (fun hg120 => v_fa ?_) (fun hg120 => ?_)
                        · refine nT rfl rfl rfl (v_ld ?_)
                          refine nT rfl rfl rfl (v_call Tryz.call100 ((form_sys hf hlt).2.1 _ (VF i)) (fun x123 => ?_))
                          refine nT rfl rfl rfl (v_not ?_)
                          refine n0 rfl (v_pickF ?_)
                          refine n0 rfl (v_move ?_)
                          refine nI rfl rfl rfl wl_ (fun hg126 => v_fa ?_) (fun hg126 => ?_)
                          · refine nT rfl rfl rfl (v_ld ?_)
                            refine nT rfl rfl rfl (v_move ?_)
                            refine nT rfl rfl rfl (v_call Tryz.call99 (within_spec (form_sys hf hlt).2.2 _ (VF i) dims hd hl) (fun x130 => ?_))
                            refine nT rfl rfl rfl (v_not ?_)
                            refine n0 rfl (v_pickF ?_)
                            refine NV.done ?_
                            refine rg_nil ?_
                            exact hK _ ⟨rfl, rfl, rfl, rfl, rfl, (by (conv => lhs; whnf); first | (simp_all [ownB]; done) | (simp_all [ownB]; omega)), trivial⟩
                          · refine nF rfl rfl rfl ?_
                            refine nF rfl rfl rfl ?_
                            refine nF rfl rfl rfl ?_
                            refine nF rfl rfl rfl ?_
                            refine n0 rfl (v_pickT ?_)
                            refine NV.done ?_
                            refine rg_nil ?_
                            exact hK _ ⟨rfl, rfl, rfl, rfl, rfl, (by (conv => lhs; whnf); first | (simp_all [ownB]; done) | (simp_all [ownB]; omega)), trivial⟩
                        · refine nF rfl rfl rfl ?_
                          refine nF rfl rfl rfl ?_
                          refine nF rfl rfl rfl ?_
                          refine n0 rfl (v_pickT ?_)
                          refine n0 rfl (v_move ?_)
                          refine nF rfl rfl rfl ?_
                          refine nF rfl rfl rfl ?_
                          refine nF rfl rfl rfl ?_
                          refine nF rfl rfl rfl ?_
                          refine nF rfl rfl rfl ?_
                          refine n0 rfl (v_pickT ?_)
                          refine NV.done ?_
                          refine rg_nil ?_
                          exact hK _ ⟨rfl, rfl, rfl, rfl, rfl, (by (conv => lhs; whnf); first | (simp_all [ownB]; done) | (simp_all [ownB]; omega)), trivial⟩
                      · refine go_condI (fun h132 => ?_) (fun h132 => ?_)
                        · refine go_seq ?_
                          refine go_region ⟨_, Tryz.func87⟩ rfl ?_
                          refine q0 rfl (o_assign ?_)
                          refine rg_nil ?_
                          have ha := all_getD_not hlt (by simpa using h132)
                          refine ret1 Tryz.func87 Tryz.results87 wn_ () (by rw [ownP, ha]; clear hok ha h132; simp_all [Bool.and_assoc]) (fun w hs => hs.none)
                        · refine go_skip ?_
                          refine go_inBlock ?_
                          refine go_region ⟨_, Tryz.func87⟩ rfl ?_
                          refine q0 rfl (o_add ?_)
                          refine q0 rfl (o_move ?_)
                          refine rg_nil ?_
                          have hb : ownB t dims (t.sys.getD i br0) = true := by simpa using h132
                          refine go_state (fun w hs => ?_) (next0 (i + 1) _ ⟨hlt, fun j hj => (by rcases Nat.lt_succ_iff_lt_or_eq.mp hj with h | h; exact hok j h; subst h; exact hb)⟩ (by omega) ⟨rfl, rfl, rfl, rfl, rfl, trivial⟩)
                          exact (hs.less (by simp +contextual)).drop
                    · have hge : i = t.sys.length := by have := of_decide_eq_false h110; omega
                      refine go_exit rfl ?_
                      refine go_seq ?_
                      refine go_region ⟨_, Tryz.func87⟩ rfl ?_
                      refine q0 rfl (o_fa ?_)
                      refine q0 rfl (o_ld ?_)
                      refine q0 rfl (o_len ?_)
                      refine q0 rfl (o_eqI ?_)
                      refine q0 rfl (o_assign ?_)
                      refine rg_nil ?_
                      have ha := all_getD (t := t) (g := ownB t dims) (by rw [← hge]; exact hok)
                      refine ret1 Tryz.func87 Tryz.results87 wn_ () (by rw [ownP, ha]; clear hok ha; simp_all [Bool.and_assoc]) (fun w hs => hs.none)
abbrev AllAt (t : T) : Prop := (plainT t = true ∨ FORM) → ∀ (vars dims : Int) (bound : Bool) vr vk vs, in64 vars → 0 ≤ dims → dims + depth t ≤ 1152921504606846976 → Spec Tryz.prog 64 #[.agg (tc t vr vk vs).toArray, .int .i64 vars, .int .i64 dims, .bool bound] [RT t vr vk vs] [] (fun _ : Unit => .bool (allP t vars dims bound)) (fun _ => []) (fun _ => [])
abbrev AllCap (b1 b2 b3 : Nat) : List Value := [.pointer (some ⟨b1, 0, none⟩), .pointer (some ⟨b2, 0, none⟩), .pointer (some ⟨b3, 0, none⟩)]
abbrev AllM (b1 b2 b3 : Nat) (vars dims : Int) (bound : Bool) : List Res := [boxR b1 [.int .i64 vars] 3, boxR b2 [.int .i64 dims] 3, boxR b3 [.bool bound] 4]
def bindsIn (v d : Int) : Prop := 0 ≤ v ∧ v ≤ 1 ∧ 0 ≤ d ∧ d ≤ 1
theorem binds_in (k i : Int) : bindsIn (binds k i).1 (binds k i).2 := by
  unfold binds bindsIn; repeat (split; (simp))
  simp
theorem parts_in {t : T} {k : T} {v d : Int} (h : (k, v, d) ∈ parts t) : bindsIn v d := by
  have hk : ∀ (kind : Int) (i : Nat) (ks : List T), (k, v, d) ∈ kidParts kind i ks → bindsIn v d := by
    intro kind i ks
    induction ks generalizing i with
    | nil => intro h; simp [kidParts] at h
    | cons a ks ih =>
      intro h
      simp only [kidParts, List.mem_cons] at h
      rcases h with h | h
      · have e : (v, d) = binds kind i := (Prod.mk.inj h).2
        have := binds_in kind i
        rw [← e] at this; exact this
      · exact ih _ h
  have hs : ∀ (kind : Int) (bs : List Br), (k, v, d) ∈ sysParts kind bs → bindsIn v d := by
    intro kind bs
    induction bs with
    | nil => intro h; simp [sysParts] at h
    | cons b bs ih =>
      intro h
      simp only [sysParts, List.mem_append, List.mem_map] at h
      rcases h with ⟨a, ha, e⟩ | h
      · have e2 := (Prod.mk.inj e).2
        have e3 := (Prod.mk.inj e2)
        rw [← e3.1, ← e3.2]
        unfold bindsIn more; split <;> simp
      · exact ih h
  unfold parts at h
  rcases List.mem_append.mp h with h | h
  · exact hk _ _ _ h
  · exact hs _ _ h
theorem depth_mem {t : T} {p : Part} (h : p ∈ parts t) : depth p.1 < depth t := by
  obtain ⟨m, hm⟩ := List.mem_iff_getElem?.mp h
  exact depth_part hm
theorem size_mem {t : T} {p : Part} (h : p ∈ parts t) : size p.1 < size t := by
  obtain ⟨m, hm⟩ := List.mem_iff_getElem?.mp h
  have := size_part hm; have := sizeUpto_pos t m; omega
theorem all1_walk (k : T) (vr vk vs : SH) (b1 b2 b3 : Nat) (vars dims v d : Int) (bound : Bool) (hv : in64 vars) (h0 : 0 ≤ dims) (hvd : bindsIn v d) (hl : dims + 1 + depth k ≤ 1152921504606846976) (hp : plainT k = true ∨ FORM) (ih : AllAt k) : Spec Tryz.prog 88 #[.agg (tc k vr vk vs).toArray, .int .i64 v, .int .i64 d, .pointer (some ⟨b1, 0, none⟩), .pointer (some ⟨b2, 0, none⟩), .pointer (some ⟨b3, 0, none⟩)] [RT k vr vk vs] (AllM b1 b2 b3 vars dims bound) (fun _ : Unit => .bool (allP k (IntKind.i64.wrap (vars + if vars < 0 then 0 else v)) (dims + d) bound)) (fun _ => []) (fun _ => AllM b1 b2 b3 vars dims bound) := by
  refine spec_go (args := [.agg (tc k vr vk vs).toArray, .int .i64 v, .int .i64 d, .pointer (some ⟨b1, 0, none⟩), .pointer (some ⟨b2, 0, none⟩), .pointer (some ⟨b3, 0, none⟩)]) Tryz.func88 Tryz.ntmps88 rfl (by exact Nat.le_of_ble_eq_true rfl) fun B hB => ?_
  obtain ⟨hv0, hv1, hd0, hd1⟩ := hvd
  refine go_seq ?_
  refine go_region ⟨_, Tryz.func88⟩ rfl ?_
  refine q0 rfl (o_box fun b6 => ?_)
  refine q0 rfl (o_assign ?_)
  refine rg_nil ?_
  refine go_seq ?_
  refine go_seq ?_
  refine go_region ⟨_, Tryz.func88⟩ rfl ?_
  refine q0 rfl (o_ld ?_)
  refine q0 rfl (o_lss ?_)
  refine rg_nil ?_
  refine go_cutS ([(1, .int .i64 (if vars < 0 then 0 else v)), (2, .int .i64 d), (3, .pointer (some ⟨b1, 0, none⟩)), (4, .pointer (some ⟨b2, 0, none⟩)), (5, .pointer (some ⟨b3, 0, none⟩)), (6, .pointer (some ⟨b6, 0, none⟩))]) (fun hK => ?_) (fun base => ?_)
  · refine go_condI (fun h11 => ?_) (fun h11 => ?_)
    · refine go_region ⟨_, Tryz.func88⟩ rfl ?_
      refine q0 rfl (o_assign ?_)
      refine rg_nil ?_
      exact hK _ ⟨(by first | (rw [if_pos (of_decide_eq_true h11)]; rfl) | (rw [if_neg (of_decide_eq_false h11)]; rfl)), rfl, rfl, rfl, rfl, rfl, trivial⟩
    · refine go_skip ?_
      exact hK _ ⟨(by first | (rw [if_pos (of_decide_eq_true h11)]; rfl) | (rw [if_neg (of_decide_eq_false h11)]; rfl)), rfl, rfl, rfl, rfl, rfl, trivial⟩
  · refine go_seq ?_
    refine go_region ⟨_, Tryz.func88⟩ rfl ?_
    refine q0 rfl (o_lds ?_)
    refine q0 rfl (o_ld ?_)
    refine q0 rfl (o_move ?_)
    refine q0 rfl (o_addW ?_)
    refine q0 rfl (o_ld ?_)
    refine q0 rfl (o_move ?_)
    refine q0 rfl (o_add ?_)
    refine q0 rfl (o_ld ?_)
    refine q0 rfl (o_call Tryz.call64 (ih hp (IntKind.i64.wrap (vars + if vars < 0 then 0 else v)) (dims + d) bound vr vk vs (wrap_in _) (by omega) (by omega)) (fun x20 => ?_))
    refine q0 rfl (o_assign ?_)
    refine rg_nil ?_
    refine ret1 Tryz.func88 Tryz.results88 wn_ () rfl (fun w hs => (hs.less (by simp)).drop)
theorem all_walk (t : T) (hp : plainT t = true ∨ FORM) (ih : ∀ p, p ∈ parts t → AllAt p.1) (vars dims : Int) (bound : Bool) (vr vk vs : SH) (hv : in64 vars) (h0 : 0 ≤ dims) (hl : dims + depth t ≤ 1152921504606846976) : Spec Tryz.prog 64 #[.agg (tc t vr vk vs).toArray, .int .i64 vars, .int .i64 dims, .bool bound] [RT t vr vk vs] [] (fun _ : Unit => .bool (allP t vars dims bound)) (fun _ => []) (fun _ => []) := by
  refine spec_go (args := [.agg (tc t vr vk vs).toArray, .int .i64 vars, .int .i64 dims, .bool bound]) Tryz.func64 Tryz.ntmps64 rfl (by exact Nat.le_of_ble_eq_true rfl) fun B hB => ?_
  refine go_seq ?_
  refine go_region ⟨_, Tryz.func64⟩ rfl ?_
  refine q0 rfl (o_box fun b4 => ?_)
  refine q0 rfl (o_box fun b5 => ?_)
  refine q0 rfl (o_box fun b6 => ?_)
  refine q0 rfl (o_box fun b7 => ?_)
  refine q0 rfl (o_assign ?_)
  refine rg_nil ?_
  refine go_seq ?_
  refine go_seq ?_
  refine go_cutS ([(4, .pointer (some ⟨b4, 0, none⟩)), (5, .pointer (some ⟨b5, 0, none⟩)), (6, .pointer (some ⟨b6, 0, none⟩)), (7, .pointer (some ⟨b7, 0, none⟩)), (20, .bool ((bound && decide (24 < dims)) || !(ownP t vars dims)))]) (fun hK => ?_) (fun base => ?_)
  · refine go_region ⟨_, Tryz.func64⟩ rfl ?_
    refine q0 rfl (o_ld ?_)
    refine q0 rfl (o_move ?_)
    refine qI rfl rfl rfl wl_ (fun hg10 => o_ld ?_) (fun hg10 => ?_)
    · refine qT rfl rfl rfl (o_gtr ?_)
      refine q0 rfl (o_pickT ?_)
      refine q0 rfl (o_move ?_)
      refine qI rfl rfl rfl wl_ (fun hg14 => o_lds ?_) (fun hg14 => ?_)
      · refine qT rfl rfl rfl (o_ld ?_)
        refine qT rfl rfl rfl (o_ld ?_)
        refine qT rfl rfl rfl (o_call Tryz.call87 (own_spec t (plain_node hp) vr vk vs vars dims h0 (by unfold in64; omega)) (fun x18 => ?_))
        refine qT rfl rfl rfl (o_not ?_)
        refine q0 rfl (o_pickF ?_)
        refine rg_nil ?_
        exact hK _ ⟨rfl, rfl, rfl, rfl, (by (conv => lhs; whnf); first | (simp_all [Bool.and_assoc]; done) | (simp_all [Bool.and_assoc]; omega)), trivial⟩
      · refine qF rfl rfl rfl ?_
        refine qF rfl rfl rfl ?_
        refine qF rfl rfl rfl ?_
        refine qF rfl rfl rfl ?_
        refine q0 rfl (o_pickT ?_)
        refine rg_nil ?_
        exact hK _ ⟨rfl, rfl, rfl, rfl, (by (conv => lhs; whnf); first | (simp_all [Bool.and_assoc]; done) | (simp_all [Bool.and_assoc]; omega)), trivial⟩
    · refine qF rfl rfl rfl ?_
      refine q0 rfl (o_pickF ?_)
      refine q0 rfl (o_move ?_)
      refine qT rfl rfl rfl (o_lds ?_)
      refine qT rfl rfl rfl (o_ld ?_)
      refine qT rfl rfl rfl (o_ld ?_)
      refine qT rfl rfl rfl (o_call Tryz.call87 (own_spec t (plain_node hp) vr vk vs vars dims h0 (by unfold in64; omega)) (fun x18 => ?_))
      refine qT rfl rfl rfl (o_not ?_)
      refine q0 rfl (o_pickF ?_)
      refine rg_nil ?_
      exact hK _ ⟨rfl, rfl, rfl, rfl, (by (conv => lhs; whnf); first | (simp_all [Bool.and_assoc]; done) | (simp_all [Bool.and_assoc]; omega)), trivial⟩
  · refine go_condI (fun h20 => ?_) (fun h20 => ?_)
    · refine go_seq ?_
      refine go_region ⟨_, Tryz.func64⟩ rfl ?_
      refine q0 rfl (o_assign ?_)
      refine rg_nil ?_
      refine ret1 Tryz.func64 Tryz.results64 wn_ () (by rw [allP_eq, h20]; rfl) (fun w hs => hs.none)
    · refine go_skip ?_
      refine go_seq ?_
      refine go_region ⟨_, Tryz.func64⟩ rfl ?_
      refine q0 rfl (o_lds ?_)
      refine q0 rfl (o_func ?_)
      have hE := each_bool t vr vk vs 88 (AllCap b5 b6 b7) [] (AllM b5 b6 b7 vars dims bound) (fun p => allP p.1 (IntKind.i64.wrap (vars + if vars < 0 then 0 else p.2.1)) (dims + p.2.2) bound) Tryz.call88 (fun k v d hm vr vk vs => all1_walk k vr vk vs b5 b6 b7 vars dims v d bound hv h0 (parts_in hm) (by have := depth_mem hm; simp only at this; omega) (plain_part hp hm) (ih _ hm))
      refine q0 rfl (o_call Tryz.call37 (hE) (fun x23 => ?_))
      refine q0 rfl (o_assign ?_)
      refine rg_nil ?_
      refine ret1 Tryz.func64 Tryz.results64 wn_ () (by rw [allP_eq, h20]; rfl) (fun w hs => hs.none)
theorem all_spec : ∀ t : T, AllAt t := T.ind fun t ih hp vars dims bound vr vk vs hv h0 hl => all_walk t hp ih vars dims bound vr vk vs hv h0 hl
theorem formed_spec (t : T) (hp : plainT t = true ∨ FORM) (vr vk vs : SH) (hsz : size t ≤ 1152921504606846) : Spec Tryz.prog 45 #[.agg (tc t vr vk vs).toArray] [RT t vr vk vs] [] (fun _ : Unit => .int .i64 (formedP t)) (fun _ => []) (fun _ => []) := by
  refine spec_go (args := [.agg (tc t vr vk vs).toArray]) Tryz.func45 Tryz.ntmps45 rfl (by exact Nat.le_of_ble_eq_true rfl) fun B hB => ?_
  have hds := depth_le_size t
  refine go_seq ?_
  refine go_region ⟨_, Tryz.func45⟩ rfl ?_
  refine q0 rfl (o_box fun b1 => ?_)
  refine q0 rfl (o_assign ?_)
  refine rg_nil ?_
  refine go_seq ?_
  refine go_seq ?_
  refine go_region ⟨_, Tryz.func45⟩ rfl ?_
  refine q0 rfl (o_lds ?_)
  refine q0 rfl (o_call Tryz.call63 (sized_spec t vr vk vs) (fun x5 => ?_))
  refine q0 rfl (o_assign ?_)
  refine rg_nil ?_
  refine go_seq ?_
  refine go_region ⟨_, Tryz.func45⟩ rfl ?_
  refine q0 rfl (o_move ?_)
  refine q0 rfl (o_neI ?_)
  refine rg_nil ?_
  refine go_condI (fun h7 => ?_) (fun h7 => ?_)
  · have hs := of_decide_eq_true h7
    refine go_seq ?_
    refine go_region ⟨_, Tryz.func45⟩ rfl ?_
    refine q0 rfl (o_move ?_)
    refine q0 rfl (o_assign ?_)
    refine rg_nil ?_
    refine ret1 Tryz.func45 Tryz.results45 wn_ () (by rw [formedP, if_pos hs]) (fun w hs => hs.none)
  · have hs := of_decide_eq_false h7
    refine go_skip ?_
    refine go_seq ?_
    refine go_seq ?_
    refine go_region ⟨_, Tryz.func45⟩ rfl ?_
    refine q0 rfl (o_lds ?_)
    refine q0 rfl (o_call Tryz.call64 (all_spec t hp (-1) 24 false vr vk vs (by unfold in64; omega) (by omega) (by omega)) (fun x10 => ?_))
    refine q0 rfl (o_not ?_)
    refine rg_nil ?_
    refine go_condI (fun h11 => ?_) (fun h11 => ?_)
    · refine go_seq ?_
      refine go_region ⟨_, Tryz.func45⟩ rfl ?_
      refine q0 rfl (o_assign ?_)
      refine rg_nil ?_
      refine ret1 Tryz.func45 Tryz.results45 wn_ () (by rw [formedP, if_neg hs]; simp_all) (fun w hs => hs.none)
    · refine go_skip ?_
      refine go_seq ?_
      refine go_region ⟨_, Tryz.func45⟩ rfl ?_
      refine q0 rfl (o_assign ?_)
      refine rg_nil ?_
      refine ret1 Tryz.func45 Tryz.results45 wn_ () (by rw [formedP, if_neg hs]; simp_all) (fun w hs => hs.none)
end Go.Hy
namespace Go.Hy
set_option linter.unusedVariables false
set_option linter.unusedSimpArgs false
set_option linter.unusedSectionVars false
set_option linter.unusedVariables false
theorem wrap_id {n : Int} (h : in64 n) : IntKind.i64.wrap n = n := by rw [IntKind.wrap_i64]; unfold in64 at h; omega
theorem sized_zero {t : T} : sized t = 0 ↔ depth t ≤ 200 ∧ size t ≤ 20000 := by
  unfold sized
  split
  · simp; omega
  · split
    · simp; omega
    · simp; omega
theorem formed_zero {t : T} : formedP t = 0 ↔ sized t = 0 ∧ allP t (-1) 24 false = true := by
  unfold formedP
  split
  · rename_i h; constructor
    · intro h2; exact absurd h2 h
    · intro h2; exact absurd h2.1 h
  · rename_i h
    have h : sized t = 0 := by simpa using h
    split
    · rename_i h3; simp [h, h3]
    · rename_i h3; simp [h3]
theorem within_big {l : List Cl} {d : Int} (h : 24 ≤ d) : within l d = true := by unfold within; rw [decide_eq_true h]; rfl
theorem own_big {t : T} {v d e : Int} (h : 24 ≤ d) (h2 : 24 ≤ e) : ownP t v d = ownP t v e := by
  unfold ownP
  rw [within_big h, within_big h2]
  have : ownB t d = ownB t e := by funext b; unfold ownB; rw [within_big h, within_big h2]
  rw [this]
/-- Without a bound, beyond all dimensions, more dimensions change nothing. -/
theorem all_big : ∀ (t : T) (v d e : Int), 24 ≤ d → 24 ≤ e → allP t v d false = allP t v e false := T.ind fun t ih v d e hd he => by
  rw [allP_eq, allP_eq, own_big hd he]
  simp only [Bool.false_and, Bool.false_or]
  congr 1
  rw [Bool.eq_iff_iff, List.all_eq_true, List.all_eq_true]
  have hx : ∀ p, p ∈ parts t → allP p.1 (IntKind.i64.wrap (v + if v < 0 then 0 else p.2.1)) (d + p.2.2) false = allP p.1 (IntKind.i64.wrap (v + if v < 0 then 0 else p.2.1)) (e + p.2.2) false := fun p hp => by
    have := parts_in (k := p.1) (v := p.2.1) (d := p.2.2) hp
    exact ih p hp _ _ _ (by unfold bindsIn at this; omega) (by unfold bindsIn at this; omega)
  exact ⟨fun h p hp => by rw [← hx p hp]; exact h p hp, fun h p hp => by rw [hx p hp]; exact h p hp⟩
theorem formed_part {t : T} {p : Part} (h : formedP t = 0) (hp : p ∈ parts t) : formedP p.1 = 0 := by
  rw [formed_zero, sized_zero] at h ⊢
  have h1 := depth_mem hp
  have h2 := size_mem hp
  refine ⟨⟨by omega, by omega⟩, ?_⟩
  have h3 := h.2
  rw [allP_eq, Bool.and_eq_true] at h3
  have h4 := List.all_eq_true.mp h3.2 p hp
  have h5 := parts_in (k := p.1) (v := p.2.1) (d := p.2.2) hp
  unfold bindsIn at h5
  rw [all_big p.1 _ 24 (24 + p.2.2) (by omega) (by omega)]
  simpa [show (-1 : Int) < 0 by omega, wrap_id (show in64 (-1) by unfold in64; omega)] using h4
theorem depth_kid {t k : T} (hk : k ∈ t.kids) : depth k < depth t := by obtain ⟨p, hp, e⟩ := kid_mem_parts hk; exact e ▸ depth_mem hp
end Go.Hy
namespace Go.Hy
set_option linter.unusedVariables false
set_option linter.unusedSimpArgs false
set_option linter.unusedSectionVars false
set_option linter.unusedVariables false
theorem list_len_ind {α : Type} {P : List α → Prop} (h : ∀ p, (0 < p.length → P (p.drop 1)) → P p) : ∀ p, P p
  | [] => h [] (fun h => by simp at h)
  | a :: p => h (a :: p) (fun _ => list_len_ind h p)
/-! What a term that is formed is of itself. -/
theorem formed_kind {t : T} (h : formedP t = 0) : 0 < t.kind := by
  have h1 := (formed_zero.mp h).2
  rw [allP_eq] at h1
  simp only [Bool.and_eq_true, Bool.not_eq_true', Bool.or_eq_false_iff] at h1
  have h2 := h1.1.2
  simp only [ownP, Bool.not_eq_false', Bool.and_eq_true, Bool.not_eq_true', own1, Bool.or_eq_false_iff, decide_eq_false_iff_not, ne_eq, Decidable.not_not] at h2
  have h3 := h2.1.1.1.1
  unfold kidsN at h3
  apply Classical.byContradiction
  intro hn
  have e : ¬ (t.kind = 1 ∨ t.kind = 2 ∨ t.kind = 3 ∨ t.kind = 19 ∨ t.kind = 20 ∨ t.kind = 24 ∨ t.kind = 25 ∨ t.kind = 21) := by omega
  have e2 : ¬ (t.kind = 5 ∨ t.kind = 9 ∨ t.kind = 10 ∨ t.kind = 23 ∨ t.kind = 12 ∨ t.kind = 16 ∨ t.kind = 17 ∨ t.kind = 18 ∨ t.kind = 26) := by omega
  have e3 : ¬ (t.kind = 4 ∨ t.kind = 7 ∨ t.kind = 6 ∨ t.kind = 8 ∨ t.kind = 14 ∨ t.kind = 15 ∨ t.kind = 28) := by omega
  have e4 : ¬ (t.kind = 11 ∨ t.kind = 13) := by omega
  rw [if_neg e, if_neg e2, if_neg e3, if_neg e4, if_neg (by omega), if_neg (by omega)] at h3
  omega
def badT (e : Int) : T := .mk (-e) 0 ⟨#[]⟩ [] [] []
/-- Set: a refusal where there is no such place. -/
def setR (t : T) (p : List Int) (u : T) : T := (setP t p u).getD (badT 90)
theorem setR_nil {t u : T} {p : List Int} (h : p.length = 0) : setR t p u = u := by rw [setR, setP_nil h]; rfl
theorem setP_kind : ∀ (p : List Int) {t u x : T}, 0 < t.kind → 0 < u.kind → setP t p u = some x → 0 < x.kind
  | [], t, u, x, _, hu, h => by simp only [setP, Option.some.injEq] at h; exact h ▸ hu
  | k :: p, t, u, x, ht, _, h => by
    obtain ⟨m, q, y, _, _, _, e⟩ := setP_step h
    subst e
    unfold putPart
    split <;> exact ht
theorem setR_at {t u : T} {p : List Int} {m : Nat} {q : Part} (h : 0 < p.length) (hm : p.getD 0 0 = (m : Int)) (hq : (parts t)[m]? = some q) (hk : 0 < q.1.kind) (hu : 0 < u.kind) :
    setR t p u = if (setR q.1 (p.drop 1) u).kind < 0 then setR q.1 (p.drop 1) u else putPart t m (setR q.1 (p.drop 1) u) := by
  unfold setR
  rw [setP_at h hm hq]
  cases hx : setP q.1 (p.drop 1) u with
  | none => simp [badT, T.kind]
  | some x =>
    have := setP_kind _ hk hu hx
    simp only [Option.map_some, Option.getD_some]
    rw [if_neg (by omega)]
theorem setR_miss {t u : T} {p : List Int} (h : 0 < p.length) (hm : p.getD 0 0 < 0 ∨ ((parts t).length : Int) ≤ p.getD 0 0) : setR t p u = badT 90 := by rw [setR, setP_miss h hm]; rfl
theorem setR_bad {t u : T} {p : List Int} (ht : 0 < t.kind) (hu : 0 < u.kind) : (setR t p u).kind < 0 ↔ setP t p u = none := by
  unfold setR
  cases hx : setP t p u with
  | none => simp [badT, T.kind]
  | some x =>
    have := setP_kind _ ht hu hx
    simp only [Option.getD_some]
    constructor
    · intro h; omega
    · intro h; cases h
end Go.Hy
namespace Go.Hy
set_option linter.unusedVariables false
set_option linter.unusedSimpArgs false
set_option linter.unusedSectionVars false
set_option linter.unusedVariables false
/-! ### A row of spots whose terms are the call's own -/
abbrev HQ := HT × Int × Int
def hq (z : HQ) : QP := (z.1.tp, z.2)
end Go.Hy
namespace Go.Hy
set_option linter.unusedVariables false
set_option linter.unusedSimpArgs false
set_option linter.unusedSectionVars false
set_option linter.unusedVariables false
set_option linter.unusedSimpArgs false
/-! ### A copy of a term, one part of which is another -/
section
variable {B : Base} {Γ : List Fact} {Ms : List Res} {w : World}
theorem St.apSet {ps : List TP} {i : Nat} {X : T} {xr xk xs : SH} (hs : St B Γ Ms w) (h1 : AP ps ∈ Γ) (h2 : RT X xr xk xs ∈ Γ) : St B (AP (ps.set i (X, xr, xk, xs)) :: Γ) Ms w := by
  refine hs.add (fun p hp => ?_)
  rcases List.mem_or_eq_of_mem_set hp with h | h
  · exact hs.facts _ h1 p h
  · subst h; exact hs.facts _ h2
/-- The kids' row is kept; all else becomes known. -/
theorem St.openKids (y : Tys) {hBp : Prop} (hB : hBp) {h : HT} {t : T} (ht : h.er = t) (hok : okT t) (hs : St B Γ (bigR (treeR y h) :: Ms) w) : St B (AP (h.kids.map HT.tp) :: BL t.sys h.vs :: CL t.r h.vr :: Γ) (rowS 6 y.t h.vk t.kids.length (tpFlat (h.kids.map HT.tp)) :: Ms) w := by
  obtain ⟨k, n, nm, r, v, ks, u, ss, x⟩ := h
  subst ht
  simp only [HT.er, okT] at hok
  obtain ⟨o1, o2, o3, o4, o5, o6, o7, o8⟩ := hok
  have hs := hs.unpack
  simp only [treeR, List.cons_append, List.append_assoc] at hs
  have h1 := hs.settleCL (l := r) hB rfl rfl o4.2 o4.1
  have h2 : St B (CL r v :: Γ) (kidsR y ks ++ (brsR y ss ++ (rowS 6 y.t u ks.length (tpFlat (ks.map HT.tp)) :: rowS 2 y.b x ss.length (bpFlat (ss.map HB.bp)) :: Ms))) w := h1.perm (((permOut.trans (permOut.cons _))).symm)
  have h3 := St.settleKs y hB ks [] (by rw [HT.erL_eq] at o7; exact o7) (by simpa using h2.apNil)
  have h4 := St.settleBs y hB ss [] (by rw [HT.erB_eq] at o8; exact o8) (h3.bpNil)
  have h6 := (h4.perm perm1).settleBL (ps := ss.map HB.bp) (bs := ss.map HB.er) hB (by simp) rfl (by simp [HB.bp, Function.comp_def]) (by simp) (by rw [HT.erB_eq, List.length_map] at o6; exact o6)
  simp only [HT.er, HT.erL_eq, HT.erB_eq, T.kids, T.sys, T.r, HT.kids, HT.vk, HT.vs, HT.vr, List.length_map]
  exact h6.less (by simp +contextual)
theorem St.closeKids {e : TypeId} {hBp : Prop} (hB : hBp) {h : HT} {t X : T} {i : Nat} {xr xk xs : SH} (ht : h.er = t) (hok : okT t) (hi : i < t.kids.length) (hs : St B Γ (rowS 6 e h.vk t.kids.length (tpFlat ((h.kids.map HT.tp).set i (X, xr, xk, xs))) :: Ms) w) (h1 : AP (h.kids.map HT.tp) ∈ Γ) (h2 : BL t.sys h.vs ∈ Γ) (h3 : CL t.r h.vr ∈ Γ) (h4 : RT X xr xk xs ∈ Γ) : St B (RT (putPart t i X) h.vr h.vk h.vs :: Γ) Ms w := by
  obtain ⟨k, n, nm, r, v, ks, u, ss, x⟩ := h
  subst ht
  simp only [HT.er, okT] at hok
  obtain ⟨o1, o2, o3, o4, o5, o6, o7, o8⟩ := hok
  have g1 := hs.apSet (i := i) h1 h4
  have g2 := g1.settleTL (ts := (HT.erL ks).set i X) hB List.mem_cons_self rfl (by simp only [HT.kids]; rw [List.map_set, List.map_map, HT.erL_eq]; rfl) (by simp [HT.er, HT.erL_eq, HT.kids, T.kids]) (by simpa [HT.er, T.kids] using o5)
  have g3 := g2.mkRT (k := k) (n := n) (nm := nm) (r := r) (vr := v) (ks := (HT.erL ks).set i X) (vk := u) (ss := HT.erB ss) (vs := x) o1 o2 o3 (by simp only [List.mem_cons]; exact .inr (.inr (by simpa [HT.er, T.r, HT.vr] using h3))) (by exact List.mem_cons_self) (by simp only [List.mem_cons]; exact .inr (.inr (by simpa [HT.er, T.sys, HT.vs] using h2)))
  have e : putPart (HT.er (.mk k n nm r v ks u ss x)) i X = .mk k n nm r ((HT.erL ks).set i X) (HT.erB ss) := by
    have hi' : i < (HT.erL ks).length := by simpa [HT.er, T.kids] using hi
    simp [putPart, HT.er, T.kids, T.kind, T.n, T.name, T.r, T.sys, hi']
  rw [e]
  exact g3.less (by simp +contextual [HT.vr, HT.vk, HT.vs])
/-- The branches' row and one branch's kids' row are kept; all else becomes known. -/
theorem St.openBr (y : Tys) {hBp : Prop} (hB : hBp) {h : HT} {t : T} {s : Nat} {f : List Cl} {vf vk : SH} {ks2 : List HT} (ht : h.er = t) (hok : okT t) (hlt : s < h.sys.length) (he : h.sys.getD s hb0 = .mk f vf ks2 vk) (hs : St B Γ (bigR (treeR y h) :: Ms) w) :
    St B (CL f vf :: AP (ks2.map HT.tp) :: BPs ((h.sys.take s ++ h.sys.drop (s + 1)).map HB.bp) :: TL t.kids h.vk :: CL t.r h.vr :: Γ) (rowS 2 y.b h.vs t.sys.length (bpFlat (h.sys.map HB.bp)) :: rowS 6 y.t vk ks2.length (tpFlat (ks2.map HT.tp)) :: Ms) w := by
  obtain ⟨k, n, nm, r, v, ks, u, ss, x⟩ := h
  subst ht
  simp only [HT.er, okT] at hok
  obtain ⟨o1, o2, o3, o4, o5, o6, o7, o8⟩ := hok
  simp only [HT.sys] at hlt he ⊢
  have hs1 := hs.openHT
  have h1 := hs1.settleCL (l := r) hB rfl rfl o4.2 o4.1
  have h2 := ((h1.perm perm2).unpack).apNil
  have h3 := St.settleKs y hB ks [] (by rw [HT.erL_eq] at o7; exact o7) (by simpa using h2)
  have h4 := h3.settleTL (ps := ks.map HT.tp) (ts := ks.map HT.er) hB (by simp) rfl (by simp [HT.tp, Function.comp_def]) (by simp) (by rw [HT.erL_eq, List.length_map] at o5; exact o5)
  have h5 := (h4.perm perm1).takeB hlt he
  have hm : HB.mk f vf ks2 vk ∈ ss := by rw [← he]; exact getD_mem hlt
  rw [HT.erB_eq] at o8
  have hbk := okB_iff.1 o8
  have ob := hbk (HB.er (.mk f vf ks2 vk)) (List.mem_map.mpr ⟨_, hm, rfl⟩)
  simp only [HB.er, Br.face, Br.kids, HT.erL_eq, List.length_map] at ob
  have h6 := h5.settleCL (l := f) hB rfl rfl ob.1.2 ob.1.1
  have h7 := ((h6.perm perm1).unpack).apNil
  have h8 := St.settleKs y hB ks2 [] ob.2.2 (by simpa using h7)
  have h9 := (h8.perm perm1).unpack
  rw [← brsR_app] at h9
  have h10 := St.settleBs y hB (ss.take s ++ ss.drop (s + 1)) [] (okB_iff.2 fun b hb => hbk b (by
    obtain ⟨c, hc, e⟩ := List.mem_map.mp hb
    subst e
    rcases List.mem_append.mp hc with hc | hc
    · exact List.mem_map.mpr ⟨c, List.mem_of_mem_take hc, rfl⟩
    · exact List.mem_map.mpr ⟨c, List.mem_of_mem_drop hc, rfl⟩)) (h9.bpNil)
  have h11 := h10.perm perm1
  simp only [HT.er, HT.erL_eq, HT.erB_eq, T.kids, T.sys, T.r, HT.kids, HT.vk, HT.vs, HT.vr, List.length_map]
  exact h11.less (by simp +contextual)
theorem St.closeBr {e e2 : TypeId} {hBp : Prop} (hB : hBp) {h : HT} {t X : T} {s i : Nat} {xr xk xs vf vk : SH} {f : List Cl} {ks2 : List HT} (ht : h.er = t) (hok : okT t) (hlt : s < h.sys.length) (he : h.sys.getD s hb0 = .mk f vf ks2 vk) (hi : i < ks2.length)
    (hs : St B Γ (rowS 6 e vk ks2.length (tpFlat ((ks2.map HT.tp).set i (X, xr, xk, xs))) :: rowS 2 e2 h.vs t.sys.length (bpFlat (h.sys.map HB.bp)) :: Ms) w) (h1 : AP (ks2.map HT.tp) ∈ Γ) (h2 : BPs ((h.sys.take s ++ h.sys.drop (s + 1)).map HB.bp) ∈ Γ) (h3 : CL t.r h.vr ∈ Γ) (h4 : RT X xr xk xs ∈ Γ) (h5 : CL f vf ∈ Γ) (h6 : TL t.kids h.vk ∈ Γ) :
    St B (RT (putPart t (t.kids.length + sysBefore s t.sys + i) X) h.vr h.vk h.vs :: Γ) Ms w := by
  obtain ⟨k, n, nm, r, v, ks, u, ss, x⟩ := h
  subst ht
  simp only [HT.er, okT] at hok
  obtain ⟨o1, o2, o3, o4, o5, o6, o7, o8⟩ := hok
  simp only [HT.sys, HT.vs, HT.vr, HT.vk] at hlt he hs h2 h3 h6 ⊢
  have hm : HB.mk f vf ks2 vk ∈ ss := by rw [← he]; exact getD_mem hlt
  rw [HT.erB_eq] at o8
  have ob := okB_iff.1 o8 (HB.er (.mk f vf ks2 vk)) (List.mem_map.mpr ⟨_, hm, rfl⟩)
  simp only [HB.er, Br.face, Br.kids, HT.erL_eq, List.length_map] at ob
  have g1 := hs.apSet (i := i) h1 h4
  have g2 := g1.settleTL (ts := (ks2.map HT.er).set i X) hB List.mem_cons_self rfl (by rw [List.map_set, List.map_map]; rfl) (by simp) (by simpa using ob.2.1)
  -- the changed branch
  have hbr : brAt (okOf B _ w) (.mk f ((ks2.map HT.er).set i X)) vf vk w := brAt_mk (g2.facts (CL f vf) (by simp [h5])) (g2.facts (TL ((ks2.map HT.er).set i X) vk) List.mem_cons_self)
  have hall := g2.facts (BPs ((ss.take s ++ ss.drop (s + 1)).map HB.bp)) (List.mem_cons_of_mem _ (List.mem_cons_of_mem _ h2))
  have g3 := g2.add (F := BPs ((ss.map HB.bp).set s (.mk f ((ks2.map HT.er).set i X), vf, vk))) (by
    intro p hp
    rw [List.set_eq_take_append_cons_drop, if_pos (by simpa using hlt)] at hp
    rcases List.mem_append.mp hp with hp | hp
    · refine hall p ?_
      rw [List.map_append, List.map_take]
      exact List.mem_append_left _ hp
    · rcases List.mem_cons.mp hp with hp | hp
      · subst hp; exact hbr
      · refine hall p ?_
        rw [List.map_append, List.map_drop]
        exact List.mem_append_right _ hp)
  have hbp : (ss.map HB.bp).getD s bp0 = (Br.mk f (ks2.map HT.er), vf, vk) := by rw [getD_map (d := hb0) hlt, he]; simp [HB.bp, HB.er, HB.vf, HB.vk, HT.erL_eq]
  have g4 := g3.settleBL (ps := (ss.map HB.bp).set s (.mk f ((ks2.map HT.er).set i X), vf, vk)) (bs := (ss.map HB.er).set s (.mk f ((ks2.map HT.er).set i X))) hB List.mem_cons_self (by
      refine (flat_set_same (F := bpCells) bp0 _ s _ (by simpa using hlt) ?_).symm
      rw [hbp]
      simp [bpCells, bc, Br.face, Br.kids]) (by rw [List.map_set, List.map_map]; rfl) (by simp [HT.er, HT.erB_eq, T.sys]) (by simpa [HT.er, T.sys, HT.erB_eq] using o6)
  have g5 := g4.mkRT (k := k) (n := n) (nm := nm) (r := r) (vr := v) (ks := HT.erL ks) (vk := u) (ss := (ss.map HB.er).set s (.mk f ((ks2.map HT.er).set i X))) (vs := x) o1 o2 o3
    (by simp only [List.mem_cons]; exact .inr (.inr (.inr (.inr (by simpa [HT.er, T.r] using h3))))) (by simp only [List.mem_cons]; exact .inr (.inr (.inr (.inr (by simpa [HT.er, T.kids] using h6))))) List.mem_cons_self
  have hg : (ss.map HB.er).getD s br0 = .mk f (ks2.map HT.er) := by rw [getD_map (d := hb0) hlt, er_face he]
  have hq := setBr_at (ss.map HB.er) s i X (by simpa using hlt) (by rw [hg]; simpa [Br.kids] using hi)
  have e9 : putPart (HT.er (.mk k n nm r v ks u ss x)) ((HT.er (.mk k n nm r v ks u ss x)).kids.length + sysBefore s (HT.er (.mk k n nm r v ks u ss x)).sys + i) X = .mk k n nm r (HT.erL ks) ((ss.map HB.er).set s (.mk f ((ks2.map HT.er).set i X))) := by
    simp only [putPart, HT.er, T.kids, T.kind, T.n, T.name, T.r, T.sys, HT.erB_eq]
    rw [if_neg (by omega), show (HT.erL ks).length + sysBefore s (ss.map HB.er) + i - (HT.erL ks).length = sysBefore s (ss.map HB.er) + i by omega, hq, hg]
    rfl
  rw [e9]
  exact g5.less (by simp +contextual)
end
end Go.Hy
namespace Go.Hy
set_option linter.unusedVariables false
set_option linter.unusedSimpArgs false
set_option linter.unusedSectionVars false
theorem er_kids {h : HT} {t : T} (ht : h.er = t) : h.kids.length = t.kids.length := by obtain ⟨k, n, nm, r, v, ks, u, ss, x⟩ := h; subst ht; simp [HT.er, HT.kids, T.kids, HT.erL_eq]
theorem er_sys {h : HT} {t : T} (ht : h.er = t) : h.sys.length = t.sys.length := by obtain ⟨k, n, nm, r, v, ks, u, ss, x⟩ := h; subst ht; simp [HT.er, HT.sys, T.sys, HT.erB_eq]
theorem er_branch {h : HT} {t : T} {s : Nat} {f : List Cl} {vf vk : SH} {ks2 : List HT} (ht : h.er = t) (hs : s < h.sys.length) (he : h.sys.getD s hb0 = .mk f vf ks2 vk) : t.sys.getD s br0 = .mk f (ks2.map HT.er) := by
  obtain ⟨k, n, nm, r, v, ks, u, ss, x⟩ := h
  subst ht
  simp only [HT.sys] at hs he
  simp only [HT.er, T.sys, HT.erB_eq]
  rw [getD_map (d := hb0) hs, er_face he]
theorem putPart_kids {t x : T} {i : Nat} (h : i < t.kids.length) : putPart t i x = .mk t.kind t.n t.name t.r (t.kids.set i x) t.sys := by rw [putPart, if_pos h]
theorem putPart_sys {t x : T} {i : Nat} (h : ¬ i < t.kids.length) : putPart t i x = .mk t.kind t.n t.name t.r t.kids (setBr t.sys (i - t.kids.length) x) := by rw [putPart, if_neg h]
end Go.Hy
namespace Go.Hy
set_option linter.unusedVariables false
set_option linter.unusedSimpArgs false
set_option linter.unusedSectionVars false
theorem put_wrong {t u : T} {p : List Int} (h : (if formedP t = 0 then formedP u else formedP t) ≠ 0) : putRes t p u = ((if formedP t = 0 then formedP u else formedP t), t0) := by
  unfold putRes
  by_cases ht : formedP t = 0
  · rw [if_pos ht] at h ⊢
    rw [if_neg (by simp [ht]), if_pos h]
  · rw [if_neg ht, if_pos ht]
theorem put_fine {t u : T} (h : (if formedP t = 0 then formedP u else formedP t) = 0) : formedP t = 0 ∧ formedP u = 0 := by
  by_cases ht : formedP t = 0
  · rw [if_pos ht] at h; exact ⟨ht, h⟩
  · rw [if_neg ht] at h; exact absurd h ht
end Go.Hy
namespace Go.Hy
set_option linter.unusedVariables false
set_option linter.unusedSimpArgs false
set_option linter.unusedSectionVars false
set_option linter.unusedVariables false
set_option linter.unusedSectionVars false
/-! Wrappers: comparisons whose answer is known (printed by a program of this repository). -/
section
variable {tn : Bool} {P : Program} [Tab P] {f : FuncId} {R : Ending → World → Prop} {B : Base} {n : Nat} {K : List Item} {ops : Array Oper} {i : Nat} {l fin : List Nat} {σ : Nat → Value} {Γ : List Fact} {Ms Ms2 : List Res}
variable {dst : Option Tmp} {op : Op} {ty : TypeId} {pos : String} {after : Array Edge} {v : Value} {x y z : Operand}
theorem pe_neg {t : TypeId} {a : Int} (hx : ev σ x = .int .i64 a) (h : in64 (-a)) : PureE P σ (.unOp .neg t x) ty (.int .i64 (-a)) := fun w => by
  have e : IntKind.i64.wrap (0 - a) = -a := by rw [wrap64_in (by unfold in64 at *; omega)]; omega
  simp only [opr, execOp, hx, Op.unary, Op.intArith, e]
  rfl
theorem v_neg {t : TypeId} {a : Int} (k_ : NV tn P f R B n K ops fin l (putS σ dst (.int .i64 (-a))) Γ Ms) (hx : ev σ x = .int .i64 a := by first | ((conv => lhs; whnf); done) | rfl) (h : in64 (-a) := by first | omega | (unfold in64 at *; omega)) (hd : dstOk n dst = true := by rfl) : NvT tn P f R B n K ops fin i l dst (.unOp .neg t x) ty σ Γ Ms := nv_pure (pe_neg hx h) hd k_
theorem o_eqIY {t t' : TypeId} {k : IntKind} {a b : Int} (k_ : RgT P f R B n K ops l (putS σ dst (.bool true)) Γ Ms) (hx : ev σ x = .int k a := by first | ((conv => lhs; whnf); done) | rfl) (hy : ev σ y = .int k b := by first | ((conv => lhs; whnf); done) | rfl) (hp : a = b := by first | omega | (simp; done)) (hd : dstOk n dst = true := by rfl) : OpT P f R B n K ops l (opr dst (.binOp .eql t x y t') ty) σ Γ Ms := sq_pure (show PureE P σ (.binOp .eql t x y t') ty (.bool true) from (decide_eq_true hp : decide (a = b) = true) ▸ pe_eqI hx hy) hd k_
theorem v_st {t T' : TypeId} {b s bt : Nat} {zv : Value} {cs cs' : List Value} (k_ : NV tn P f R B n K ops fin l σ Γ (boxR b cs' T' :: Ms2)) (hx : ev σ x = .pointer (some ⟨b, 0, none⟩) := by first | ((conv => lhs; whnf); done) | rfl) (hm : Ms.Perm (boxR b cs T' :: Ms2) := by first | exact perm0 | exact perm1 | exact perm2 | exact perm3 | exact perm4 | exact perm5 | exact perm6 | exact perm7 | exact perm8) (hy : (ev σ y).cells = cs'.toArray := by rfl) (hi : Tab.inf P t = some (s, bt, zv) := by rfl) (hl : cs'.length = s := by rfl) (hl2 : cs.length = s := by rfl) (h1 : oneCells cs' = true := by rfl) : NvT tn P f R B n K ops fin i l none (.store t x y) ty σ Γ Ms := nv_store (r := [boxR b cs T']) (r' := [boxR b cs' T']) (fun M => se_box hx hy (List.Perm.refl _) hi hl hl2 h1) rfl hm k_
end
end Go.Hy
namespace Go.Hy
set_option linter.unusedVariables false
set_option linter.unusedSimpArgs false
set_option linter.unusedSectionVars false
open Go.Proofs
set_option linter.unusedVariables false
set_option linter.unusedSimpArgs false
set_option maxRecDepth 100000
def tys : Tys := ⟨89, 26, 71⟩
theorem cloneO (l : List Cl) (a_l : SH)  : Spec Tryz.prog 70 #[sl a_l (l.length)] [CL l a_l] [] (fun x : SH => sl x l.length) (fun x : SH => []) (fun x : SH => [rowS 2 tys.c x l.length (clFlat l)]) := by
  refine spec_go (args := [sl a_l (l.length)]) Tryz.func70 Tryz.ntmps70 rfl (by exact Nat.le_of_ble_eq_true rfl) fun B hB => ?_
  refine go_openCL (l := l) (a := a_l) (fun hl1 hA1 hU1 => ?_)
  refine go_seq ?_
  refine go_region ⟨_, Tryz.func70⟩ rfl ?_
  refine q0 rfl (o_assign ?_)
  refine rg_nil ?_
  refine go_seq ?_
  refine go_seq ?_
  refine go_region ⟨_, Tryz.func70⟩ rfl ?_
  refine q0 rfl (o_move ?_)
  refine q0 rfl (o_eqNil ?_)
  refine rg_nil ?_
  refine go_condI (fun h4 => ?_) (fun h4 => ?_)
  · refine go_seq ?_
    refine go_region ⟨_, Tryz.func70⟩ rfl ?_
    refine q0 rfl (o_assign ?_)
    refine rg_nil ?_
    have hl : l = [] := by (rcases Nat.eq_zero_or_pos l.length with h | h; exact List.eq_nil_of_length_eq_zero h; obtain ⟨bk, o, hav⟩ := hA1 h; rw [hav] at h4; cases h4)
    subst hl
    refine ret1 Tryz.func70 Tryz.results70 wn_ (none, 0) rfl (fun w hs => ((hs.less (by simp)).bare).rowS0 2 89)
  · refine go_skip ?_
    refine go_seq ?_
    refine go_region ⟨_, Tryz.func70⟩ rfl ?_
    refine q0 rfl (o_lit0 fun b5 => ?_)
    refine q0 rfl (o_move ?_)
    refine rg_state (fun w hs => hs.boxRow (sz := 2) (m := 0) rfl (by decide)) ?_
    refine q0 rfl (o_appCL (fun a7 => ?_) (by simp) (a := (some ⟨b5, 0, none⟩, 0)) (n' := 0) (b := a_l) (ls := l))
    refine rg_state (fun w hs => hs.appFlatC (l := []) (m := l)) ?_
    refine q0 rfl (o_assign ?_)
    refine rg_nil ?_
    refine ret1 Tryz.func70 Tryz.results70 wn_ a7 (by (conv => lhs; whnf); simp [sl]) (fun w hs => by have h := hs.less (Γ' := []) (by simp); simp only [Nat.zero_add, List.nil_append] at h; exact h)
abbrev CopyO (t : T) : Prop := ∀ vr vk vs, Spec Tryz.prog 36 #[.agg (tc t vr vk vs).toArray] [RT t vr vk vs] [] (fun x : {h : HT // h.er = t} => .agg (tc t x.1.vr x.1.vk x.1.vs).toArray) (fun _ => []) (fun x => [bigR (treeR tys x.1)])
theorem copiedO (ts : List T) (a_ts : SH) (ih : ∀ t, t ∈ ts → CopyO t) : Spec Tryz.prog 71 #[sl a_ts (ts.length)] [TL ts a_ts] [] (fun x : SH × {hs : List HT // hs.map HT.er = ts} => sl x.1 ts.length) (fun x : SH × {hs : List HT // hs.map HT.er = ts} => []) (fun x : SH × {hs : List HT // hs.map HT.er = ts} => [rowS 6 tys.t x.1 ts.length (tpFlat (x.2.1.map HT.tp)), bigR (kidsR tys x.2.1)]) := by
  refine spec_go (args := [sl a_ts (ts.length)]) Tryz.func71 Tryz.ntmps71 rfl (by exact Nat.le_of_ble_eq_true rfl) fun B hB => ?_
  refine go_openTL (ts := ts) (a := a_ts) (fun VR1 VK1 VS1 hl1 hA1 => ?_)
  refine go_seq ?_
  refine go_region ⟨_, Tryz.func71⟩ rfl ?_
  refine q0 rfl (o_assign ?_)
  refine rg_nil ?_
  refine go_seq ?_
  refine go_region ⟨_, Tryz.func71⟩ rfl ?_
  refine q0 rfl (o_assign ?_)
  refine rg_nil ?_
  refine go_seq ?_
  refine go_seq ?_
  refine go_region ⟨_, Tryz.func71⟩ rfl ?_
  refine q0 rfl (o_move ?_)
  refine q0 rfl (o_len ?_)
  refine q0 rfl (o_move ?_)
  refine rg_nil ?_
  refine go_block ?_
  refine go_loopE (X := Nat × SH × List HT) (fun s_ => s_.1 ≤ ts.length ∧ s_.2.2.map HT.er = ts.take s_.1) (fun s_ => [(3, sl s_.2.1 (s_.1)), (6, sl a_ts (ts.length)), (7, .int .i64 ((ts.length : Int))), (8, .int .i64 ((s_.1 : Int)))]) (fun s_ G_ => G_) (fun s_ => [bigR (kidsR tys s_.2.2), rowS 6 26 s_.2.1 (s_.1) (tpFlat (s_.2.2.map HT.tp))]) (fun s_ => ts.length - s_.1) (0, (none, 0), []) (⟨by omega, rfl⟩) (by exact ⟨rfl, rfl, rfl, rfl, trivial⟩) ?_ ?_
  · exact fun w hs => ((hs.rowS0 6 26).bigNil)
  · intro ⟨i, a, ks⟩ base0 ⟨hi, hks⟩ next0
    dsimp only at  hi  hks  next0 ⊢
    refine go_seq ?_
    refine go_region ⟨_, Tryz.func71⟩ rfl ?_
    refine q0 rfl (o_lss ?_)
    refine rg_nil ?_
    refine go_seq ?_
    refine go_condI (fun h9 => ?_) (fun h9 => ?_)
    · have c9 : (decide ((i : Int) < (ts.length : Int))) = true := h9
      try simp only [sC, bne_iff_ne, beq_iff_eq, ne_eq] at c9
      refine go_skip ?_
      refine go_seq ?_
      refine go_block ?_
      refine go_seq ?_
      refine go_kid (ts := ts) (a := a_ts) (VR := VR1) (VK := VK1) (VS := VS1) i (by omega) ?_
      refine go_region ⟨_, Tryz.func71⟩ rfl ?_
      obtain ⟨bk2, o2, hav2⟩ := hA1 (by omega)
      refine q0 rfl (o_ixN ?_ (j := i))
      refine q0 rfl (o_ldT ?_)
      refine q0 rfl (o_new fun b5 => ?_)
      refine q0 rfl (o_st ?_)
      refine rg_nil ?_
      refine go_region ⟨_, Tryz.func71⟩ rfl ?_
      refine q0 rfl (o_move ?_)
      refine q0 rfl (o_lds ?_)
      refine q0 rfl (o_call Tryz.call36 (ih _ (getD_mem (show i < ts.length by omega)) (VR1 i) (VK1 i) (VS1 i)) (fun x14 => ?_))
      refine q0 rfl (o_lit1 fun b15 => ?_)
      refine q0 rfl (o_appS (fun a16 => ?_) (a := a) (n' := i))
      refine rg_state (fun w hs => ((hs.perm perm1).drop).snocT) ?_
      refine q0 rfl (o_assign ?_)
      refine rg_nil ?_
      refine go_inBlock ?_
      refine go_region ⟨_, Tryz.func71⟩ rfl ?_
      refine q0 rfl (o_add ?_)
      refine q0 rfl (o_move ?_)
      refine rg_nil ?_
      refine go_state (fun w hs => ?_) (next0 (i + 1, a16, ks ++ [x14.1]) _ (⟨by omega, by rw [List.map_append, hks, take_succ_getD (d := t0) (by omega)]; simp [x14.2]⟩) (by (try simp only); omega) ⟨rfl, rfl, rfl, rfl, trivial⟩)
      have e1 : (ks ++ [x14.1]).map HT.tp = ks.map HT.tp ++ [(ts.getD i t0, x14.1.vr, x14.1.vk, x14.1.vs)] := by simp only [List.map_append, List.map_cons, List.map_nil, HT.tp, x14.2]
      rw [e1]; exact (((((((((hs.less (by simp +contextual)).perm perm2).perm perm1).perm perm3).perm perm3).joinK).perm perm1).perm perm1).dropR (A := [_, _]))
    · have c9 : (decide ((i : Int) < (ts.length : Int))) = false := h9
      try simp only [sC, bne_iff_ne, beq_iff_eq, ne_eq] at c9
      refine go_exit rfl ?_
      refine go_seq ?_
      refine go_region ⟨_, Tryz.func71⟩ rfl ?_
      refine q0 rfl (o_move ?_)
      refine q0 rfl (o_assign ?_)
      refine rg_nil ?_
      have he : i = ts.length := by omega
      have hks2 : ks.map HT.er = ts := by rw [hks, he, List.take_length]
      refine ret1 Tryz.func71 Tryz.results71 wn_ (a, ⟨ks, hks2⟩) (by rw [he]; rfl) (fun w hs => by rw [← he]; exact ((hs.perm perm1).less (by simp)))
theorem copyO_walk (t : T) (vr_t vk_t vs_t : SH) (ih : ∀ p, p ∈ parts t → CopyO p.1) : Spec Tryz.prog 36 #[.agg (tc t vr_t vk_t vs_t).toArray] [RT t vr_t vk_t vs_t] [] (fun x : {h : HT // h.er = t} => .agg (tc t x.1.vr x.1.vk x.1.vs).toArray) (fun x : {h : HT // h.er = t} => []) (fun x : {h : HT // h.er = t} => [bigR (treeR tys x.1)]) := by
  refine spec_go (args := [.agg (tc t vr_t vk_t vs_t).toArray]) Tryz.func36 Tryz.ntmps36 rfl (by exact Nat.le_of_ble_eq_true rfl) fun B hB => ?_
  refine go_open (t := t) (vr := vr_t) (vk := vk_t) (vs := vs_t) (fun hk1 hn1 hm1 => ?_)
  refine go_openCL (l := (t).r) (a := vr_t) (fun hl2 hA2 hU2 => ?_)
  refine go_openTL (ts := (t).kids) (a := vk_t) (fun VR3 VK3 VS3 hl3 hA3 => ?_)
  refine go_openBL (bs := (t).sys) (a := vs_t) (fun VF4 VK4 hl4 hA4 => ?_)
  refine go_seq ?_
  refine go_region ⟨_, Tryz.func36⟩ rfl ?_
  refine q0 rfl (o_box fun b1 => ?_)
  refine q0 rfl (o_new fun b2 => ?_)
  refine rg_nil ?_
  refine go_seq ?_
  refine go_draw (tn := false) (A := [0, 1, 0, 4, 0, 16, 0, 64, 192, 0, 512, 1984, 4095, 0, 16383]) (l := [0, 1, 2, 3, 4, 5, 6, 7, 9, 10, 8, 11, 12, 13]) (fin := [14]) Tab.mixed ⟨_, Tryz.func36⟩ (by rfl) ?_
  refine n0 rfl (v_fa ?_)
  refine n0 rfl (v_ld ?_)
  refine n0 rfl (v_fa ?_)
  refine n0 rfl (v_ld ?_)
  refine n0 rfl (v_fa ?_)
  refine n0 rfl (v_ld ?_)
  refine n0 rfl (v_fa ?_)
  refine n0 rfl (v_ld ?_)
  refine n0 rfl (v_fa ?_)
  refine n0 rfl (v_ld ?_)
  refine n0 rfl (v_call Tryz.call70 (cloneO ((t).r) vr_t ) (fun x14 => ?_))
  refine n0 rfl (v_call Tryz.call71 (copiedO ((t).kids) vk_t (fun k hk => (by obtain ⟨p, hp, e⟩ := kid_mem_parts hk; exact e ▸ ih p hp))) (fun x17 => ?_))
  refine n0 rfl (v_build (cs := [.int .i64 ((t).kind), .int .i64 ((t).n), .string ((t).name), sl x14 (((t).r).length), sl x17.1 (((t).kids).length), sl (none, 0) (0)]) ?_)
  refine n0 rfl (v_new fun b3 => ?_)
  refine NV.done ?_
  refine q0 rfl (o_st ?_)
  refine rg_nil ?_
  refine go_seq ?_
  refine go_seq ?_
  refine go_region ⟨_, Tryz.func36⟩ rfl ?_
  refine q0 rfl (o_fa ?_)
  refine q0 rfl (o_ld ?_)
  refine q0 rfl (o_len ?_)
  refine q0 rfl (o_move ?_)
  refine rg_nil ?_
  refine go_block ?_
  refine go_loopE (X := Nat × SH × List HB) (fun s_ => s_.1 ≤ t.sys.length ∧ s_.2.2.map HB.er = t.sys.take s_.1) (fun s_ => [(2, .pointer (some ⟨b2, 0, none⟩)), (3, .pointer (some ⟨b3, 0, none⟩)), (20, sl vs_t ((t).sys.length)), (21, .int .i64 (((t).sys.length : Int))), (22, .int .i64 ((s_.1 : Int)))]) (fun s_ G_ => G_) (fun s_ => [bigR (brsR tys s_.2.2), rowS 2 71 s_.2.1 (s_.1) (bpFlat (s_.2.2.map HB.bp)), boxR b3 [.int .i64 (t.kind), .int .i64 (t.n), .string (t.name), sl x14 (t.r.length), sl x17.1 (t.kids.length), sl s_.2.1 (s_.1)] 26, rowS 6 26 x17.1 (((t).kids).length) (tpFlat (x17.2.1.map HT.tp)), bigR (kidsR tys x17.2.1), rowS 2 89 x14 (((t).r).length) (clFlat ((t).r)), boxR b2 [.int .i64 (0), .int .i64 (0), .string ((ByteArray.mk #[])), sl (none, 0) (0), sl (none, 0) (0), sl (none, 0) (0)] 26, boxR b1 (tc t vr_t vk_t vs_t) 26]) (fun s_ => t.sys.length - s_.1) (0, (none, 0), []) (⟨by omega, rfl⟩) (by exact ⟨rfl, rfl, rfl, rfl, rfl, trivial⟩) ?_ ?_
  · exact fun w hs => ((hs.rowS0 2 71).bigNil)
  · intro ⟨i, a, bs⟩ base0 ⟨hi, hbs⟩ next0
    dsimp only at  hi  hbs  next0 ⊢
    refine go_seq ?_
    refine go_region ⟨_, Tryz.func36⟩ rfl ?_
    refine q0 rfl (o_lss ?_)
    refine rg_nil ?_
    refine go_seq ?_
    refine go_condI (fun h23 => ?_) (fun h23 => ?_)
    · have c23 : (decide ((i : Int) < ((t).sys.length : Int))) = true := h23
      try simp only [sC, bne_iff_ne, beq_iff_eq, ne_eq] at c23
      refine go_skip ?_
      refine go_seq ?_
      refine go_block ?_
      refine go_seq ?_
      refine go_branch (bs := (t).sys) (a := vs_t) (VF := VF4) (VK := VK4) i (by omega) ?_
      refine go_openCL (l := (((t).sys).getD i br0).face) (a := VF4 i) (fun hl5 hA5 hU5 => ?_)
      refine go_openTL (ts := (((t).sys).getD i br0).kids) (a := VK4 i) (fun VR6 VK6 VS6 hl6 hA6 => ?_)
      refine go_region ⟨_, Tryz.func36⟩ rfl ?_
      obtain ⟨bk7, o7, hav7⟩ := hA4 (by omega)
      refine q0 rfl (o_ixN ?_ (j := i))
      refine q0 rfl (o_ldB ?_)
      refine q0 rfl (o_new fun b5 => ?_)
      refine q0 rfl (o_st ?_)
      refine rg_nil ?_
      refine go_draw (tn := false) (A := [0, 1, 0, 4, 12, 0, 32, 124, 252, 508, 1023, 2047, 4095]) (l := [0, 1, 2, 3, 5, 6, 4, 7, 8, 9]) (fin := [10, 11, 12]) Tab.mixed ⟨_, Tryz.func36⟩ (by rfl) ?_
      refine n0 rfl (v_fa ?_)
      refine n0 rfl (v_ld ?_)
      refine n0 rfl (v_fa ?_)
      refine n0 rfl (v_ld ?_)
      refine n0 rfl (v_fa ?_)
      refine n0 rfl (v_ld ?_)
      refine n0 rfl (v_call Tryz.call70 (cloneO ((((t).sys).getD i br0).face) (VF4 i) ) (fun x30 => ?_))
      refine n0 rfl (v_call Tryz.call71 (copiedO ((((t).sys).getD i br0).kids) (VK4 i) (fun k hk => (by obtain ⟨p, hp, e⟩ := sys_mem_parts (getD_mem (show i < t.sys.length by omega)) hk; exact e ▸ ih p hp))) (fun x33 => ?_))
      refine n0 rfl (v_build (cs := bc (t.sys.getD i br0) x30 x33.1) ?_)
      refine n0 rfl (v_lit1 fun b35 => ?_)
      refine NV.done ?_
      refine q0 rfl (o_appS (fun a36 => ?_) (a := a) (n' := i))
      refine rg_state (fun w hs => ((hs.perm perm1).drop).snocB) ?_
      refine q0 rfl (o_fa ?_)
      refine q0 rfl (o_stc ?_)
      refine rg_nil ?_
      refine go_inBlock ?_
      refine go_region ⟨_, Tryz.func36⟩ rfl ?_
      refine q0 rfl (o_add ?_)
      refine q0 rfl (o_move ?_)
      refine rg_nil ?_
      refine go_state (fun w hs => ?_) (next0 (i + 1, a36, bs ++ [HB.mk (t.sys.getD i br0).face x30 x33.2.1 x33.1]) _ (⟨by omega, by rw [List.map_append, hbs, take_succ_getD (d := br0) (by omega)]; simp [HB.er, HT.erL_eq, x33.2.2, Br.eta]⟩) (by (try simp only); omega) ⟨rfl, rfl, rfl, rfl, rfl, trivial⟩)
      have e1 : (bs ++ [HB.mk (t.sys.getD i br0).face x30 x33.2.1 x33.1]).map HB.bp = bs.map HB.bp ++ [(t.sys.getD i br0, x30, x33.1)] := by simp only [List.map_append, List.map_cons, List.map_nil, HB.bp, HB.er, HB.vf, HB.vk, HT.erL_eq, x33.2.2, Br.eta]
      rw [e1]; exact (((((((((((((((((((((((hs.less (by simp +contextual)).perm perm11).perm perm11).perm perm11).perm perm11).perm perm11).perm perm10).perm perm7).perm perm7).perm perm11).perm perm10).perm perm10).perm perm11).joinB rfl (by simpa using (congrArg List.length x33.2.2).symm) rfl rfl).perm perm8).perm perm8).perm perm8).perm perm8).perm perm8).perm perm6).perm perm7).perm perm7).dropR (A := [_, _, _, _, _, _, _, _]))
    · have c23 : (decide ((i : Int) < ((t).sys.length : Int))) = false := h23
      try simp only [sC, bne_iff_ne, beq_iff_eq, ne_eq] at c23
      refine go_exit rfl ?_
      refine go_seq ?_
      refine go_region ⟨_, Tryz.func36⟩ rfl ?_
      refine q0 rfl (o_lds ?_)
      refine q0 rfl (o_st ?_)
      refine rg_nil ?_
      have he : i = t.sys.length := by omega
      have hb2 : bs.map HB.er = t.sys := by rw [hbs, he, List.take_length]
      have hbl : bs.length = t.sys.length := by rw [← hb2]; simp
      have hkl : x17.2.1.length = t.kids.length := by rw [← congrArg List.length x17.2.2]; simp
      have her : (HT.mk t.kind t.n t.name t.r x14 x17.2.1 x17.1 bs a).er = t := by simp only [HT.er, HT.erL_eq, HT.erB_eq]; rw [x17.2.2, hb2, T.eta]
      refine retC Tryz.func36 Tryz.results36 ⟨(HT.mk t.kind t.n t.name t.r x14 x17.2.1 x17.1 bs a), her⟩ rfl mm_ rfl rfl rfl (by simp only [tc, HT.vr, HT.vk, HT.vs, he]; rfl) (fun w hs => ?_)
      exact (((((((((((hs.less (by simp)).perm perm7).perm perm4).perm perm2).perm perm3).perm perm6).perm perm5).perm perm6).perm perm7).joinT (y := tys) (k := t.kind) (n := t.n) (nm := t.name) rfl hkl.symm (by omega) rfl rfl rfl).dropR (A := [_]))
theorem copyO : ∀ t : T, CopyO t := T.ind fun t ih vr vk vs => copyO_walk t vr vk vs ih
end Go.Hy
namespace Go.Hy
set_option linter.unusedVariables false
set_option linter.unusedSimpArgs false
set_option linter.unusedSectionVars false
open Go.Proofs
set_option linter.unusedVariables false
set_option linter.unusedSimpArgs false
set_option maxRecDepth 100000
theorem pmore (k : Int)  : Spec Tryz.prog 79 #[.int .i64 (k)] [] [] (fun _ : Unit => .int .i64 (more k)) (fun _ : Unit => []) (fun _ : Unit => []) := by
  refine spec_go (args := [.int .i64 (k)]) Tryz.func79 Tryz.ntmps79 rfl (by exact Nat.le_of_ble_eq_true rfl) fun B hB => ?_
  refine go_seq ?_
  refine go_region ⟨_, Tryz.func79⟩ rfl ?_
  refine q0 rfl (o_assign ?_)
  refine rg_nil ?_
  refine go_seq ?_
  refine go_seq ?_
  refine go_region ⟨_, Tryz.func79⟩ rfl ?_
  refine q0 rfl (o_move ?_)
  refine q0 rfl (o_eqI ?_)
  refine rg_nil ?_
  refine go_condI (fun h4 => ?_) (fun h4 => ?_)
  · have c4 : (decide (k = 15)) = true := h4
    try simp only [sC, bne_iff_ne, beq_iff_eq, ne_eq] at c4
    refine go_seq ?_
    refine go_region ⟨_, Tryz.func79⟩ rfl ?_
    refine q0 rfl (o_assign ?_)
    refine rg_nil ?_
    refine ret1 Tryz.func79 Tryz.results79 wn_ () (by first | rfl | (simp_all [more]; done) | (simp_all [more]; omega)) (fun w hs => hs.none)
  · have c4 : (decide (k = 15)) = false := h4
    try simp only [sC, bne_iff_ne, beq_iff_eq, ne_eq] at c4
    refine go_skip ?_
    refine go_seq ?_
    refine go_region ⟨_, Tryz.func79⟩ rfl ?_
    refine q0 rfl (o_assign ?_)
    refine rg_nil ?_
    refine ret1 Tryz.func79 Tryz.results79 wn_ () (by first | rfl | (simp_all [more]; done) | (simp_all [more]; omega)) (fun w hs => hs.none)
end Go.Hy
namespace Go.Hy
set_option linter.unusedVariables false
set_option linter.unusedSimpArgs false
set_option linter.unusedSectionVars false
open Go.Proofs
set_option linter.unusedVariables false
set_option linter.unusedSimpArgs false
set_option maxRecDepth 100000
theorem parts_walk (t : T) (vr_t vk_t vs_t : SH) (hz : size t ≤ 1000000000) : Spec Tryz.prog 50 #[.agg (tc t vr_t vk_t vs_t).toArray] [RT t vr_t vk_t vs_t] [] (fun x : {x : SH × List QP // x.2.map qer = parts t} => sl x.1.1 x.1.2.length) (fun x : {x : SH × List QP // x.2.map qer = parts t} => [AllF qE x.1.2]) (fun x : {x : SH × List QP // x.2.map qer = parts t} => [rowS 8 44 x.1.1 x.1.2.length (spFlat x.1.2)]) := by
  refine spec_go (args := [.agg (tc t vr_t vk_t vs_t).toArray]) Tryz.func50 Tryz.ntmps50 rfl (by exact Nat.le_of_ble_eq_true rfl) fun B hB => ?_
  refine go_open (t := t) (vr := vr_t) (vk := vk_t) (vs := vs_t) (fun hk1 hn1 hm1 => ?_)
  refine go_openCL (l := (t).r) (a := vr_t) (fun hl2 hA2 hU2 => ?_)
  refine go_openTL (ts := (t).kids) (a := vk_t) (fun VR3 VK3 VS3 hl3 hA3 => ?_)
  refine go_openBL (bs := (t).sys) (a := vs_t) (fun VF4 VK4 hl4 hA4 => ?_)
  have hpn := parts_len t
  have hp0 : t.kids.length ≤ (parts t).length := sys_le (t := t) (Nat.zero_le _)
  refine go_seq ?_
  refine go_region ⟨_, Tryz.func50⟩ rfl ?_
  refine q0 rfl (o_box fun b1 => ?_)
  refine q0 rfl (o_assign ?_)
  refine rg_nil ?_
  refine go_seq ?_
  refine go_region ⟨_, Tryz.func50⟩ rfl ?_
  refine q0 rfl (o_assign ?_)
  refine rg_nil ?_
  refine go_seq ?_
  refine go_seq ?_
  refine go_region ⟨_, Tryz.func50⟩ rfl ?_
  refine q0 rfl (o_fa ?_)
  refine q0 rfl (o_ld ?_)
  refine q0 rfl (o_len ?_)
  refine q0 rfl (o_move ?_)
  refine rg_nil ?_
  refine go_block ?_
  refine go_loopE (X := Nat × SH × List QP) (fun s_ => s_.1 ≤ t.kids.length ∧ s_.2.2.map qer = (parts t).take s_.1) (fun s_ => [(1, .pointer (some ⟨b1, 0, none⟩)), (3, sl s_.2.1 (s_.1)), (13, sl vk_t ((t).kids.length)), (14, .int .i64 (((t).kids.length : Int))), (15, .int .i64 ((s_.1 : Int)))]) (fun s_ G_ => AllF qE s_.2.2 :: G_) (fun s_ => [rowS 8 44 s_.2.1 (s_.1) (spFlat s_.2.2), boxR b1 (tc t vr_t vk_t vs_t) 26]) (fun s_ => t.kids.length - s_.1) (0, (none, 0), []) (⟨by omega, rfl⟩) (by exact ⟨rfl, rfl, rfl, rfl, rfl, trivial⟩) ?_ ?_
  · exact fun w hs => ((hs.rowS0 8 44).allNil qE)
  · intro ⟨i, a, qs⟩ base0 ⟨hi, hqs⟩ next0
    dsimp only at  hi  hqs  next0 ⊢
    refine go_seq ?_
    refine go_region ⟨_, Tryz.func50⟩ rfl ?_
    refine q0 rfl (o_lss ?_)
    refine rg_nil ?_
    refine go_seq ?_
    refine go_condI (fun h16 => ?_) (fun h16 => ?_)
    · have c16 : (decide ((i : Int) < ((t).kids.length : Int))) = true := h16
      try simp only [sC, bne_iff_ne, beq_iff_eq, ne_eq] at c16
      refine go_skip ?_
      refine go_seq ?_
      refine go_block ?_
      refine go_seq ?_
      refine go_kid (ts := (t).kids) (a := vk_t) (VR := VR3) (VK := VK3) (VS := VS3) i (by omega) ?_
      refine go_region ⟨_, Tryz.func50⟩ rfl ?_
      refine q0 rfl (o_move ?_)
      obtain ⟨bk5, o5, hav5⟩ := hA3 (by omega)
      refine q0 rfl (o_ixN ?_ (j := i))
      refine q0 rfl (o_ldT ?_)
      refine q0 rfl (o_new fun b5 => ?_)
      refine q0 rfl (o_assign ?_)
      refine q0 rfl (o_st ?_)
      refine rg_nil ?_
      refine go_seq ?_
      refine go_region ⟨_, Tryz.func50⟩ rfl ?_
      refine q0 rfl (o_fa ?_)
      refine q0 rfl (o_ld ?_)
      refine q0 rfl (o_move ?_)
      refine q0 rfl (o_call Tryz.call72 (binds_spec ((t).kind) (i : Int) ) (fun x24 => ?_))
      refine q0 rfl (o_move ?_)
      refine q0 rfl (o_extract ?_)
      refine q0 rfl (o_extract ?_)
      refine q0 rfl (o_assign ?_)
      refine q0 rfl (o_assign ?_)
      refine rg_nil ?_
      refine go_region ⟨_, Tryz.func50⟩ rfl ?_
      refine q0 rfl (o_move ?_)
      refine q0 rfl (o_lds ?_)
      refine q0 rfl (o_move ?_)
      refine q0 rfl (o_move ?_)
      refine q0 rfl (o_build (cs := [.int .i64 ((((t).kids).getD i t0).kind), .int .i64 ((((t).kids).getD i t0).n), .string ((((t).kids).getD i t0).name), sl (VR3 i) ((((t).kids).getD i t0).r.length), sl (VK3 i) ((((t).kids).getD i t0).kids.length), sl (VS3 i) ((((t).kids).getD i t0).sys.length), .int .i64 ((binds ((t).kind) (i : Int)).1), .int .i64 ((binds ((t).kind) (i : Int)).2)]) ?_ (hb := fill_spot012 (by rfl) (by rfl)))
      refine q0 rfl (o_lit1 fun b32 => ?_)
      refine q0 rfl (o_appS (fun a33 => ?_) (a := a) (n' := i))
      refine rg_state (fun w hs => ((hs.perm perm1).drop).snocQ (q := ((((t).kids).getD i t0, VR3 i, VK3 i, VS3 i), (binds ((t).kind) (i : Int)).1, (binds ((t).kind) (i : Int)).2)) rfl) ?_
      refine q0 rfl (o_assign ?_)
      refine rg_nil ?_
      refine go_inBlock ?_
      refine go_region ⟨_, Tryz.func50⟩ rfl ?_
      refine q0 rfl (o_add ?_)
      refine q0 rfl (o_move ?_)
      refine rg_nil ?_
      refine go_state (fun w hs => ?_) (next0 (i + 1, a33, (qs ++ [((((t).kids).getD i t0, VR3 i, VK3 i, VS3 i), (binds ((t).kind) (i : Int)).1, (binds ((t).kind) (i : Int)).2)])) _ (⟨by omega, by rw [List.map_append, hqs, take_snoc (parts_kid t i (by omega))]; rfl⟩) (by (try simp only); omega) ⟨rfl, rfl, rfl, rfl, rfl, trivial⟩)
      exact (((((hs.allAdd (E := qE) (l := qs) (x := ((((t).kids).getD i t0, VR3 i, VK3 i, VS3 i), (binds ((t).kind) (i : Int)).1, (binds ((t).kind) (i : Int)).2)) mf_ mf_).less (by simp +contextual)).perm perm2).perm perm1).dropR (A := [_, _]))
    · have c16 : (decide ((i : Int) < ((t).kids.length : Int))) = false := h16
      try simp only [sC, bne_iff_ne, beq_iff_eq, ne_eq] at c16
      have hei : i = t.kids.length := by omega
      refine go_ms (Ms' := [rowS 8 44 a (t.kids.length) (spFlat qs), boxR b1 (tc t vr_t vk_t vs_t) 26]) (by rw [hei]) ?_
      refine go_exit rfl ?_
      refine go_seq ?_
      refine go_seq ?_
      refine go_region ⟨_, Tryz.func50⟩ rfl ?_
      refine q0 rfl (o_fa ?_)
      refine q0 rfl (o_ld ?_)
      refine q0 rfl (o_len ?_)
      refine q0 rfl (o_move ?_)
      refine rg_nil ?_
      refine go_block ?_
      refine go_loopE (X := Nat × SH × List QP) (fun s_ => s_.1 ≤ t.sys.length ∧ s_.2.2.map qer = (parts t).take (t.kids.length + sysBefore s_.1 t.sys)) (fun s_ => [(1, .pointer (some ⟨b1, 0, none⟩)), (3, sl s_.2.1 ((t.kids.length + sysBefore s_.1 t.sys))), (36, sl vs_t ((t).sys.length)), (37, .int .i64 (((t).sys.length : Int))), (38, .int .i64 ((s_.1 : Int)))]) (fun s_ G_ => AllF qE s_.2.2 :: G_) (fun s_ => [rowS 8 44 s_.2.1 ((t.kids.length + sysBefore s_.1 t.sys)) (spFlat s_.2.2), boxR b1 (tc t vr_t vk_t vs_t) 26]) (fun s_ => t.sys.length - s_.1) (0, a, qs) (⟨by omega, by rw [hqs, hei]; rfl⟩) (by exact ⟨rfl, (by (conv => lhs; whnf); rw [hei]; rfl), rfl, rfl, rfl, trivial⟩) ?_ ?_
      · exact fun w hs => (hs.less (by simp +contextual))
      · intro ⟨s, a2, qs2⟩ base1 ⟨hs1, hq2⟩ next1
        dsimp only at  hs1  hq2  next1 ⊢
        refine go_seq ?_
        refine go_region ⟨_, Tryz.func50⟩ rfl ?_
        refine q0 rfl (o_lss ?_)
        refine rg_nil ?_
        refine go_seq ?_
        refine go_condI (fun h39 => ?_) (fun h39 => ?_)
        · have c39 : (decide ((s : Int) < ((t).sys.length : Int))) = true := h39
          try simp only [sC, bne_iff_ne, beq_iff_eq, ne_eq] at c39
          have hp1 := sys_le (t := t) (s := s + 1) (by omega)
          rw [sysBefore_succ s t.sys (by omega)] at hp1
          refine go_skip ?_
          refine go_seq ?_
          refine go_block ?_
          refine go_seq ?_
          refine go_branch (bs := (t).sys) (a := vs_t) (VF := VF4) (VK := VK4) s (by omega) ?_
          refine go_openCL (l := (((t).sys).getD s br0).face) (a := VF4 s) (fun hl6 hA6 hU6 => ?_)
          refine go_openTL (ts := (((t).sys).getD s br0).kids) (a := VK4 s) (fun VR7 VK7 VS7 hl7 hA7 => ?_)
          refine go_region ⟨_, Tryz.func50⟩ rfl ?_
          obtain ⟨bk8, o8, hav8⟩ := hA4 (by omega)
          refine q0 rfl (o_ixN ?_ (j := s))
          refine q0 rfl (o_ldB ?_)
          refine q0 rfl (o_new fun b9 => ?_)
          refine q0 rfl (o_st ?_)
          refine rg_nil ?_
          refine go_seq ?_
          refine go_region ⟨_, Tryz.func50⟩ rfl ?_
          refine q0 rfl (o_fa ?_)
          refine q0 rfl (o_ld ?_)
          refine q0 rfl (o_len ?_)
          refine q0 rfl (o_move ?_)
          refine rg_nil ?_
          refine go_block ?_
          refine go_loopE (X := Nat × SH × List QP) (fun s_ => s_.1 ≤ (t.sys.getD s br0).kids.length ∧ s_.2.2.map qer = (parts t).take (t.kids.length + sysBefore s t.sys + s_.1)) (fun s_ => [(1, .pointer (some ⟨b1, 0, none⟩)), (3, sl s_.2.1 ((t.kids.length + sysBefore s t.sys + s_.1))), (36, sl vs_t ((t).sys.length)), (37, .int .i64 (((t).sys.length : Int))), (38, .int .i64 ((s : Int))), (43, sl (VK4 s) ((((t).sys).getD s br0).kids.length)), (44, .int .i64 (((((t).sys).getD s br0).kids.length : Int))), (45, .int .i64 ((s_.1 : Int)))]) (fun s_ G_ => AllF qE s_.2.2 :: G_) (fun s_ => [boxR b9 (bc (((t).sys).getD s br0) (VF4 s) (VK4 s)) 71, rowS 8 44 s_.2.1 ((t.kids.length + sysBefore s t.sys + s_.1)) (spFlat s_.2.2), boxR b1 (tc t vr_t vk_t vs_t) 26]) (fun s_ => (t.sys.getD s br0).kids.length - s_.1) (0, a2, qs2) (⟨by omega, hq2⟩) (by exact ⟨rfl, rfl, rfl, rfl, rfl, rfl, rfl, rfl, trivial⟩) ?_ ?_
          · exact fun w hs => (hs.less (by simp +contextual))
          · intro ⟨k, a3, qs3⟩ base2 ⟨hk1, hq3⟩ next2
            dsimp only at  hk1  hq3  next2 ⊢
            refine go_seq ?_
            refine go_region ⟨_, Tryz.func50⟩ rfl ?_
            refine q0 rfl (o_lss ?_)
            refine rg_nil ?_
            refine go_seq ?_
            refine go_condI (fun h46 => ?_) (fun h46 => ?_)
            · have c46 : (decide ((k : Int) < ((((t).sys).getD s br0).kids.length : Int))) = true := h46
              try simp only [sC, bne_iff_ne, beq_iff_eq, ne_eq] at c46
              refine go_skip ?_
              refine go_seq ?_
              refine go_block ?_
              refine go_seq ?_
              refine go_kid (ts := (((t).sys).getD s br0).kids) (a := VK4 s) (VR := VR7) (VK := VK7) (VS := VS7) k (by omega) ?_
              refine go_region ⟨_, Tryz.func50⟩ rfl ?_
              obtain ⟨bk9, o9, hav9⟩ := hA7 (by omega)
              refine q0 rfl (o_ixN ?_ (j := k))
              refine q0 rfl (o_ldT ?_)
              refine q0 rfl (o_new fun b11 => ?_)
              refine q0 rfl (o_st ?_)
              refine rg_nil ?_
              refine go_draw (tn := false) (A := [0, 0, 0, 4, 12, 30, 62, 127, 255]) (l := [0, 1, 2, 3, 4, 5, 6]) (fin := [7, 8]) Tab.mixed ⟨_, Tryz.func50⟩ (by rfl) ?_
              refine n0 rfl (v_move ?_)
              refine n0 rfl (v_lds ?_)
              refine n0 rfl (v_fa ?_)
              refine n0 rfl (v_ld ?_)
              refine n0 rfl (v_call Tryz.call79 (pmore ((t).kind) ) (fun x53 => ?_))
              refine n0 rfl (v_build (cs := [.int .i64 ((((((t).sys).getD s br0).kids).getD k t0).kind), .int .i64 ((((((t).sys).getD s br0).kids).getD k t0).n), .string ((((((t).sys).getD s br0).kids).getD k t0).name), sl (VR7 k) ((((((t).sys).getD s br0).kids).getD k t0).r.length), sl (VK7 k) ((((((t).sys).getD s br0).kids).getD k t0).kids.length), sl (VS7 k) ((((((t).sys).getD s br0).kids).getD k t0).sys.length), .int .i64 (0), .int .i64 (more ((t).kind))]) ?_ (hb := fill_spot012 (by rfl) (by rfl)))
              refine n0 rfl (v_lit1 fun b55 => ?_)
              refine NV.done ?_
              refine q0 rfl (o_appS (fun a56 => ?_) (a := a3) (n' := (t.kids.length + sysBefore s t.sys + k)))
              refine rg_state (fun w hs => ((hs.perm perm1).drop).snocQ (q := ((((((t).sys).getD s br0).kids).getD k t0, VR7 k, VK7 k, VS7 k), 0, more ((t).kind))) rfl) ?_
              refine q0 rfl (o_assign ?_)
              refine rg_nil ?_
              refine go_inBlock ?_
              refine go_region ⟨_, Tryz.func50⟩ rfl ?_
              refine q0 rfl (o_add ?_)
              refine q0 rfl (o_move ?_)
              refine rg_nil ?_
              refine go_state (fun w hs => ?_) (next2 (k + 1, a56, (qs3 ++ [((((((t).sys).getD s br0).kids).getD k t0, VR7 k, VK7 k, VS7 k), 0, more ((t).kind))])) _ (⟨by omega, by rw [List.map_append, hq3, ← Nat.add_assoc, take_snoc (parts_sys t s k (by omega) (by omega))]; rfl⟩) (by (try simp only); omega) ⟨rfl, rfl, rfl, rfl, rfl, rfl, rfl, rfl, trivial⟩)
              exact ((((((hs.allAdd (E := qE) (l := qs3) (x := ((((((t).sys).getD s br0).kids).getD k t0, VR7 k, VK7 k, VS7 k), 0, more ((t).kind))) mf_ mf_).less (by simp +contextual)).perm perm3).perm perm1).perm perm3).dropR (A := [_, _, _]))
            · have c46 : (decide ((k : Int) < ((((t).sys).getD s br0).kids.length : Int))) = false := h46
              try simp only [sC, bne_iff_ne, beq_iff_eq, ne_eq] at c46
              have hek : k = (t.sys.getD s br0).kids.length := by omega
              refine go_ms (Ms' := [boxR b9 (bc (((t).sys).getD s br0) (VF4 s) (VK4 s)) 71, rowS 8 44 a3 ((t.kids.length + sysBefore s t.sys + (t.sys.getD s br0).kids.length)) (spFlat qs3), boxR b1 (tc t vr_t vk_t vs_t) 26]) (by rw [hek]) ?_
              refine go_exit rfl ?_
              refine go_inBlock ?_
              refine go_region ⟨_, Tryz.func50⟩ rfl ?_
              refine q0 rfl (o_add ?_)
              refine q0 rfl (o_move ?_)
              refine rg_nil ?_
              refine go_state (fun w hs => ?_) (next1 (s + 1, a3, qs3) _ (⟨by omega, by rw [hq3, hek, sysBefore_succ s t.sys (by omega), Nat.add_assoc]⟩) (by (try simp only); omega) ⟨rfl, (by (conv => lhs; whnf); rw [hek, Nat.add_assoc, ← sysBefore_succ s t.sys (by omega)]; rfl), rfl, rfl, rfl, trivial⟩)
              have e9 : t.kids.length + sysBefore s t.sys + (t.sys.getD s br0).kids.length = t.kids.length + sysBefore (s + 1) t.sys := by rw [Nat.add_assoc, ← sysBefore_succ s t.sys (by omega)]
              rw [← e9]; exact ((((hs.less (by simp +contextual)).perm perm2).perm perm2).dropR (A := [_, _]))
        · have c39 : (decide ((s : Int) < ((t).sys.length : Int))) = false := h39
          try simp only [sC, bne_iff_ne, beq_iff_eq, ne_eq] at c39
          refine go_exit rfl ?_
          refine go_seq ?_
          refine go_region ⟨_, Tryz.func50⟩ rfl ?_
          refine q0 rfl (o_move ?_)
          refine q0 rfl (o_assign ?_)
          refine rg_nil ?_
          have hes : s = t.sys.length := by omega
          have hnn : t.kids.length + sysBefore s t.sys = (parts t).length := by rw [parts_length, hes]
          have hfull : qs2.map qer = parts t := by rw [hq2, hnn, List.take_length]
          have hln : t.kids.length + sysBefore s t.sys = qs2.length := by rw [hnn, ← hfull, List.length_map]
          refine ret1 Tryz.func50 Tryz.results50 wn_ ⟨(a2, qs2), hfull⟩ (by (conv => lhs; whnf); rw [hln]; rfl) (fun w hs => by have h := ((hs.less (Γ' := [AllF qE qs2]) (by simp)).dropR (A := [_])); rw [hln] at h; exact h)
end Go.Hy
namespace Go.Hy
set_option linter.unusedVariables false
set_option linter.unusedSimpArgs false
set_option linter.unusedSectionVars false
set_option linter.unusedVariables false
theorem and24_lt (s : Nat) : s &&& 16777215 < 16777216 := by rw [and24]; exact Nat.mod_lt _ (by decide)
theorem fDims_lt (l : List Cl) : fDims l < 16777216 := by rw [fDims_eq]; exact and24_lt _
end Go.Hy
namespace Go.Hy
set_option linter.unusedVariables false
set_option linter.unusedSimpArgs false
set_option linter.unusedSectionVars false
set_option linter.unusedVariables false
/-! ### More variables, more dimensions; what a term has that may be -/
theorem all_iff {t : T} {v d : Int} {b : Bool} : allP t v d b = true ↔ (¬ (b = true ∧ 24 < d)) ∧ ownP t v d = true ∧ ∀ p, p ∈ parts t → allP p.1 (IntKind.i64.wrap (v + if v < 0 then 0 else p.2.1)) (d + p.2.2) b = true := by
  rw [allP_eq, Bool.and_eq_true, List.all_eq_true]
  simp only [Bool.not_eq_true', Bool.or_eq_false_iff, Bool.and_eq_false_iff, decide_eq_false_iff_not, Bool.not_eq_false']
  constructor
  · rintro ⟨⟨h1, h2⟩, h3⟩
    refine ⟨?_, h2, h3⟩
    rintro ⟨h4, h5⟩
    rcases h1 with h1 | h1
    · rw [h1] at h4; cases h4
    · exact h1 h5
  · rintro ⟨h1, h2, h3⟩
    refine ⟨⟨?_, h2⟩, h3⟩
    cases b
    · exact .inl rfl
    · exact .inr (fun h => h1 ⟨rfl, h⟩)
/-- What a node of itself must be, row by row. -/
theorem own_iff {t : T} {v d : Int} : ownP t v d = true ↔ own1 t = false ∧
    (if t.kind = 1 then t.r.length = 0 ∧ 0 ≤ t.n ∧ (v < 0 ∨ t.n < v)
     else if t.kind = 2 then t.r.length = 0 ∧ nameOK t.name = true
     else if t.kind = 13 ∨ t.kind = 21 ∨ t.kind = 26 then fRight t.r = true ∧ within t.r d = true
     else if t.kind = 14 then faceRight t.r = true ∧ within t.r d = true
     else (∀ x, x ∈ t.sys → ownB t d x = true) ∧ t.r.length = 0) := by
  unfold ownP
  rw [Bool.and_eq_true, Bool.not_eq_true']
  apply and_congr Iff.rfl
  split
  · simp only [Bool.and_eq_true, decide_eq_true_eq, Bool.or_eq_true, and_assoc]; constructor <;> (rintro ⟨h1, h2⟩; exact ⟨by omega, h2⟩)
  · split
    · simp only [Bool.and_eq_true, decide_eq_true_eq]; constructor <;> (rintro ⟨h1, h2⟩; exact ⟨by omega, h2⟩)
    · split
      · simp only [Bool.and_eq_true]
      · split
        · simp only [Bool.and_eq_true]
        · simp only [Bool.and_eq_true, decide_eq_true_eq, List.all_eq_true]; constructor <;> (rintro ⟨h1, h2⟩; exact ⟨h1, by omega⟩)
theorem within_iff {l : List Cl} {d : Int} (h0 : 0 ≤ d) : within l d = true ↔ ∀ i : Nat, d ≤ (i : Int) → (fDims l).testBit i = false := by
  have hlt := fDims_lt l
  unfold within
  rw [Bool.or_eq_true, decide_eq_true_eq, decide_eq_true_eq]
  by_cases h24 : 24 ≤ d
  · constructor
    · intro _ i hi
      exact Nat.testBit_lt_two_pow (Nat.lt_of_lt_of_le hlt (Nat.pow_le_pow_right (n := 2) (by omega) (show 24 ≤ i by omega)))
    · intro _; exact .inl h24
  · have hm : min d.toNat 32 = d.toNat := by omega
    rw [hm]
    constructor
    · rintro (h | h) i hi
      · exact absurd h h24
      · have h1 : fDims l / 2 ^ d.toNat = 0 := by omega
        have h2 : fDims l < 2 ^ d.toNat := by
          have := Nat.div_eq_zero_iff.mp h1
          have hp : 0 < 2 ^ d.toNat := Nat.pow_pos (by omega)
          omega
        exact Nat.testBit_lt_two_pow (Nat.lt_of_lt_of_le h2 (Nat.pow_le_pow_right (n := 2) (by omega) (by omega)))
    · intro h
      right
      have h2 : fDims l < 2 ^ d.toNat := Nat.lt_pow_two_of_testBit _ (fun i hi => h i (by omega))
      rw [Nat.div_eq_of_lt h2]; rfl
theorem sys_nil {t : T} (h : own1 t = false) (hp : partsN t.kind = 0) : t.sys = [] := by
  unfold own1 at h
  simp only [Bool.or_eq_false_iff, Bool.and_eq_false_iff, decide_eq_false_iff_not] at h
  rcases h.2 with h2 | h2
  · exact absurd hp h2
  · exact List.eq_nil_of_length_eq_zero (by omega)
end Go.Hy
namespace Go.Hy
set_option linter.unusedVariables false
set_option linter.unusedSimpArgs false
set_option linter.unusedSectionVars false
set_option linter.unusedVariables false
/-! ### The document's check of all nodes -/
theorem listTo_sorted (s n : Nat) : (listTo s n).Pairwise fun a b => a < b := by
  unfold listTo
  rw [List.pairwise_map]
  refine (List.Pairwise.filter _ List.pairwise_lt_range).imp (fun h => by omega)
theorem last_max {l : List Int} (hs : l.Pairwise fun a b => a < b) {x : Int} (hx : x ∈ l) : x ≤ l.getD (l.length - 1) 0 := by
  obtain ⟨j, hj, e⟩ := List.mem_iff_getElem.mp hx
  have hs := List.pairwise_iff_getElem.mp hs
  have hl : l.length - 1 < l.length := by omega
  rw [getD_get (d := (0 : Int)) hl]
  rcases Nat.lt_or_ge j (l.length - 1) with h2 | h2
  · have := hs j (l.length - 1) hj hl h2
    rw [e] at this
    exact Int.le_of_lt this
  · have hje : j = l.length - 1 := by omega
    subst hje
    exact Int.le_of_eq e.symm
/-- Has a formula dimensions below so many alone, by its last one? -/
def lowP (l : List Cl) (d : Int) : Bool := decide (((listM (fDims l)).length : Int) = 0) || decide ((listM (fDims l)).getD ((listM (fDims l)).length - 1) 0 < d)
theorem low_within {l : List Cl} {d : Int} (h0 : 0 ≤ d) : lowP l d = within l d := by
  rw [Bool.eq_iff_iff, within_iff h0]
  unfold lowP
  rw [Bool.or_eq_true, decide_eq_true_eq, decide_eq_true_eq]
  have hlt := fDims_lt l
  constructor
  · intro h i hi
    apply Bool.eq_false_iff.mpr
    intro hb
    have hi24 : i < 24 := by
      apply Classical.byContradiction
      intro hc
      have := Nat.testBit_lt_two_pow (Nat.lt_of_lt_of_le hlt (Nat.pow_le_pow_right (n := 2) (by omega) (show 24 ≤ i by omega)))
      rw [this] at hb; cases hb
    have hm : ((i : Nat) : Int) ∈ listM (fDims l) := listTo_mem.mpr ⟨by omega, by omega, by simpa using hb⟩
    rcases h with h | h
    · have : listM (fDims l) = [] := List.eq_nil_of_length_eq_zero (by omega)
      rw [this] at hm; cases hm
    · have := last_max (l := listM (fDims l)) (listTo_sorted (fDims l) 24) hm
      omega
  · intro h
    by_cases hn : (listM (fDims l)).length = 0
    · exact .inl (by omega)
    · right
      have hmem : (listM (fDims l)).getD ((listM (fDims l)).length - 1) 0 ∈ listM (fDims l) := getD_mem (by omega)
      have hx := listTo_mem.mp hmem
      apply Classical.byContradiction
      intro hc
      have := h ((listM (fDims l)).getD ((listM (fDims l)).length - 1) 0).toNat (by omega)
      rw [this] at hx; cases hx.2.2
/-- The checks ahead of a node's parts. -/
structure Ahead (t : T) (v d : Int) (b : Bool) : Prop where
  bound : ¬ (b = true ∧ 24 < d)
  kids : kidsN t.kind = (t.kids.length : Int)
  sys : partsN t.kind = 0 → t.sys.length = 0
  n1 : if t.kind = 1 then 0 ≤ t.n ∧ (v < 0 ∨ t.n < v) else t.n = 0
  nm : if t.kind = 2 then nameOK t.name = true else (t.name.toList == (ByteArray.mk #[]).toList) = true
  r : if t.kind = 13 ∨ t.kind = 21 ∨ t.kind = 26 then fRight t.r = true else if t.kind = 14 then faceRight t.r = true else t.r.length = 0
  low : within t.r d = true
theorem ahead_own {t : T} {v d : Int} {b : Bool} (h : Ahead t v d b) (hs : ∀ x, x ∈ t.sys → ownB t d x = true) : ownP t v d = true := by
  rw [own_iff]
  have h1 := h.n1; have h2 := h.nm; have h3 := h.r
  refine ⟨?_, ?_⟩
  · simp only [own1, Bool.or_eq_false_iff, Bool.and_eq_false_iff, decide_eq_false_iff_not, Bool.not_eq_false']
    refine ⟨⟨⟨fun hc => hc h.kids, ?_⟩, ?_⟩, ?_⟩
    · by_cases hk : t.kind = 1
      · exact .inl (fun hc => hc hk)
      · rw [if_neg hk] at h1; exact .inr (fun hc => hc h1)
    · by_cases hk : t.kind = 2
      · exact .inl (fun hc => hc hk)
      · rw [if_neg hk] at h2; exact .inr h2
    · by_cases hk : partsN t.kind = 0
      · have := h.sys hk; exact .inr (by omega)
      · exact .inl hk
  · by_cases k1 : t.kind = 1
    · rw [if_pos k1] at h1 ⊢
      rw [if_neg (by omega), if_neg (by omega)] at h3
      exact ⟨h3, h1⟩
    · rw [if_neg k1]
      by_cases k2 : t.kind = 2
      · rw [if_pos k2] at h2 ⊢
        rw [if_neg (by omega), if_neg (by omega)] at h3
        exact ⟨h3, h2⟩
      · rw [if_neg k2]
        by_cases k3 : t.kind = 13 ∨ t.kind = 21 ∨ t.kind = 26
        · rw [if_pos k3] at h3 ⊢; exact ⟨h3, h.low⟩
        · rw [if_neg k3] at h3 ⊢
          by_cases k4 : t.kind = 14
          · rw [if_pos k4] at h3 ⊢; exact ⟨h3, h.low⟩
          · rw [if_neg k4] at h3 ⊢; exact ⟨hs, h3⟩
theorem own_ahead {t : T} {v d : Int} {b : Bool} (h0 : ¬ (b = true ∧ 24 < d)) (hd : 0 ≤ d) (h : ownP t v d = true) : Ahead t v d b := by
  rw [own_iff] at h
  obtain ⟨h1, h2⟩ := h
  have hsys := fun hp => sys_nil h1 hp
  simp only [own1, Bool.or_eq_false_iff, Bool.and_eq_false_iff, decide_eq_false_iff_not, Bool.not_eq_false', ne_eq, Decidable.not_not] at h1
  obtain ⟨⟨⟨a1, a2⟩, a3⟩, a4⟩ := h1
  have hwn : t.r.length = 0 → within t.r d = true := fun hr => by
    rw [List.eq_nil_of_length_eq_zero hr, within_iff hd]; intro i _; simp [fDims]
  refine ⟨h0, a1, fun hp => by rw [hsys hp]; rfl, ?_, ?_, ?_, ?_⟩
  · by_cases k1 : t.kind = 1
    · rw [if_pos k1] at h2 ⊢; exact h2.2
    · rw [if_neg k1]; exact a2.resolve_left k1
  · by_cases k2 : t.kind = 2
    · rw [if_neg (by omega), if_pos k2] at h2
      rw [if_pos k2]; exact h2.2
    · rw [if_neg k2]; exact a3.resolve_left k2
  · split at h2
    · rw [if_neg (by omega), if_neg (by omega)]; exact h2.1
    · split at h2
      · rw [if_neg (by omega), if_neg (by omega)]; exact h2.1
      · split at h2
        · rename_i k; rw [if_pos k]; exact h2.1
        · rename_i k; rw [if_neg k]
          split at h2
          · rename_i k; rw [if_pos k]; exact h2.1
          · rename_i k; rw [if_neg k]; exact h2.2
  · split at h2
    · exact hwn h2.1
    · split at h2
      · exact hwn h2.1
      · split at h2
        · exact h2.2
        · split at h2
          · exact h2.2
          · exact hwn h2.2
def kidOK (t : T) (v d : Int) (b : Bool) (i : Nat) : Bool := allP (t.kids.getD i t0) (IntKind.i64.wrap (v + if v < 0 then 0 else (binds t.kind i).1)) (d + (binds t.kind i).2) b
def brOK (t : T) (v d : Int) (b : Bool) (x : Br) : Bool := ownB t d x && x.kids.all fun k => allP k v (d + more t.kind) b
theorem ownB_sys {t : T} {v d : Int} (h : ownP t v d = true) : ∀ x, x ∈ t.sys → ownB t d x = true := by
  rw [own_iff] at h
  have h2 := h.2
  have hs := fun hp => sys_nil h.1 hp
  split at h2
  · rename_i k; rw [hs (by rw [k]; decide)]; intro x hx; cases hx
  · split at h2
    · rename_i k; rw [hs (by rw [k]; decide)]; intro x hx; cases hx
    · split at h2
      · rename_i k; rw [hs (by rcases k with k | k | k <;> rw [k] <;> decide)]; intro x hx; cases hx
      · split at h2
        · rename_i k; rw [hs (by rw [k]; decide)]; intro x hx; cases hx
        · exact h2.1
/-- All nodes: the checks ahead, the kids, the branches. -/
theorem all_steps {t : T} {v d : Int} {b : Bool} (hv : in64 v) (hd : 0 ≤ d) : allP t v d b = true ↔ Ahead t v d b ∧ (∀ i, i < t.kids.length → kidOK t v d b i = true) ∧ ∀ i, i < t.sys.length → brOK t v d b (t.sys.getD i br0) = true := by
  rw [all_iff]
  constructor
  · rintro ⟨h1, h2, h3⟩
    refine ⟨own_ahead h1 hd h2, fun i hi => ?_, fun i hi => ?_⟩
    · exact h3 _ (parts_mem (parts_kid t i hi))
    · unfold brOK
      rw [Bool.and_eq_true, List.all_eq_true]
      refine ⟨ownB_sys h2 _ (getD_mem hi), fun k hk => ?_⟩
      obtain ⟨j, hj, e⟩ := List.mem_iff_getElem.mp hk
      have := h3 _ (parts_mem (parts_sys t i j hi hj))
      simp only at this
      rw [show (if v < 0 then (0 : Int) else 0) = 0 by split <;> rfl, Int.add_zero, wrap_id hv] at this
      rwa [getD_get (d := t0) hj, e] at this
  · rintro ⟨h1, h2, h3⟩
    have hb : ∀ x, x ∈ t.sys → brOK t v d b x = true := fun x hx => by
      obtain ⟨i, hi, e⟩ := List.mem_iff_getElem.mp hx
      have := h3 i hi
      rwa [getD_get (d := br0) hi, e] at this
    refine ⟨h1.bound, ahead_own h1 (fun x hx => by have := hb x hx; unfold brOK at this; rw [Bool.and_eq_true] at this; exact this.1), fun p hp => ?_⟩
    obtain ⟨m, hm⟩ := List.mem_iff_getElem?.mp hp
    have hlt : m < (parts t).length := (List.getElem?_eq_some_iff.mp hm).1
    rcases Nat.lt_or_ge m t.kids.length with hmk | hmk
    · rw [parts_kid t m hmk] at hm
      injection hm with hm
      subst hm
      exact h2 m hmk
    · unfold parts at hp hm
      rw [List.getElem?_append_right (by rw [kidParts_length]; exact hmk)] at hm
      have hp2 : p ∈ sysParts t.kind t.sys := List.mem_iff_getElem?.mpr ⟨_, hm⟩
      have key : ∀ (bs : List Br), (∀ x, x ∈ bs → x ∈ t.sys) → p ∈ sysParts t.kind bs → allP p.1 (IntKind.i64.wrap (v + if v < 0 then 0 else p.2.1)) (d + p.2.2) b = true := by
        intro bs
        induction bs with
        | nil => intro _ h; simp [sysParts] at h
        | cons x bs ih =>
          intro hx h
          simp only [sysParts, List.mem_append, List.mem_map] at h
          rcases h with ⟨k, hk, e⟩ | h
          · subst e
            simp only
            rw [show (if v < 0 then (0 : Int) else 0) = 0 by split <;> rfl, Int.add_zero, wrap_id hv]
            have := hb x (hx x List.mem_cons_self)
            unfold brOK at this
            rw [Bool.and_eq_true, List.all_eq_true] at this
            exact this.2 k hk
          · exact ih (fun y hy => hx y (List.mem_cons_of_mem _ hy)) h
      exact key t.sys (fun _ h => h) hp2
theorem all_no1 {t : T} {v d : Int} {b : Bool} (hv : in64 v) (hd : 0 ≤ d) (hn : ¬ Ahead t v d b) : allP t v d b = false := Bool.eq_false_iff.mpr fun h => hn ((all_steps hv hd).mp h).1
theorem all_no2 {t : T} {v d : Int} {b : Bool} (hv : in64 v) (hd : 0 ≤ d) {i : Nat} (hi : i < t.kids.length) (hn : kidOK t v d b i = false) : allP t v d b = false := Bool.eq_false_iff.mpr fun h => by
  have h9 := ((all_steps hv hd).mp h).2.1 i hi
  rw [hn] at h9; cases h9
theorem all_no3 {t : T} {v d : Int} {b : Bool} (hv : in64 v) (hd : 0 ≤ d) {i : Nat} (hi : i < t.sys.length) (hn : brOK t v d b (t.sys.getD i br0) = false) : allP t v d b = false := Bool.eq_false_iff.mpr fun h => by
  have h9 := ((all_steps hv hd).mp h).2.2 i hi
  rw [hn] at h9; cases h9
end Go.Hy
