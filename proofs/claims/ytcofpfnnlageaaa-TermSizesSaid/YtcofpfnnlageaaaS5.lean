/- Contracts of functions of this program, one theorem each (printed by a program of this repository). -/
import Derived.Test.YtcofpfnnlageaaaHyAuto
import Derived.Test.YtcofpfnnlageaaaHyTab
import Derived.Test.YtcofpfnnlageaaaHyTerm
import Derived.Test.YtcofpfnnlageaaaS5F
namespace Go.Hy
set_option linter.unusedVariables false
set_option linter.unusedSimpArgs false
set_option linter.unusedSectionVars false
open Go.Proofs
set_option linter.unusedVariables false
set_option linter.unusedSimpArgs false
set_option maxRecDepth 100000
theorem small_spec (t : T) (vr vk vs : SH) (most : Int) (h0 : 0 ≤ most) (hl : in64 most) : Spec Try.prog 68 #[.agg (tc t vr vk vs).toArray, .int .i64 most] [RT t vr vk vs] [] (fun _ : Unit => .bool (decide ((size t : Int) ≤ most))) (fun _ => []) (fun _ => []) := by
  refine spec_go (args := [.agg (tc t vr vk vs).toArray, .int .i64 most]) Try.func68 Try.ntmps68 rfl (by exact Nat.le_of_ble_eq_true rfl) fun B hB => ?_
  refine go_seq ?_
  refine go_region ⟨_, Try.func68⟩ rfl ?_
  refine q0 rfl (o_box fun b2 => ?_)
  refine q0 rfl (o_box fun b3 => ?_)
  refine q0 rfl (o_assign ?_)
  refine rg_nil ?_
  refine go_seq ?_
  refine go_region ⟨_, Try.func68⟩ rfl ?_
  refine q0 rfl (o_new fun b5 => ?_)
  refine rg_nil ?_
  refine go_seq ?_
  refine go_region ⟨_, Try.func68⟩ rfl ?_
  refine q0 rfl (o_func ?_)
  refine q0 rfl (o_st ?_)
  refine rg_nil ?_
  refine go_seq ?_
  refine go_region ⟨_, Try.func68⟩ rfl ?_
  refine q0 rfl (o_ld ?_)
  refine q0 rfl (o_lds ?_)
  refine q0 rfl (o_callC Try.call83 (count_spec t most b3 b5 vr vk vs h0 hl) (cap := CountCap b3 b5) (fun x9 => ?_))
  refine q0 rfl (o_assign ?_)
  refine rg_nil ?_
  refine ret1 Try.func68 Try.results68 (by first | ((conv => lhs; whnf); done) | rfl) () rfl (fun w hs => hs.none)

theorem sized_spec (t : T) (vr vk vs : SH) : Spec Try.prog 54 #[.agg (tc t vr vk vs).toArray] [RT t vr vk vs] [] (fun _ : Unit => .int .i64 (sized t)) (fun _ => []) (fun _ => []) := by
  refine spec_go (args := [.agg (tc t vr vk vs).toArray]) Try.func54 Try.ntmps54 rfl (by exact Nat.le_of_ble_eq_true rfl) fun B hB => ?_
  refine go_seq ?_
  refine go_region ⟨_, Try.func54⟩ rfl ?_
  refine q0 rfl (o_box fun b1 => ?_)
  refine q0 rfl (o_assign ?_)
  refine rg_nil ?_
  refine go_seq ?_
  refine go_block ?_
  refine go_seq ?_
  refine go_region ⟨_, Try.func54⟩ rfl ?_
  refine q0 rfl (o_lds ?_)
  refine q0 rfl (o_call Try.call67 (shallow_spec t 200 vr vk vs (by unfold in64; omega)) (fun x5 => ?_))
  refine q0 rfl (o_not ?_)
  refine q0 rfl (o_assign ?_)
  refine rg_nil ?_
  refine go_condI (fun h3 => ?_) (fun h3 => ?_)
  · refine go_seq ?_
    refine go_region ⟨_, Try.func54⟩ rfl ?_
    refine q0 rfl (o_assign ?_)
    refine rg_nil ?_
    have h : 200 < depth t := by simp at h3; omega
    refine ret1 Try.func54 Try.results54 (by first | ((conv => lhs; whnf); done) | rfl) () (by rw [sized, if_pos h]) (fun w hs => hs.none)
  · refine go_seq ?_
    refine go_region ⟨_, Try.func54⟩ rfl ?_
    refine q0 rfl (o_lds ?_)
    refine q0 rfl (o_call Try.call68 (small_spec t vr vk vs 20000 (by omega) (by unfold in64; omega)) (fun x9 => ?_))
    refine q0 rfl (o_not ?_)
    refine q0 rfl (o_assign ?_)
    refine rg_nil ?_
    refine go_condI (fun h7 => ?_) (fun h7 => ?_)
    · refine go_seq ?_
      refine go_region ⟨_, Try.func54⟩ rfl ?_
      refine q0 rfl (o_assign ?_)
      refine rg_nil ?_
      have h : ¬ 200 < depth t := by simp at h3; omega
      have h2 : 20000 < size t := by simp at h7; omega
      refine ret1 Try.func54 Try.results54 (by first | ((conv => lhs; whnf); done) | rfl) () (by rw [sized, if_neg h, if_pos h2]) (fun w hs => hs.none)
    · refine go_skip ?_
      refine go_inBlock ?_
      refine go_seq ?_
      refine go_region ⟨_, Try.func54⟩ rfl ?_
      refine q0 rfl (o_assign ?_)
      refine rg_nil ?_
      have h : ¬ 200 < depth t := by simp at h3; omega
      have h2 : ¬ 20000 < size t := by simp at h7; omega
      refine ret1 Try.func54 Try.results54 (by first | ((conv => lhs; whnf); done) | rfl) () (by rw [sized, if_neg h, if_neg h2]) (fun w hs => hs.none)

theorem name_spec (s : ByteArray) (hs : s.size ≤ cap47) : Spec Try.prog 85 #[.string s] [] [] (fun _ : Unit => .bool (nameOK s)) (fun _ => []) (fun _ => []) := by
  refine spec_go (args := [.string s]) Try.func85 Try.ntmps85 rfl (by exact Nat.le_of_ble_eq_true rfl) fun B hB => ?_
  refine go_seq ?_
  refine go_region ⟨_, Try.func85⟩ rfl ?_
  refine q0 rfl (o_assign ?_)
  refine rg_nil ?_
  refine go_seq ?_
  refine go_seq ?_
  refine go_region ⟨_, Try.func85⟩ rfl ?_
  refine q0 rfl (o_move ?_)
  refine q0 rfl (o_lenStr ?_)
  refine q0 rfl (o_move ?_)
  refine rg_nil ?_
  refine go_block ?_
  refine go_loopI (X := Nat) (fun i => i ≤ s.size ∧ ∀ j, j < i → okAt s j = true) (fun i => [(0, .string s), (7, .int .i64 (s.size : Int)), (8, .int .i64 (i : Int))]) (fun i => []) (fun i => []) (fun i => s.size - i) (0) (⟨Nat.zero_le _, fun j hj => by omega⟩) (by exact ⟨rfl, rfl, rfl, trivial⟩) ?_ ?_
  · exact fun w hs => hs.none
  · intro i base0 ⟨hi, hok⟩ next0
    refine go_seq ?_
    refine go_region ⟨_, Try.func85⟩ rfl ?_
    refine q0 rfl (o_lss ?_)
    refine rg_nil ?_
    refine go_seq ?_
    refine go_condI (fun h9 => ?_) (fun h9 => ?_)
    · have hlt : i < s.size := by have := of_decide_eq_true h9; omega
      obtain ⟨c, hc, hca⟩ := byte_at hlt
      refine go_skip ?_
      refine go_seq ?_
      refine go_block ?_
      refine go_seq ?_
      refine go_region ⟨_, Try.func85⟩ rfl ?_
      refine q0 rfl (o_move ?_)
      refine q0 rfl (o_assign ?_)
      refine rg_nil ?_
      refine go_seq ?_
      refine go_region ⟨_, Try.func85⟩ rfl ?_
      refine q0 rfl (o_move ?_)
      refine q0 rfl (o_move ?_)
      refine q0 rfl (o_ixStr ?_)
      refine q0 rfl (o_assign ?_)
      refine rg_nil ?_
      refine go_seq ?_
      refine go_cutS ([(0, .string s), (3, .int .i64 (i : Int)), (4, .int .u8 c.toNat), (5, .bool (letter c.toNat)), (7, .int .i64 (s.size : Int)), (8, .int .i64 (i : Int))]) (fun hK => ?_) (fun base => ?_)
      · refine go_region ⟨_, Try.func85⟩ rfl ?_
        refine q0 rfl (o_move ?_)
        refine q0 rfl (o_geq ?_)
        refine q0 rfl (o_move ?_)
        refine qI rfl rfl rfl (by conv => lhs; whnf) (fun hg16 => o_move ?_) (fun hg16 => ?_)
        · refine qT rfl rfl rfl (o_leq ?_)
          refine q0 rfl (o_pickT ?_)
          refine q0 rfl (o_move ?_)
          refine qI rfl rfl rfl (by conv => lhs; whnf) (fun hg20 => o_move ?_) (fun hg20 => ?_)
          · refine qT rfl rfl rfl (o_geq ?_)
            refine qT rfl rfl rfl (o_move ?_)
            refine qI rfl rfl rfl (by conv => lhs; whnf) (fun hg23 => o_move ?_) (fun hg23 => ?_)
            · refine qT rfl rfl rfl (o_leq ?_)
              refine qT rfl rfl rfl (o_pickT ?_)
              refine q0 rfl (o_pickF ?_)
              refine q0 rfl (o_move ?_)
              refine qI rfl rfl rfl (by conv => lhs; whnf) (fun hg28 => o_move ?_) (fun hg28 => ?_)
              · refine qT rfl rfl rfl (o_eqI ?_)
                refine q0 rfl (o_pickF ?_)
                refine q0 rfl (o_assign ?_)
                refine rg_nil ?_
                exact hK _ ⟨rfl, rfl, rfl, (by (conv => lhs; whnf); first | (simp_all [letter]; done) | (simp_all [letter]; omega)), rfl, rfl, trivial⟩
              · refine qF rfl rfl rfl ?_
                refine q0 rfl (o_pickT ?_)
                refine q0 rfl (o_assign ?_)
                refine rg_nil ?_
                exact hK _ ⟨rfl, rfl, rfl, (by (conv => lhs; whnf); first | (simp_all [letter]; done) | (simp_all [letter]; omega)), rfl, rfl, trivial⟩
            · refine qF rfl rfl rfl ?_
              refine qT rfl rfl rfl (o_pickF ?_)
              refine q0 rfl (o_pickF ?_)
              refine q0 rfl (o_move ?_)
              refine qT rfl rfl rfl (o_move ?_)
              refine qT rfl rfl rfl (o_eqI ?_)
              refine q0 rfl (o_pickF ?_)
              refine q0 rfl (o_assign ?_)
              refine rg_nil ?_
              exact hK _ ⟨rfl, rfl, rfl, (by (conv => lhs; whnf); first | (simp_all [letter]; done) | (simp_all [letter]; omega)), rfl, rfl, trivial⟩
          · refine qF rfl rfl rfl ?_
            refine qF rfl rfl rfl ?_
            refine qU rfl rfl rfl ?_
            refine qU rfl rfl rfl ?_
            refine qF rfl rfl rfl ?_
            refine q0 rfl (o_pickT ?_)
            refine q0 rfl (o_move ?_)
            refine qF rfl rfl rfl ?_
            refine qF rfl rfl rfl ?_
            refine q0 rfl (o_pickT ?_)
            refine q0 rfl (o_assign ?_)
            refine rg_nil ?_
            exact hK _ ⟨rfl, rfl, rfl, (by (conv => lhs; whnf); first | (simp_all [letter]; done) | (simp_all [letter]; omega)), rfl, rfl, trivial⟩
        · refine qF rfl rfl rfl ?_
          refine q0 rfl (o_pickF ?_)
          refine q0 rfl (o_move ?_)
          refine qT rfl rfl rfl (o_move ?_)
          refine qT rfl rfl rfl (o_geq ?_)
          refine qT rfl rfl rfl (o_move ?_)
          refine qI rfl rfl rfl (by conv => lhs; whnf) (fun hg23 => o_move ?_) (fun hg23 => ?_)
          · refine qT rfl rfl rfl (o_leq ?_)
            refine qT rfl rfl rfl (o_pickT ?_)
            refine q0 rfl (o_pickF ?_)
            refine q0 rfl (o_move ?_)
            refine qI rfl rfl rfl (by conv => lhs; whnf) (fun hg28 => o_move ?_) (fun hg28 => ?_)
            · refine qT rfl rfl rfl (o_eqI ?_)
              refine q0 rfl (o_pickF ?_)
              refine q0 rfl (o_assign ?_)
              refine rg_nil ?_
              exact hK _ ⟨rfl, rfl, rfl, (by (conv => lhs; whnf); first | (simp_all [letter]; done) | (simp_all [letter]; omega)), rfl, rfl, trivial⟩
            · refine qF rfl rfl rfl ?_
              refine q0 rfl (o_pickT ?_)
              refine q0 rfl (o_assign ?_)
              refine rg_nil ?_
              exact hK _ ⟨rfl, rfl, rfl, (by (conv => lhs; whnf); first | (simp_all [letter]; done) | (simp_all [letter]; omega)), rfl, rfl, trivial⟩
          · refine qF rfl rfl rfl ?_
            refine qT rfl rfl rfl (o_pickF ?_)
            refine q0 rfl (o_pickF ?_)
            refine q0 rfl (o_move ?_)
            refine qT rfl rfl rfl (o_move ?_)
            refine qT rfl rfl rfl (o_eqI ?_)
            refine q0 rfl (o_pickF ?_)
            refine q0 rfl (o_assign ?_)
            refine rg_nil ?_
            exact hK _ ⟨rfl, rfl, rfl, (by (conv => lhs; whnf); first | (simp_all [letter]; done) | (simp_all [letter]; omega)), rfl, rfl, trivial⟩
      · refine go_seq ?_
        refine go_cutS ([(0, .string s), (7, .int .i64 (s.size : Int)), (8, .int .i64 (i : Int)), (45, .bool (!(okAt s i)))]) (fun hK => ?_) (fun base => ?_)
        · refine go_region ⟨_, Try.func85⟩ rfl ?_
          refine q0 rfl (o_move ?_)
          refine q0 rfl (o_not ?_)
          refine q0 rfl (o_move ?_)
          refine qI rfl rfl rfl (by conv => lhs; whnf) (fun hg34 => o_move ?_) (fun hg34 => ?_)
          · refine qT rfl rfl rfl (o_eqI ?_)
            refine qT rfl rfl rfl (o_move ?_)
            refine qI rfl rfl rfl (by conv => lhs; whnf) (fun hg37 => o_move ?_) (fun hg37 => ?_)
            · refine qT rfl rfl rfl (o_lss ?_)
              refine qT rfl rfl rfl (o_pickF ?_)
              refine qT rfl rfl rfl (o_move ?_)
              refine qI rfl rfl rfl (by conv => lhs; whnf) (fun hg41 => o_move ?_) (fun hg41 => ?_)
              · refine qT rfl rfl rfl (o_gtr ?_)
                refine qT rfl rfl rfl (o_pickF ?_)
                refine q0 rfl (o_pickT ?_)
                refine rg_nil ?_
                exact hK _ ⟨rfl, rfl, rfl, (by (conv => lhs; whnf); rw [hca]; first | (simp_all [digit]; done) | (simp_all [digit]; omega) | (simp_all [digit]; rw [← decide_not]; congr 1; apply propext; omega)), trivial⟩
              · refine qF rfl rfl rfl ?_
                refine qT rfl rfl rfl (o_pickT ?_)
                refine q0 rfl (o_pickT ?_)
                refine rg_nil ?_
                exact hK _ ⟨rfl, rfl, rfl, (by (conv => lhs; whnf); rw [hca]; first | (simp_all [digit]; done) | (simp_all [digit]; omega) | (simp_all [digit]; rw [← decide_not]; congr 1; apply propext; omega)), trivial⟩
            · refine qF rfl rfl rfl ?_
              refine qT rfl rfl rfl (o_pickT ?_)
              refine qT rfl rfl rfl (o_move ?_)
              refine qF rfl rfl rfl ?_
              refine qF rfl rfl rfl ?_
              refine qT rfl rfl rfl (o_pickT ?_)
              refine q0 rfl (o_pickT ?_)
              refine rg_nil ?_
              exact hK _ ⟨rfl, rfl, rfl, (by (conv => lhs; whnf); rw [hca]; first | (simp_all [digit]; done) | (simp_all [digit]; omega) | (simp_all [digit]; rw [← decide_not]; congr 1; apply propext; omega)), trivial⟩
          · refine qF rfl rfl rfl ?_
            refine qF rfl rfl rfl ?_
            refine qU rfl rfl rfl ?_
            refine qU rfl rfl rfl ?_
            refine qF rfl rfl rfl ?_
            refine qF rfl rfl rfl ?_
            refine qU rfl rfl rfl ?_
            refine qU rfl rfl rfl ?_
            refine qF rfl rfl rfl ?_
            refine q0 rfl (o_pickF ?_)
            refine rg_nil ?_
            exact hK _ ⟨rfl, rfl, rfl, (by (conv => lhs; whnf); rw [hca]; first | (simp_all [digit]; done) | (simp_all [digit]; omega) | (simp_all [digit]; rw [← decide_not]; congr 1; apply propext; omega)), trivial⟩
        · refine go_condI (fun h45 => ?_) (fun h45 => ?_)
          · refine go_seq ?_
            refine go_region ⟨_, Try.func85⟩ rfl ?_
            refine q0 rfl (o_assign ?_)
            refine rg_nil ?_
            refine ret1 Try.func85 Try.results85 (by first | ((conv => lhs; whnf); done) | rfl) () (by rw [nameOK_not hlt (by simpa using h45)]) (fun w hs => hs.none)
          · refine go_skip ?_
            refine go_inBlock ?_
            refine go_region ⟨_, Try.func85⟩ rfl ?_
            refine q0 rfl (o_add ?_)
            refine q0 rfl (o_move ?_)
            refine rg_nil ?_
            have hb : okAt s i = true := by simpa using h45
            refine go_state (fun w hs => hs) (next0 (i + 1) _ ⟨hlt, fun j hj => (by rcases Nat.lt_succ_iff_lt_or_eq.mp hj with h | h; exact hok j h; subst h; exact hb)⟩ (by omega) ⟨rfl, rfl, rfl, trivial⟩)
    · have hge : i = s.size := by have := of_decide_eq_false h9; omega
      refine go_exit rfl ?_
      refine go_seq ?_
      refine go_region ⟨_, Try.func85⟩ rfl ?_
      refine q0 rfl (o_move ?_)
      refine q0 rfl (o_neS ?_)
      refine q0 rfl (o_assign ?_)
      refine rg_nil ?_
      refine ret1 Try.func85 Try.results85 (by first | ((conv => lhs; whnf); done) | rfl) () (by rw [nameOK_all (by rw [← hge]; exact hok), empty_eq]; rfl) (fun w hs => hs.none)

theorem within_spec (hF : FDims) (l : List Cl) (a : SH) (dims : Int) (h0 : 0 ≤ dims) (hl : in64 dims) : Spec Try.prog 87 #[sl a l.length, .int .i64 dims] [CL l a] [] (fun _ : Unit => .bool (within l dims)) (fun _ => []) (fun _ => []) := by
  refine spec_go (args := [sl a l.length, .int .i64 dims]) Try.func87 Try.ntmps87 rfl (by exact Nat.le_of_ble_eq_true rfl) fun B hB => ?_
  refine go_seq ?_
  refine go_region ⟨_, Try.func87⟩ rfl ?_
  refine q0 rfl (o_assign ?_)
  refine rg_nil ?_
  refine go_seq ?_
  refine go_region ⟨_, Try.func87⟩ rfl ?_
  refine q0 rfl (o_move ?_)
  refine q0 rfl (o_geq ?_)
  refine q0 rfl (o_move ?_)
  refine qI rfl rfl rfl (by conv => lhs; whnf) (fun hg7 => o_move ?_) (fun hg7 => ?_)
  · refine qT rfl rfl rfl (o_call Try.call59 (hF l a) (fun x9 => ?_))
    refine qT rfl rfl rfl (o_move ?_)
    refine qT rfl rfl rfl (o_conv ?_)
    refine qT rfl rfl rfl (o_shrU32 ?_ (m := dims.toNat) (hy := congrArg (Value.int .u64) (toNat_u64 h0 hl)))
    refine qT rfl rfl rfl (o_eqI ?_)
    refine q0 rfl (o_pickF ?_)
    refine q0 rfl (o_assign ?_)
    refine rg_nil ?_
    refine ret1 Try.func87 Try.results87 (by first | ((conv => lhs; whnf); done) | rfl) () (by first | (simp_all [within]; done) | (simp_all [within]; intros; omega)) (fun w hs => hs.none)
  · refine qF rfl rfl rfl ?_
    refine qF rfl rfl rfl ?_
    refine qF rfl rfl rfl ?_
    refine qF rfl rfl rfl ?_
    refine qF rfl rfl rfl ?_
    refine q0 rfl (o_pickT ?_)
    refine q0 rfl (o_assign ?_)
    refine rg_nil ?_
    refine ret1 Try.func87 Try.results87 (by first | ((conv => lhs; whnf); done) | rfl) () (by first | (simp_all [within]; done) | (simp_all [within]; intros; omega)) (fun w hs => hs.none)

end Go.Hy
