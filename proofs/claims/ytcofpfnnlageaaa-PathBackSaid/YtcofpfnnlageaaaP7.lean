/- Contracts of this program's functions and the laws that they need: a separation logic over the machine's rules, one theorem each (partly printed by a program of this repository). -/
import Derived.Test.YtcofpfnnlageaaaP3
import Derived.Test.YtcofpfnnlageaaaP4
import Derived.Test.YtcofpfnnlageaaaP5
import Derived.Test.YtcofpfnnlageaaaP6
namespace Go.Hy
set_option linter.unusedVariables false
set_option linter.unusedSimpArgs false
set_option linter.unusedSectionVars false
open Go.Proofs
set_option linter.unusedVariables false
set_option linter.unusedSimpArgs false
set_option maxRecDepth 100000
abbrev BulkAt (t : T) : Prop := ∀ (most : Int) vr vk vs, 0 ≤ most → most ≤ 1000000 → Spec Try.prog 35 #[.agg (tc t vr vk vs).toArray, .int .i64 most] [RT t vr vk vs] [] (fun x : {x : Int // BulkIs t (bulk t) most x} => .int .i64 x.1) (fun _ => []) (fun _ => [])
theorem bulk_walk (t : T) (ih : ∀ p, p ∈ parts t → BulkAt p.1) (most : Int) (vr vk vs : SH) (h0 : 0 ≤ most) (hm : most ≤ 1000000) : Spec Try.prog 35 #[.agg (tc t vr vk vs).toArray, .int .i64 most] [RT t vr vk vs] [] (fun x : {x : Int // BulkIs t (bulk t) most x} => .int .i64 x.1) (fun _ => []) (fun _ => []) := by
  refine spec_go (args := [.agg (tc t vr vk vs).toArray, .int .i64 most]) Try.func35 Try.ntmps35 rfl (by exact Nat.le_of_ble_eq_true rfl) fun B hB => ?_
  refine go_open (fun hk hn hnm => ?_)
  refine go_openCL (l := t.r) (a := vr) (fun hlr hAr hUr => ?_)
  refine go_openTL (ts := t.kids) (fun VR VK VS hl1 hA1 => ?_)
  refine go_openBL (bs := t.sys) (fun VF VK2 hl2 hA2 => ?_)
  refine go_seq ?_
  refine go_region ⟨_, Try.func35⟩ rfl ?_
  refine q0 rfl (o_box fun b2 => ?_)
  refine q0 rfl (o_assign ?_)
  refine rg_nil ?_
  refine go_seq ?_
  refine go_seq ?_
  refine go_cutS ([(1, .int .i64 most), (2, .pointer (some ⟨b2, 0, none⟩)), (20, .bool (decide (most < (t.r.length : Int)) || decide (most < (t.name.size : Int))))]) (fun hK => ?_) (fun base => ?_)
  · refine go_region ⟨_, Try.func35⟩ rfl ?_
    refine q0 rfl (o_fa ?_)
    refine q0 rfl (o_ld ?_)
    refine q0 rfl (o_len ?_)
    refine q0 rfl (o_move ?_)
    refine q0 rfl (o_gtr ?_)
    refine q0 rfl (o_move ?_)
    refine qI rfl rfl rfl (by conv => lhs; whnf) (fun hg14 => o_fa ?_) (fun hg14 => ?_)
    · refine qT rfl rfl rfl (o_ld ?_)
      refine qT rfl rfl rfl (o_lenStr ?_)
      refine qT rfl rfl rfl (o_move ?_)
      refine qT rfl rfl rfl (o_gtr ?_)
      refine q0 rfl (o_pickF ?_)
      refine rg_nil ?_
      exact hK _ ⟨rfl, rfl, (by (conv => lhs; whnf); first | (simp_all [Bool.and_assoc]; done) | (simp_all [Bool.and_assoc]; omega)), trivial⟩
    · refine qF rfl rfl rfl ?_
      refine qF rfl rfl rfl ?_
      refine qF rfl rfl rfl ?_
      refine qF rfl rfl rfl ?_
      refine q0 rfl (o_pickT ?_)
      refine rg_nil ?_
      exact hK _ ⟨rfl, rfl, (by (conv => lhs; whnf); first | (simp_all [Bool.and_assoc]; done) | (simp_all [Bool.and_assoc]; omega)), trivial⟩
  · refine go_condI (fun h20 => ?_) (fun h20 => ?_)
    · have hb : most < (t.r.length : Int) ∨ most < (t.name.size : Int) := by simpa using h20
      refine go_seq ?_
      refine go_region ⟨_, Try.func35⟩ rfl ?_
      refine q0 rfl (o_move ?_)
      refine q0 rfl (o_add ?_)
      refine q0 rfl (o_assign ?_)
      refine rg_nil ?_
      refine ret1 Try.func35 Try.results35 (by first | ((conv => lhs; whnf); done) | rfl) ⟨most + 1, by unfold BulkIs; have h9 := bK_le t 0; rw [bK_zero] at h9; omega⟩ rfl (fun w hs => hs.none)
    · have hb : (t.r.length : Int) ≤ most ∧ (t.name.size : Int) ≤ most := by simpa using h20
      have hge1 := bK_le t 0
      rw [bK_zero] at hge1
      refine go_skip ?_
      refine go_seq ?_
      refine go_region ⟨_, Try.func35⟩ rfl ?_
      refine q0 rfl (o_fa ?_)
      refine q0 rfl (o_ld ?_)
      refine q0 rfl (o_len ?_)
      refine q0 rfl (o_add ?_)
      refine q0 rfl (o_fa ?_)
      refine q0 rfl (o_ld ?_)
      refine q0 rfl (o_lenStr ?_)
      refine q0 rfl (o_add ?_)
      refine q0 rfl (o_assign ?_)
      refine rg_nil ?_
      refine go_seq ?_
      refine go_seq ?_
      refine go_region ⟨_, Try.func35⟩ rfl ?_
      refine q0 rfl (o_assign ?_)
      refine rg_nil ?_
      refine go_block ?_
      refine go_loopI (X := Nat × Int) (fun s => s.1 ≤ t.kids.length ∧ BulkIs t (bK t s.1) most s.2) (fun s => [(1, .int .i64 most), (2, .pointer (some ⟨b2, 0, none⟩)), (5, .int .i64 s.2), (6, .int .i64 (s.1 : Int))]) (fun s => [TLx t.kids vk VR VK VS, BLx t.sys vs VF VK2]) (fun s => [boxR b2 (tc t vr vk vs) 31]) (fun s => t.kids.length - s.1) ((0, 1 + (t.r.length : Int) + (t.name.size : Int))) (⟨Nat.zero_le _, by unfold BulkIs; rw [bK_zero]; simp only; omega⟩) (by exact ⟨rfl, rfl, rfl, rfl, trivial⟩) ?_ ?_
      · exact fun w hs => hs.less (by simp +contextual)
      · intro ⟨i, n⟩ base0 ⟨hi, hn0⟩ next0
        dsimp only at hi hn0 next0 ⊢
        refine go_seq ?_
        refine go_seq ?_
        refine go_cutS ([(1, .int .i64 most), (2, .pointer (some ⟨b2, 0, none⟩)), (5, .int .i64 n), (6, .int .i64 (i : Int)), (40, .bool (decide ((i : Int) < (t.kids.length : Int)) && decide (n ≤ most)))]) (fun hK => ?_) (fun base => ?_)
        · refine go_region ⟨_, Try.func35⟩ rfl ?_
          refine q0 rfl (o_move ?_)
          refine q0 rfl (o_fa ?_)
          refine q0 rfl (o_ld ?_)
          refine q0 rfl (o_len ?_)
          refine q0 rfl (o_lss ?_)
          refine q0 rfl (o_move ?_)
          refine qI rfl rfl rfl (by conv => lhs; whnf) (fun hg36 => o_move ?_) (fun hg36 => ?_)
          · refine qT rfl rfl rfl (o_move ?_)
            refine qT rfl rfl rfl (o_leq ?_)
            refine q0 rfl (o_pickT ?_)
            refine rg_nil ?_
            exact hK _ ⟨rfl, rfl, rfl, rfl, (by (conv => lhs; whnf); first | (simp_all [Bool.and_assoc]; done) | (simp_all [Bool.and_assoc]; omega)), trivial⟩
          · refine qF rfl rfl rfl ?_
            refine qF rfl rfl rfl ?_
            refine q0 rfl (o_pickF ?_)
            refine rg_nil ?_
            exact hK _ ⟨rfl, rfl, rfl, rfl, (by (conv => lhs; whnf); first | (simp_all [Bool.and_assoc]; done) | (simp_all [Bool.and_assoc]; omega)), trivial⟩
        · refine go_condI (fun h40 => ?_) (fun h40 => ?_)
          · have hlt' : (i : Int) < (t.kids.length : Int) ∧ n ≤ most := by simpa using h40
            have hlt : i < t.kids.length := by omega
            obtain ⟨bk, o, hav⟩ := hA1 (by omega)
            refine go_kid (ts := t.kids) (a := vk) i hlt ?_
            obtain ⟨hz1, hz2, hz3⟩ := hn0
            refine go_skip ?_
            refine go_seq ?_
            refine go_block ?_
            refine go_region ⟨_, Try.func35⟩ rfl ?_
            refine q0 rfl (o_move ?_)
            refine q0 rfl (o_fa ?_)
            refine q0 rfl (o_ld ?_)
            refine q0 rfl (o_move ?_)
            refine q0 rfl (o_ixN ?_)
            refine q0 rfl (o_ldT ?_)
            refine q0 rfl (o_move ?_)
            refine q0 rfl (o_move ?_)
            refine q0 rfl (o_sub ?_)
            refine q0 rfl (o_call Try.call35 (ih (t.kids.getD i t0, _, _) (parts_mem (parts_kid t i hlt)) (most - n) _ _ _ (by omega) (by omega)) (fun x52 => ?_))
            have hx := x52.2
            unfold BulkIs at hx
            refine q0 rfl (o_add ?_)
            refine q0 rfl (o_assign ?_)
            refine rg_nil ?_
            refine go_inBlock ?_
            refine go_region ⟨_, Try.func35⟩ rfl ?_
            refine q0 rfl (o_move ?_)
            refine q0 rfl (o_add ?_)
            refine q0 rfl (o_assign ?_)
            refine rg_nil ?_
            have hnn : BulkIs t (bK t (i + 1)) most (n + x52.1) := by (have h9 := bK_le t (i + 1); rw [bK_succ hlt] at h9 ⊢; unfold BulkIs; simp only at hx; omega)
            refine go_state (fun w hs => ?_) (next0 (i + 1, n + x52.1) _ ⟨hlt, hnn⟩ (by simp only; omega) ⟨rfl, rfl, rfl, rfl, trivial⟩)
            exact (hs.less (by simp +contextual))
          · have hge : ¬ ((i : Int) < (t.kids.length : Int) ∧ n ≤ most) := by simpa using h40
            have hnS : BulkIs t (bS t 0) most n := by (unfold BulkIs at hn0 ⊢; rw [bS_zero]; have h9 := bK_le t t.kids.length; rcases Nat.lt_or_ge i t.kids.length with h | h; omega; rw [show i = t.kids.length by omega] at hn0; exact hn0)
            refine go_exit rfl ?_
            refine go_seq ?_
            refine go_seq ?_
            refine go_region ⟨_, Try.func35⟩ rfl ?_
            refine q0 rfl (o_assign ?_)
            refine rg_nil ?_
            refine go_block ?_
            refine go_loopI (X := Nat × Int) (fun s => s.1 ≤ t.sys.length ∧ BulkIs t (bS t s.1) most s.2) (fun s => [(1, .int .i64 most), (2, .pointer (some ⟨b2, 0, none⟩)), (5, .int .i64 s.2), (7, .int .i64 (s.1 : Int))]) (fun s => [TLx t.kids vk VR VK VS, BLx t.sys vs VF VK2]) (fun s => [boxR b2 (tc t vr vk vs) 31]) (fun s => t.sys.length - s.1) ((0, n)) (⟨Nat.zero_le _, hnS⟩) (by exact ⟨rfl, rfl, rfl, rfl, trivial⟩) ?_ ?_
            · exact fun w hs => hs.less (by simp +contextual)
            · intro ⟨i2, n⟩ base1 ⟨hi2, hn2⟩ next1
              dsimp only at hi2 hn2 next1 ⊢
              refine go_seq ?_
              refine go_seq ?_
              refine go_cutS ([(1, .int .i64 most), (2, .pointer (some ⟨b2, 0, none⟩)), (5, .int .i64 n), (7, .int .i64 (i2 : Int)), (63, .bool (decide ((i2 : Int) < (t.sys.length : Int)) && decide (n ≤ most)))]) (fun hK => ?_) (fun base => ?_)
              · refine go_region ⟨_, Try.func35⟩ rfl ?_
                refine q0 rfl (o_move ?_)
                refine q0 rfl (o_fa ?_)
                refine q0 rfl (o_ld ?_)
                refine q0 rfl (o_len ?_)
                refine q0 rfl (o_lss ?_)
                refine q0 rfl (o_move ?_)
                refine qI rfl rfl rfl (by conv => lhs; whnf) (fun hg59 => o_move ?_) (fun hg59 => ?_)
                · refine qT rfl rfl rfl (o_move ?_)
                  refine qT rfl rfl rfl (o_leq ?_)
                  refine q0 rfl (o_pickT ?_)
                  refine rg_nil ?_
                  exact hK _ ⟨rfl, rfl, rfl, rfl, (by (conv => lhs; whnf); first | (simp_all [Bool.and_assoc]; done) | (simp_all [Bool.and_assoc]; omega)), trivial⟩
                · refine qF rfl rfl rfl ?_
                  refine qF rfl rfl rfl ?_
                  refine q0 rfl (o_pickF ?_)
                  refine rg_nil ?_
                  exact hK _ ⟨rfl, rfl, rfl, rfl, (by (conv => lhs; whnf); first | (simp_all [Bool.and_assoc]; done) | (simp_all [Bool.and_assoc]; omega)), trivial⟩
              · refine go_condI (fun h63 => ?_) (fun h63 => ?_)
                · have hlt' : (i2 : Int) < (t.sys.length : Int) ∧ n ≤ most := by simpa using h63
                  have hlt2 : i2 < t.sys.length := by omega
                  obtain ⟨bk2, o2, hav2⟩ := hA2 (by omega)
                  refine go_branch (bs := t.sys) (a := vs) i2 hlt2 ?_
                  refine go_openCL (l := (t.sys.getD i2 br0).face) (a := VF i2) (fun hlf hAf hUf => ?_)
                  refine go_openTL (ts := (t.sys.getD i2 br0).kids) (a := VK2 i2) (fun VR3 VK3 VS3 hl3 hA3 => ?_)
                  obtain ⟨hz1, hz2, hz3⟩ := hn2
                  have hj0 := bJ_le (j := 0) hlt2
                  rw [bJ_zero] at hj0
                  refine go_skip ?_
                  refine go_seq ?_
                  refine go_block ?_
                  refine go_seq ?_
                  refine go_seq ?_
                  refine go_region ⟨_, Try.func35⟩ rfl ?_
                  refine q0 rfl (o_fa ?_)
                  refine q0 rfl (o_ld ?_)
                  refine q0 rfl (o_move ?_)
                  refine q0 rfl (o_ixN ?_)
                  refine q0 rfl (o_fa ?_)
                  refine q0 rfl (o_ldBf ?_)
                  refine q0 rfl (o_len ?_)
                  refine q0 rfl (o_move ?_)
                  refine q0 rfl (o_gtr ?_)
                  refine rg_nil ?_
                  refine go_condI (fun h74 => ?_) (fun h74 => ?_)
                  · have hbf := of_decide_eq_true h74
                    refine go_seq ?_
                    refine go_region ⟨_, Try.func35⟩ rfl ?_
                    refine q0 rfl (o_move ?_)
                    refine q0 rfl (o_add ?_)
                    refine q0 rfl (o_assign ?_)
                    refine rg_nil ?_
                    refine ret1 Try.func35 Try.results35 (by first | ((conv => lhs; whnf); done) | rfl) ⟨most + 1, by unfold BulkIs; omega⟩ rfl (fun w hs => hs.none)
                  · have hbf := of_decide_eq_false h74
                    refine go_skip ?_
                    refine go_seq ?_
                    refine go_region ⟨_, Try.func35⟩ rfl ?_
                    refine q0 rfl (o_move ?_)
                    refine q0 rfl (o_add ?_)
                    refine q0 rfl (o_fa ?_)
                    refine q0 rfl (o_ld ?_)
                    refine q0 rfl (o_move ?_)
                    refine q0 rfl (o_ixN ?_)
                    refine q0 rfl (o_fa ?_)
                    refine q0 rfl (o_ldBf ?_)
                    refine q0 rfl (o_len ?_)
                    refine q0 rfl (o_add ?_)
                    refine q0 rfl (o_assign ?_)
                    refine rg_nil ?_
                    refine go_seq ?_
                    refine go_region ⟨_, Try.func35⟩ rfl ?_
                    refine q0 rfl (o_assign ?_)
                    refine rg_nil ?_
                    refine go_block ?_
                    refine go_loopI (X := Nat × Int) (fun s => s.1 ≤ (t.sys.getD i2 br0).kids.length ∧ BulkIs t (bJ t i2 s.1) most s.2) (fun s => [(1, .int .i64 most), (2, .pointer (some ⟨b2, 0, none⟩)), (5, .int .i64 s.2), (7, .int .i64 (i2 : Int)), (8, .int .i64 (s.1 : Int))]) (fun s => TLx (t.sys.getD i2 br0).kids (VK2 i2) VR3 VK3 VS3 :: [TLx t.kids vk VR VK VS, BLx t.sys vs VF VK2]) (fun s => [boxR b2 (tc t vr vk vs) 31]) (fun s => (t.sys.getD i2 br0).kids.length - s.1) ((0, n + 1 + ((t.sys.getD i2 br0).face.length : Int))) (⟨Nat.zero_le _, by (unfold BulkIs; rw [bJ_zero]; simp only; omega)⟩) (by exact ⟨rfl, rfl, rfl, rfl, rfl, trivial⟩) ?_ ?_
                    · exact fun w hs => hs.less (by simp +contextual)
                    · intro ⟨j, n⟩ base2 ⟨hj, hn3⟩ next2
                      dsimp only at hj hn3 next2 ⊢
                      refine go_seq ?_
                      refine go_seq ?_
                      refine go_cutS ([(1, .int .i64 most), (2, .pointer (some ⟨b2, 0, none⟩)), (5, .int .i64 n), (7, .int .i64 (i2 : Int)), (8, .int .i64 (j : Int)), (100, .bool (decide ((j : Int) < ((t.sys.getD i2 br0).kids.length : Int)) && decide (n ≤ most)))]) (fun hK => ?_) (fun base => ?_)
                      · refine go_region ⟨_, Try.func35⟩ rfl ?_
                        refine q0 rfl (o_move ?_)
                        refine q0 rfl (o_fa ?_)
                        refine q0 rfl (o_ld ?_)
                        refine q0 rfl (o_move ?_)
                        refine q0 rfl (o_ixN ?_)
                        refine q0 rfl (o_fa ?_)
                        refine q0 rfl (o_ldBf ?_)
                        refine q0 rfl (o_len ?_)
                        refine q0 rfl (o_lss ?_)
                        refine q0 rfl (o_move ?_)
                        refine qI rfl rfl rfl (by conv => lhs; whnf) (fun hg96 => o_move ?_) (fun hg96 => ?_)
                        · refine qT rfl rfl rfl (o_move ?_)
                          refine qT rfl rfl rfl (o_leq ?_)
                          refine q0 rfl (o_pickT ?_)
                          refine rg_nil ?_
                          exact hK _ ⟨rfl, rfl, rfl, rfl, rfl, (by (conv => lhs; whnf); first | (simp_all [Bool.and_assoc]; done) | (simp_all [Bool.and_assoc]; omega)), trivial⟩
                        · refine qF rfl rfl rfl ?_
                          refine qF rfl rfl rfl ?_
                          refine q0 rfl (o_pickF ?_)
                          refine rg_nil ?_
                          exact hK _ ⟨rfl, rfl, rfl, rfl, rfl, (by (conv => lhs; whnf); first | (simp_all [Bool.and_assoc]; done) | (simp_all [Bool.and_assoc]; omega)), trivial⟩
                      · refine go_condI (fun h100 => ?_) (fun h100 => ?_)
                        · have hlt3' : (j : Int) < ((t.sys.getD i2 br0).kids.length : Int) ∧ n ≤ most := by simpa using h100
                          have hlt3 : j < (t.sys.getD i2 br0).kids.length := by omega
                          obtain ⟨bk3, o3, hav3⟩ := hA3 (by omega)
                          refine go_kid (ts := (t.sys.getD i2 br0).kids) (a := VK2 i2) j hlt3 ?_
                          obtain ⟨hy1, hy2, hy3⟩ := hn3
                          refine go_skip ?_
                          refine go_seq ?_
                          refine go_block ?_
                          refine go_region ⟨_, Try.func35⟩ rfl ?_
                          refine q0 rfl (o_move ?_)
                          refine q0 rfl (o_fa ?_)
                          refine q0 rfl (o_ld ?_)
                          refine q0 rfl (o_move ?_)
                          refine q0 rfl (o_ixN ?_)
                          refine q0 rfl (o_fa ?_)
                          refine q0 rfl (o_ldBf ?_)
                          refine q0 rfl (o_move ?_)
                          refine q0 rfl (o_ixN ?_)
                          refine q0 rfl (o_ldT ?_)
                          refine q0 rfl (o_move ?_)
                          refine q0 rfl (o_move ?_)
                          refine q0 rfl (o_sub ?_)
                          refine q0 rfl (o_call Try.call35 (ih ((t.sys.getD i2 br0).kids.getD j t0, _, _) (parts_mem (parts_sys t i2 j hlt2 hlt3)) (most - n) _ _ _ (by omega) (by omega)) (fun x116 => ?_))
                          have hx := x116.2
                          unfold BulkIs at hx
                          refine q0 rfl (o_add ?_)
                          refine q0 rfl (o_assign ?_)
                          refine rg_nil ?_
                          refine go_inBlock ?_
                          refine go_region ⟨_, Try.func35⟩ rfl ?_
                          refine q0 rfl (o_move ?_)
                          refine q0 rfl (o_add ?_)
                          refine q0 rfl (o_assign ?_)
                          refine rg_nil ?_
                          have hnn : BulkIs t (bJ t i2 (j + 1)) most (n + x116.1) := by (have h9 := bJ_le (j := j + 1) hlt2; rw [bJ_succ hlt3] at h9 ⊢; unfold BulkIs; simp only at hx; omega)
                          refine go_state (fun w hs => ?_) (next2 (j + 1, n + x116.1) _ ⟨hlt3, hnn⟩ (by simp only; omega) ⟨rfl, rfl, rfl, rfl, rfl, trivial⟩)
                          exact (hs.less (by simp +contextual))
                        · have hge3 : ¬ ((j : Int) < ((t.sys.getD i2 br0).kids.length : Int) ∧ n ≤ most) := by simpa using h100
                          have hnS2 : BulkIs t (bS t (i2 + 1)) most n := by (unfold BulkIs at hn3 ⊢; rw [bS_succ hlt2]; have h9 := bS_le t (i2 + 1); rw [bS_succ hlt2] at h9; rcases Nat.lt_or_ge j (t.sys.getD i2 br0).kids.length with h | h; omega; rw [show j = (t.sys.getD i2 br0).kids.length by omega] at hn3; exact hn3)
                          refine go_exit rfl ?_
                          refine go_inBlock ?_
                          refine go_region ⟨_, Try.func35⟩ rfl ?_
                          refine q0 rfl (o_move ?_)
                          refine q0 rfl (o_add ?_)
                          refine q0 rfl (o_assign ?_)
                          refine rg_nil ?_
                          refine go_state (fun w hs => ?_) (next1 (i2 + 1, n) _ ⟨hlt2, hnS2⟩ (by simp only; omega) ⟨rfl, rfl, rfl, rfl, trivial⟩)
                          exact (hs.less (by simp +contextual))
                · have hge2 : ¬ ((i2 : Int) < (t.sys.length : Int) ∧ n ≤ most) := by simpa using h63
                  have hfin : BulkIs t (bulk t) most n := by (unfold BulkIs at hn2 ⊢; rcases Nat.lt_or_ge i2 t.sys.length with h | h; omega; rw [show i2 = t.sys.length by omega, bS_all] at hn2; exact hn2)
                  refine go_exit rfl ?_
                  refine go_seq ?_
                  refine go_region ⟨_, Try.func35⟩ rfl ?_
                  refine q0 rfl (o_move ?_)
                  refine q0 rfl (o_assign ?_)
                  refine rg_nil ?_
                  refine ret1 Try.func35 Try.results35 (by first | ((conv => lhs; whnf); done) | rfl) ⟨n, hfin⟩ rfl (fun w hs => hs.none)
theorem bulk_spec : ∀ t : T, BulkAt t := T.ind fun t ih most vr vk vs h0 hm => bulk_walk t ih most vr vk vs h0 hm
end Go.Hy
namespace Go.Hy
set_option linter.unusedVariables false
set_option linter.unusedSimpArgs false
set_option linter.unusedSectionVars false
open Go.Proofs
set_option linter.unusedVariables false
set_option linter.unusedSimpArgs false
set_option maxRecDepth 100000
theorem allP_spec (t : T) (vr_t vk_t vs_t : SH) (hz : size t ≤ 1000000000) : Spec Try.prog 37 #[.agg (tc t vr_t vk_t vs_t).toArray] [RT t vr_t vk_t vs_t] [] (fun x : {x : SH × List IP // x.2.map (·.1) = allL t} => .tuple #[sl x.1.1 x.1.2.length, .int .i64 (formedP t)]) (fun x : {x : SH × List IP // x.2.map (·.1) = allL t} => [IIF x.1.2 x.1.1]) (fun x : {x : SH × List IP // x.2.map (·.1) = allL t} => []) := by
  refine spec_go (args := [.agg (tc t vr_t vk_t vs_t).toArray]) Try.func37 Try.ntmps37 rfl (by exact Nat.le_of_ble_eq_true rfl) fun B hB => ?_
  refine go_open (t := t) (vr := vr_t) (vk := vk_t) (vs := vs_t) (fun hk1 hn1 hm1 => ?_)
  refine go_openCL (l := (t).r) (a := vr_t) (fun hl2 hA2 hU2 => ?_)
  refine go_openTL (ts := (t).kids) (a := vk_t) (fun VR3 VK3 VS3 hl3 hA3 => ?_)
  refine go_openBL (bs := (t).sys) (a := vs_t) (fun VF4 VK4 hl4 hA4 => ?_)
  have hdt := depth_le_size t
  refine go_seq ?_
  refine go_region ⟨_, Try.func37⟩ rfl ?_
  refine q0 rfl (o_box fun b1 => ?_)
  refine q0 rfl (o_assign ?_)
  refine q0 rfl (o_assign ?_)
  refine rg_nil ?_
  refine go_seq ?_
  refine go_seq ?_
  refine go_region ⟨_, Try.func37⟩ rfl ?_
  refine q0 rfl (o_lds ?_)
  refine q0 rfl (o_call Try.call30 (formed_spec t (.inr form_spec) vr_t vk_t vs_t (by first | assumption | omega | (unfold in64 at *; omega) | (unfold reach at *; omega) | (simp_all; done))) (fun x6 => ?_))
  refine q0 rfl (o_assign ?_)
  refine rg_nil ?_
  refine go_seq ?_
  refine go_region ⟨_, Try.func37⟩ rfl ?_
  refine q0 rfl (o_move ?_)
  refine q0 rfl (o_neI ?_)
  refine rg_nil ?_
  refine go_condI (fun h8 => ?_) (fun h8 => ?_)
  · have c8 : (decide ((formedP t) ≠ 0)) = true := h8
    try simp only [decide_eq_true_eq, decide_eq_false_iff_not, Bool.and_eq_true, Bool.or_eq_true, Bool.not_eq_true', Bool.and_eq_false_iff, Bool.or_eq_false_iff, Bool.not_eq_false', bne_iff_ne, beq_iff_eq, ne_eq, not_and, Decidable.not_not, Bool.true_and, Bool.and_true, Bool.false_or, Bool.or_false] at c8
    have hne : formedP t ≠ 0 := by simpa using h8
    refine go_seq ?_
    refine go_region ⟨_, Try.func37⟩ rfl ?_
    refine q0 rfl (o_move ?_)
    refine q0 rfl (o_assign ?_)
    refine q0 rfl (o_assign ?_)
    refine rg_nil ?_
    -- leaf 0: sl (none, 0) (0); .int .i64 ((formedP t))
    refine ret2 Try.func37 Try.results37 (by first | ((conv => lhs; whnf); done) | rfl) (by first | ((conv => lhs; whnf); done) | rfl) ⟨((none, 0), []), by rw [allL, if_pos hne]; rfl⟩ rfl (fun w hs => (hs.bare.nilRow (sz := 1) (bt := 24) (F := ipCells) (E := ipE) (d := ip0) 0).less (by simp))
  · have c8 : (decide ((formedP t) ≠ 0)) = false := h8
    try simp only [decide_eq_true_eq, decide_eq_false_iff_not, Bool.and_eq_true, Bool.or_eq_true, Bool.not_eq_true', Bool.and_eq_false_iff, Bool.or_eq_false_iff, Bool.not_eq_false', bne_iff_ne, beq_iff_eq, ne_eq, not_and, Decidable.not_not, Bool.true_and, Bool.and_true, Bool.false_or, Bool.or_false] at c8
    have hf0 : formedP t = 0 := by simpa using h8
    refine go_skip ?_
    refine go_seq ?_
    refine go_state (fun w hs => ((hs.rowS0 1 54).nilIL 0).allNil ipE) ?_
    refine go_region ⟨_, Try.func37⟩ rfl ?_
    refine q0 rfl (o_lds ?_)
    refine q0 rfl (o_call Try.call63 (allO t [] (none, 0) [] (none, 0) vr_t vk_t vs_t (by simp only [List.length_nil]; omega) (by simp only [List.length_nil]; omega)) (fun x11 => ?_))
    refine q0 rfl (o_assign ?_)
    refine q0 rfl (o_assign ?_)
    refine rg_nil ?_
    -- leaf 1: sl x11.1.1 (x11.1.2.length); .int .i64 (0)
    have hxl := congrArg List.length x11.2
    simp only [List.map_nil, List.nil_append, List.length_map, every_len] at hxl
    have hall : allL t = everyP t := by rw [allL, if_neg (by simp [hf0])]
    refine ret2 Try.func37 Try.results37 (by first | ((conv => lhs; whnf); done) | rfl) (by first | ((conv => lhs; whnf); done) | rfl) ⟨x11.1, x11.2.trans (by rw [hall]; simp)⟩ (congrArg (fun z : Int => Value.tuple #[sl x11.1.1 x11.1.2.length, .int .i64 z]) hf0.symm) (fun w hs => ((((hs.perm perm1).perm perm1).settleRow (F := ipCells) (E := ipE) (d := ip0) (bt := 24) (l := x11.1.2) (fun _ => rfl) hB (by first | ((repeat (first | exact List.mem_cons_self | apply List.mem_cons_of_mem)); done) | (simp only [List.nil_append, List.cons_append]; (repeat (first | exact List.mem_cons_self | apply List.mem_cons_of_mem)))) rfl rfl (by unfold reach; omega)).bare.less (by simp)))
theorem ints_spec (l : List Int) (a_l : SH) (m : List Int) (a_m : SH)  : Spec Try.prog 62 #[sl a_l (l.length), sl a_m (m.length)] [IL l a_l, IL m a_m] [] (fun _ : Unit => .bool ((decide (l = m)))) (fun _ : Unit => []) (fun _ : Unit => []) := by
  refine spec_go (args := [sl a_l (l.length), sl a_m (m.length)]) Try.func62 Try.ntmps62 rfl (by exact Nat.le_of_ble_eq_true rfl) fun B hB => ?_
  refine go_openIL (l := l) (a := a_l) (fun hl1 hA1 hU1 => ?_)
  refine go_openIL (l := m) (a := a_m) (fun hl2 hA2 hU2 => ?_)
  refine go_seq ?_
  refine go_region ⟨_, Try.func62⟩ rfl ?_
  refine q0 rfl (o_assign ?_)
  refine rg_nil ?_
  refine go_seq ?_
  refine go_seq ?_
  refine go_region ⟨_, Try.func62⟩ rfl ?_
  refine q0 rfl (o_move ?_)
  refine q0 rfl (o_len ?_)
  refine q0 rfl (o_move ?_)
  refine q0 rfl (o_len ?_)
  refine q0 rfl (o_neI ?_)
  refine rg_nil ?_
  refine go_condI (fun h10 => ?_) (fun h10 => ?_)
  · have c10 : (decide ((l.length : Int) ≠ (m.length : Int))) = true := h10
    try simp only [decide_eq_true_eq, decide_eq_false_iff_not, Bool.and_eq_true, Bool.or_eq_true, Bool.not_eq_true', Bool.and_eq_false_iff, Bool.or_eq_false_iff, Bool.not_eq_false', bne_iff_ne, beq_iff_eq, ne_eq, not_and, Decidable.not_not, Bool.true_and, Bool.and_true, Bool.false_or, Bool.or_false] at c10
    have hne : ¬ l = m := fun e => by subst e; simp at h10
    refine go_seq ?_
    refine go_region ⟨_, Try.func62⟩ rfl ?_
    refine q0 rfl (o_assign ?_)
    refine rg_nil ?_
    -- leaf 0: .bool (false)
    refine ret1 Try.func62 Try.results62 (by first | ((conv => lhs; whnf); done) | rfl) () (by rw [decide_eq_false hne]) (fun w hs => hs.none)
  · have c10 : (decide ((l.length : Int) ≠ (m.length : Int))) = false := h10
    try simp only [decide_eq_true_eq, decide_eq_false_iff_not, Bool.and_eq_true, Bool.or_eq_true, Bool.not_eq_true', Bool.and_eq_false_iff, Bool.or_eq_false_iff, Bool.not_eq_false', bne_iff_ne, beq_iff_eq, ne_eq, not_and, Decidable.not_not, Bool.true_and, Bool.and_true, Bool.false_or, Bool.or_false] at c10
    have hlen : l.length = m.length := by simp at h10; omega
    refine go_skip ?_
    refine go_seq ?_
    refine go_seq ?_
    refine go_region ⟨_, Try.func62⟩ rfl ?_
    refine q0 rfl (o_assign ?_)
    refine rg_nil ?_
    refine go_block ?_
    refine go_loopE (X := Nat) (fun s_ => s_ ≤ l.length ∧ ∀ j, j < s_ → l.getD j 0 = m.getD j 0) (fun s_ => [(0, sl a_l (l.length)), (1, sl a_m (m.length)), (5, .int .i64 ((s_ : Int)))]) (fun s_ G_ => G_) (fun s_ => []) (fun s_ => l.length - s_) (0) (⟨by omega, fun j hj => by omega⟩) (by exact ⟨rfl, rfl, rfl, trivial⟩) ?_ ?_
    · exact fun w hs => hs
    · intro i base0 ⟨hi, hok⟩ next0
      refine go_seq ?_
      refine go_seq ?_
      refine go_region ⟨_, Try.func62⟩ rfl ?_
      refine q0 rfl (o_move ?_)
      refine q0 rfl (o_move ?_)
      refine q0 rfl (o_len ?_)
      refine q0 rfl (o_lss ?_)
      refine rg_nil ?_
      refine go_condI (fun h14 => ?_) (fun h14 => ?_)
      · have c14 : (decide ((i : Int) < (l.length : Int))) = true := h14
        try simp only [decide_eq_true_eq, decide_eq_false_iff_not, Bool.and_eq_true, Bool.or_eq_true, Bool.not_eq_true', Bool.and_eq_false_iff, Bool.or_eq_false_iff, Bool.not_eq_false', bne_iff_ne, beq_iff_eq, ne_eq, not_and, Decidable.not_not, Bool.true_and, Bool.and_true, Bool.false_or, Bool.or_false] at c14
        refine go_skip ?_
        refine go_seq ?_
        refine go_block ?_
        refine go_seq ?_
        refine go_draw (tn := false) (A := [0, 0, 3, 7, 0, 0, 48, 112, 255]) (l := [0, 1, 2, 3, 4, 5, 6, 7, 8]) (fin := []) Tab.mixed ⟨_, Try.func62⟩ (by rfl) ?_
        refine n0 rfl (v_move ?_)
        refine n0 rfl (v_move ?_)
        obtain ⟨bk3, o3, hav3⟩ := hA1 (by omega)
        refine n0 rfl (v_ixN ?_ (j := i))
        refine n0 rfl (v_ldI ?_)
        refine n0 rfl (v_move ?_)
        refine n0 rfl (v_move ?_)
        obtain ⟨bk4, o4, hav4⟩ := hA2 (by omega)
        refine n0 rfl (v_ixN ?_ (j := i))
        refine n0 rfl (v_ldI ?_)
        refine n0 rfl (v_neI ?_)
        refine NV.done ?_
        refine rg_nil ?_
        refine go_condI (fun h25 => ?_) (fun h25 => ?_)
        · have c25 : (decide ((l.getD i 0) ≠ (m.getD i 0))) = true := h25
          try simp only [decide_eq_true_eq, decide_eq_false_iff_not, Bool.and_eq_true, Bool.or_eq_true, Bool.not_eq_true', Bool.and_eq_false_iff, Bool.or_eq_false_iff, Bool.not_eq_false', bne_iff_ne, beq_iff_eq, ne_eq, not_and, Decidable.not_not, Bool.true_and, Bool.and_true, Bool.false_or, Bool.or_false] at c25
          refine go_seq ?_
          refine go_region ⟨_, Try.func62⟩ rfl ?_
          refine q0 rfl (o_assign ?_)
          refine rg_nil ?_
          -- leaf 1: .bool (false)
          refine ret1 Try.func62 Try.results62 (by first | ((conv => lhs; whnf); done) | rfl) () (by rw [decide_eq_false (fun e => by subst e; simp at h25)]) (fun w hs => hs.none)
        · have c25 : (decide ((l.getD i 0) ≠ (m.getD i 0))) = false := h25
          try simp only [decide_eq_true_eq, decide_eq_false_iff_not, Bool.and_eq_true, Bool.or_eq_true, Bool.not_eq_true', Bool.and_eq_false_iff, Bool.or_eq_false_iff, Bool.not_eq_false', bne_iff_ne, beq_iff_eq, ne_eq, not_and, Decidable.not_not, Bool.true_and, Bool.and_true, Bool.false_or, Bool.or_false] at c25
          refine go_skip ?_
          refine go_inBlock ?_
          refine go_region ⟨_, Try.func62⟩ rfl ?_
          refine q0 rfl (o_move ?_)
          refine q0 rfl (o_add ?_)
          refine q0 rfl (o_assign ?_)
          refine rg_nil ?_
          refine go_state (fun w hs => ?_) (next0 (i + 1) _ (⟨by omega, fun j hj => by rcases Nat.lt_succ_iff_lt_or_eq.mp hj with h | h; exact hok j h; subst h; exact c25⟩) (by omega) ⟨rfl, rfl, rfl, trivial⟩)
          exact (hs.less (by simp +contextual))
      · have c14 : (decide ((i : Int) < (l.length : Int))) = false := h14
        try simp only [decide_eq_true_eq, decide_eq_false_iff_not, Bool.and_eq_true, Bool.or_eq_true, Bool.not_eq_true', Bool.and_eq_false_iff, Bool.or_eq_false_iff, Bool.not_eq_false', bne_iff_ne, beq_iff_eq, ne_eq, not_and, Decidable.not_not, Bool.true_and, Bool.and_true, Bool.false_or, Bool.or_false] at c14
        refine go_exit rfl ?_
        refine go_seq ?_
        refine go_region ⟨_, Try.func62⟩ rfl ?_
        refine q0 rfl (o_assign ?_)
        refine rg_nil ?_
        -- leaf 2: .bool (true)
        refine ret1 Try.func62 Try.results62 (by first | ((conv => lhs; whnf); done) | rfl) () (by rw [decide_eq_true (list_eq_of (d := 0) hlen (fun j hj => hok j (by omega)))]) (fun w hs => hs.none)
theorem great30_spec (t : T) (vr_t vk_t vs_t : SH) (p : List Int) (a_p : SH)  : Spec Try.prog 36 #[.agg (tc t vr_t vk_t vs_t).toArray, sl a_p (p.length)] [RT t vr_t vk_t vs_t, IL p a_p] [] (fun _ : Unit => .bool ((decide (250 < bulk t) || decide (300 < p.length)))) (fun _ : Unit => []) (fun _ : Unit => []) := by
  refine spec_go (args := [.agg (tc t vr_t vk_t vs_t).toArray, sl a_p (p.length)]) Try.func36 Try.ntmps36 rfl (by exact Nat.le_of_ble_eq_true rfl) fun B hB => ?_
  refine go_open (t := t) (vr := vr_t) (vk := vk_t) (vs := vs_t) (fun hk1 hn1 hm1 => ?_)
  refine go_openCL (l := (t).r) (a := vr_t) (fun hl2 hA2 hU2 => ?_)
  refine go_openTL (ts := (t).kids) (a := vk_t) (fun VR3 VK3 VS3 hl3 hA3 => ?_)
  refine go_openBL (bs := (t).sys) (a := vs_t) (fun VF4 VK4 hl4 hA4 => ?_)
  refine go_openIL (l := p) (a := a_p) (fun hl5 hA5 hU5 => ?_)
  refine go_seq ?_
  refine go_region ⟨_, Try.func36⟩ rfl ?_
  refine q0 rfl (o_box fun b2 => ?_)
  refine q0 rfl (o_assign ?_)
  refine rg_nil ?_
  refine go_seq ?_
  refine go_cutS ([(4, .bool ((decide (250 < bulk t)) || (decide (300 < (p.length : Int)))))]) (fun hK => ?_) (fun base => ?_)
  · refine go_region ⟨_, Try.func36⟩ rfl ?_
    refine q0 rfl (o_lds ?_)
    refine q0 rfl (o_call Try.call35 (bulk_spec t 250 vr_t vk_t vs_t (by omega) (by omega)) (fun x6 => ?_))
    have hx := x6.2
    unfold BulkIs at hx
    refine q0 rfl (o_gtr ?_)
    rw [show decide ((250 : Int) < x6.1) = decide (250 < bulk t) from decide_eq_decide.mpr (by omega)]
    refine q0 rfl (o_move ?_)
    refine qI rfl rfl rfl (by conv => lhs; whnf) (fun hg8 => ?_) (fun hg8 => ?_)
    · have g8 : (decide (250 < bulk t)) = false := hg8
      try simp only [decide_eq_true_eq, decide_eq_false_iff_not, Bool.and_eq_true, Bool.or_eq_true, Bool.not_eq_true', Bool.and_eq_false_iff, Bool.or_eq_false_iff, Bool.not_eq_false', bne_iff_ne, beq_iff_eq, ne_eq, not_and, Decidable.not_not, Bool.true_and, Bool.and_true, Bool.false_or, Bool.or_false] at g8
      refine o_move ?_
      refine qT rfl rfl rfl (o_len ?_)
      refine qT rfl rfl rfl (o_gtr ?_)
      refine q0 rfl (o_pickF ?_)
      refine q0 rfl (o_assign ?_)
      refine rg_nil ?_
      exact hK _ ⟨(by first | rfl | ((conv => lhs; whnf); first | (simp_all; done) | (simp_all; omega))), trivial⟩
    · have g8 : (decide (250 < bulk t)) = true := hg8
      try simp only [decide_eq_true_eq, decide_eq_false_iff_not, Bool.and_eq_true, Bool.or_eq_true, Bool.not_eq_true', Bool.and_eq_false_iff, Bool.or_eq_false_iff, Bool.not_eq_false', bne_iff_ne, beq_iff_eq, ne_eq, not_and, Decidable.not_not, Bool.true_and, Bool.and_true, Bool.false_or, Bool.or_false] at g8
      refine qF rfl rfl rfl ?_
      refine qF rfl rfl rfl ?_
      refine q0 rfl (o_pickT ?_)
      refine q0 rfl (o_assign ?_)
      refine rg_nil ?_
      exact hK _ ⟨(by first | rfl | ((conv => lhs; whnf); first | (simp_all; done) | (simp_all; omega))), trivial⟩
  · -- leaf 0: .bool ((decide (250 < bulk t)) || (decide (300 < (p.length : Int))))
    refine ret1 Try.func36 Try.results36 (by first | ((conv => lhs; whnf); done) | rfl) () (by congr 2; exact decide_eq_decide.mpr (by omega)) (fun w hs => hs.none)
end Go.Hy
namespace Go.Hy
set_option linter.unusedVariables false
set_option linter.unusedSimpArgs false
set_option linter.unusedSectionVars false
open Go.Proofs
set_option linter.unusedVariables false
set_option linter.unusedSimpArgs false
set_option maxRecDepth 100000
abbrev PutO (h : HT) : Prop := ∀ (p : List Int) (a_p : SH) (hu : HT) (b o : Nat) (cs : List Value) (ty : TypeId), (cs.drop o).take 6 = tc h.er h.vr h.vk h.vs → Spec Try.prog 64 #[.pointer (some ⟨b, o, none⟩), sl a_p p.length, .agg (tc hu.er hu.vr hu.vk hu.vs).toArray] [IL p a_p] [boxR b cs ty, bigR (treeR tys h), bigR (treeR tys hu)] (fun x : {x : Option HT // x.map HT.er = setP h.er p hu.er} => .bool x.1.isSome) (fun _ => []) (fun x => putMs tys b o cs ty x.1)
theorem put_walk (b o : Nat) (cs : List Value) (ty : TypeId) (k n : Int) (nm : ByteArray) (r : List Cl) (v : SH) (ks : List HT) (u2 : SH) (ss : List HB) (x2 : SH) (p : List Int) (a_p : SH) (hu : HT) (ih : ∀ c, c ∈ ks → PutO c) (ihs : ∀ b, b ∈ ss → ∀ c, c ∈ b.kids → PutO c) (hc : (cs.drop o).take 6 = tc (HT.mk k n nm r v ks u2 ss x2).er v u2 x2) : Spec Try.prog 64 #[.pointer (some ⟨b, o, none⟩), sl a_p (p.length), .agg (tc hu.er hu.vr hu.vk hu.vs).toArray] [IL p a_p] [boxR b cs ty, bigR (treeR tys (HT.mk k n nm r v ks u2 ss x2)), bigR (treeR tys hu)] (fun x : {x : Option HT // x.map HT.er = setP (HT.mk k n nm r v ks u2 ss x2).er p hu.er} => .bool x.1.isSome) (fun x : {x : Option HT // x.map HT.er = setP (HT.mk k n nm r v ks u2 ss x2).er p hu.er} => []) (fun x : {x : Option HT // x.map HT.er = setP (HT.mk k n nm r v ks u2 ss x2).er p hu.er} => putMs tys b o cs ty x.1) := by
  refine spec_go (args := [.pointer (some ⟨b, o, none⟩), sl a_p (p.length), .agg (tc hu.er hu.vr hu.vk hu.vs).toArray]) Try.func64 Try.ntmps64 rfl (by exact Nat.le_of_ble_eq_true rfl) fun B hB => ?_
  refine go_openIL (l := p) (a := a_p) (fun hl1 hA1 hU1 => ?_)
  refine go_state (fun w hs => (hs.perm perm1).openHT) ?_
  refine go_know (fun w hs => hs.rowLen (sz := 6) (a := u2) (n := ks.length) (xs := tpFlat (ks.map HT.tp)) (by repeat (first | exact List.mem_cons_self | apply List.mem_cons_of_mem))) (fun hb2 => ?_)
  refine go_know (fun w hs => hs.rowLen (sz := 2) (a := x2) (n := ss.length) (xs := bpFlat (ss.map HB.bp)) (by repeat (first | exact List.mem_cons_self | apply List.mem_cons_of_mem))) (fun hb3 => ?_)
  have hc' : (cs.drop o).take 6 = [.int .i64 k, .int .i64 n, .string nm, sl v r.length, sl u2 ks.length, sl x2 ss.length] := by rw [hc]; simp only [HT.er, tc, T.kind, T.n, T.name, T.r, T.kids, T.sys, HT.erL_eq, HT.erB_eq, List.length_map]
  have hc4 : cs[o + 4]? = some (sl u2 ks.length) := by have h9 := congrArg (fun l => l[4]?) hc'; simpa [List.getElem?_take, List.getElem?_drop] using h9
  have hc5 : cs[o + 5]? = some (sl x2 ss.length) := by have h9 := congrArg (fun l => l[5]?) hc'; simpa [List.getElem?_take, List.getElem?_drop] using h9
  have hco : o + 6 ≤ cs.length := by have h9 := congrArg List.length hc'; simp at h9; omega
  have hsame : ∀ (ks' : List HT) (ss' : List HB), ks'.length = ks.length → ss'.length = ss.length → setAt cs o (tc (HT.mk k n nm r v ks' u2 ss' x2).er v u2 x2) = cs := fun ks' ss' e1 e2 => setAt_same (by rw [show (tc (HT.mk k n nm r v ks' u2 ss' x2).er v u2 x2).length = 6 from rfl, hc']; simp only [HT.er, tc, T.kind, T.n, T.name, T.r, T.kids, T.sys, HT.erL_eq, HT.erB_eq, List.length_map, e1, e2])
  have hpk : ∀ m, m < ks.length → (parts (HT.mk k n nm r v ks u2 ss x2).er)[m]? = some ((ks.getD m h0).er, binds k (m : Int)) := fun m hm => by rw [parts_kid _ m (by simpa [HT.er, HT.erL_eq, T.kids] using hm)]; simp only [HT.er, T.kids, T.kind, HT.erL_eq]; rw [getD_map (d := h0) hm]
  have hps : ∀ s j f vf ks3 vk3, s < ss.length → ss.getD s hb0 = HB.mk f vf ks3 vk3 → j < ks3.length → (parts (HT.mk k n nm r v ks u2 ss x2).er)[ks.length + sysBefore s (ss.map HB.er) + j]? = some ((ks3.getD j h0).er, 0, more k) := fun s j f vf ks3 vk3 h1 h2 h3 => by
      have hg : (ss.map HB.er).getD s br0 = .mk f (ks3.map HT.er) := by rw [getD_map (d := hb0) h1, er_face h2]
      have h4 := parts_sys (HT.mk k n nm r v ks u2 ss x2).er s j (by simpa [HT.er, HT.erB_eq, T.sys] using h1) (by simp only [HT.er, T.sys, HT.erB_eq]; rw [hg]; simpa [Br.kids] using h3)
      simp only [HT.er, T.sys, T.kids, T.kind, HT.erL_eq, HT.erB_eq, List.length_map] at h4 ⊢
      rw [h4, hg]; simp only [Br.kids]; rw [getD_map (d := h0) h3]
  have hplen : (parts (HT.mk k n nm r v ks u2 ss x2).er).length = ks.length + sysBefore ss.length (ss.map HB.er) := by rw [parts_length]; simp only [HT.er, T.sys, T.kids, HT.erL_eq, HT.erB_eq, List.length_map]
  refine go_seq ?_
  refine go_region ⟨_, Try.func64⟩ rfl ?_
  refine q0 rfl (o_box fun b5 => ?_)
  refine q0 rfl (o_assign ?_)
  refine rg_nil ?_
  refine go_seq ?_
  refine go_seq ?_
  refine go_region ⟨_, Try.func64⟩ rfl ?_
  refine q0 rfl (o_move ?_)
  refine q0 rfl (o_len ?_)
  refine q0 rfl (o_eqI ?_)
  refine rg_nil ?_
  refine go_condI (fun h13 => ?_) (fun h13 => ?_)
  · have c13 : (decide ((p.length : Int) = 0)) = true := h13
    try simp only [decide_eq_true_eq, decide_eq_false_iff_not, Bool.and_eq_true, Bool.or_eq_true, Bool.not_eq_true', Bool.and_eq_false_iff, Bool.or_eq_false_iff, Bool.not_eq_false', bne_iff_ne, beq_iff_eq, ne_eq, not_and, Decidable.not_not, Bool.true_and, Bool.and_true, Bool.false_or, Bool.or_false] at c13
    refine go_seq ?_
    refine go_region ⟨_, Try.func64⟩ rfl ?_
    refine q0 rfl (o_move ?_)
    refine q0 rfl (o_lds ?_)
    refine q0 rfl (o_nilC ?_)
    refine q0 rfl (o_stp ?_ (k := o) (vs := tc hu.er hu.vr hu.vk hu.vs) (cs' := setAt cs o (tc hu.er hu.vr hu.vk hu.vs)) (hk := hco))
    refine rg_nil ?_
    refine go_seq ?_
    refine go_region ⟨_, Try.func64⟩ rfl ?_
    refine q0 rfl (o_assign ?_)
    refine rg_nil ?_
    -- leaf 0: .bool (true)
    refine ret1 Try.func64 Try.results64 (by first | ((conv => lhs; whnf); done) | rfl) ⟨some hu, by rw [setP_nil (by omega)]; rfl⟩ rfl (fun w hs => ((((hs.less (Γ' := []) (by simp)).perm perm7).perm perm1).dropR (A := [_, _])))
  · have c13 : (decide ((p.length : Int) = 0)) = false := h13
    try simp only [decide_eq_true_eq, decide_eq_false_iff_not, Bool.and_eq_true, Bool.or_eq_true, Bool.not_eq_true', Bool.and_eq_false_iff, Bool.or_eq_false_iff, Bool.not_eq_false', bne_iff_ne, beq_iff_eq, ne_eq, not_and, Decidable.not_not, Bool.true_and, Bool.and_true, Bool.false_or, Bool.or_false] at c13
    refine go_skip ?_
    refine go_seq ?_
    refine go_draw (tn := false) (A := [0, 1, 3, 0, 8, 7, 63]) (l := [0, 1, 2, 3, 4, 5, 6]) (fin := []) Tab.mixed ⟨_, Try.func64⟩ (by rfl) ?_
    refine n0 rfl (v_move ?_)
    obtain ⟨bk2, o2, hav2⟩ := hA1 (by omega)
    refine n0 rfl (v_ixN ?_ (j := 0))
    refine n0 rfl (v_ldI ?_)
    refine n0 rfl (v_move ?_)
    refine n0 rfl (v_sliceLo ?_ (k := 1) (a := a_p))
    refine n0 rfl (v_assign ?_)
    refine n0 rfl (v_assign ?_)
    refine NV.done ?_
    refine rg_nil ?_
    refine go_seq ?_
    refine go_seq ?_
    refine go_region ⟨_, Try.func64⟩ rfl ?_
    refine q0 rfl (o_move ?_)
    refine q0 rfl (o_lss ?_)
    refine rg_nil ?_
    refine go_condI (fun h23 => ?_) (fun h23 => ?_)
    · have c23 : (decide ((p.getD 0 0) < 0)) = true := h23
      try simp only [decide_eq_true_eq, decide_eq_false_iff_not, Bool.and_eq_true, Bool.or_eq_true, Bool.not_eq_true', Bool.and_eq_false_iff, Bool.or_eq_false_iff, Bool.not_eq_false', bne_iff_ne, beq_iff_eq, ne_eq, not_and, Decidable.not_not, Bool.true_and, Bool.and_true, Bool.false_or, Bool.or_false] at c23
      refine go_seq ?_
      refine go_region ⟨_, Try.func64⟩ rfl ?_
      refine q0 rfl (o_assign ?_)
      refine rg_nil ?_
      -- leaf 1: .bool (false)
      refine ret1 Try.func64 Try.results64 (by first | ((conv => lhs; whnf); done) | rfl) ⟨none, by rw [setP_miss (by omega) (.inl (by omega))]; rfl⟩ rfl (fun w hs => hs.none)
    · have c23 : (decide ((p.getD 0 0) < 0)) = false := h23
      try simp only [decide_eq_true_eq, decide_eq_false_iff_not, Bool.and_eq_true, Bool.or_eq_true, Bool.not_eq_true', Bool.and_eq_false_iff, Bool.or_eq_false_iff, Bool.not_eq_false', bne_iff_ne, beq_iff_eq, ne_eq, not_and, Decidable.not_not, Bool.true_and, Bool.and_true, Bool.false_or, Bool.or_false] at c23
      refine go_skip ?_
      refine go_seq ?_
      refine go_seq ?_
      refine go_region ⟨_, Try.func64⟩ rfl ?_
      refine q0 rfl (o_move ?_)
      refine q0 rfl (o_move ?_)
      refine q0 rfl (o_nilC ?_)
      refine q0 rfl (o_fa ?_)
      refine q0 rfl (o_ld ?_ (hk := hc4))
      refine q0 rfl (o_len ?_)
      refine q0 rfl (o_lss ?_)
      refine rg_nil ?_
      refine go_condI (fun h30 => ?_) (fun h30 => ?_)
      · have c30 : (decide ((p.getD 0 0) < (ks.length : Int))) = true := h30
        try simp only [decide_eq_true_eq, decide_eq_false_iff_not, Bool.and_eq_true, Bool.or_eq_true, Bool.not_eq_true', Bool.and_eq_false_iff, Bool.or_eq_false_iff, Bool.not_eq_false', bne_iff_ne, beq_iff_eq, ne_eq, not_and, Decidable.not_not, Bool.true_and, Bool.and_true, Bool.false_or, Bool.or_false] at c30
        obtain ⟨m, hm⟩ : ∃ m : Nat, p.getD 0 0 = (m : Int) := ⟨(p.getD 0 0).toNat, by omega⟩
        rw [hm]
        have hml : m < ks.length := by omega
        refine go_state (fun w hs => (((((((((hs.perm perm7).perm perm7).perm perm7).perm perm6).perm perm6).perm perm6).perm perm6).perm perm7).takeK (k := m) hml)) ?_
        refine go_rowBox (m := ks.length) (xs := tpFlat (ks.map HT.tp)) (a := u2) (by omega) perm4 (fun g cur hav9 hcx hcl hcn hcm => ?_)
        refine go_state (fun w hs => hs.dropIL (l := p) (a := a_p) 1 (by repeat (first | exact List.mem_cons_self | apply List.mem_cons_of_mem)) (by omega)) ?_
        have hih := ih _ (getD_mem (d := h0) hml) (p.drop 1) (dropSH a_p 1 1) hu g (0 + m * 6) cur 31 (by rw [take_in_row (F := tpCells) (fun _ => rfl) tp0 hcx (by simp) (by simpa using hml), getD_map (d := h0) hml]; rfl)
        rw [show (p.drop 1).length = p.length - 1 by simp] at hih
        refine go_state (fun w hs => (((((((((hs.perm perm7).perm perm7).perm perm7).perm perm7).perm perm7).perm perm7).perm perm8).perm perm8).perm perm8)) ?_
        refine go_seq ?_
        refine go_draw (tn := false) (A := [0, 1, 3, 7, 0, 31, 0, 0, 255, 511]) (l := [0, 1, 2, 3, 4, 5, 6, 7]) (fin := [8, 9]) Tab.mixed ⟨_, Try.func64⟩ (by rfl) ?_
        refine n0 rfl (v_move ?_)
        refine n0 rfl (v_nilC ?_)
        refine n0 rfl (v_fa ?_)
        refine n0 rfl (v_ld ?_ (hk := hc4))
        refine n0 rfl (v_move ?_)
        refine n0 rfl (v_ixN ?_ (j := m))
        refine n0 rfl (v_move ?_)
        refine n0 rfl (v_lds ?_)
        refine NV.done ?_
        refine q0 rfl (o_call Try.call64 (hih) (fun x39 => ?_))
        refine q0 rfl (o_assign ?_)
        refine rg_nil ?_
        -- leaf 2: .bool (x39.1.isSome)
        obtain ⟨y9, hy9⟩ := x39
        cases y9 with
        | none => refine ret1 Try.func64 Try.results64 (by first | ((conv => lhs; whnf); done) | rfl) ⟨none, by rw [setP_at (by omega) hm (hpk m hml)]; simp only at hy9 ⊢; rw [← hy9]; rfl⟩ rfl (fun w hs => hs.none)
        | some h9 =>
          refine ret1 Try.func64 Try.results64 (by first | ((conv => lhs; whnf); done) | rfl) ⟨some (HT.mk k n nm r v (ks.set m h9) u2 ss x2), by rw [setP_at (by omega) hm (hpk m hml)]; simp only at hy9 ⊢; rw [← hy9]; simp only [Option.map_some]; rw [put_kid hml]⟩ rfl (fun w hs => ?_)
          have h1 : St B [] [boxR g (setAt cur (0 + m * 6) (tc h9.er h9.vr h9.vk h9.vs)) 31, bigR (treeR tys h9), bigR (kidsR tys (ks.take m) ++ kidsR tys (ks.drop (m + 1))), boxR b5 (tc hu.er hu.vr hu.vk hu.vs) 31, rowS 2 72 v (r.length) (clFlat r), rowS 2 69 x2 (ss.length) (bpFlat (ss.map HB.bp)), bigR (brsR tys ss), boxR b cs ty] w := hs.less (by simp)
          have h2 := h1.boxRowT (sz := 6) (n := ks.length) (a := u2) (xs := tpFlat ((ks.set m h9).map HT.tp)) hav9 (by rw [setAt_len (by show 0 + m * 6 + 6 ≤ _; rw [hcl]; have := Nat.mul_le_mul_right 6 (show m + 1 ≤ u2.2 by omega); omega)]; exact hcl) hcn hcm (by rw [List.map_set]; exact set_in_row (F := tpCells) (fun _ => rfl) h9.tp hcx (by simp) (by simpa using hml) (by rw [hcl]; exact Nat.mul_le_mul_right 6 hcn))
          have h3 := (((((((((h2.perm perm7).perm perm7).perm perm7).perm perm7).perm perm7).perm perm5).perm perm7).perm perm7)).putK hml
          have h4 := ((((((((h3.perm perm6).perm perm3).perm perm6).perm perm3).perm perm6).perm perm5).perm perm6)).joinT (y := tys) (k := k) (n := n) (nm := nm) (ks := ks.set m h9) (ss := ss) rfl (by simp) rfl rfl rfl rfl
          show St B [] [boxR b (setAt cs o (tc (HT.mk k n nm r v (ks.set m h9) u2 ss x2).er v u2 x2)) ty, bigR (treeR tys (HT.mk k n nm r v (ks.set m h9) u2 ss x2))] w
          rw [hsame _ _ (by simp) rfl]
          exact ((h4.perm perm2).dropR (A := [_, _]))
      · have c30 : (decide ((p.getD 0 0) < (ks.length : Int))) = false := h30
        try simp only [decide_eq_true_eq, decide_eq_false_iff_not, Bool.and_eq_true, Bool.or_eq_true, Bool.not_eq_true', Bool.and_eq_false_iff, Bool.or_eq_false_iff, Bool.not_eq_false', bne_iff_ne, beq_iff_eq, ne_eq, not_and, Decidable.not_not, Bool.true_and, Bool.and_true, Bool.false_or, Bool.or_false] at c30
        have hmi := hU1 _ (getD_mem (d := 0) (show 0 < p.length by omega))
        unfold in64 at hmi
        obtain ⟨m, hm⟩ : ∃ m : Nat, p.getD 0 0 = (m : Int) := ⟨(p.getD 0 0).toNat, by omega⟩
        rw [hm]
        rw [hm] at hmi
        have hml : ks.length ≤ m := by omega
        refine go_skip ?_
        refine go_seq ?_
        refine go_region ⟨_, Try.func64⟩ rfl ?_
        refine q0 rfl (o_move ?_)
        refine q0 rfl (o_move ?_)
        refine q0 rfl (o_nilC ?_)
        refine q0 rfl (o_fa ?_)
        refine q0 rfl (o_ld ?_ (hk := hc4))
        refine q0 rfl (o_len ?_)
        refine q0 rfl (o_sub ?_)
        refine q0 rfl (o_assign ?_)
        refine rg_nil ?_
        refine go_seq ?_
        refine go_seq ?_
        refine go_region ⟨_, Try.func64⟩ rfl ?_
        refine q0 rfl (o_move ?_)
        refine q0 rfl (o_nilC ?_)
        refine q0 rfl (o_fa ?_)
        refine q0 rfl (o_ld ?_ (hk := hc5))
        refine q0 rfl (o_len ?_)
        refine q0 rfl (o_move ?_)
        refine rg_nil ?_
        refine go_block ?_
        refine go_loopE (X := Nat × Nat) (fun s_ => s_.1 ≤ ss.length ∧ ks.length + sysBefore s_.1 (ss.map HB.er) + s_.2 = m) (fun s_ => [(0, .pointer (some ⟨b, o, none⟩)), (5, .pointer (some ⟨b5, 0, none⟩)), (7, .int .i64 ((s_.2 : Int))), (8, sl (dropSH a_p 1 1) (p.length - 1)), (51, .int .i64 ((ss.length : Int))), (52, .int .i64 ((s_.1 : Int)))]) (fun s_ G_ => G_) (fun s_ => [boxR b5 (tc hu.er hu.vr hu.vk hu.vs) 31, rowS 2 72 v (r.length) (clFlat r), rowS 6 31 u2 (ks.length) (tpFlat (ks.map HT.tp)), rowS 2 69 x2 (ss.length) (bpFlat (ss.map HB.bp)), bigR (kidsR tys ks), bigR (brsR tys ss), boxR b cs ty, bigR (treeR tys hu)]) (fun s_ => ss.length - s_.1) (0, m - ks.length) (⟨by omega, by simp only [sysBefore]; omega⟩) (by exact ⟨rfl, rfl, (by (conv => lhs; whnf); congr 1; omega), rfl, rfl, rfl, trivial⟩) ?_ ?_
        · exact fun w hs => hs
        · intro ⟨s, kk⟩ base0 ⟨hs1, hkm⟩ next0
          dsimp only at  hs1  hkm  next0 ⊢
          refine go_seq ?_
          refine go_region ⟨_, Try.func64⟩ rfl ?_
          refine q0 rfl (o_lss ?_)
          refine rg_nil ?_
          refine go_seq ?_
          refine go_condI (fun h53 => ?_) (fun h53 => ?_)
          · have c53 : (decide ((s : Int) < (ss.length : Int))) = true := h53
            try simp only [decide_eq_true_eq, decide_eq_false_iff_not, Bool.and_eq_true, Bool.or_eq_true, Bool.not_eq_true', Bool.and_eq_false_iff, Bool.or_eq_false_iff, Bool.not_eq_false', bne_iff_ne, beq_iff_eq, ne_eq, not_and, Decidable.not_not, Bool.true_and, Bool.and_true, Bool.false_or, Bool.or_false] at c53
            refine go_skip ?_
            refine go_seq ?_
            refine go_block ?_
            refine go_seq ?_
            refine go_region ⟨_, Try.func64⟩ rfl ?_
            refine q0 rfl (o_move ?_)
            refine q0 rfl (o_assign ?_)
            refine rg_nil ?_
            refine go_seq ?_
            refine go_seq ?_
            obtain ⟨f3, vf3, ks3, vk3, hbe⟩ : ∃ f vf ks2 vk2, ss.getD s hb0 = .mk f vf ks2 vk2 := by cases ss.getD s hb0; exact ⟨_, _, _, _, rfl⟩
            have hb2' : (ss.map HB.bp).getD s bp0 = (Br.mk f3 (HT.erL ks3), vf3, vk3) := by rw [getD_map (d := hb0) (by omega), hbe]; rfl
            have hkl2 : (HT.erL ks3).length = ks3.length := by rw [HT.erL_eq, List.length_map]
            have hc1 : (bpCells ((ss.map HB.bp).getD s bp0))[1]? = some (sl vk3 ks3.length) := by rw [hb2', ← hkl2]; rfl
            have hbr : (ss.map HB.er).getD s br0 = .mk f3 (ks3.map HT.er) := by rw [getD_map (d := hb0) (by omega), er_face hbe]
            have hsb : sysBefore (s + 1) (ss.map HB.er) = sysBefore s (ss.map HB.er) + ks3.length := by rw [sysBefore_succ s _ (by simp; omega), hbr]; simp [Br.kids]
            refine go_know (fun w hs => hs.rowAddr (sz := 2) (e := 69) (a := x2) (n := ss.length) (xs := bpFlat (ss.map HB.bp)) (by repeat (first | exact List.mem_cons_self | apply List.mem_cons_of_mem)) (by omega)) (fun hav3 => ?_)
            obtain ⟨bk3, hav3⟩ := hav3
            refine go_region ⟨_, Try.func64⟩ rfl ?_
            refine q0 rfl (o_move ?_)
            refine q0 rfl (o_nilC ?_)
            refine q0 rfl (o_fa ?_)
            refine q0 rfl (o_ld ?_ (hk := hc5))
            refine q0 rfl (o_move ?_)
            refine q0 rfl (o_ixN ?_ (j := s))
            refine q0 rfl (o_fa ?_)
            refine q0 rfl (o_ldRBf ?_ (hk := hc1))
            refine q0 rfl (o_assign ?_)
            refine rg_nil ?_
            refine go_seq ?_
            refine go_region ⟨_, Try.func64⟩ rfl ?_
            refine q0 rfl (o_move ?_)
            refine q0 rfl (o_move ?_)
            refine q0 rfl (o_len ?_)
            refine q0 rfl (o_lss ?_)
            refine rg_nil ?_
            refine go_condI (fun h66 => ?_) (fun h66 => ?_)
            · have c66 : (decide ((kk : Int) < (ks3.length : Int))) = true := h66
              try simp only [decide_eq_true_eq, decide_eq_false_iff_not, Bool.and_eq_true, Bool.or_eq_true, Bool.not_eq_true', Bool.and_eq_false_iff, Bool.or_eq_false_iff, Bool.not_eq_false', bne_iff_ne, beq_iff_eq, ne_eq, not_and, Decidable.not_not, Bool.true_and, Bool.and_true, Bool.false_or, Bool.or_false] at c66
              refine go_state (fun w hs => (((((((((hs.perm perm7).perm perm7).perm perm6).perm perm6).perm perm6).perm perm6).perm perm6).perm perm7).takeB (by omega) hbe)) ?_
              have hkl : kk < ks3.length := by omega
              refine go_state (fun w hs => ((((((((((((hs.perm perm10).perm perm10).perm perm10).perm perm10).perm perm10).perm perm10).perm perm10).perm perm10).perm perm9).perm perm9).perm perm10).takeK (k := kk) hkl)) ?_
              refine go_rowBox (m := ks3.length) (xs := tpFlat (ks3.map HT.tp)) (a := vk3) (by omega) perm3 (fun g cur hav9 hcx hcl hcn hcm => ?_)
              refine go_state (fun w hs => hs.dropIL (l := p) (a := a_p) 1 (by repeat (first | exact List.mem_cons_self | apply List.mem_cons_of_mem)) (by omega)) ?_
              have hih := ihs _ (getD_mem (d := hb0) (show s < ss.length by omega)) _ (show ks3.getD kk h0 ∈ (ss.getD s hb0).kids by rw [hbe]; exact getD_mem hkl) (p.drop 1) (dropSH a_p 1 1) hu g (0 + kk * 6) cur 31 (by rw [take_in_row (F := tpCells) (fun _ => rfl) tp0 hcx (by simp) (by simpa using hkl), getD_map (d := h0) hkl]; rfl)
              rw [show (p.drop 1).length = p.length - 1 by simp] at hih
              refine go_state (fun w hs => ((((((((((((hs.perm perm10).perm perm10).perm perm10).perm perm10).perm perm10).perm perm10).perm perm10).perm perm10).perm perm10).perm perm11).perm perm11).perm perm11)) ?_
              refine go_seq ?_
              refine go_draw (tn := false) (A := [0, 0, 3, 0, 0, 31, 63]) (l := [0, 1, 2, 3, 4]) (fin := [5, 6]) Tab.mixed ⟨_, Try.func64⟩ (by rfl) ?_
              refine n0 rfl (v_move ?_)
              refine n0 rfl (v_move ?_)
              refine n0 rfl (v_ixN ?_ (j := kk))
              refine n0 rfl (v_move ?_)
              refine n0 rfl (v_lds ?_)
              refine NV.done ?_
              refine q0 rfl (o_call Try.call64 (hih) (fun x72 => ?_))
              refine q0 rfl (o_assign ?_)
              refine rg_nil ?_
              -- leaf 3: .bool (x72.1.isSome)
              have hinv : m = ks.length + sysBefore s (ss.map HB.er) + kk := by omega
              obtain ⟨y9, hy9⟩ := x72
              cases y9 with
              | none => refine ret1 Try.func64 Try.results64 (by first | ((conv => lhs; whnf); done) | rfl) ⟨none, by rw [setP_at (by omega) (m := ks.length + sysBefore s (ss.map HB.er) + kk) (by rw [hm, hinv]) (hps s kk f3 vf3 ks3 vk3 (by omega) hbe hkl)]; simp only at hy9 ⊢; rw [← hy9]; rfl⟩ rfl (fun w hs => hs.none)
              | some h9 =>
                refine ret1 Try.func64 Try.results64 (by first | ((conv => lhs; whnf); done) | rfl) ⟨some (HT.mk k n nm r v ks u2 (ss.set s (HB.mk f3 vf3 (ks3.set kk h9) vk3)) x2), by rw [setP_at (by omega) (m := ks.length + sysBefore s (ss.map HB.er) + kk) (by rw [hm, hinv]) (hps s kk f3 vf3 ks3 vk3 (by omega) hbe hkl)]; simp only at hy9 ⊢; rw [← hy9]; simp only [Option.map_some]; rw [put_sys (by omega) hbe hkl]⟩ rfl (fun w hs => ?_)
                have h1 : St B [] [boxR g (setAt cur (0 + kk * 6) (tc h9.er h9.vr h9.vk h9.vs)) 31, bigR (treeR tys h9), bigR (kidsR tys (ks3.take kk) ++ kidsR tys (ks3.drop (kk + 1))), rowS 2 72 vf3 (f3.length) (clFlat f3), bigR (brsR tys (ss.take s) ++ brsR tys (ss.drop (s + 1))), boxR b5 (tc hu.er hu.vr hu.vk hu.vs) 31, rowS 2 72 v (r.length) (clFlat r), rowS 6 31 u2 (ks.length) (tpFlat (ks.map HT.tp)), rowS 2 69 x2 (ss.length) (bpFlat (ss.map HB.bp)), bigR (kidsR tys ks), boxR b cs ty] w := hs.less (by simp)
                have h2 := h1.boxRowT (sz := 6) (n := ks3.length) (a := vk3) (xs := tpFlat ((ks3.set kk h9).map HT.tp)) hav9 (by rw [setAt_len (by show 0 + kk * 6 + 6 ≤ _; rw [hcl]; have := Nat.mul_le_mul_right 6 (show kk + 1 ≤ vk3.2 by omega); omega)]; exact hcl) hcn hcm (by rw [List.map_set]; exact set_in_row (F := tpCells) (fun _ => rfl) h9.tp hcx (by simp) (by simpa using hkl) (by rw [hcl]; exact Nat.mul_le_mul_right 6 hcn))
                rw [show ks3.length = (ks3.set kk h9).length by simp] at h2
                have h3 := ((((((((((((h2.perm perm10).perm perm10).perm perm10).perm perm10).perm perm10).perm perm10).perm perm10).perm perm10).perm perm8).perm perm10).perm perm10)).putK hkl
                have h5 := (((((((((((h3.perm perm9).perm perm9).perm perm9).perm perm9).perm perm9).perm perm9).perm perm9).perm perm7).perm perm8).perm perm9)).putB (y := tys) (ss := ss) (s := s) (f := f3) (v := vf3) (u := vk3) (ks := ks3.set kk h9) (show s < ss.length by omega)
                have h4 := ((((((((h5.perm perm6).perm perm2).perm perm2).perm perm6).perm perm6).perm perm6).perm perm6)).joinT (y := tys) (k := k) (n := n) (nm := nm) (ks := ks) (ss := ss.set s (HB.mk f3 vf3 (ks3.set kk h9) vk3)) rfl rfl (by simp) rfl rfl (by rw [List.map_set]; exact (flat_set_same bp0 _ s _ (by simp; omega) (by rw [hb2']; simp [bpCells, bc, HB.bp, HB.er, HT.erL_eq, Br.face, Br.kids, HB.vf, HB.vk])).symm)
                show St B [] [boxR b (setAt cs o (tc (HT.mk k n nm r v ks u2 (ss.set s (HB.mk f3 vf3 (ks3.set kk h9) vk3)) x2).er v u2 x2)) ty, bigR (treeR tys (HT.mk k n nm r v ks u2 (ss.set s (HB.mk f3 vf3 (ks3.set kk h9) vk3)) x2))] w
                rw [hsame _ _ rfl (by simp)]
                exact ((h4.perm perm2).dropR (A := [_, _]))
            · have c66 : (decide ((kk : Int) < (ks3.length : Int))) = false := h66
              try simp only [decide_eq_true_eq, decide_eq_false_iff_not, Bool.and_eq_true, Bool.or_eq_true, Bool.not_eq_true', Bool.and_eq_false_iff, Bool.or_eq_false_iff, Bool.not_eq_false', bne_iff_ne, beq_iff_eq, ne_eq, not_and, Decidable.not_not, Bool.true_and, Bool.and_true, Bool.false_or, Bool.or_false] at c66
              refine go_skip ?_
              refine go_region ⟨_, Try.func64⟩ rfl ?_
              refine q0 rfl (o_move ?_)
              refine q0 rfl (o_move ?_)
              refine q0 rfl (o_nilC ?_)
              refine q0 rfl (o_fa ?_)
              refine q0 rfl (o_ld ?_ (hk := hc5))
              refine q0 rfl (o_move ?_)
              refine q0 rfl (o_ixN ?_ (j := s))
              refine q0 rfl (o_fa ?_)
              refine q0 rfl (o_ldRBf ?_ (hk := hc1))
              refine q0 rfl (o_len ?_)
              refine q0 rfl (o_sub ?_)
              refine q0 rfl (o_assign ?_)
              refine rg_nil ?_
              refine go_inBlock ?_
              refine go_region ⟨_, Try.func64⟩ rfl ?_
              refine q0 rfl (o_add ?_)
              refine q0 rfl (o_move ?_)
              refine rg_nil ?_
              refine go_state (fun w hs => ?_) (next0 (s + 1, kk - ks3.length) _ (⟨by omega, by rw [hsb]; omega⟩) (by (try simp only); omega) ⟨rfl, rfl, (by (conv => lhs; whnf); congr 1; omega), rfl, rfl, rfl, trivial⟩)
              exact (((((((((hs.less (by simp +contextual)).perm perm7).perm perm7).perm perm7).perm perm7).perm perm7).perm perm7).perm perm7).perm perm7)
          · have c53 : (decide ((s : Int) < (ss.length : Int))) = false := h53
            try simp only [decide_eq_true_eq, decide_eq_false_iff_not, Bool.and_eq_true, Bool.or_eq_true, Bool.not_eq_true', Bool.and_eq_false_iff, Bool.or_eq_false_iff, Bool.not_eq_false', bne_iff_ne, beq_iff_eq, ne_eq, not_and, Decidable.not_not, Bool.true_and, Bool.and_true, Bool.false_or, Bool.or_false] at c53
            refine go_exit rfl ?_
            refine go_seq ?_
            refine go_region ⟨_, Try.func64⟩ rfl ?_
            refine q0 rfl (o_assign ?_)
            refine rg_nil ?_
            -- leaf 4: .bool (false)
            refine ret1 Try.func64 Try.results64 (by first | ((conv => lhs; whnf); done) | rfl) ⟨none, by rw [setP_miss (by omega) (.inr (by rw [hm, hplen]; have he : s = ss.length := (by omega); rw [← he]; omega))]; rfl⟩ rfl (fun w hs => hs.none)
theorem putO : ∀ h : HT, PutO h := HT.indA fun k n nm r v ks u2 ss x2 ih ihs p a_p hu b o cs ty hc => put_walk b o cs ty k n nm r v ks u2 ss x2 p a_p hu ih ihs hc
end Go.Hy
namespace Go.Hy
set_option linter.unusedVariables false
set_option linter.unusedSimpArgs false
set_option linter.unusedSectionVars false
open Go.Proofs
set_option linter.unusedVariables false
set_option linter.unusedSimpArgs false
set_option maxRecDepth 100000
theorem putP_walk (t : T) (vr_t vk_t vs_t : SH) (p : List Int) (a_p : SH) (u : T) (vr_u vk_u vs_u : SH) (hz : size t ≤ 400000000) (hzu : size u ≤ 400000000) : Spec Try.prog 39 #[.agg (tc t vr_t vk_t vs_t).toArray, sl a_p (p.length), .agg (tc u vr_u vk_u vs_u).toArray] [RT t vr_t vk_t vs_t, IL p a_p, RT u vr_u vk_u vs_u] [] (fun x : SH × SH × SH => .tuple #[.agg (tc (putRes t p u).2 x.1 x.2.1 x.2.2).toArray, .int .i64 (putRes t p u).1]) (fun x : SH × SH × SH => [RT (putRes t p u).2 x.1 x.2.1 x.2.2]) (fun x : SH × SH × SH => []) := by
  refine spec_go (args := [.agg (tc t vr_t vk_t vs_t).toArray, sl a_p (p.length), .agg (tc u vr_u vk_u vs_u).toArray]) Try.func39 Try.ntmps39 rfl (by exact Nat.le_of_ble_eq_true rfl) fun B hB => ?_
  refine go_open (t := t) (vr := vr_t) (vk := vk_t) (vs := vs_t) (fun hk1 hn1 hm1 => ?_)
  refine go_openCL (l := (t).r) (a := vr_t) (fun hl2 hA2 hU2 => ?_)
  refine go_openTL (ts := (t).kids) (a := vk_t) (fun VR3 VK3 VS3 hl3 hA3 => ?_)
  refine go_openBL (bs := (t).sys) (a := vs_t) (fun VF4 VK4 hl4 hA4 => ?_)
  refine go_openIL (l := p) (a := a_p) (fun hl5 hA5 hU5 => ?_)
  refine go_open (t := u) (vr := vr_u) (vk := vk_u) (vs := vs_u) (fun hk6 hn6 hm6 => ?_)
  refine go_openCL (l := (u).r) (a := vr_u) (fun hl7 hA7 hU7 => ?_)
  refine go_openTL (ts := (u).kids) (a := vk_u) (fun VR8 VK8 VS8 hl8 hA8 => ?_)
  refine go_openBL (bs := (u).sys) (a := vs_u) (fun VF9 VK9 hl9 hA9 => ?_)
  refine go_know (p := okT t) (fun w hs => ok_of (hs.facts (RT t vr_t vk_t vs_t) (by simp))) (fun hokt => ?_)
  refine go_know (p := okT u) (fun w hs => ok_of (hs.facts (RT u vr_u vk_u vs_u) (by simp))) (fun hoku => ?_)
  refine go_seq ?_
  refine go_region ⟨_, Try.func39⟩ rfl ?_
  refine q0 rfl (o_box fun b3 => ?_)
  refine q0 rfl (o_box fun b5 => ?_)
  refine q0 rfl (o_new fun b6 => ?_)
  refine q0 rfl (o_assign ?_)
  refine rg_nil ?_
  refine go_seq ?_
  refine go_seq ?_
  refine go_region ⟨_, Try.func39⟩ rfl ?_
  refine q0 rfl (o_lds ?_)
  refine q0 rfl (o_lds ?_)
  refine q0 rfl (o_lit2 fun b15 => ?_)
  refine q0 rfl (o_len ?_)
  refine q0 rfl (o_move ?_)
  refine rg_nil ?_
  refine go_state (fun w hs => (((((hs.perm perm3).perm perm3).perm perm3).perm perm3).lit2T (t := t) (vr := vr_t) (vk := vk_t) (vs := vs_t) (u := u) (ur := vr_u) (uk := vk_u) (us := vs_u) hB (by simp) (by simp) rfl)) ?_
  refine go_openTL (ts := [t, u]) (a := (some ⟨b15, 0, none⟩, 2)) (fun VR10 VK10 VS10 hl10 hA10 => ?_)
  refine go_block ?_
  refine go_loopE (X := Nat) (fun s_ => s_ ≤ 2 ∧ ∀ j, j < s_ → formedP ([t, u].getD j t0) = 0) (fun s_ => [(1, sl a_p (p.length)), (3, .pointer (some ⟨b3, 0, none⟩)), (5, .pointer (some ⟨b5, 0, none⟩)), (6, .pointer (some ⟨b6, 0, none⟩)), (15, sl (some ⟨b15, 0, none⟩, 2) (2)), (16, .int .i64 ((2 : Int))), (17, .int .i64 ((s_ : Int)))]) (fun s_ G_ => G_) (fun s_ => [boxR b6 [.int .i64 (0), .int .i64 (0), .string ((ByteArray.mk #[])), sl (none, 0) (0), sl (none, 0) (0), sl (none, 0) (0)] 31, boxR b5 (tc u vr_u vk_u vs_u) 31, boxR b3 (tc t vr_t vk_t vs_t) 31]) (fun s_ => 2 - s_) (0) (⟨by omega, fun j hj => by omega⟩) (by exact ⟨rfl, rfl, rfl, rfl, rfl, rfl, rfl, trivial⟩) ?_ ?_
  · exact fun w hs => hs
  · intro i base0 ⟨hi, hok⟩ next0
    refine go_seq ?_
    refine go_region ⟨_, Try.func39⟩ rfl ?_
    refine q0 rfl (o_lss ?_)
    refine rg_nil ?_
    refine go_seq ?_
    refine go_condI (fun h18 => ?_) (fun h18 => ?_)
    · have c18 : (decide ((i : Int) < (2 : Int))) = true := h18
      try simp only [decide_eq_true_eq, decide_eq_false_iff_not, Bool.and_eq_true, Bool.or_eq_true, Bool.not_eq_true', Bool.and_eq_false_iff, Bool.or_eq_false_iff, Bool.not_eq_false', bne_iff_ne, beq_iff_eq, ne_eq, not_and, Decidable.not_not, Bool.true_and, Bool.and_true, Bool.false_or, Bool.or_false] at c18
      have hsz : size ([t, u].getD i t0) ≤ 400000000 := by rcases (show i = 0 ∨ i = 1 by omega) with h | h <;> subst h <;> simpa
      have hdz := depth_le_size ([t, u].getD i t0)
      refine go_skip ?_
      refine go_seq ?_
      refine go_block ?_
      refine go_seq ?_
      refine go_kid (ts := [t, u]) (a := (some ⟨b15, 0, none⟩, 2)) (VR := VR10) (VK := VK10) (VS := VS10) i (by (first | omega | (simp only [List.length_cons, List.length_nil]; omega))) ?_
      refine go_region ⟨_, Try.func39⟩ rfl ?_
      obtain ⟨bk11, o11, hav11⟩ := hA10 (by (first | omega | (simp only [List.length_cons, List.length_nil]; omega)))
      refine q0 rfl (o_ixN ?_ (j := i))
      refine q0 rfl (o_ldT ?_ (hlt := by simp only [List.length_cons, List.length_nil]; omega))
      refine q0 rfl (o_new fun b9 => ?_)
      refine q0 rfl (o_st ?_)
      refine rg_nil ?_
      refine go_seq ?_
      refine go_region ⟨_, Try.func39⟩ rfl ?_
      refine q0 rfl (o_lds ?_)
      refine q0 rfl (o_call Try.call30 (formed_spec (([t, u]).getD i t0) (.inr form_spec) (VR10 i) (VK10 i) (VS10 i) (by first | assumption | omega | (unfold in64 at *; omega) | (unfold reach at *; omega) | (simp_all; done))) (fun x22 => ?_))
      refine q0 rfl (o_assign ?_)
      refine rg_nil ?_
      refine go_seq ?_
      refine go_region ⟨_, Try.func39⟩ rfl ?_
      refine q0 rfl (o_move ?_)
      refine q0 rfl (o_neI ?_)
      refine rg_nil ?_
      refine go_condI (fun h24 => ?_) (fun h24 => ?_)
      · have c24 : (decide ((formedP (([t, u]).getD i t0)) ≠ 0)) = true := h24
        try simp only [decide_eq_true_eq, decide_eq_false_iff_not, Bool.and_eq_true, Bool.or_eq_true, Bool.not_eq_true', Bool.and_eq_false_iff, Bool.or_eq_false_iff, Bool.not_eq_false', bne_iff_ne, beq_iff_eq, ne_eq, not_and, Decidable.not_not, Bool.true_and, Bool.and_true, Bool.false_or, Bool.or_false] at c24
        have hgr : putRes t p u = (formedP ([t, u].getD i t0), t0) := by rcases (show i = 0 ∨ i = 1 by omega) with h | h; subst h; rw [putRes, if_pos (by simpa using h24)]; rfl; subst h; rw [putRes, if_neg (by have := hok 0 (by omega); simpa using this), if_pos (by simpa using h24)]; rfl
        refine go_seq ?_
        refine go_region ⟨_, Try.func39⟩ rfl ?_
        refine q0 rfl (o_build (cs := [.int .i64 (0), .int .i64 (0), .string ((ByteArray.mk #[])), sl (none, 0) (0), sl (none, 0) (0), sl (none, 0) (0)]) ?_)
        refine q0 rfl (o_move ?_)
        refine q0 rfl (o_st ?_)
        refine q0 rfl (o_assign ?_)
        refine rg_nil ?_
        -- leaf 0: .pointer (some ⟨b6, 0, none⟩); .int .i64 ((formedP (([t, u]).getD i t0)))
        refine retCT Try.func39 Try.results39 ((none, 0), (none, 0), (none, 0)) rfl (by first | ((repeat (first | exact List.mem_cons_self | apply List.mem_cons_of_mem)); done) | (simp only [List.nil_append, List.cons_append]; (repeat (first | exact List.mem_cons_self | apply List.mem_cons_of_mem)))) rfl rfl rfl rfl (by rw [hgr]; rfl) (fun w hs => by rw [hgr]; exact hs.bare.zeroRT.less (by simp))
      · have c24 : (decide ((formedP (([t, u]).getD i t0)) ≠ 0)) = false := h24
        try simp only [decide_eq_true_eq, decide_eq_false_iff_not, Bool.and_eq_true, Bool.or_eq_true, Bool.not_eq_true', Bool.and_eq_false_iff, Bool.or_eq_false_iff, Bool.not_eq_false', bne_iff_ne, beq_iff_eq, ne_eq, not_and, Decidable.not_not, Bool.true_and, Bool.and_true, Bool.false_or, Bool.or_false] at c24
        refine go_skip ?_
        refine go_inBlock ?_
        refine go_region ⟨_, Try.func39⟩ rfl ?_
        refine q0 rfl (o_add ?_)
        refine q0 rfl (o_move ?_)
        refine rg_nil ?_
        refine go_state (fun w hs => ?_) (next0 (i + 1) _ (⟨by omega, fun j hj => by rcases Nat.lt_succ_iff_lt_or_eq.mp hj with h | h; exact hok j h; subst h; simpa using h24⟩) (by omega) ⟨rfl, rfl, rfl, rfl, rfl, rfl, rfl, trivial⟩)
        exact (((((hs.less (by simp +contextual)).perm perm3).perm perm3).perm perm3).dropR (A := [_, _, _]))
    · have c18 : (decide ((i : Int) < (2 : Int))) = false := h18
      try simp only [decide_eq_true_eq, decide_eq_false_iff_not, Bool.and_eq_true, Bool.or_eq_true, Bool.not_eq_true', Bool.and_eq_false_iff, Bool.or_eq_false_iff, Bool.not_eq_false', bne_iff_ne, beq_iff_eq, ne_eq, not_and, Decidable.not_not, Bool.true_and, Bool.and_true, Bool.false_or, Bool.or_false] at c18
      have hf0 : formedP t = 0 := hok 0 (by omega)
      have hf1 : formedP u = 0 := hok 1 (by omega)
      refine go_exit rfl ?_
      refine go_seq ?_
      refine go_region ⟨_, Try.func39⟩ rfl ?_
      refine q0 rfl (o_lds ?_)
      refine q0 rfl (o_call Try.call20 (copyO t vr_t vk_t vs_t) (fun x29 => ?_))
      refine q0 rfl (o_new fun b11 => ?_)
      refine q0 rfl (o_st ?_)
      refine rg_nil ?_
      refine go_seq ?_
      refine go_seq ?_
      refine go_region ⟨_, Try.func39⟩ rfl ?_
      refine q0 rfl (o_move ?_)
      refine q0 rfl (o_lds ?_)
      refine q0 rfl (o_call Try.call20 (copyO u vr_u vk_u vs_u) (fun x32 => ?_))
      have hput := putO x29.1 p a_p x32.1 b11 0 (tc t x29.1.vr x29.1.vk x29.1.vs) 31 (by rw [x29.2]; rfl)
      rw [x29.2, x32.2] at hput
      refine rg_state (fun w hs => ((((((hs.perm perm5).perm perm5).perm perm5).perm perm3).perm perm5).perm perm5)) ?_
      refine q0 rfl (o_call Try.call64 (hput) (fun x33 => ?_))
      refine q0 rfl (o_not ?_)
      refine rg_nil ?_
      refine go_condI (fun h34 => ?_) (fun h34 => ?_)
      · have c34 : (!x33.1.isSome) = true := h34
        try simp only [decide_eq_true_eq, decide_eq_false_iff_not, Bool.and_eq_true, Bool.or_eq_true, Bool.not_eq_true', Bool.and_eq_false_iff, Bool.or_eq_false_iff, Bool.not_eq_false', bne_iff_ne, beq_iff_eq, ne_eq, not_and, Decidable.not_not, Bool.true_and, Bool.and_true, Bool.false_or, Bool.or_false] at c34
        have hn9 : x33.1 = none := by simpa using h34
        have hx9 : setP t p u = none := by have h8 := x33.2; rw [hn9] at h8; exact h8.symm
        have hgr : putRes t p u = (90, t0) := by rw [putRes, if_neg (by simp [hf0]), if_neg (by simp [hf1]), hx9]
        refine go_ms (Ms' := [boxR b6 [.int .i64 (0), .int .i64 (0), .string ((ByteArray.mk #[])), sl (none, 0) (0), sl (none, 0) (0), sl (none, 0) (0)] 31, boxR b5 (tc u vr_u vk_u vs_u) 31, boxR b3 (tc t vr_t vk_t vs_t) 31]) (by rw [hn9]; rfl) ?_
        refine go_seq ?_
        refine go_region ⟨_, Try.func39⟩ rfl ?_
        refine q0 rfl (o_build (cs := [.int .i64 (0), .int .i64 (0), .string ((ByteArray.mk #[])), sl (none, 0) (0), sl (none, 0) (0), sl (none, 0) (0)]) ?_)
        refine q0 rfl (o_st ?_)
        refine q0 rfl (o_assign ?_)
        refine rg_nil ?_
        -- leaf 1: .pointer (some ⟨b6, 0, none⟩); .int .i64 (90)
        refine retCT Try.func39 Try.results39 ((none, 0), (none, 0), (none, 0)) rfl (by first | ((repeat (first | exact List.mem_cons_self | apply List.mem_cons_of_mem)); done) | (simp only [List.nil_append, List.cons_append]; (repeat (first | exact List.mem_cons_self | apply List.mem_cons_of_mem)))) rfl rfl rfl rfl (by rw [hgr]; rfl) (fun w hs => by rw [hgr]; exact hs.bare.zeroRT.less (by simp))
      · have c34 : (!x33.1.isSome) = false := h34
        try simp only [decide_eq_true_eq, decide_eq_false_iff_not, Bool.and_eq_true, Bool.or_eq_true, Bool.not_eq_true', Bool.and_eq_false_iff, Bool.or_eq_false_iff, Bool.not_eq_false', bne_iff_ne, beq_iff_eq, ne_eq, not_and, Decidable.not_not, Bool.true_and, Bool.and_true, Bool.false_or, Bool.or_false] at c34
        obtain ⟨h9, hh9⟩ : ∃ h9, x33.1 = some h9 := Option.isSome_iff_exists.mp (by simpa using h34)
        have hx9 : setP t p u = some h9.er := by have h8 := x33.2; rw [hh9] at h8; exact h8.symm
        refine go_ms (Ms' := [boxR b11 (tc h9.er h9.vr h9.vk h9.vs) 31, bigR (treeR tys h9), boxR b6 [.int .i64 (0), .int .i64 (0), .string ((ByteArray.mk #[])), sl (none, 0) (0), sl (none, 0) (0), sl (none, 0) (0)] 31, boxR b5 (tc u vr_u vk_u vs_u) 31, boxR b3 (tc t vr_t vk_t vs_t) 31]) (by rw [hh9]; rfl) ?_
        refine go_state (fun w hs => St.settleT tys hB h9 (okT_setP p hokt hoku hx9) (((((((hs.perm perm4).perm perm4).perm perm4).perm perm3).perm perm4)).unpack)) ?_
        obtain ⟨s9, _, hs9⟩ := size_setP p hx9
        have hd9 := depth_le_size h9.er
        refine go_skip ?_
        refine go_seq ?_
        refine go_seq ?_
        refine go_region ⟨_, Try.func39⟩ rfl ?_
        refine q0 rfl (o_lds ?_)
        refine q0 rfl (o_call Try.call30 (formed_spec h9.er (.inr form_spec) h9.vr h9.vk h9.vs (by first | assumption | omega | (unfold in64 at *; omega) | (unfold reach at *; omega) | (simp_all; done))) (fun x37 => ?_))
        refine q0 rfl (o_assign ?_)
        refine rg_nil ?_
        refine go_seq ?_
        refine go_region ⟨_, Try.func39⟩ rfl ?_
        refine q0 rfl (o_move ?_)
        refine q0 rfl (o_neI ?_)
        refine rg_nil ?_
        refine go_condI (fun h39 => ?_) (fun h39 => ?_)
        · have c39 : (decide ((formedP h9.er) ≠ 0)) = true := h39
          try simp only [decide_eq_true_eq, decide_eq_false_iff_not, Bool.and_eq_true, Bool.or_eq_true, Bool.not_eq_true', Bool.and_eq_false_iff, Bool.or_eq_false_iff, Bool.not_eq_false', bne_iff_ne, beq_iff_eq, ne_eq, not_and, Decidable.not_not, Bool.true_and, Bool.and_true, Bool.false_or, Bool.or_false] at c39
          have hgr : putRes t p u = (formedP h9.er, t0) := by rw [putRes, if_neg (by simp [hf0]), if_neg (by simp [hf1]), hx9]; exact if_pos (by simpa using h39)
          refine go_seq ?_
          refine go_region ⟨_, Try.func39⟩ rfl ?_
          refine q0 rfl (o_build (cs := [.int .i64 (0), .int .i64 (0), .string ((ByteArray.mk #[])), sl (none, 0) (0), sl (none, 0) (0), sl (none, 0) (0)]) ?_)
          refine q0 rfl (o_move ?_)
          refine q0 rfl (o_st ?_)
          refine q0 rfl (o_assign ?_)
          refine rg_nil ?_
          -- leaf 2: .pointer (some ⟨b6, 0, none⟩); .int .i64 ((formedP h9.er))
          refine retCT Try.func39 Try.results39 ((none, 0), (none, 0), (none, 0)) rfl (by first | ((repeat (first | exact List.mem_cons_self | apply List.mem_cons_of_mem)); done) | (simp only [List.nil_append, List.cons_append]; (repeat (first | exact List.mem_cons_self | apply List.mem_cons_of_mem)))) rfl rfl rfl rfl (by rw [hgr]; rfl) (fun w hs => by rw [hgr]; exact hs.bare.zeroRT.less (by simp))
        · have c39 : (decide ((formedP h9.er) ≠ 0)) = false := h39
          try simp only [decide_eq_true_eq, decide_eq_false_iff_not, Bool.and_eq_true, Bool.or_eq_true, Bool.not_eq_true', Bool.and_eq_false_iff, Bool.or_eq_false_iff, Bool.not_eq_false', bne_iff_ne, beq_iff_eq, ne_eq, not_and, Decidable.not_not, Bool.true_and, Bool.and_true, Bool.false_or, Bool.or_false] at c39
          have hgr : putRes t p u = (0, h9.er) := by rw [putRes, if_neg (by simp [hf0]), if_neg (by simp [hf1]), hx9]; exact if_neg (by simpa using h39)
          refine go_skip ?_
          refine go_seq ?_
          refine go_region ⟨_, Try.func39⟩ rfl ?_
          refine q0 rfl (o_lds ?_)
          refine q0 rfl (o_st ?_)
          refine q0 rfl (o_assign ?_)
          refine rg_nil ?_
          -- leaf 3: .pointer (some ⟨b6, 0, none⟩); .int .i64 (0)
          refine retCT Try.func39 Try.results39 (h9.vr, h9.vk, h9.vs) rfl (by first | ((repeat (first | exact List.mem_cons_self | apply List.mem_cons_of_mem)); done) | (simp only [List.nil_append, List.cons_append]; (repeat (first | exact List.mem_cons_self | apply List.mem_cons_of_mem)))) rfl rfl rfl rfl (by rw [hgr]; rfl) (fun w hs => by rw [hgr]; exact hs.bare.less (by simp))
end Go.Hy
namespace Go.Hy
set_option linter.unusedVariables false
set_option linter.unusedSimpArgs false
set_option linter.unusedSectionVars false
/-! ### The chapter's example of places -/
def exT : T := .mk 6 0 ⟨#[]⟩ [] [.mk 1 1 ⟨#[]⟩ [] [] [], .mk 5 0 ⟨#[]⟩ [] [.mk 1 0 ⟨#[]⟩ [] [] []] []] []
def exU : T := .mk 3 0 ⟨#[]⟩ [] [] []
def varT0 : T := .mk 1 0 ⟨#[]⟩ [] [] []
theorem ex_formed : formedP exT = 0 := by decide +kernel
theorem ex_all : allL exT = [[], [0], [1], [1, 0]] := by decide +kernel
theorem ex_get : getRes exT [1, 0] = (0, (.mk 1 0 ⟨#[]⟩ [] [] [], 1, 0)) := by decide +kernel
theorem ex_put : putRes exT [0] exU = (0, .mk 6 0 ⟨#[]⟩ [] [exU, .mk 5 0 ⟨#[]⟩ [] [.mk 1 0 ⟨#[]⟩ [] [] []] []] []) := by decide +kernel
def exR : T := .mk 6 0 ⟨#[]⟩ [] [exU, .mk 5 0 ⟨#[]⟩ [] [.mk 1 0 ⟨#[]⟩ [] [] []] []] []
theorem ex_put1 : (putRes exT [0] exU).1 = 0 := by rw [ex_put]
theorem ex_put2 : (putRes exT [0] exU).2 = exR := by rw [ex_put]; rfl
theorem ex_get1 : (getRes exT [1, 0]).1 = 0 := by rw [ex_get]
theorem ex_get2 : (getRes exT [1, 0]).2 = (varT0, 1, 0) := by rw [ex_get]; rfl
theorem ex_size : size exT = 4 ∧ size exU = 1 := by decide +kernel
theorem St.litI {B : Base} {Γ : List Fact} {Ms : List Res} {w : World} {b : Nat} {e : TypeId} {cs : List Value} (l : List Int) (hs : St B Γ (boxR b cs e :: Ms) w) {hBp : Prop} (hB : hBp) (hc : cs = intFlat l) (hn : l.length ≤ 1000) (hu : ∀ c, c ∈ l → in64 c) : St B (IL l (some ⟨b, 0, Option.none⟩, l.length) :: Γ) Ms w :=
  (hs.boxRow (sz := 1) (m := l.length) (by rw [hc, flat_len intCells_len l]) (by unfold maxLen; omega)).settleIL hB hc rfl (by unfold reach; omega) hu
end Go.Hy
namespace Go.Hy
set_option linter.unusedVariables false
set_option linter.unusedSimpArgs false
set_option linter.unusedSectionVars false
open Go.Proofs
set_option linter.unusedVariables false
set_option linter.unusedSimpArgs false
set_option maxRecDepth 100000
theorem getWalk (t : T) (vr_t vk_t vs_t : SH) (p : List Int) (a_p : SH) (hz : size t ≤ 1000000000) : Spec Try.prog 40 #[.agg (tc t vr_t vk_t vs_t).toArray, sl a_p (p.length)] [RT t vr_t vk_t vs_t, IL p a_p] [] (fun x : SH × SH × SH => .tuple #[.agg ([.int .i64 (((getRes t p).2.1).kind), .int .i64 (((getRes t p).2.1).n), .string (((getRes t p).2.1).name), sl x.1 (((getRes t p).2.1).r.length), sl x.2.1 (((getRes t p).2.1).kids.length), sl x.2.2 (((getRes t p).2.1).sys.length), .int .i64 ((getRes t p).2.2.1), .int .i64 ((getRes t p).2.2.2)] : List Value).toArray, .int .i64 (getRes t p).1]) (fun x : SH × SH × SH => [RT (getRes t p).2.1 x.1 x.2.1 x.2.2]) (fun x : SH × SH × SH => []) := by
  refine spec_go (args := [.agg (tc t vr_t vk_t vs_t).toArray, sl a_p (p.length)]) Try.func40 Try.ntmps40 rfl (by exact Nat.le_of_ble_eq_true rfl) fun B hB => ?_
  refine go_open (t := t) (vr := vr_t) (vk := vk_t) (vs := vs_t) (fun hk1 hn1 hm1 => ?_)
  refine go_openCL (l := (t).r) (a := vr_t) (fun hl2 hA2 hU2 => ?_)
  refine go_openTL (ts := (t).kids) (a := vk_t) (fun VR3 VK3 VS3 hl3 hA3 => ?_)
  refine go_openBL (bs := (t).sys) (a := vs_t) (fun VF4 VK4 hl4 hA4 => ?_)
  refine go_openIL (l := p) (a := a_p) (fun hl5 hA5 hU5 => ?_)
  have hdt := depth_le_size t
  refine go_seq ?_
  refine go_region ⟨_, Try.func40⟩ rfl ?_
  refine q0 rfl (o_box fun b2 => ?_)
  refine q0 rfl (o_new fun b4 => ?_)
  refine q0 rfl (o_assign ?_)
  refine rg_nil ?_
  refine go_seq ?_
  refine go_seq ?_
  refine go_region ⟨_, Try.func40⟩ rfl ?_
  refine q0 rfl (o_lds ?_)
  refine q0 rfl (o_call Try.call30 (formed_spec t (.inr form_spec) vr_t vk_t vs_t (by first | assumption | omega | (unfold in64 at *; omega) | (unfold reach at *; omega) | (simp_all; done))) (fun x12 => ?_))
  refine q0 rfl (o_assign ?_)
  refine rg_nil ?_
  refine go_seq ?_
  refine go_region ⟨_, Try.func40⟩ rfl ?_
  refine q0 rfl (o_move ?_)
  refine q0 rfl (o_neI ?_)
  refine rg_nil ?_
  refine go_condI (fun h14 => ?_) (fun h14 => ?_)
  · have c14 : (decide ((formedP t) ≠ 0)) = true := h14
    try simp only [decide_eq_true_eq, decide_eq_false_iff_not, Bool.and_eq_true, Bool.or_eq_true, Bool.not_eq_true', Bool.and_eq_false_iff, Bool.or_eq_false_iff, Bool.not_eq_false', bne_iff_ne, beq_iff_eq, ne_eq, not_and, Decidable.not_not, Bool.true_and, Bool.and_true, Bool.false_or, Bool.or_false] at c14
    have hgr : getRes t p = (formedP t, (t0, 0, 0)) := by rw [getRes, if_pos (by simpa using h14)]
    refine go_seq ?_
    refine go_region ⟨_, Try.func40⟩ rfl ?_
    refine q0 rfl (o_build (cs := [.int .i64 (0), .int .i64 (0), .string ((ByteArray.mk #[])), sl (none, 0) (0), sl (none, 0) (0), sl (none, 0) (0), .int .i64 (0), .int .i64 (0)]) ?_)
    refine q0 rfl (o_move ?_)
    refine q0 rfl (o_st ?_)
    refine q0 rfl (o_assign ?_)
    refine rg_nil ?_
    -- leaf 0: .pointer (some ⟨b4, 0, none⟩); .int .i64 ((formedP t))
    refine retCT Try.func40 Try.results40 ((none, 0), (none, 0), (none, 0)) rfl (by first | ((repeat (first | exact List.mem_cons_self | apply List.mem_cons_of_mem)); done) | (simp only [List.nil_append, List.cons_append]; (repeat (first | exact List.mem_cons_self | apply List.mem_cons_of_mem)))) rfl rfl rfl rfl (by rw [hgr]; rfl) (fun w hs => by rw [hgr]; exact hs.bare.zeroRT.less (by simp))
  · have c14 : (decide ((formedP t) ≠ 0)) = false := h14
    try simp only [decide_eq_true_eq, decide_eq_false_iff_not, Bool.and_eq_true, Bool.or_eq_true, Bool.not_eq_true', Bool.and_eq_false_iff, Bool.or_eq_false_iff, Bool.not_eq_false', bne_iff_ne, beq_iff_eq, ne_eq, not_and, Decidable.not_not, Bool.true_and, Bool.and_true, Bool.false_or, Bool.or_false] at c14
    have hf0 : formedP t = 0 := by simpa using h14
    refine go_skip ?_
    refine go_seq ?_
    refine go_region ⟨_, Try.func40⟩ rfl ?_
    refine q0 rfl (o_lds ?_)
    refine q0 rfl (o_build (cs := [.int .i64 ((t).kind), .int .i64 ((t).n), .string ((t).name), sl vr_t ((t).r.length), sl vk_t ((t).kids.length), sl vs_t ((t).sys.length), .int .i64 (0), .int .i64 (0)]) ?_ (hb := fill_spot0 (by rfl) (by rfl)))
    refine q0 rfl (o_new fun b7 => ?_)
    refine q0 rfl (o_st ?_)
    refine rg_nil ?_
    refine go_seq ?_
    refine go_seq ?_
    refine go_region ⟨_, Try.func40⟩ rfl ?_
    refine q0 rfl (o_move ?_)
    refine q0 rfl (o_len ?_)
    refine q0 rfl (o_move ?_)
    refine rg_nil ?_
    refine go_block ?_
    refine go_loopE (X := Nat × Part × SH × SH × SH) (fun s_ => s_.1 ≤ p.length ∧ size s_.2.1.1 ≤ 1000000000 ∧ (0 ≤ s_.2.1.2.1 ∧ s_.2.1.2.1 ≤ s_.1 ∧ 0 ≤ s_.2.1.2.2 ∧ s_.2.1.2.2 ≤ s_.1) ∧ getP t p = (getP s_.2.1.1 (p.drop s_.1)).map (addPt s_.2.1)) (fun s_ => [(4, .pointer (some ⟨b4, 0, none⟩)), (7, .pointer (some ⟨b7, 0, none⟩)), (19, sl a_p (p.length)), (20, .int .i64 ((p.length : Int))), (21, .int .i64 ((s_.1 : Int)))]) (fun s_ G_ => RT s_.2.1.1 s_.2.2.1 s_.2.2.2.1 s_.2.2.2.2 :: G_) (fun s_ => [boxR b7 [.int .i64 ((s_.2.1.1).kind), .int .i64 ((s_.2.1.1).n), .string ((s_.2.1.1).name), sl s_.2.2.1 ((s_.2.1.1).r.length), sl s_.2.2.2.1 ((s_.2.1.1).kids.length), sl s_.2.2.2.2 ((s_.2.1.1).sys.length), .int .i64 (s_.2.1.2.1), .int .i64 (s_.2.1.2.2)] 60, boxR b4 [.int .i64 (0), .int .i64 (0), .string ((ByteArray.mk #[])), sl (none, 0) (0), sl (none, 0) (0), sl (none, 0) (0), .int .i64 (0), .int .i64 (0)] 60, boxR b2 (tc t vr_t vk_t vs_t) 31]) (fun s_ => p.length - s_.1) (0, (t, 0, 0), vr_t, vk_t, vs_t) (⟨by omega, hz, ⟨Int.le_refl _, by simp, Int.le_refl _, by simp⟩, (addPt_zero t _).symm⟩) (by exact ⟨rfl, rfl, rfl, rfl, rfl, trivial⟩) ?_ ?_
    · exact fun w hs => (hs.less (by simp +contextual))
    · intro ⟨i, cur, vr, vk, vs⟩ base0 ⟨hi, hsz, ⟨hb1, hb2, hb3, hb4⟩, hgp⟩ next0
      dsimp only at  hi  hsz   hb1  hb2  hb3  hb4   hgp  next0 ⊢
      refine go_seq ?_
      refine go_region ⟨_, Try.func40⟩ rfl ?_
      refine q0 rfl (o_lss ?_)
      refine rg_nil ?_
      refine go_seq ?_
      refine go_condI (fun h22 => ?_) (fun h22 => ?_)
      · have c22 : (decide ((i : Int) < (p.length : Int))) = true := h22
        try simp only [decide_eq_true_eq, decide_eq_false_iff_not, Bool.and_eq_true, Bool.or_eq_true, Bool.not_eq_true', Bool.and_eq_false_iff, Bool.or_eq_false_iff, Bool.not_eq_false', bne_iff_ne, beq_iff_eq, ne_eq, not_and, Decidable.not_not, Bool.true_and, Bool.and_true, Bool.false_or, Bool.or_false] at c22
        refine go_skip ?_
        refine go_seq ?_
        refine go_block ?_
        refine go_seq ?_
        refine go_region ⟨_, Try.func40⟩ rfl ?_
        obtain ⟨bk6, o6, hav6⟩ := hA5 (by omega)
        refine q0 rfl (o_ixN ?_ (j := i))
        refine q0 rfl (o_ldI ?_)
        refine q0 rfl (o_assign ?_)
        refine rg_nil ?_
        refine go_seq ?_
        refine go_region ⟨_, Try.func40⟩ rfl ?_
        refine q0 rfl (o_fa ?_)
        refine q0 rfl (o_lds ?_)
        refine q0 rfl (o_call Try.call65 (parts_walk cur.1 vr vk vs (by first | assumption | omega | (unfold in64 at *; omega) | (unfold reach at *; omega) | (simp_all; done))) (fun x27 => ?_))
        refine q0 rfl (o_assign ?_)
        refine rg_nil ?_
        refine go_state (fun w hs => (((((hs.perm perm3).perm perm3).perm perm3).perm perm3).settleRow (F := spCells) (E := qE) (d := qp0) (bt := 120) (l := x27.1.2) (fun _ => rfl) hB (by first | ((repeat (first | exact List.mem_cons_self | apply List.mem_cons_of_mem)); done) | (simp only [List.nil_append, List.cons_append]; (repeat (first | exact List.mem_cons_self | apply List.mem_cons_of_mem)))) rfl rfl (by have := congrArg List.length x27.2; rw [List.length_map] at this; have h9 := parts_len cur.1; unfold reach; omega))) ?_
        refine go_seq ?_
        refine go_seq ?_
        refine go_cutS ([(4, .pointer (some ⟨b4, 0, none⟩)), (7, .pointer (some ⟨b7, 0, none⟩)), (9, .int .i64 (p.getD i 0)), (10, sl x27.1.1 (x27.1.2.length)), (19, sl a_p (p.length)), (20, .int .i64 ((p.length : Int))), (21, .int .i64 ((i : Int))), (35, .bool ((decide ((p.getD i 0) < 0)) || (decide ((x27.1.2.length : Int) ≤ (p.getD i 0)))))]) (fun hK => ?_) (fun base => ?_)
        · refine go_region ⟨_, Try.func40⟩ rfl ?_
          refine q0 rfl (o_move ?_)
          refine q0 rfl (o_lss ?_)
          refine q0 rfl (o_move ?_)
          refine qI rfl rfl rfl (by conv => lhs; whnf) (fun hg30 => ?_) (fun hg30 => ?_)
          · have g30 : (decide ((p.getD i 0) < 0)) = false := hg30
            try simp only [decide_eq_true_eq, decide_eq_false_iff_not, Bool.and_eq_true, Bool.or_eq_true, Bool.not_eq_true', Bool.and_eq_false_iff, Bool.or_eq_false_iff, Bool.not_eq_false', bne_iff_ne, beq_iff_eq, ne_eq, not_and, Decidable.not_not, Bool.true_and, Bool.and_true, Bool.false_or, Bool.or_false] at g30
            refine o_move ?_
            refine qT rfl rfl rfl (o_move ?_)
            refine qT rfl rfl rfl (o_len ?_)
            refine qT rfl rfl rfl (o_geq ?_)
            refine q0 rfl (o_pickF ?_)
            refine rg_nil ?_
            exact hK _ ⟨rfl, rfl, rfl, rfl, rfl, rfl, rfl, (by first | rfl | ((conv => lhs; whnf); first | (simp_all; done) | (simp_all; omega))), trivial⟩
          · have g30 : (decide ((p.getD i 0) < 0)) = true := hg30
            try simp only [decide_eq_true_eq, decide_eq_false_iff_not, Bool.and_eq_true, Bool.or_eq_true, Bool.not_eq_true', Bool.and_eq_false_iff, Bool.or_eq_false_iff, Bool.not_eq_false', bne_iff_ne, beq_iff_eq, ne_eq, not_and, Decidable.not_not, Bool.true_and, Bool.and_true, Bool.false_or, Bool.or_false] at g30
            refine qF rfl rfl rfl ?_
            refine qF rfl rfl rfl ?_
            refine qF rfl rfl rfl ?_
            refine q0 rfl (o_pickT ?_)
            refine rg_nil ?_
            exact hK _ ⟨rfl, rfl, rfl, rfl, rfl, rfl, rfl, (by first | rfl | ((conv => lhs; whnf); first | (simp_all; done) | (simp_all; omega))), trivial⟩
        · refine go_condI (fun h35 => ?_) (fun h35 => ?_)
          · have c35 : ((decide ((p.getD i 0) < 0)) || (decide ((x27.1.2.length : Int) ≤ (p.getD i 0)))) = true := h35
            try simp only [decide_eq_true_eq, decide_eq_false_iff_not, Bool.and_eq_true, Bool.or_eq_true, Bool.not_eq_true', Bool.and_eq_false_iff, Bool.or_eq_false_iff, Bool.not_eq_false', bne_iff_ne, beq_iff_eq, ne_eq, not_and, Decidable.not_not, Bool.true_and, Bool.and_true, Bool.false_or, Bool.or_false] at c35
            have hxl := congrArg List.length x27.2
            rw [List.length_map] at hxl
            have hgr : getRes t p = (90, (t0, 0, 0)) := by rw [getRes, if_neg (by simp [hf0]), hgp, getP_miss (by omega) (by rcases c35 with h | h <;> omega)]
            refine go_seq ?_
            refine go_region ⟨_, Try.func40⟩ rfl ?_
            refine q0 rfl (o_build (cs := [.int .i64 (0), .int .i64 (0), .string ((ByteArray.mk #[])), sl (none, 0) (0), sl (none, 0) (0), sl (none, 0) (0), .int .i64 (0), .int .i64 (0)]) ?_)
            refine q0 rfl (o_st ?_)
            refine q0 rfl (o_assign ?_)
            refine rg_nil ?_
            -- leaf 1: .pointer (some ⟨b4, 0, none⟩); .int .i64 (90)
            refine retCT Try.func40 Try.results40 ((none, 0), (none, 0), (none, 0)) rfl (by first | ((repeat (first | exact List.mem_cons_self | apply List.mem_cons_of_mem)); done) | (simp only [List.nil_append, List.cons_append]; (repeat (first | exact List.mem_cons_self | apply List.mem_cons_of_mem)))) rfl rfl rfl rfl (by rw [hgr]; rfl) (fun w hs => by rw [hgr]; exact hs.bare.zeroRT.less (by simp))
          · have c35 : ((decide ((p.getD i 0) < 0)) || (decide ((x27.1.2.length : Int) ≤ (p.getD i 0)))) = false := h35
            try simp only [decide_eq_true_eq, decide_eq_false_iff_not, Bool.and_eq_true, Bool.or_eq_true, Bool.not_eq_true', Bool.and_eq_false_iff, Bool.or_eq_false_iff, Bool.not_eq_false', bne_iff_ne, beq_iff_eq, ne_eq, not_and, Decidable.not_not, Bool.true_and, Bool.and_true, Bool.false_or, Bool.or_false] at c35
            have hxl := congrArg List.length x27.2
            rw [List.length_map] at hxl
            obtain ⟨m, hm⟩ : ∃ m : Nat, p.getD i 0 = (m : Int) := ⟨(p.getD i 0).toNat, by omega⟩
            have hml : m < x27.1.2.length := by omega
            have hqm := qer_at x27.2 hml
            have h01 := parts_01 (List.mem_of_getElem? hqm)
            have hzl := size_part_lt (List.mem_of_getElem? hqm)
            simp only [qer] at h01 hzl
            rw [hm]
            refine go_skip ?_
            refine go_openRow (l := x27.1.2) (a := x27.1.1) (bt := 120) (F := spCells) (E := qE) (d := qp0) (by repeat (first | exact List.mem_cons_self | apply List.mem_cons_of_mem)) (fun hl7 hA7 => ?_)
            refine go_elem (l := x27.1.2) (a := x27.1.1) (bt := 120) (F := spCells) (E := qE) (d := qp0) (by repeat (first | exact List.mem_cons_self | apply List.mem_cons_of_mem)) m (by omega) ?_
            refine go_draw (tn := false) (A := [0, 0, 3, 7, 15, 0, 32, 0, 0, 384, 896, 1920, 4064, 0, 8192, 0, 0, 98304, 229376, 491520, 1040384, 2097151, 4194303]) (l := [0, 1, 2, 3, 4, 5, 6, 7, 8, 9, 10, 11, 12, 13, 14, 15, 16, 17, 18, 19, 20, 21]) (fin := [22]) Tab.mixed ⟨_, Try.func40⟩ (by rfl) ?_
            refine n0 rfl (v_move ?_)
            refine n0 rfl (v_move ?_)
            obtain ⟨bk8, o8, hav8⟩ := hA7 (by omega)
            refine n0 rfl (v_ixN ?_ (j := m))
            refine n0 rfl (v_fa ?_)
            refine n0 rfl (f_ldQs ?_ (k := 0))
            refine n0 rfl (v_fa ?_)
            refine n0 rfl (v_ld ?_)
            refine n0 rfl (v_move ?_)
            refine n0 rfl (v_move ?_)
            refine n0 rfl (v_ixN ?_ (j := m))
            refine n0 rfl (v_fa ?_)
            refine n0 rfl (f_ldQf ?_)
            refine n0 rfl (v_add ?_)
            refine n0 rfl (v_fa ?_)
            refine n0 rfl (v_ld ?_)
            refine n0 rfl (v_move ?_)
            refine n0 rfl (v_move ?_)
            refine n0 rfl (v_ixN ?_ (j := m))
            refine n0 rfl (v_fa ?_)
            refine n0 rfl (f_ldQf ?_)
            refine n0 rfl (v_add ?_)
            refine n0 rfl (v_build (cs := [.int .i64 ((((x27.1.2).getD m qp0).1.1).kind), .int .i64 ((((x27.1.2).getD m qp0).1.1).n), .string ((((x27.1.2).getD m qp0).1.1).name), sl (((x27.1.2).getD m qp0).1.2.1) ((((x27.1.2).getD m qp0).1.1).r.length), sl (((x27.1.2).getD m qp0).1.2.2.1) ((((x27.1.2).getD m qp0).1.1).kids.length), sl (((x27.1.2).getD m qp0).1.2.2.2) ((((x27.1.2).getD m qp0).1.1).sys.length), .int .i64 (cur.2.1 + (((x27.1.2).getD m qp0).2.1)), .int .i64 (cur.2.2 + (((x27.1.2).getD m qp0).2.2))]) ?_ (hb := fill_spot012 (by rfl) (by rfl)))
            refine NV.done ?_
            refine q0 rfl (o_st ?_)
            refine rg_nil ?_
            refine go_inBlock ?_
            refine go_region ⟨_, Try.func40⟩ rfl ?_
            refine q0 rfl (o_add ?_)
            refine q0 rfl (o_move ?_)
            refine rg_nil ?_
            refine go_state (fun w hs => ?_) (next0 (i + 1, ((x27.1.2.getD m qp0).1.1, cur.2.1 + (x27.1.2.getD m qp0).2.1, cur.2.2 + (x27.1.2.getD m qp0).2.2), (x27.1.2.getD m qp0).1.2.1, (x27.1.2.getD m qp0).1.2.2.1, (x27.1.2.getD m qp0).1.2.2.2) _ (⟨by omega, by simp only; omega, ⟨by simp only; omega, by simp only; omega, by simp only; omega, by simp only; omega⟩, by rw [hgp, getP_step (by omega) hm hqm]; rfl⟩) (by (try simp only); omega) ⟨rfl, rfl, rfl, rfl, rfl, trivial⟩)
            exact ((((hs.less (by simp +contextual [qE])).perm perm2).perm perm2).perm perm2)
      · have c22 : (decide ((i : Int) < (p.length : Int))) = false := h22
        try simp only [decide_eq_true_eq, decide_eq_false_iff_not, Bool.and_eq_true, Bool.or_eq_true, Bool.not_eq_true', Bool.and_eq_false_iff, Bool.or_eq_false_iff, Bool.not_eq_false', bne_iff_ne, beq_iff_eq, ne_eq, not_and, Decidable.not_not, Bool.true_and, Bool.and_true, Bool.false_or, Bool.or_false] at c22
        have hgr : getRes t p = (0, cur) := by rw [getRes, if_neg (by simp [hf0]), hgp, getP_end (by omega)]
        refine go_exit rfl ?_
        refine go_seq ?_
        refine go_region ⟨_, Try.func40⟩ rfl ?_
        refine q0 rfl (o_fa ?_)
        refine q0 rfl (o_lds ?_)
        refine q0 rfl (o_call Try.call20 (copy_spec cur.1 vr vk vs) (fun x62 => ?_))
        refine q0 rfl (o_fa ?_)
        refine q0 rfl (o_stp ?_ (k := 0) (vs := [.int .i64 ((cur.1).kind), .int .i64 ((cur.1).n), .string ((cur.1).name), sl x62.1 ((cur.1).r.length), sl x62.2.1 ((cur.1).kids.length), sl x62.2.2 ((cur.1).sys.length)]) (cs' := [.int .i64 ((cur.1).kind), .int .i64 ((cur.1).n), .string ((cur.1).name), sl x62.1 ((cur.1).r.length), sl x62.2.1 ((cur.1).kids.length), sl x62.2.2 ((cur.1).sys.length), .int .i64 (cur.2.1), .int .i64 (cur.2.2)]))
        refine rg_nil ?_
        refine go_seq ?_
        refine go_region ⟨_, Try.func40⟩ rfl ?_
        refine q0 rfl (o_lds ?_)
        refine q0 rfl (o_st ?_)
        refine q0 rfl (o_assign ?_)
        refine rg_nil ?_
        -- leaf 2: .pointer (some ⟨b4, 0, none⟩); .int .i64 (0)
        refine retCT Try.func40 Try.results40 (x62.1, x62.2.1, x62.2.2) rfl (by first | ((repeat (first | exact List.mem_cons_self | apply List.mem_cons_of_mem)); done) | (simp only [List.nil_append, List.cons_append]; (repeat (first | exact List.mem_cons_self | apply List.mem_cons_of_mem)))) rfl rfl rfl rfl (by rw [hgr]; rfl) (fun w hs => by rw [hgr]; exact hs.bare.less (by simp))
end Go.Hy
namespace Go.Hy
set_option linter.unusedVariables false
set_option linter.unusedSimpArgs false
set_option linter.unusedSectionVars false
open Go.Proofs
set_option linter.unusedVariables false
set_option linter.unusedSimpArgs false
set_option maxRecDepth 100000
theorem works30_spec   : Spec Try.prog 34 #[] [] [] (fun _ : Unit => .bool (true)) (fun _ : Unit => []) (fun _ : Unit => []) := by
  refine spec_go (args := []) Try.func34 Try.ntmps34 rfl (by exact Nat.le_of_ble_eq_true rfl) fun B hB => ?_
  refine go_seq ?_
  refine go_region ⟨_, Try.func34⟩ rfl ?_
  refine q0 rfl (o_assign ?_)
  refine rg_nil ?_
  refine go_seq ?_
  refine go_region ⟨_, Try.func34⟩ rfl ?_
  refine q0 rfl (o_build (cs := [.int .i64 (1), .int .i64 (0), .string ((ByteArray.mk #[])), sl (none, 0) (0), sl (none, 0) (0), sl (none, 0) (0)]) ?_)
  refine q0 rfl (o_new fun b1 => ?_)
  refine q0 rfl (o_st ?_)
  refine rg_nil ?_
  refine go_seq ?_
  refine go_region ⟨_, Try.func34⟩ rfl ?_
  refine q0 rfl (o_build (cs := [.int .i64 (1), .int .i64 (1), .string ((ByteArray.mk #[])), sl (none, 0) (0), sl (none, 0) (0), sl (none, 0) (0)]) ?_)
  refine q0 rfl (o_lds ?_)
  refine q0 rfl (o_lit1 fun b12 => ?_)
  refine q0 rfl (o_build (cs := [.int .i64 (5), .int .i64 (0), .string ((ByteArray.mk #[])), sl (none, 0) (0), sl (some ⟨b12, 0, none⟩, 1) (1), sl (none, 0) (0)]) ?_)
  refine q0 rfl (o_lit2 fun b14 => ?_)
  refine q0 rfl (o_build (cs := [.int .i64 (6), .int .i64 (0), .string ((ByteArray.mk #[])), sl (none, 0) (0), sl (some ⟨b14, 0, none⟩, 2) (2), sl (none, 0) (0)]) ?_)
  refine q0 rfl (o_new fun b2 => ?_)
  refine q0 rfl (o_st ?_)
  refine rg_nil ?_
  refine go_state (fun w hs => ?_) (?_ : GoT _ _ _ _ _ _ _ [RT exT nul (some ⟨b14, 0, none⟩, 2) nul] [boxR b2 (tc exT nul (some ⟨b14, 0, none⟩, 2) nul) 31])
  · have g1 := ((((((hs.perm perm3).perm perm1).perm perm2).perm perm3).leaf 1 0 ⟨#[]⟩ (in_lit (by omega) (by omega)) (in_lit (by omega) (by omega)) (Nat.zero_le _)).lit1T (t := varT 0) (vr := nul) (vk := nul) (vs := nul) hB (by simp [varT]) rfl).node 5 0 [varT 0] (some ⟨b12, 0, none⟩, 1) (in_lit (by omega) (by omega)) (in_lit (by omega) (by omega)) (by simp)
    have g3 := ((g1.leaf 1 1 ⟨#[]⟩ (in_lit (by omega) (by omega)) (in_lit (by omega) (by omega)) (Nat.zero_le _)).lit2T (t := varT 1) (vr := nul) (vk := nul) (vs := nul) (u := lamT (varT 0)) (ur := nul) (uk := (some ⟨b12, 0, none⟩, 1)) (us := nul) hB (by simp [varT]) (by simp [lamT]) rfl).node 6 0 [varT 1, lamT (varT 0)] (some ⟨b14, 0, none⟩, 2) (in_lit (by omega) (by omega)) (in_lit (by omega) (by omega)) (by simp)
    exact (g3.less (by simp [lamT, exT, varT])).dropR (A := [_])
  refine go_seq ?_
  refine go_region ⟨_, Try.func34⟩ rfl ?_
  refine q0 rfl (o_lds ?_)
  refine q0 rfl (o_call Try.call37 (allP_spec exT nul (some ⟨b14, 0, none⟩, 2) nul (by rw [ex_size.1]; omega)) (fun x18 => ?_))
  refine q0 rfl (o_move ?_)
  refine q0 rfl (o_extract ?_)
  refine q0 rfl (o_extract ?_)
  refine q0 rfl (o_assign ?_)
  refine q0 rfl (o_assign ?_)
  refine rg_nil ?_
  have hx18 : x18.1.2.map (fun z : IP => z.1) = [[], [0], [1], [1, 0]] := x18.2.trans ex_all
  have hl18 : x18.1.2.length = 4 := by have h9 := congrArg List.length hx18; simpa using h9
  have h18 : (x18.1.2.getD 3 ip0).1 = [1, 0] := by have h9 := getD_map (d := ip0) (e := ([] : List Int)) (f := fun z : IP => z.1) (l := x18.1.2) (i := 3) (by omega); rw [hx18] at h9; exact h9.symm
  refine go_seq ?_
  refine go_region ⟨_, Try.func34⟩ rfl ?_
  refine q0 rfl (o_lds ?_)
  refine q0 rfl (o_lit2 fun b23 => ?_)
  refine rg_state (fun w hs => (((hs.perm perm1).perm perm1).litI [1, 0] hB rfl (by decide) (by intro c hc; simp at hc; unfold in64; omega))) ?_
  have hget := getWalk exT nul (some ⟨b14, 0, none⟩, 2) nul [1, 0] (some ⟨b23, 0, none⟩, 2) (by rw [ex_size.1]; omega)
  simp only [ex_get1, ex_get2] at hget
  refine q0 rfl (o_call Try.call40 (hget) (fun x24 => ?_))
  refine q0 rfl (o_move ?_)
  refine q0 rfl (o_extract ?_)
  refine q0 rfl (o_extract ?_)
  refine q0 rfl (o_new fun b5 => ?_)
  refine q0 rfl (o_st ?_)
  refine q0 rfl (o_assign ?_)
  refine rg_nil ?_
  refine go_seq ?_
  refine go_region ⟨_, Try.func34⟩ rfl ?_
  refine q0 rfl (o_lds ?_)
  refine q0 rfl (o_lit1 fun b29 => ?_)
  refine q0 rfl (o_build (cs := [.int .i64 (3), .int .i64 (0), .string ((ByteArray.mk #[])), sl (none, 0) (0), sl (none, 0) (0), sl (none, 0) (0)]) ?_)
  refine rg_state (fun w hs => ((((hs.perm perm2).perm perm2).perm perm2).litI [0] hB rfl (by decide) (by intro c hc; simp at hc; unfold in64; omega))) ?_
  have hput := putP_walk exT nul (some ⟨b14, 0, none⟩, 2) nul [0] (some ⟨b29, 0, none⟩, 1) exU nul nul nul (by rw [ex_size.1]; omega) (by rw [ex_size.2]; omega)
  simp only [ex_put1, ex_put2] at hput
  refine rg_state (fun w hs => show St B (RT exU nul nul nul :: _) _ w from hs.leaf 3 0 ⟨#[]⟩ (in_lit (by omega) (by omega)) (in_lit (by omega) (by omega)) (Nat.zero_le _)) ?_
  refine q0 rfl (o_call Try.call39 (hput) (fun x31 => ?_))
  refine q0 rfl (o_move ?_)
  refine q0 rfl (o_extract ?_)
  refine q0 rfl (o_extract ?_)
  refine q0 rfl (o_new fun b7 => ?_)
  refine q0 rfl (o_st ?_)
  refine q0 rfl (o_assign ?_)
  refine rg_nil ?_
  refine go_open (t := exR) (vr := x31.1) (vk := x31.2.1) (vs := x31.2.2) (fun hk1 hn1 hm1 => ?_)
  refine go_openTL (ts := (exR).kids) (a := x31.2.1) (fun VR2 VK2 VS2 hl2 hA2 => ?_)
  refine go_seq ?_
  refine go_openRow (l := x18.1.2) (a := x18.1.1) (bt := 24) (F := ipCells) (E := ipE) (d := ip0) (by repeat (first | exact List.mem_cons_self | apply List.mem_cons_of_mem)) (fun hl3 hA3 => ?_)
  refine go_elem (l := x18.1.2) (a := x18.1.1) (bt := 24) (F := ipCells) (E := ipE) (d := ip0) (by repeat (first | exact List.mem_cons_self | apply List.mem_cons_of_mem)) 3 (by (first | omega | decide)) ?_
  refine go_kid (ts := (exR).kids) (a := x31.2.1) (VR := VR2) (VK := VK2) (VS := VS2) 0 (by (first | omega | decide)) ?_
  refine go_cutS ([(0, .bool (true))]) (fun hK => ?_) (fun base => ?_)
  · refine go_region ⟨_, Try.func34⟩ rfl ?_
    refine q0 rfl (o_move ?_)
    refine q0 rfl (o_eqI ?_)
    refine q0 rfl (o_move ?_)
    refine qI rfl rfl rfl (by conv => lhs; whnf) (fun hg36 => ?_) (fun hg36 => ?_)
    · have g36 : (decide ((formedP exT) = 0)) = true := hg36
      try simp only [decide_eq_true_eq, decide_eq_false_iff_not, Bool.and_eq_true, Bool.or_eq_true, Bool.not_eq_true', Bool.and_eq_false_iff, Bool.or_eq_false_iff, Bool.not_eq_false', bne_iff_ne, beq_iff_eq, ne_eq, not_and, Decidable.not_not, Bool.true_and, Bool.and_true, Bool.false_or, Bool.or_false] at g36
      refine o_move ?_
      refine qT rfl rfl rfl (o_len ?_)
      refine qT rfl rfl rfl (o_eqI ?_)
      refine q0 rfl (o_pickT ?_)
      refine q0 rfl (o_move ?_)
      refine qI rfl rfl rfl (by conv => lhs; whnf) (fun hg41 => ?_) (fun hg41 => ?_)
      · have g41 : (decide (((x18.1.2).length : Int) = 4)) = true := hg41
        try simp only [decide_eq_true_eq, decide_eq_false_iff_not, Bool.and_eq_true, Bool.or_eq_true, Bool.not_eq_true', Bool.and_eq_false_iff, Bool.or_eq_false_iff, Bool.not_eq_false', bne_iff_ne, beq_iff_eq, ne_eq, not_and, Decidable.not_not, Bool.true_and, Bool.and_true, Bool.false_or, Bool.or_false] at g41
        refine o_move ?_
        obtain ⟨bk4, o4, hav4⟩ := hA3 (by (first | omega | decide))
        refine qT rfl rfl rfl (o_ixN ?_ (j := 3))
        refine qT rfl rfl rfl (o_ldII ?_)
        refine qT rfl rfl rfl (o_lit2 fun b45 => ?_)
        refine rg_state (fun w hs => (((((hs.perm perm3).perm perm3).perm perm3).perm perm3).litI [1, 0] hB rfl (by decide) (by intro c hc; simp at hc; unfold in64; omega))) ?_
        refine qT rfl rfl rfl (o_call Try.call62 (ints_spec (((x18.1.2).getD 3 ip0).1) (((x18.1.2).getD 3 ip0).2) ([1, 0]) (some ⟨b45, 0, none⟩, [1, 0].length) ) (fun x46 => ?_))
        refine q0 rfl (o_pickT ?_)
        refine q0 rfl (o_move ?_)
        refine qI rfl rfl rfl (by conv => lhs; whnf) (fun hg48 => ?_) (fun hg48 => ?_)
        · have g48 : ((decide ((((x18.1.2).getD 3 ip0).1) = ([1, 0])))) = true := hg48
          try simp only [decide_eq_true_eq, decide_eq_false_iff_not, Bool.and_eq_true, Bool.or_eq_true, Bool.not_eq_true', Bool.and_eq_false_iff, Bool.or_eq_false_iff, Bool.not_eq_false', bne_iff_ne, beq_iff_eq, ne_eq, not_and, Decidable.not_not, Bool.true_and, Bool.and_true, Bool.false_or, Bool.or_false] at g48
          refine o_move ?_
          refine qT rfl rfl rfl (o_eqI ?_)
          refine q0 rfl (o_pickT ?_)
          refine q0 rfl (o_move ?_)
          refine qI rfl rfl rfl (by conv => lhs; whnf) (fun hg52 => ?_) (fun hg52 => ?_)
          · have g52 : (decide (0 = 0)) = true := hg52
            try simp only [decide_eq_true_eq, decide_eq_false_iff_not, Bool.and_eq_true, Bool.or_eq_true, Bool.not_eq_true', Bool.and_eq_false_iff, Bool.or_eq_false_iff, Bool.not_eq_false', bne_iff_ne, beq_iff_eq, ne_eq, not_and, Decidable.not_not, Bool.true_and, Bool.and_true, Bool.false_or, Bool.or_false] at g52
            refine o_fa ?_
            refine qT rfl rfl rfl (o_fa ?_)
            refine qT rfl rfl rfl (o_ld ?_)
            refine qT rfl rfl rfl (o_eqI ?_)
            refine q0 rfl (o_pickT ?_)
            refine q0 rfl (o_move ?_)
            refine qI rfl rfl rfl (by conv => lhs; whnf) (fun hg58 => ?_) (fun hg58 => ?_)
            · have g58 : (decide (((varT0).kind) = 1)) = true := hg58
              try simp only [decide_eq_true_eq, decide_eq_false_iff_not, Bool.and_eq_true, Bool.or_eq_true, Bool.not_eq_true', Bool.and_eq_false_iff, Bool.or_eq_false_iff, Bool.not_eq_false', bne_iff_ne, beq_iff_eq, ne_eq, not_and, Decidable.not_not, Bool.true_and, Bool.and_true, Bool.false_or, Bool.or_false] at g58
              refine o_fa ?_
              refine qT rfl rfl rfl (o_ld ?_)
              refine qT rfl rfl rfl (o_eqI ?_)
              refine q0 rfl (o_pickT ?_)
              refine q0 rfl (o_move ?_)
              refine qI rfl rfl rfl (by conv => lhs; whnf) (fun hg63 => ?_) (fun hg63 => ?_)
              · have g63 : (decide (1 = 1)) = true := hg63
                try simp only [decide_eq_true_eq, decide_eq_false_iff_not, Bool.and_eq_true, Bool.or_eq_true, Bool.not_eq_true', Bool.and_eq_false_iff, Bool.or_eq_false_iff, Bool.not_eq_false', bne_iff_ne, beq_iff_eq, ne_eq, not_and, Decidable.not_not, Bool.true_and, Bool.and_true, Bool.false_or, Bool.or_false] at g63
                refine o_move ?_
                refine qT rfl rfl rfl (o_eqI ?_)
                refine q0 rfl (o_pickT ?_)
                refine q0 rfl (o_move ?_)
                refine qI rfl rfl rfl (by conv => lhs; whnf) (fun hg67 => ?_) (fun hg67 => ?_)
                · have g67 : (decide (0 = 0)) = true := hg67
                  try simp only [decide_eq_true_eq, decide_eq_false_iff_not, Bool.and_eq_true, Bool.or_eq_true, Bool.not_eq_true', Bool.and_eq_false_iff, Bool.or_eq_false_iff, Bool.not_eq_false', bne_iff_ne, beq_iff_eq, ne_eq, not_and, Decidable.not_not, Bool.true_and, Bool.and_true, Bool.false_or, Bool.or_false] at g67
                  refine o_fa ?_
                  refine qT rfl rfl rfl (o_ld ?_)
                  refine qT rfl rfl rfl (o_len ?_)
                  refine qT rfl rfl rfl (o_eqI ?_)
                  refine q0 rfl (o_pickT ?_)
                  refine q0 rfl (o_move ?_)
                  refine qI rfl rfl rfl (by conv => lhs; whnf) (fun hg73 => ?_) (fun hg73 => ?_)
                  · have g73 : (decide (((exR).kids.length : Int) = 2)) = true := hg73
                    try simp only [decide_eq_true_eq, decide_eq_false_iff_not, Bool.and_eq_true, Bool.or_eq_true, Bool.not_eq_true', Bool.and_eq_false_iff, Bool.or_eq_false_iff, Bool.not_eq_false', bne_iff_ne, beq_iff_eq, ne_eq, not_and, Decidable.not_not, Bool.true_and, Bool.and_true, Bool.false_or, Bool.or_false] at g73
                    refine o_fa ?_
                    refine qT rfl rfl rfl (o_ld ?_)
                    obtain ⟨bk5, o5, hav5⟩ := hA2 (by (first | omega | decide))
                    refine qT rfl rfl rfl (o_ixN ?_ (j := 0))
                    refine qT rfl rfl rfl (o_fa ?_)
                    refine qT rfl rfl rfl (o_ldTf ?_)
                    refine qT rfl rfl rfl (o_eqI ?_)
                    refine q0 rfl (o_pickT ?_)
                    refine q0 rfl (o_assign ?_)
                    refine rg_nil ?_
                    exact go_state (fun w hs => (hs.less (by simp +contextual))) (hK _ ⟨(by first | rfl | ((conv => lhs; whnf); first | (simp_all [exR, exU, varT0, T.kids, T.kind, ex_formed, h18, hl18]; done) | (simp_all [exR, exU, varT0, T.kids, T.kind, ex_formed, h18, hl18]; omega))), trivial⟩)
                  · have g73 : (decide (((exR).kids.length : Int) = 2)) = false := hg73
                    try simp only [decide_eq_true_eq, decide_eq_false_iff_not, Bool.and_eq_true, Bool.or_eq_true, Bool.not_eq_true', Bool.and_eq_false_iff, Bool.or_eq_false_iff, Bool.not_eq_false', bne_iff_ne, beq_iff_eq, ne_eq, not_and, Decidable.not_not, Bool.true_and, Bool.and_true, Bool.false_or, Bool.or_false] at g73
                    refine qF rfl rfl rfl ?_
                    refine qF rfl rfl rfl ?_
                    refine qF rfl rfl rfl ?_
                    refine qF rfl rfl rfl ?_
                    refine qF rfl rfl rfl ?_
                    refine q0 rfl (o_pickF ?_)
                    refine q0 rfl (o_assign ?_)
                    refine rg_nil ?_
                    exact go_state (fun w hs => (hs.less (by simp +contextual))) (hK _ ⟨(by first | rfl | ((conv => lhs; whnf); first | (simp_all [exR, exU, varT0, T.kids, T.kind, ex_formed, h18, hl18]; done) | (simp_all [exR, exU, varT0, T.kids, T.kind, ex_formed, h18, hl18]; omega))), trivial⟩)
                · have g67 : (decide (0 = 0)) = false := hg67
                  try simp only [decide_eq_true_eq, decide_eq_false_iff_not, Bool.and_eq_true, Bool.or_eq_true, Bool.not_eq_true', Bool.and_eq_false_iff, Bool.or_eq_false_iff, Bool.not_eq_false', bne_iff_ne, beq_iff_eq, ne_eq, not_and, Decidable.not_not, Bool.true_and, Bool.and_true, Bool.false_or, Bool.or_false] at g67
                  refine qF rfl rfl rfl ?_
                  refine qF rfl rfl rfl ?_
                  refine qF rfl rfl rfl ?_
                  refine q0 rfl (o_pickF ?_)
                  refine q0 rfl (o_move ?_)
                  refine qF rfl rfl rfl ?_
                  refine qF rfl rfl rfl ?_
                  refine qF rfl rfl rfl ?_
                  refine qF rfl rfl rfl ?_
                  refine qF rfl rfl rfl ?_
                  refine qF rfl rfl rfl ?_
                  refine q0 rfl (o_pickF ?_)
                  refine q0 rfl (o_assign ?_)
                  refine rg_nil ?_
                  exact go_state (fun w hs => (hs.less (by simp +contextual))) (hK _ ⟨(by first | rfl | ((conv => lhs; whnf); first | (simp_all [exR, exU, varT0, T.kids, T.kind, ex_formed, h18, hl18]; done) | (simp_all [exR, exU, varT0, T.kids, T.kind, ex_formed, h18, hl18]; omega))), trivial⟩)
              · have g63 : (decide (1 = 1)) = false := hg63
                try simp only [decide_eq_true_eq, decide_eq_false_iff_not, Bool.and_eq_true, Bool.or_eq_true, Bool.not_eq_true', Bool.and_eq_false_iff, Bool.or_eq_false_iff, Bool.not_eq_false', bne_iff_ne, beq_iff_eq, ne_eq, not_and, Decidable.not_not, Bool.true_and, Bool.and_true, Bool.false_or, Bool.or_false] at g63
                refine qF rfl rfl rfl ?_
                refine q0 rfl (o_pickF ?_)
                refine q0 rfl (o_move ?_)
                refine qF rfl rfl rfl ?_
                refine qF rfl rfl rfl ?_
                refine qF rfl rfl rfl ?_
                refine qF rfl rfl rfl ?_
                refine q0 rfl (o_pickF ?_)
                refine q0 rfl (o_move ?_)
                refine qF rfl rfl rfl ?_
                refine qF rfl rfl rfl ?_
                refine qF rfl rfl rfl ?_
                refine qF rfl rfl rfl ?_
                refine qF rfl rfl rfl ?_
                refine qF rfl rfl rfl ?_
                refine q0 rfl (o_pickF ?_)
                refine q0 rfl (o_assign ?_)
                refine rg_nil ?_
                exact go_state (fun w hs => (hs.less (by simp +contextual))) (hK _ ⟨(by first | rfl | ((conv => lhs; whnf); first | (simp_all [exR, exU, varT0, T.kids, T.kind, ex_formed, h18, hl18]; done) | (simp_all [exR, exU, varT0, T.kids, T.kind, ex_formed, h18, hl18]; omega))), trivial⟩)
            · have g58 : (decide (((varT0).kind) = 1)) = false := hg58
              try simp only [decide_eq_true_eq, decide_eq_false_iff_not, Bool.and_eq_true, Bool.or_eq_true, Bool.not_eq_true', Bool.and_eq_false_iff, Bool.or_eq_false_iff, Bool.not_eq_false', bne_iff_ne, beq_iff_eq, ne_eq, not_and, Decidable.not_not, Bool.true_and, Bool.and_true, Bool.false_or, Bool.or_false] at g58
              refine qF rfl rfl rfl ?_
              refine qF rfl rfl rfl ?_
              refine q0 rfl (o_pickF ?_)
              refine q0 rfl (o_move ?_)
              refine qF rfl rfl rfl ?_
              refine qF rfl rfl rfl ?_
              refine q0 rfl (o_pickF ?_)
              refine q0 rfl (o_move ?_)
              refine qF rfl rfl rfl ?_
              refine qF rfl rfl rfl ?_
              refine qF rfl rfl rfl ?_
              refine qF rfl rfl rfl ?_
              refine q0 rfl (o_pickF ?_)
              refine q0 rfl (o_move ?_)
              refine qF rfl rfl rfl ?_
              refine qF rfl rfl rfl ?_
              refine qF rfl rfl rfl ?_
              refine qF rfl rfl rfl ?_
              refine qF rfl rfl rfl ?_
              refine qF rfl rfl rfl ?_
              refine q0 rfl (o_pickF ?_)
              refine q0 rfl (o_assign ?_)
              refine rg_nil ?_
              exact go_state (fun w hs => (hs.less (by simp +contextual))) (hK _ ⟨(by first | rfl | ((conv => lhs; whnf); first | (simp_all [exR, exU, varT0, T.kids, T.kind, ex_formed, h18, hl18]; done) | (simp_all [exR, exU, varT0, T.kids, T.kind, ex_formed, h18, hl18]; omega))), trivial⟩)
          · have g52 : (decide (0 = 0)) = false := hg52
            try simp only [decide_eq_true_eq, decide_eq_false_iff_not, Bool.and_eq_true, Bool.or_eq_true, Bool.not_eq_true', Bool.and_eq_false_iff, Bool.or_eq_false_iff, Bool.not_eq_false', bne_iff_ne, beq_iff_eq, ne_eq, not_and, Decidable.not_not, Bool.true_and, Bool.and_true, Bool.false_or, Bool.or_false] at g52
            refine qF rfl rfl rfl ?_
            refine qF rfl rfl rfl ?_
            refine qF rfl rfl rfl ?_
            refine q0 rfl (o_pickF ?_)
            refine q0 rfl (o_move ?_)
            refine qF rfl rfl rfl ?_
            refine qF rfl rfl rfl ?_
            refine qF rfl rfl rfl ?_
            refine q0 rfl (o_pickF ?_)
            refine q0 rfl (o_move ?_)
            refine qF rfl rfl rfl ?_
            refine qF rfl rfl rfl ?_
            refine q0 rfl (o_pickF ?_)
            refine q0 rfl (o_move ?_)
            refine qF rfl rfl rfl ?_
            refine qF rfl rfl rfl ?_
            refine qF rfl rfl rfl ?_
            refine qF rfl rfl rfl ?_
            refine q0 rfl (o_pickF ?_)
            refine q0 rfl (o_move ?_)
            refine qF rfl rfl rfl ?_
            refine qF rfl rfl rfl ?_
            refine qF rfl rfl rfl ?_
            refine qF rfl rfl rfl ?_
            refine qF rfl rfl rfl ?_
            refine qF rfl rfl rfl ?_
            refine q0 rfl (o_pickF ?_)
            refine q0 rfl (o_assign ?_)
            refine rg_nil ?_
            exact go_state (fun w hs => (hs.less (by simp +contextual))) (hK _ ⟨(by first | rfl | ((conv => lhs; whnf); first | (simp_all [exR, exU, varT0, T.kids, T.kind, ex_formed, h18, hl18]; done) | (simp_all [exR, exU, varT0, T.kids, T.kind, ex_formed, h18, hl18]; omega))), trivial⟩)
        · have g48 : ((decide ((((x18.1.2).getD 3 ip0).1) = ([1, 0])))) = false := hg48
          try simp only [decide_eq_true_eq, decide_eq_false_iff_not, Bool.and_eq_true, Bool.or_eq_true, Bool.not_eq_true', Bool.and_eq_false_iff, Bool.or_eq_false_iff, Bool.not_eq_false', bne_iff_ne, beq_iff_eq, ne_eq, not_and, Decidable.not_not, Bool.true_and, Bool.and_true, Bool.false_or, Bool.or_false] at g48
          refine qF rfl rfl rfl ?_
          refine q0 rfl (o_pickF ?_)
          refine q0 rfl (o_move ?_)
          refine qF rfl rfl rfl ?_
          refine qF rfl rfl rfl ?_
          refine qF rfl rfl rfl ?_
          refine qF rfl rfl rfl ?_
          refine q0 rfl (o_pickF ?_)
          refine q0 rfl (o_move ?_)
          refine qF rfl rfl rfl ?_
          refine qF rfl rfl rfl ?_
          refine qF rfl rfl rfl ?_
          refine q0 rfl (o_pickF ?_)
          refine q0 rfl (o_move ?_)
          refine qF rfl rfl rfl ?_
          refine qF rfl rfl rfl ?_
          refine q0 rfl (o_pickF ?_)
          refine q0 rfl (o_move ?_)
          refine qF rfl rfl rfl ?_
          refine qF rfl rfl rfl ?_
          refine qF rfl rfl rfl ?_
          refine qF rfl rfl rfl ?_
          refine q0 rfl (o_pickF ?_)
          refine q0 rfl (o_move ?_)
          refine qF rfl rfl rfl ?_
          refine qF rfl rfl rfl ?_
          refine qF rfl rfl rfl ?_
          refine qF rfl rfl rfl ?_
          refine qF rfl rfl rfl ?_
          refine qF rfl rfl rfl ?_
          refine q0 rfl (o_pickF ?_)
          refine q0 rfl (o_assign ?_)
          refine rg_nil ?_
          exact go_state (fun w hs => (hs.less (by simp +contextual))) (hK _ ⟨(by first | rfl | ((conv => lhs; whnf); first | (simp_all [exR, exU, varT0, T.kids, T.kind, ex_formed, h18, hl18]; done) | (simp_all [exR, exU, varT0, T.kids, T.kind, ex_formed, h18, hl18]; omega))), trivial⟩)
      · have g41 : (decide (((x18.1.2).length : Int) = 4)) = false := hg41
        try simp only [decide_eq_true_eq, decide_eq_false_iff_not, Bool.and_eq_true, Bool.or_eq_true, Bool.not_eq_true', Bool.and_eq_false_iff, Bool.or_eq_false_iff, Bool.not_eq_false', bne_iff_ne, beq_iff_eq, ne_eq, not_and, Decidable.not_not, Bool.true_and, Bool.and_true, Bool.false_or, Bool.or_false] at g41
        refine qF rfl rfl rfl ?_
        refine qF rfl rfl rfl ?_
        refine qF rfl rfl rfl ?_
        refine qF rfl rfl rfl ?_
        refine q0 rfl (o_pickF ?_)
        refine q0 rfl (o_move ?_)
        refine qF rfl rfl rfl ?_
        refine qF rfl rfl rfl ?_
        refine q0 rfl (o_pickF ?_)
        refine q0 rfl (o_move ?_)
        refine qF rfl rfl rfl ?_
        refine qF rfl rfl rfl ?_
        refine qF rfl rfl rfl ?_
        refine qF rfl rfl rfl ?_
        refine q0 rfl (o_pickF ?_)
        refine q0 rfl (o_move ?_)
        refine qF rfl rfl rfl ?_
        refine qF rfl rfl rfl ?_
        refine qF rfl rfl rfl ?_
        refine q0 rfl (o_pickF ?_)
        refine q0 rfl (o_move ?_)
        refine qF rfl rfl rfl ?_
        refine qF rfl rfl rfl ?_
        refine q0 rfl (o_pickF ?_)
        refine q0 rfl (o_move ?_)
        refine qF rfl rfl rfl ?_
        refine qF rfl rfl rfl ?_
        refine qF rfl rfl rfl ?_
        refine qF rfl rfl rfl ?_
        refine q0 rfl (o_pickF ?_)
        refine q0 rfl (o_move ?_)
        refine qF rfl rfl rfl ?_
        refine qF rfl rfl rfl ?_
        refine qF rfl rfl rfl ?_
        refine qF rfl rfl rfl ?_
        refine qF rfl rfl rfl ?_
        refine qF rfl rfl rfl ?_
        refine q0 rfl (o_pickF ?_)
        refine q0 rfl (o_assign ?_)
        refine rg_nil ?_
        exact hK _ ⟨(by first | rfl | ((conv => lhs; whnf); first | (simp_all [exR, exU, varT0, T.kids, T.kind, ex_formed, h18, hl18]; done) | (simp_all [exR, exU, varT0, T.kids, T.kind, ex_formed, h18, hl18]; omega))), trivial⟩
    · have g36 : (decide ((formedP exT) = 0)) = false := hg36
      try simp only [decide_eq_true_eq, decide_eq_false_iff_not, Bool.and_eq_true, Bool.or_eq_true, Bool.not_eq_true', Bool.and_eq_false_iff, Bool.or_eq_false_iff, Bool.not_eq_false', bne_iff_ne, beq_iff_eq, ne_eq, not_and, Decidable.not_not, Bool.true_and, Bool.and_true, Bool.false_or, Bool.or_false] at g36
      refine qF rfl rfl rfl ?_
      refine qF rfl rfl rfl ?_
      refine q0 rfl (o_pickF ?_)
      refine q0 rfl (o_move ?_)
      refine qF rfl rfl rfl ?_
      refine qF rfl rfl rfl ?_
      refine qF rfl rfl rfl ?_
      refine qF rfl rfl rfl ?_
      refine qF rfl rfl rfl ?_
      refine q0 rfl (o_pickF ?_)
      refine q0 rfl (o_move ?_)
      refine qF rfl rfl rfl ?_
      refine qF rfl rfl rfl ?_
      refine q0 rfl (o_pickF ?_)
      refine q0 rfl (o_move ?_)
      refine qF rfl rfl rfl ?_
      refine qF rfl rfl rfl ?_
      refine qF rfl rfl rfl ?_
      refine qF rfl rfl rfl ?_
      refine q0 rfl (o_pickF ?_)
      refine q0 rfl (o_move ?_)
      refine qF rfl rfl rfl ?_
      refine qF rfl rfl rfl ?_
      refine qF rfl rfl rfl ?_
      refine q0 rfl (o_pickF ?_)
      refine q0 rfl (o_move ?_)
      refine qF rfl rfl rfl ?_
      refine qF rfl rfl rfl ?_
      refine q0 rfl (o_pickF ?_)
      refine q0 rfl (o_move ?_)
      refine qF rfl rfl rfl ?_
      refine qF rfl rfl rfl ?_
      refine qF rfl rfl rfl ?_
      refine qF rfl rfl rfl ?_
      refine q0 rfl (o_pickF ?_)
      refine q0 rfl (o_move ?_)
      refine qF rfl rfl rfl ?_
      refine qF rfl rfl rfl ?_
      refine qF rfl rfl rfl ?_
      refine qF rfl rfl rfl ?_
      refine qF rfl rfl rfl ?_
      refine qF rfl rfl rfl ?_
      refine q0 rfl (o_pickF ?_)
      refine q0 rfl (o_assign ?_)
      refine rg_nil ?_
      exact hK _ ⟨(by first | rfl | ((conv => lhs; whnf); first | (simp_all [exR, exU, varT0, T.kids, T.kind, ex_formed, h18, hl18]; done) | (simp_all [exR, exU, varT0, T.kids, T.kind, ex_formed, h18, hl18]; omega))), trivial⟩
  · -- leaf 0: .bool (true)
    refine ret1 Try.func34 Try.results34 (by first | ((conv => lhs; whnf); done) | rfl) () (by first | rfl | (simp_all; done)) (fun w hs => hs.none)
end Go.Hy
namespace Go.Hy
set_option linter.unusedVariables false
set_option linter.unusedSimpArgs false
set_option linter.unusedSectionVars false
open Go.Proofs
set_option linter.unusedVariables false
set_option linter.unusedSimpArgs false
set_option maxRecDepth 100000
theorem rsameC (l : List Cl) (a_l : SH) (m : List Cl) (a_m : SH)  : Spec Try.prog 52 #[sl a_l (l.length), sl a_m (m.length)] [CL l a_l, CL m a_m] [] (fun _ : Unit => .bool ((decide (l = m)))) (fun _ : Unit => []) (fun _ : Unit => []) := by
  refine spec_go (args := [sl a_l (l.length), sl a_m (m.length)]) Try.func52 Try.ntmps52 rfl (by exact Nat.le_of_ble_eq_true rfl) fun B hB => ?_
  refine go_openCL (l := l) (a := a_l) (fun hl1 hA1 hU1 => ?_)
  refine go_openCL (l := m) (a := a_m) (fun hl2 hA2 hU2 => ?_)
  refine go_seq ?_
  refine go_region ⟨_, Try.func52⟩ rfl ?_
  refine q0 rfl (o_assign ?_)
  refine rg_nil ?_
  refine go_seq ?_
  refine go_seq ?_
  refine go_region ⟨_, Try.func52⟩ rfl ?_
  refine q0 rfl (o_move ?_)
  refine q0 rfl (o_len ?_)
  refine q0 rfl (o_move ?_)
  refine q0 rfl (o_len ?_)
  refine q0 rfl (o_neI ?_)
  refine rg_nil ?_
  refine go_condI (fun h10 => ?_) (fun h10 => ?_)
  · have c10 : (decide ((l.length : Int) ≠ (m.length : Int))) = true := h10
    try simp only [decide_eq_true_eq, decide_eq_false_iff_not, Bool.and_eq_true, Bool.or_eq_true, Bool.not_eq_true', Bool.and_eq_false_iff, Bool.or_eq_false_iff, Bool.not_eq_false', bne_iff_ne, beq_iff_eq, ne_eq, not_and, Decidable.not_not, Bool.true_and, Bool.and_true, Bool.false_or, Bool.or_false] at c10
    have hne : ¬ l = m := fun e => by subst e; simp at h10
    refine go_seq ?_
    refine go_region ⟨_, Try.func52⟩ rfl ?_
    refine q0 rfl (o_assign ?_)
    refine rg_nil ?_
    -- leaf 0: .bool (false)
    refine ret1 Try.func52 Try.results52 (by first | ((conv => lhs; whnf); done) | rfl) () (by rw [decide_eq_false hne]) (fun w hs => hs.none)
  · have c10 : (decide ((l.length : Int) ≠ (m.length : Int))) = false := h10
    try simp only [decide_eq_true_eq, decide_eq_false_iff_not, Bool.and_eq_true, Bool.or_eq_true, Bool.not_eq_true', Bool.and_eq_false_iff, Bool.or_eq_false_iff, Bool.not_eq_false', bne_iff_ne, beq_iff_eq, ne_eq, not_and, Decidable.not_not, Bool.true_and, Bool.and_true, Bool.false_or, Bool.or_false] at c10
    have hlen : l.length = m.length := by simp at h10; omega
    refine go_skip ?_
    refine go_seq ?_
    refine go_seq ?_
    refine go_region ⟨_, Try.func52⟩ rfl ?_
    refine q0 rfl (o_assign ?_)
    refine rg_nil ?_
    refine go_block ?_
    refine go_loopE (X := Nat) (fun s_ => s_ ≤ l.length ∧ ∀ j, j < s_ → l.getD j cl0 = m.getD j cl0) (fun s_ => [(0, sl a_l (l.length)), (1, sl a_m (m.length)), (5, .int .i64 ((s_ : Int)))]) (fun s_ G_ => G_) (fun s_ => []) (fun s_ => l.length - s_) (0) (⟨by omega, fun j hj => by omega⟩) (by exact ⟨rfl, rfl, rfl, trivial⟩) ?_ ?_
    · exact fun w hs => hs
    · intro i base0 ⟨hi, hok⟩ next0
      refine go_seq ?_
      refine go_seq ?_
      refine go_region ⟨_, Try.func52⟩ rfl ?_
      refine q0 rfl (o_move ?_)
      refine q0 rfl (o_move ?_)
      refine q0 rfl (o_len ?_)
      refine q0 rfl (o_lss ?_)
      refine rg_nil ?_
      refine go_condI (fun h14 => ?_) (fun h14 => ?_)
      · have c14 : (decide ((i : Int) < (l.length : Int))) = true := h14
        try simp only [decide_eq_true_eq, decide_eq_false_iff_not, Bool.and_eq_true, Bool.or_eq_true, Bool.not_eq_true', Bool.and_eq_false_iff, Bool.or_eq_false_iff, Bool.not_eq_false', bne_iff_ne, beq_iff_eq, ne_eq, not_and, Decidable.not_not, Bool.true_and, Bool.and_true, Bool.false_or, Bool.or_false] at c14
        refine go_skip ?_
        refine go_seq ?_
        refine go_block ?_
        refine go_seq ?_
        refine go_draw (tn := false) (A := [0, 0, 3, 7, 0, 0, 48, 112, 255]) (l := [0, 1, 2, 3, 4, 5, 6, 7, 8]) (fin := []) Tab.mixed ⟨_, Try.func52⟩ (by rfl) ?_
        refine n0 rfl (v_move ?_)
        refine n0 rfl (v_move ?_)
        obtain ⟨bk3, o3, hav3⟩ := hA1 (by omega)
        refine n0 rfl (v_ixN ?_ (j := i))
        refine n0 rfl (v_ldC ?_)
        refine n0 rfl (v_move ?_)
        refine n0 rfl (v_move ?_)
        obtain ⟨bk4, o4, hav4⟩ := hA2 (by omega)
        refine n0 rfl (v_ixN ?_ (j := i))
        refine n0 rfl (v_ldC ?_)
        refine n0 rfl (v_neC ?_ (c := (l.getD i cl0)) (c' := (m.getD i cl0)))
        refine NV.done ?_
        refine rg_nil ?_
        refine go_condI (fun h25 => ?_) (fun h25 => ?_)
        · have c25 : (!decide ((l.getD i cl0) = (m.getD i cl0))) = true := h25
          try simp only [decide_eq_true_eq, decide_eq_false_iff_not, Bool.and_eq_true, Bool.or_eq_true, Bool.not_eq_true', Bool.and_eq_false_iff, Bool.or_eq_false_iff, Bool.not_eq_false', bne_iff_ne, beq_iff_eq, ne_eq, not_and, Decidable.not_not, Bool.true_and, Bool.and_true, Bool.false_or, Bool.or_false] at c25
          refine go_seq ?_
          refine go_region ⟨_, Try.func52⟩ rfl ?_
          refine q0 rfl (o_assign ?_)
          refine rg_nil ?_
          -- leaf 1: .bool (false)
          refine ret1 Try.func52 Try.results52 (by first | ((conv => lhs; whnf); done) | rfl) () (by rw [decide_eq_false (fun e => by subst e; simp at h25)]) (fun w hs => hs.none)
        · have c25 : (!decide ((l.getD i cl0) = (m.getD i cl0))) = false := h25
          try simp only [decide_eq_true_eq, decide_eq_false_iff_not, Bool.and_eq_true, Bool.or_eq_true, Bool.not_eq_true', Bool.and_eq_false_iff, Bool.or_eq_false_iff, Bool.not_eq_false', bne_iff_ne, beq_iff_eq, ne_eq, not_and, Decidable.not_not, Bool.true_and, Bool.and_true, Bool.false_or, Bool.or_false] at c25
          refine go_skip ?_
          refine go_inBlock ?_
          refine go_region ⟨_, Try.func52⟩ rfl ?_
          refine q0 rfl (o_move ?_)
          refine q0 rfl (o_add ?_)
          refine q0 rfl (o_assign ?_)
          refine rg_nil ?_
          have hb : l.getD i cl0 = m.getD i cl0 := by simpa using h25
          refine go_state (fun w hs => ?_) (next0 (i + 1) _ (⟨by omega, succ_inv hok hb⟩) (by omega) ⟨rfl, rfl, rfl, trivial⟩)
          exact (hs.less (by simp +contextual))
      · have c14 : (decide ((i : Int) < (l.length : Int))) = false := h14
        try simp only [decide_eq_true_eq, decide_eq_false_iff_not, Bool.and_eq_true, Bool.or_eq_true, Bool.not_eq_true', Bool.and_eq_false_iff, Bool.or_eq_false_iff, Bool.not_eq_false', bne_iff_ne, beq_iff_eq, ne_eq, not_and, Decidable.not_not, Bool.true_and, Bool.and_true, Bool.false_or, Bool.or_false] at c14
        refine go_exit rfl ?_
        refine go_seq ?_
        refine go_region ⟨_, Try.func52⟩ rfl ?_
        refine q0 rfl (o_assign ?_)
        refine rg_nil ?_
        -- leaf 2: .bool (true)
        refine ret1 Try.func52 Try.results52 (by first | ((conv => lhs; whnf); done) | rfl) () (by rw [decide_eq_true (list_eq_of hlen (fun j hj => hok j (by omega)))]) (fun w hs => hs.none)
end Go.Hy
