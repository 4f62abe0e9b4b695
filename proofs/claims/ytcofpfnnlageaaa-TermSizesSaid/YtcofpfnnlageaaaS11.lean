/- Contracts of functions of this program, one theorem each (printed by a program of this repository). -/
import Derived.Test.YtcofpfnnlageaaaHyAuto
import Derived.Test.YtcofpfnnlageaaaHyTab
import Derived.Test.YtcofpfnnlageaaaHyBulk
import Derived.Test.YtcofpfnnlageaaaS3
namespace Go.Hy
set_option linter.unusedVariables false
set_option linter.unusedSimpArgs false
set_option linter.unusedSectionVars false
open Go.Proofs
set_option linter.unusedVariables false
set_option linter.unusedSimpArgs false
set_option maxRecDepth 100000
abbrev BulkAt (t : T) : Prop := ∀ (most : Int) vr vk vs, 0 ≤ most → most ≤ 1000000 → Spec Try.prog 35 #[.agg (tc t vr vk vs).toArray, .int .i64 most] [RT t vr vk vs] [] (fun x : {x : Int // BulkIs t (bulk t) most x} => .int .i64 x.1) (fun _ => []) (fun _ => [])

theorem bulk_walk (t : T) (ih : ∀ p, p ∈ parts t → BulkAt p.1) (most : Int) (vr vk vs : SH) (h0 : 0 ≤ most) (hm : most ≤ 1000000) : Spec Try.prog 35 #[.agg (tc t vr vk vs).toArray, .int .i64 most] [RT t vr vk vs] [] (fun x : {x : Int // BulkIs t (bulk t) most x} => .int .i64 x.1) (fun _ => []) (fun _ => []) := by
  refine spec_go (args := [.agg (tc t vr vk vs).toArray, .int .i64 most]) Try.func35 Try.ntmps35 rfl (by exact Nat.le_of_ble_eq_true rfl) fun B hB => ?_
  refine go_open (fun hk hn hnm => ?_)
  refine go_openCL (l := t.r) (a := vr) (fun hlr hAr hUr => ?_)
  refine go_openTL (ts := t.kids) (fun VR VK VS hl1 hA1 => ?_)
  refine go_openBL (bs := t.sys) (fun VF VK2 hl2 hA2 => ?_)
  refine go_seq ?_
  refine go_region ⟨_, Try.func35⟩ rfl ?_
  refine q0 rfl (o_box fun b2 => ?_)
  refine q0 rfl (o_assign ?_)
  refine rg_nil ?_
  refine go_seq ?_
  refine go_seq ?_
  refine go_cutS ([(1, .int .i64 most), (2, .pointer (some ⟨b2, 0, none⟩)), (20, .bool (decide (most < (t.r.length : Int)) || decide (most < (t.name.size : Int))))]) (fun hK => ?_) (fun base => ?_)
  · refine go_region ⟨_, Try.func35⟩ rfl ?_
    refine q0 rfl (o_fa ?_)
    refine q0 rfl (o_ld ?_)
    refine q0 rfl (o_len ?_)
    refine q0 rfl (o_move ?_)
    refine q0 rfl (o_gtr ?_)
    refine q0 rfl (o_move ?_)
    refine qI rfl rfl rfl (by conv => lhs; whnf) (fun hg14 => o_fa ?_) (fun hg14 => ?_)
    · refine qT rfl rfl rfl (o_ld ?_)
      refine qT rfl rfl rfl (o_lenStr ?_)
      refine qT rfl rfl rfl (o_move ?_)
      refine qT rfl rfl rfl (o_gtr ?_)
      refine q0 rfl (o_pickF ?_)
      refine rg_nil ?_
      exact hK _ ⟨rfl, rfl, (by (conv => lhs; whnf); first | (simp_all [Bool.and_assoc]; done) | (simp_all [Bool.and_assoc]; omega)), trivial⟩
    · refine qF rfl rfl rfl ?_
      refine qF rfl rfl rfl ?_
      refine qF rfl rfl rfl ?_
      refine qF rfl rfl rfl ?_
      refine q0 rfl (o_pickT ?_)
      refine rg_nil ?_
      exact hK _ ⟨rfl, rfl, (by (conv => lhs; whnf); first | (simp_all [Bool.and_assoc]; done) | (simp_all [Bool.and_assoc]; omega)), trivial⟩
  · refine go_condI (fun h20 => ?_) (fun h20 => ?_)
    · have hb : most < (t.r.length : Int) ∨ most < (t.name.size : Int) := by simpa using h20
      refine go_seq ?_
      refine go_region ⟨_, Try.func35⟩ rfl ?_
      refine q0 rfl (o_move ?_)
      refine q0 rfl (o_add ?_)
      refine q0 rfl (o_assign ?_)
      refine rg_nil ?_
      refine ret1 Try.func35 Try.results35 (by first | ((conv => lhs; whnf); done) | rfl) ⟨most + 1, by unfold BulkIs; have h9 := bK_le t 0; rw [bK_zero] at h9; omega⟩ rfl (fun w hs => hs.none)
    · have hb : (t.r.length : Int) ≤ most ∧ (t.name.size : Int) ≤ most := by simpa using h20
      have hge1 := bK_le t 0
      rw [bK_zero] at hge1
      refine go_skip ?_
      refine go_seq ?_
      refine go_region ⟨_, Try.func35⟩ rfl ?_
      refine q0 rfl (o_fa ?_)
      refine q0 rfl (o_ld ?_)
      refine q0 rfl (o_len ?_)
      refine q0 rfl (o_add ?_)
      refine q0 rfl (o_fa ?_)
      refine q0 rfl (o_ld ?_)
      refine q0 rfl (o_lenStr ?_)
      refine q0 rfl (o_add ?_)
      refine q0 rfl (o_assign ?_)
      refine rg_nil ?_
      refine go_seq ?_
      refine go_seq ?_
      refine go_region ⟨_, Try.func35⟩ rfl ?_
      refine q0 rfl (o_assign ?_)
      refine rg_nil ?_
      refine go_block ?_
      refine go_loopI (X := Nat × Int) (fun s => s.1 ≤ t.kids.length ∧ BulkIs t (bK t s.1) most s.2) (fun s => [(1, .int .i64 most), (2, .pointer (some ⟨b2, 0, none⟩)), (5, .int .i64 s.2), (6, .int .i64 (s.1 : Int))]) (fun s => [TLx t.kids vk VR VK VS, BLx t.sys vs VF VK2]) (fun s => [boxR b2 (tc t vr vk vs) 31]) (fun s => t.kids.length - s.1) ((0, 1 + (t.r.length : Int) + (t.name.size : Int))) (⟨Nat.zero_le _, by unfold BulkIs; rw [bK_zero]; simp only; omega⟩) (by exact ⟨rfl, rfl, rfl, rfl, trivial⟩) ?_ ?_
      · exact fun w hs => hs.less (by simp +contextual)
      · intro ⟨i, n⟩ base0 ⟨hi, hn0⟩ next0
        dsimp only at hi hn0 next0 ⊢
        refine go_seq ?_
        refine go_seq ?_
        refine go_cutS ([(1, .int .i64 most), (2, .pointer (some ⟨b2, 0, none⟩)), (5, .int .i64 n), (6, .int .i64 (i : Int)), (40, .bool (decide ((i : Int) < (t.kids.length : Int)) && decide (n ≤ most)))]) (fun hK => ?_) (fun base => ?_)
        · refine go_region ⟨_, Try.func35⟩ rfl ?_
          refine q0 rfl (o_move ?_)
          refine q0 rfl (o_fa ?_)
          refine q0 rfl (o_ld ?_)
          refine q0 rfl (o_len ?_)
          refine q0 rfl (o_lss ?_)
          refine q0 rfl (o_move ?_)
          refine qI rfl rfl rfl (by conv => lhs; whnf) (fun hg36 => o_move ?_) (fun hg36 => ?_)
          · refine qT rfl rfl rfl (o_move ?_)
            refine qT rfl rfl rfl (o_leq ?_)
            refine q0 rfl (o_pickT ?_)
            refine rg_nil ?_
            exact hK _ ⟨rfl, rfl, rfl, rfl, (by (conv => lhs; whnf); first | (simp_all [Bool.and_assoc]; done) | (simp_all [Bool.and_assoc]; omega)), trivial⟩
          · refine qF rfl rfl rfl ?_
            refine qF rfl rfl rfl ?_
            refine q0 rfl (o_pickF ?_)
            refine rg_nil ?_
            exact hK _ ⟨rfl, rfl, rfl, rfl, (by (conv => lhs; whnf); first | (simp_all [Bool.and_assoc]; done) | (simp_all [Bool.and_assoc]; omega)), trivial⟩
        · refine go_condI (fun h40 => ?_) (fun h40 => ?_)
          · have hlt' : (i : Int) < (t.kids.length : Int) ∧ n ≤ most := by simpa using h40
            have hlt : i < t.kids.length := by omega
            obtain ⟨bk, o, hav⟩ := hA1 (by omega)
            refine go_kid (ts := t.kids) (a := vk) i hlt ?_
            obtain ⟨hz1, hz2, hz3⟩ := hn0
            refine go_skip ?_
            refine go_seq ?_
            refine go_block ?_
            refine go_region ⟨_, Try.func35⟩ rfl ?_
            refine q0 rfl (o_move ?_)
            refine q0 rfl (o_fa ?_)
            refine q0 rfl (o_ld ?_)
            refine q0 rfl (o_move ?_)
            refine q0 rfl (o_ixN ?_)
            refine q0 rfl (o_ldT ?_)
            refine q0 rfl (o_move ?_)
            refine q0 rfl (o_move ?_)
            refine q0 rfl (o_sub ?_)
            refine q0 rfl (o_call Try.call35 (ih (t.kids.getD i t0, _, _) (parts_mem (parts_kid t i hlt)) (most - n) _ _ _ (by omega) (by omega)) (fun x52 => ?_))
            have hx := x52.2
            unfold BulkIs at hx
            refine q0 rfl (o_add ?_)
            refine q0 rfl (o_assign ?_)
            refine rg_nil ?_
            refine go_inBlock ?_
            refine go_region ⟨_, Try.func35⟩ rfl ?_
            refine q0 rfl (o_move ?_)
            refine q0 rfl (o_add ?_)
            refine q0 rfl (o_assign ?_)
            refine rg_nil ?_
            have hnn : BulkIs t (bK t (i + 1)) most (n + x52.1) := by (have h9 := bK_le t (i + 1); rw [bK_succ hlt] at h9 ⊢; unfold BulkIs; simp only at hx; omega)
            refine go_state (fun w hs => ?_) (next0 (i + 1, n + x52.1) _ ⟨hlt, hnn⟩ (by simp only; omega) ⟨rfl, rfl, rfl, rfl, trivial⟩)
            exact (hs.less (by simp +contextual))
          · have hge : ¬ ((i : Int) < (t.kids.length : Int) ∧ n ≤ most) := by simpa using h40
            have hnS : BulkIs t (bS t 0) most n := by (unfold BulkIs at hn0 ⊢; rw [bS_zero]; have h9 := bK_le t t.kids.length; rcases Nat.lt_or_ge i t.kids.length with h | h; omega; rw [show i = t.kids.length by omega] at hn0; exact hn0)
            refine go_exit rfl ?_
            refine go_seq ?_
            refine go_seq ?_
            refine go_region ⟨_, Try.func35⟩ rfl ?_
            refine q0 rfl (o_assign ?_)
            refine rg_nil ?_
            refine go_block ?_
            refine go_loopI (X := Nat × Int) (fun s => s.1 ≤ t.sys.length ∧ BulkIs t (bS t s.1) most s.2) (fun s => [(1, .int .i64 most), (2, .pointer (some ⟨b2, 0, none⟩)), (5, .int .i64 s.2), (7, .int .i64 (s.1 : Int))]) (fun s => [TLx t.kids vk VR VK VS, BLx t.sys vs VF VK2]) (fun s => [boxR b2 (tc t vr vk vs) 31]) (fun s => t.sys.length - s.1) ((0, n)) (⟨Nat.zero_le _, hnS⟩) (by exact ⟨rfl, rfl, rfl, rfl, trivial⟩) ?_ ?_
            · exact fun w hs => hs.less (by simp +contextual)
            · intro ⟨i2, n⟩ base1 ⟨hi2, hn2⟩ next1
              dsimp only at hi2 hn2 next1 ⊢
              refine go_seq ?_
              refine go_seq ?_
              refine go_cutS ([(1, .int .i64 most), (2, .pointer (some ⟨b2, 0, none⟩)), (5, .int .i64 n), (7, .int .i64 (i2 : Int)), (63, .bool (decide ((i2 : Int) < (t.sys.length : Int)) && decide (n ≤ most)))]) (fun hK => ?_) (fun base => ?_)
              · refine go_region ⟨_, Try.func35⟩ rfl ?_
                refine q0 rfl (o_move ?_)
                refine q0 rfl (o_fa ?_)
                refine q0 rfl (o_ld ?_)
                refine q0 rfl (o_len ?_)
                refine q0 rfl (o_lss ?_)
                refine q0 rfl (o_move ?_)
                refine qI rfl rfl rfl (by conv => lhs; whnf) (fun hg59 => o_move ?_) (fun hg59 => ?_)
                · refine qT rfl rfl rfl (o_move ?_)
                  refine qT rfl rfl rfl (o_leq ?_)
                  refine q0 rfl (o_pickT ?_)
                  refine rg_nil ?_
                  exact hK _ ⟨rfl, rfl, rfl, rfl, (by (conv => lhs; whnf); first | (simp_all [Bool.and_assoc]; done) | (simp_all [Bool.and_assoc]; omega)), trivial⟩
                · refine qF rfl rfl rfl ?_
                  refine qF rfl rfl rfl ?_
                  refine q0 rfl (o_pickF ?_)
                  refine rg_nil ?_
                  exact hK _ ⟨rfl, rfl, rfl, rfl, (by (conv => lhs; whnf); first | (simp_all [Bool.and_assoc]; done) | (simp_all [Bool.and_assoc]; omega)), trivial⟩
              · refine go_condI (fun h63 => ?_) (fun h63 => ?_)
                · have hlt' : (i2 : Int) < (t.sys.length : Int) ∧ n ≤ most := by simpa using h63
                  have hlt2 : i2 < t.sys.length := by omega
                  obtain ⟨bk2, o2, hav2⟩ := hA2 (by omega)
                  refine go_branch (bs := t.sys) (a := vs) i2 hlt2 ?_
                  refine go_openCL (l := (t.sys.getD i2 br0).face) (a := VF i2) (fun hlf hAf hUf => ?_)
                  refine go_openTL (ts := (t.sys.getD i2 br0).kids) (a := VK2 i2) (fun VR3 VK3 VS3 hl3 hA3 => ?_)
                  obtain ⟨hz1, hz2, hz3⟩ := hn2
                  have hj0 := bJ_le (j := 0) hlt2
                  rw [bJ_zero] at hj0
                  refine go_skip ?_
                  refine go_seq ?_
                  refine go_block ?_
                  refine go_seq ?_
                  refine go_seq ?_
                  refine go_region ⟨_, Try.func35⟩ rfl ?_
                  refine q0 rfl (o_fa ?_)
                  refine q0 rfl (o_ld ?_)
                  refine q0 rfl (o_move ?_)
                  refine q0 rfl (o_ixN ?_)
                  refine q0 rfl (o_fa ?_)
                  refine q0 rfl (o_ldBf ?_)
                  refine q0 rfl (o_len ?_)
                  refine q0 rfl (o_move ?_)
                  refine q0 rfl (o_gtr ?_)
                  refine rg_nil ?_
                  refine go_condI (fun h74 => ?_) (fun h74 => ?_)
                  · have hbf := of_decide_eq_true h74
                    refine go_seq ?_
                    refine go_region ⟨_, Try.func35⟩ rfl ?_
                    refine q0 rfl (o_move ?_)
                    refine q0 rfl (o_add ?_)
                    refine q0 rfl (o_assign ?_)
                    refine rg_nil ?_
                    refine ret1 Try.func35 Try.results35 (by first | ((conv => lhs; whnf); done) | rfl) ⟨most + 1, by unfold BulkIs; omega⟩ rfl (fun w hs => hs.none)
                  · have hbf := of_decide_eq_false h74
                    refine go_skip ?_
                    refine go_seq ?_
                    refine go_region ⟨_, Try.func35⟩ rfl ?_
                    refine q0 rfl (o_move ?_)
                    refine q0 rfl (o_add ?_)
                    refine q0 rfl (o_fa ?_)
                    refine q0 rfl (o_ld ?_)
                    refine q0 rfl (o_move ?_)
                    refine q0 rfl (o_ixN ?_)
                    refine q0 rfl (o_fa ?_)
                    refine q0 rfl (o_ldBf ?_)
                    refine q0 rfl (o_len ?_)
                    refine q0 rfl (o_add ?_)
                    refine q0 rfl (o_assign ?_)
                    refine rg_nil ?_
                    refine go_seq ?_
                    refine go_region ⟨_, Try.func35⟩ rfl ?_
                    refine q0 rfl (o_assign ?_)
                    refine rg_nil ?_
                    refine go_block ?_
                    refine go_loopI (X := Nat × Int) (fun s => s.1 ≤ (t.sys.getD i2 br0).kids.length ∧ BulkIs t (bJ t i2 s.1) most s.2) (fun s => [(1, .int .i64 most), (2, .pointer (some ⟨b2, 0, none⟩)), (5, .int .i64 s.2), (7, .int .i64 (i2 : Int)), (8, .int .i64 (s.1 : Int))]) (fun s => TLx (t.sys.getD i2 br0).kids (VK2 i2) VR3 VK3 VS3 :: [TLx t.kids vk VR VK VS, BLx t.sys vs VF VK2]) (fun s => [boxR b2 (tc t vr vk vs) 31]) (fun s => (t.sys.getD i2 br0).kids.length - s.1) ((0, n + 1 + ((t.sys.getD i2 br0).face.length : Int))) (⟨Nat.zero_le _, by (unfold BulkIs; rw [bJ_zero]; simp only; omega)⟩) (by exact ⟨rfl, rfl, rfl, rfl, rfl, trivial⟩) ?_ ?_
                    · exact fun w hs => hs.less (by simp +contextual)
                    · intro ⟨j, n⟩ base2 ⟨hj, hn3⟩ next2
                      dsimp only at hj hn3 next2 ⊢
                      refine go_seq ?_
                      refine go_seq ?_
                      refine go_cutS ([(1, .int .i64 most), (2, .pointer (some ⟨b2, 0, none⟩)), (5, .int .i64 n), (7, .int .i64 (i2 : Int)), (8, .int .i64 (j : Int)), (100, .bool (decide ((j : Int) < ((t.sys.getD i2 br0).kids.length : Int)) && decide (n ≤ most)))]) (fun hK => ?_) (fun base => ?_)
                      · refine go_region ⟨_, Try.func35⟩ rfl ?_
                        refine q0 rfl (o_move ?_)
                        refine q0 rfl (o_fa ?_)
                        refine q0 rfl (o_ld ?_)
                        refine q0 rfl (o_move ?_)
                        refine q0 rfl (o_ixN ?_)
                        refine q0 rfl (o_fa ?_)
                        refine q0 rfl (o_ldBf ?_)
                        refine q0 rfl (o_len ?_)
                        refine q0 rfl (o_lss ?_)
                        refine q0 rfl (o_move ?_)
                        refine qI rfl rfl rfl (by conv => lhs; whnf) (fun hg96 => o_move ?_) (fun hg96 => ?_)
                        · refine qT rfl rfl rfl (o_move ?_)
                          refine qT rfl rfl rfl (o_leq ?_)
                          refine q0 rfl (o_pickT ?_)
                          refine rg_nil ?_
                          exact hK _ ⟨rfl, rfl, rfl, rfl, rfl, (by (conv => lhs; whnf); first | (simp_all [Bool.and_assoc]; done) | (simp_all [Bool.and_assoc]; omega)), trivial⟩
                        · refine qF rfl rfl rfl ?_
                          refine qF rfl rfl rfl ?_
                          refine q0 rfl (o_pickF ?_)
                          refine rg_nil ?_
                          exact hK _ ⟨rfl, rfl, rfl, rfl, rfl, (by (conv => lhs; whnf); first | (simp_all [Bool.and_assoc]; done) | (simp_all [Bool.and_assoc]; omega)), trivial⟩
                      · refine go_condI (fun h100 => ?_) (fun h100 => ?_)
                        · have hlt3' : (j : Int) < ((t.sys.getD i2 br0).kids.length : Int) ∧ n ≤ most := by simpa using h100
                          have hlt3 : j < (t.sys.getD i2 br0).kids.length := by omega
                          obtain ⟨bk3, o3, hav3⟩ := hA3 (by omega)
                          refine go_kid (ts := (t.sys.getD i2 br0).kids) (a := VK2 i2) j hlt3 ?_
                          obtain ⟨hy1, hy2, hy3⟩ := hn3
                          refine go_skip ?_
                          refine go_seq ?_
                          refine go_block ?_
                          refine go_region ⟨_, Try.func35⟩ rfl ?_
                          refine q0 rfl (o_move ?_)
                          refine q0 rfl (o_fa ?_)
                          refine q0 rfl (o_ld ?_)
                          refine q0 rfl (o_move ?_)
                          refine q0 rfl (o_ixN ?_)
                          refine q0 rfl (o_fa ?_)
                          refine q0 rfl (o_ldBf ?_)
                          refine q0 rfl (o_move ?_)
                          refine q0 rfl (o_ixN ?_)
                          refine q0 rfl (o_ldT ?_)
                          refine q0 rfl (o_move ?_)
                          refine q0 rfl (o_move ?_)
                          refine q0 rfl (o_sub ?_)
                          refine q0 rfl (o_call Try.call35 (ih ((t.sys.getD i2 br0).kids.getD j t0, _, _) (parts_mem (parts_sys t i2 j hlt2 hlt3)) (most - n) _ _ _ (by omega) (by omega)) (fun x116 => ?_))
                          have hx := x116.2
                          unfold BulkIs at hx
                          refine q0 rfl (o_add ?_)
                          refine q0 rfl (o_assign ?_)
                          refine rg_nil ?_
                          refine go_inBlock ?_
                          refine go_region ⟨_, Try.func35⟩ rfl ?_
                          refine q0 rfl (o_move ?_)
                          refine q0 rfl (o_add ?_)
                          refine q0 rfl (o_assign ?_)
                          refine rg_nil ?_
                          have hnn : BulkIs t (bJ t i2 (j + 1)) most (n + x116.1) := by (have h9 := bJ_le (j := j + 1) hlt2; rw [bJ_succ hlt3] at h9 ⊢; unfold BulkIs; simp only at hx; omega)
                          refine go_state (fun w hs => ?_) (next2 (j + 1, n + x116.1) _ ⟨hlt3, hnn⟩ (by simp only; omega) ⟨rfl, rfl, rfl, rfl, rfl, trivial⟩)
                          exact (hs.less (by simp +contextual))
                        · have hge3 : ¬ ((j : Int) < ((t.sys.getD i2 br0).kids.length : Int) ∧ n ≤ most) := by simpa using h100
                          have hnS2 : BulkIs t (bS t (i2 + 1)) most n := by (unfold BulkIs at hn3 ⊢; rw [bS_succ hlt2]; have h9 := bS_le t (i2 + 1); rw [bS_succ hlt2] at h9; rcases Nat.lt_or_ge j (t.sys.getD i2 br0).kids.length with h | h; omega; rw [show j = (t.sys.getD i2 br0).kids.length by omega] at hn3; exact hn3)
                          refine go_exit rfl ?_
                          refine go_inBlock ?_
                          refine go_region ⟨_, Try.func35⟩ rfl ?_
                          refine q0 rfl (o_move ?_)
                          refine q0 rfl (o_add ?_)
                          refine q0 rfl (o_assign ?_)
                          refine rg_nil ?_
                          refine go_state (fun w hs => ?_) (next1 (i2 + 1, n) _ ⟨hlt2, hnS2⟩ (by simp only; omega) ⟨rfl, rfl, rfl, rfl, trivial⟩)
                          exact (hs.less (by simp +contextual))
                · have hge2 : ¬ ((i2 : Int) < (t.sys.length : Int) ∧ n ≤ most) := by simpa using h63
                  have hfin : BulkIs t (bulk t) most n := by (unfold BulkIs at hn2 ⊢; rcases Nat.lt_or_ge i2 t.sys.length with h | h; omega; rw [show i2 = t.sys.length by omega, bS_all] at hn2; exact hn2)
                  refine go_exit rfl ?_
                  refine go_seq ?_
                  refine go_region ⟨_, Try.func35⟩ rfl ?_
                  refine q0 rfl (o_move ?_)
                  refine q0 rfl (o_assign ?_)
                  refine rg_nil ?_
                  refine ret1 Try.func35 Try.results35 (by first | ((conv => lhs; whnf); done) | rfl) ⟨n, hfin⟩ rfl (fun w hs => hs.none)

theorem bulk_spec : ∀ t : T, BulkAt t := T.ind fun t ih most vr vk vs h0 hm => bulk_walk t ih most vr vk vs h0 hm

theorem great10_spec (t : T) (vr vk vs : SH) : Spec Try.prog 18 #[.agg (tc t vr vk vs).toArray] [RT t vr vk vs] [] (fun _ : Unit => .bool (decide (500 < bulk t))) (fun _ => []) (fun _ => []) := by
  refine spec_go (args := [.agg (tc t vr vk vs).toArray]) Try.func18 Try.ntmps18 rfl (by exact Nat.le_of_ble_eq_true rfl) fun B hB => ?_
  refine go_seq ?_
  refine go_region ⟨_, Try.func18⟩ rfl ?_
  refine q0 rfl (o_box fun b1 => ?_)
  refine q0 rfl (o_assign ?_)
  refine rg_nil ?_
  refine go_seq ?_
  refine go_region ⟨_, Try.func18⟩ rfl ?_
  refine q0 rfl (o_lds ?_)
  refine q0 rfl (o_call Try.call35 (bulk_spec t 500 vr vk vs (by omega) (by omega)) (fun x4 => ?_))
  refine q0 rfl (o_gtr ?_)
  refine q0 rfl (o_assign ?_)
  refine rg_nil ?_
  have hx := x4.2
  unfold BulkIs at hx
  refine ret1 Try.func18 Try.results18 (by first | ((conv => lhs; whnf); done) | rfl) () (by congr 1; apply decide_eq_decide.mpr; omega) (fun w hs => hs.none)

end Go.Hy
