/- Contracts of this program's functions and the laws that they need: a separation logic over the machine's rules, one theorem each (partly printed by a program of this repository). -/
import Derived.Test.YtceegbilhbhibaaP2
import Derived.Test.YtceegbilhbhibaaP3
import Derived.Test.YtceegbilhbhibaaP4
import Derived.Test.YtceegbilhbhibaaP5
import Derived.Test.YtceegbilhbhibaaP6
import Derived.Test.YtceegbilhbhibaaP7
namespace Go.Hy
set_option linter.unusedVariables false
set_option linter.unusedSimpArgs false
set_option linter.unusedSectionVars false
open Go.Proofs
set_option linter.unusedVariables false
set_option linter.unusedSimpArgs false
set_option maxRecDepth 100000
abbrev BulkAt (t : T) : Prop := ∀ (most : Int) vr vk vs, 0 ≤ most → most ≤ 1000000 → Spec Try.prog 28 #[.agg (tc t vr vk vs).toArray, .int .i64 most] [RT t vr vk vs] [] (fun x : {x : Int // BulkIs t (bulk t) most x} => .int .i64 x.1) (fun _ => []) (fun _ => [])
theorem bulk_walk (t : T) (ih : ∀ p, p ∈ parts t → BulkAt p.1) (most : Int) (vr vk vs : SH) (h0 : 0 ≤ most) (hm : most ≤ 1000000) : Spec Try.prog 28 #[.agg (tc t vr vk vs).toArray, .int .i64 most] [RT t vr vk vs] [] (fun x : {x : Int // BulkIs t (bulk t) most x} => .int .i64 x.1) (fun _ => []) (fun _ => []) := by
  refine spec_go (args := [.agg (tc t vr vk vs).toArray, .int .i64 most]) Try.func28 Try.ntmps28 rfl (by exact Nat.le_of_ble_eq_true rfl) fun B hB => ?_
  refine go_open (fun hk hn hnm => ?_)
  refine go_openCL (l := t.r) (a := vr) (fun hlr hAr hUr => ?_)
  refine go_openTL (ts := t.kids) (fun VR VK VS hl1 hA1 => ?_)
  refine go_openBL (bs := t.sys) (fun VF VK2 hl2 hA2 => ?_)
  refine go_seq ?_
  refine go_region ⟨_, Try.func28⟩ rfl ?_
  refine q0 rfl (o_box fun b2 => ?_)
  refine q0 rfl (o_assign ?_)
  refine rg_nil ?_
  refine go_seq ?_
  refine go_seq ?_
  refine go_cutS ([(1, .int .i64 most), (2, .pointer (some ⟨b2, 0, none⟩)), (20, .bool (decide (most < (t.r.length : Int)) || decide (most < (t.name.size : Int))))]) (fun hK => ?_) (fun base => ?_)
  · refine go_region ⟨_, Try.func28⟩ rfl ?_
    refine q0 rfl (o_fa ?_)
    refine q0 rfl (o_ld ?_)
    refine q0 rfl (o_len ?_)
    refine q0 rfl (o_move ?_)
    refine q0 rfl (o_gtr ?_)
    refine q0 rfl (o_move ?_)
    refine qI rfl rfl rfl wl_ (fun hg14 => o_fa ?_) (fun hg14 => ?_)
    · refine qT rfl rfl rfl (o_ld ?_)
      refine qT rfl rfl rfl (o_lenStr ?_)
      refine qT rfl rfl rfl (o_move ?_)
      refine qT rfl rfl rfl (o_gtr ?_)
      refine q0 rfl (o_pickF ?_)
      refine rg_nil ?_
      exact hK _ ⟨rfl, rfl, (by (conv => lhs; whnf); first | (simp_all [Bool.and_assoc]; done) | (simp_all [Bool.and_assoc]; omega)), trivial⟩
    · refine qF rfl rfl rfl ?_
      refine qF rfl rfl rfl ?_
      refine qF rfl rfl rfl ?_
      refine qF rfl rfl rfl ?_
      refine q0 rfl (o_pickT ?_)
      refine rg_nil ?_
      exact hK _ ⟨rfl, rfl, (by (conv => lhs; whnf); first | (simp_all [Bool.and_assoc]; done) | (simp_all [Bool.and_assoc]; omega)), trivial⟩
  · refine go_condI (fun h20 => ?_) (fun h20 => ?_)
    · have hb : most < (t.r.length : Int) ∨ most < (t.name.size : Int) := by simpa using h20
      refine go_seq ?_
      refine go_region ⟨_, Try.func28⟩ rfl ?_
      refine q0 rfl (o_move ?_)
      refine q0 rfl (o_add ?_)
      refine q0 rfl (o_assign ?_)
      refine rg_nil ?_
      refine ret1 Try.func28 Try.results28 wn_ ⟨most + 1, by unfold BulkIs; have h9 := bK_le t 0; rw [bK_zero] at h9; omega⟩ rfl (fun w hs => hs.none)
    · have hb : (t.r.length : Int) ≤ most ∧ (t.name.size : Int) ≤ most := by simpa using h20
      have hge1 := bK_le t 0
      rw [bK_zero] at hge1
      refine go_skip ?_
      refine go_seq ?_
      refine go_region ⟨_, Try.func28⟩ rfl ?_
      refine q0 rfl (o_fa ?_)
      refine q0 rfl (o_ld ?_)
      refine q0 rfl (o_len ?_)
      refine q0 rfl (o_add ?_)
      refine q0 rfl (o_fa ?_)
      refine q0 rfl (o_ld ?_)
      refine q0 rfl (o_lenStr ?_)
      refine q0 rfl (o_add ?_)
      refine q0 rfl (o_assign ?_)
      refine rg_nil ?_
      refine go_seq ?_
      refine go_seq ?_
      refine go_region ⟨_, Try.func28⟩ rfl ?_
      refine q0 rfl (o_assign ?_)
      refine rg_nil ?_
      refine go_block ?_
      refine go_loopI (X := Nat × Int) (fun s => s.1 ≤ t.kids.length ∧ BulkIs t (bK t s.1) most s.2) (fun s => [(1, .int .i64 most), (2, .pointer (some ⟨b2, 0, none⟩)), (5, .int .i64 s.2), (6, .int .i64 (s.1 : Int))]) (fun s => [TLx t.kids vk VR VK VS, BLx t.sys vs VF VK2]) (fun s => [boxR b2 (tc t vr vk vs) 26]) (fun s => t.kids.length - s.1) ((0, 1 + (t.r.length : Int) + (t.name.size : Int))) (⟨Nat.zero_le _, by unfold BulkIs; rw [bK_zero]; simp only; omega⟩) (by exact ⟨rfl, rfl, rfl, rfl, trivial⟩) ?_ ?_
      · exact fun w hs => hs.less (by simp +contextual)
      · intro ⟨i, n⟩ base0 ⟨hi, hn0⟩ next0
        dsimp only at hi hn0 next0 ⊢
        refine go_seq ?_
        refine go_seq ?_
        refine go_cutS ([(1, .int .i64 most), (2, .pointer (some ⟨b2, 0, none⟩)), (5, .int .i64 n), (6, .int .i64 (i : Int)), (40, .bool (decide ((i : Int) < (t.kids.length : Int)) && decide (n ≤ most)))]) (fun hK => ?_) (fun base => ?_)
        · refine go_region ⟨_, Try.func28⟩ rfl ?_
          refine q0 rfl (o_move ?_)
          refine q0 rfl (o_fa ?_)
          refine q0 rfl (o_ld ?_)
          refine q0 rfl (o_len ?_)
          refine q0 rfl (o_lss ?_)
          refine q0 rfl (o_move ?_)
          refine qI rfl rfl rfl wl_ (fun hg36 => o_move ?_) (fun hg36 => ?_)
          · refine qT rfl rfl rfl (o_move ?_)
            refine qT rfl rfl rfl (o_leq ?_)
            refine q0 rfl (o_pickT ?_)
            refine rg_nil ?_
            exact hK _ ⟨rfl, rfl, rfl, rfl, (by (conv => lhs; whnf); first | (simp_all [Bool.and_assoc]; done) | (simp_all [Bool.and_assoc]; omega)), trivial⟩
          · refine qF rfl rfl rfl ?_
            refine qF rfl rfl rfl ?_
            refine q0 rfl (o_pickF ?_)
            refine rg_nil ?_
            exact hK _ ⟨rfl, rfl, rfl, rfl, (by (conv => lhs; whnf); first | (simp_all [Bool.and_assoc]; done) | (simp_all [Bool.and_assoc]; omega)), trivial⟩
        · refine go_condI (fun h40 => ?_) (fun h40 => ?_)
          · have hlt' : (i : Int) < (t.kids.length : Int) ∧ n ≤ most := by simpa using h40
            have hlt : i < t.kids.length := by omega
            obtain ⟨bk, o, hav⟩ := hA1 (by omega)
            refine go_kid (ts := t.kids) (a := vk) i hlt ?_
            obtain ⟨hz1, hz2, hz3⟩ := hn0
            refine go_skip ?_
            refine go_seq ?_
            refine go_block ?_
            refine go_region ⟨_, Try.func28⟩ rfl ?_
            refine q0 rfl (o_move ?_)
            refine q0 rfl (o_fa ?_)
            refine q0 rfl (o_ld ?_)
            refine q0 rfl (o_move ?_)
            refine q0 rfl (o_ixN ?_)
            refine q0 rfl (o_ldT ?_)
            refine q0 rfl (o_move ?_)
            refine q0 rfl (o_move ?_)
            refine q0 rfl (o_sub ?_)
            refine q0 rfl (o_call Try.call28 (ih (t.kids.getD i t0, _, _) (parts_mem (parts_kid t i hlt)) (most - n) _ _ _ (by omega) (by omega)) (fun x52 => ?_))
            have hx := x52.2
            unfold BulkIs at hx
            refine q0 rfl (o_add ?_)
            refine q0 rfl (o_assign ?_)
            refine rg_nil ?_
            refine go_inBlock ?_
            refine go_region ⟨_, Try.func28⟩ rfl ?_
            refine q0 rfl (o_move ?_)
            refine q0 rfl (o_add ?_)
            refine q0 rfl (o_assign ?_)
            refine rg_nil ?_
            have hnn : BulkIs t (bK t (i + 1)) most (n + x52.1) := by (have h9 := bK_le t (i + 1); rw [bK_succ hlt] at h9 ⊢; unfold BulkIs; simp only at hx; omega)
            refine go_state (fun w hs => ?_) (next0 (i + 1, n + x52.1) _ ⟨hlt, hnn⟩ (by simp only; omega) ⟨rfl, rfl, rfl, rfl, trivial⟩)
            exact (hs.less (by simp +contextual))
          · have hge : ¬ ((i : Int) < (t.kids.length : Int) ∧ n ≤ most) := by simpa using h40
            have hnS : BulkIs t (bS t 0) most n := by (unfold BulkIs at hn0 ⊢; rw [bS_zero]; have h9 := bK_le t t.kids.length; rcases Nat.lt_or_ge i t.kids.length with h | h; omega; rw [show i = t.kids.length by omega] at hn0; exact hn0)
            refine go_exit rfl ?_
            refine go_seq ?_
            refine go_seq ?_
            refine go_region ⟨_, Try.func28⟩ rfl ?_
            refine q0 rfl (o_assign ?_)
            refine rg_nil ?_
            refine go_block ?_
            refine go_loopI (X := Nat × Int) (fun s => s.1 ≤ t.sys.length ∧ BulkIs t (bS t s.1) most s.2) (fun s => [(1, .int .i64 most), (2, .pointer (some ⟨b2, 0, none⟩)), (5, .int .i64 s.2), (7, .int .i64 (s.1 : Int))]) (fun s => [TLx t.kids vk VR VK VS, BLx t.sys vs VF VK2]) (fun s => [boxR b2 (tc t vr vk vs) 26]) (fun s => t.sys.length - s.1) ((0, n)) (⟨Nat.zero_le _, hnS⟩) (by exact ⟨rfl, rfl, rfl, rfl, trivial⟩) ?_ ?_
            · exact fun w hs => hs.less (by simp +contextual)
            · intro ⟨i2, n⟩ base1 ⟨hi2, hn2⟩ next1
              dsimp only at hi2 hn2 next1 ⊢
              refine go_seq ?_
              refine go_seq ?_
              refine go_cutS ([(1, .int .i64 most), (2, .pointer (some ⟨b2, 0, none⟩)), (5, .int .i64 n), (7, .int .i64 (i2 : Int)), (63, .bool (decide ((i2 : Int) < (t.sys.length : Int)) && decide (n ≤ most)))]) (fun hK => ?_) (fun base => ?_)
              · refine go_region ⟨_, Try.func28⟩ rfl ?_
                refine q0 rfl (o_move ?_)
                refine q0 rfl (o_fa ?_)
                refine q0 rfl (o_ld ?_)
                refine q0 rfl (o_len ?_)
                refine q0 rfl (o_lss ?_)
                refine q0 rfl (o_move ?_)
                refine qI rfl rfl rfl wl_ (fun hg59 => o_move ?_) (fun hg59 => ?_)
                · refine qT rfl rfl rfl (o_move ?_)
                  refine qT rfl rfl rfl (o_leq ?_)
                  refine q0 rfl (o_pickT ?_)
                  refine rg_nil ?_
                  exact hK _ ⟨rfl, rfl, rfl, rfl, (by (conv => lhs; whnf); first | (simp_all [Bool.and_assoc]; done) | (simp_all [Bool.and_assoc]; omega)), trivial⟩
                · refine qF rfl rfl rfl ?_
                  refine qF rfl rfl rfl ?_
                  refine q0 rfl (o_pickF ?_)
                  refine rg_nil ?_
                  exact hK _ ⟨rfl, rfl, rfl, rfl, (by (conv => lhs; whnf); first | (simp_all [Bool.and_assoc]; done) | (simp_all [Bool.and_assoc]; omega)), trivial⟩
              · refine go_condI (fun h63 => ?_) (fun h63 => ?_)
                · have hlt' : (i2 : Int) < (t.sys.length : Int) ∧ n ≤ most := by simpa using h63
                  have hlt2 : i2 < t.sys.length := by omega
                  obtain ⟨bk2, o2, hav2⟩ := hA2 (by omega)
                  refine go_branch (bs := t.sys) (a := vs) i2 hlt2 ?_
                  refine go_openCL (l := (t.sys.getD i2 br0).face) (a := VF i2) (fun hlf hAf hUf => ?_)
                  refine go_openTL (ts := (t.sys.getD i2 br0).kids) (a := VK2 i2) (fun VR3 VK3 VS3 hl3 hA3 => ?_)
                  obtain ⟨hz1, hz2, hz3⟩ := hn2
                  have hj0 := bJ_le (j := 0) hlt2
                  rw [bJ_zero] at hj0
                  refine go_skip ?_
                  refine go_seq ?_
                  refine go_block ?_
                  refine go_seq ?_
                  refine go_seq ?_
                  refine go_region ⟨_, Try.func28⟩ rfl ?_
                  refine q0 rfl (o_fa ?_)
                  refine q0 rfl (o_ld ?_)
                  refine q0 rfl (o_move ?_)
                  refine q0 rfl (o_ixN ?_)
                  refine q0 rfl (o_fa ?_)
                  refine q0 rfl (o_ldBf ?_)
                  refine q0 rfl (o_len ?_)
                  refine q0 rfl (o_move ?_)
                  refine q0 rfl (o_gtr ?_)
                  refine rg_nil ?_
                  refine go_condI (fun h74 => ?_) (fun h74 => ?_)
                  · have hbf := of_decide_eq_true h74
                    refine go_seq ?_
                    refine go_region ⟨_, Try.func28⟩ rfl ?_
                    refine q0 rfl (o_move ?_)
                    refine q0 rfl (o_add ?_)
                    refine q0 rfl (o_assign ?_)
                    refine rg_nil ?_
                    refine ret1 Try.func28 Try.results28 wn_ ⟨most + 1, by unfold BulkIs; omega⟩ rfl (fun w hs => hs.none)
                  · have hbf := of_decide_eq_false h74
                    refine go_skip ?_
                    refine go_seq ?_
                    refine go_region ⟨_, Try.func28⟩ rfl ?_
                    refine q0 rfl (o_move ?_)
                    refine q0 rfl (o_add ?_)
                    refine q0 rfl (o_fa ?_)
                    refine q0 rfl (o_ld ?_)
                    refine q0 rfl (o_move ?_)
                    refine q0 rfl (o_ixN ?_)
                    refine q0 rfl (o_fa ?_)
                    refine q0 rfl (o_ldBf ?_)
                    refine q0 rfl (o_len ?_)
                    refine q0 rfl (o_add ?_)
                    refine q0 rfl (o_assign ?_)
                    refine rg_nil ?_
                    refine go_seq ?_
                    refine go_region ⟨_, Try.func28⟩ rfl ?_
                    refine q0 rfl (o_assign ?_)
                    refine rg_nil ?_
                    refine go_block ?_
                    refine go_loopI (X := Nat × Int) (fun s => s.1 ≤ (t.sys.getD i2 br0).kids.length ∧ BulkIs t (bJ t i2 s.1) most s.2) (fun s => [(1, .int .i64 most), (2, .pointer (some ⟨b2, 0, none⟩)), (5, .int .i64 s.2), (7, .int .i64 (i2 : Int)), (8, .int .i64 (s.1 : Int))]) (fun s => TLx (t.sys.getD i2 br0).kids (VK2 i2) VR3 VK3 VS3 :: [TLx t.kids vk VR VK VS, BLx t.sys vs VF VK2]) (fun s => [boxR b2 (tc t vr vk vs) 26]) (fun s => (t.sys.getD i2 br0).kids.length - s.1) ((0, n + 1 + ((t.sys.getD i2 br0).face.length : Int))) (⟨Nat.zero_le _, by (unfold BulkIs; rw [bJ_zero]; simp only; omega)⟩) (by exact ⟨rfl, rfl, rfl, rfl, rfl, trivial⟩) ?_ ?_
                    · exact fun w hs => hs.less (by simp +contextual)
                    · intro ⟨j, n⟩ base2 ⟨hj, hn3⟩ next2
                      dsimp only at hj hn3 next2 ⊢
                      refine go_seq ?_
                      refine go_seq ?_
                      refine go_cutS ([(1, .int .i64 most), (2, .pointer (some ⟨b2, 0, none⟩)), (5, .int .i64 n), (7, .int .i64 (i2 : Int)), (8, .int .i64 (j : Int)), (100, .bool (decide ((j : Int) < ((t.sys.getD i2 br0).kids.length : Int)) && decide (n ≤ most)))]) (fun hK => ?_) (fun base => ?_)
                      · refine go_region ⟨_, Try.func28⟩ rfl ?_
                        refine q0 rfl (o_move ?_)
                        refine q0 rfl (o_fa ?_)
                        refine q0 rfl (o_ld ?_)
                        refine q0 rfl (o_move ?_)
                        refine q0 rfl (o_ixN ?_)
                        refine q0 rfl (o_fa ?_)
                        refine q0 rfl (o_ldBf ?_)
                        refine q0 rfl (o_len ?_)
                        refine q0 rfl (o_lss ?_)
                        refine q0 rfl (o_move ?_)
                        refine qI rfl rfl rfl wl_ (fun hg96 => o_move ?_) (fun hg96 => ?_)
                        · refine qT rfl rfl rfl (o_move ?_)
                          refine qT rfl rfl rfl (o_leq ?_)
                          refine q0 rfl (o_pickT ?_)
                          refine rg_nil ?_
                          exact hK _ ⟨rfl, rfl, rfl, rfl, rfl, (by (conv => lhs; whnf); first | (simp_all [Bool.and_assoc]; done) | (simp_all [Bool.and_assoc]; omega)), trivial⟩
                        · refine qF rfl rfl rfl ?_
                          refine qF rfl rfl rfl ?_
                          refine q0 rfl (o_pickF ?_)
                          refine rg_nil ?_
                          exact hK _ ⟨rfl, rfl, rfl, rfl, rfl, (by (conv => lhs; whnf); first | (simp_all [Bool.and_assoc]; done) | (simp_all [Bool.and_assoc]; omega)), trivial⟩
                      · refine go_condI (fun h100 => ?_) (fun h100 => ?_)
                        · have hlt3' : (j : Int) < ((t.sys.getD i2 br0).kids.length : Int) ∧ n ≤ most := by simpa using h100
                          have hlt3 : j < (t.sys.getD i2 br0).kids.length := by omega
                          obtain ⟨bk3, o3, hav3⟩ := hA3 (by omega)
                          refine go_kid (ts := (t.sys.getD i2 br0).kids) (a := VK2 i2) j hlt3 ?_
                          obtain ⟨hy1, hy2, hy3⟩ := hn3
                          refine go_skip ?_
                          refine go_seq ?_
                          refine go_block ?_
                          refine go_region ⟨_, Try.func28⟩ rfl ?_
                          refine q0 rfl (o_move ?_)
                          refine q0 rfl (o_fa ?_)
                          refine q0 rfl (o_ld ?_)
                          refine q0 rfl (o_move ?_)
                          refine q0 rfl (o_ixN ?_)
                          refine q0 rfl (o_fa ?_)
                          refine q0 rfl (o_ldBf ?_)
                          refine q0 rfl (o_move ?_)
                          refine q0 rfl (o_ixN ?_)
                          refine q0 rfl (o_ldT ?_)
                          refine q0 rfl (o_move ?_)
                          refine q0 rfl (o_move ?_)
                          refine q0 rfl (o_sub ?_)
                          refine q0 rfl (o_call Try.call28 (ih ((t.sys.getD i2 br0).kids.getD j t0, _, _) (parts_mem (parts_sys t i2 j hlt2 hlt3)) (most - n) _ _ _ (by omega) (by omega)) (fun x116 => ?_))
                          have hx := x116.2
                          unfold BulkIs at hx
                          refine q0 rfl (o_add ?_)
                          refine q0 rfl (o_assign ?_)
                          refine rg_nil ?_
                          refine go_inBlock ?_
                          refine go_region ⟨_, Try.func28⟩ rfl ?_
                          refine q0 rfl (o_move ?_)
                          refine q0 rfl (o_add ?_)
                          refine q0 rfl (o_assign ?_)
                          refine rg_nil ?_
                          have hnn : BulkIs t (bJ t i2 (j + 1)) most (n + x116.1) := by (have h9 := bJ_le (j := j + 1) hlt2; rw [bJ_succ hlt3] at h9 ⊢; unfold BulkIs; simp only at hx; omega)
                          refine go_state (fun w hs => ?_) (next2 (j + 1, n + x116.1) _ ⟨hlt3, hnn⟩ (by simp only; omega) ⟨rfl, rfl, rfl, rfl, rfl, trivial⟩)
                          exact (hs.less (by simp +contextual))
                        · have hge3 : ¬ ((j : Int) < ((t.sys.getD i2 br0).kids.length : Int) ∧ n ≤ most) := by simpa using h100
                          have hnS2 : BulkIs t (bS t (i2 + 1)) most n := by (unfold BulkIs at hn3 ⊢; rw [bS_succ hlt2]; have h9 := bS_le t (i2 + 1); rw [bS_succ hlt2] at h9; rcases Nat.lt_or_ge j (t.sys.getD i2 br0).kids.length with h | h; omega; rw [show j = (t.sys.getD i2 br0).kids.length by omega] at hn3; exact hn3)
                          refine go_exit rfl ?_
                          refine go_inBlock ?_
                          refine go_region ⟨_, Try.func28⟩ rfl ?_
                          refine q0 rfl (o_move ?_)
                          refine q0 rfl (o_add ?_)
                          refine q0 rfl (o_assign ?_)
                          refine rg_nil ?_
                          refine go_state (fun w hs => ?_) (next1 (i2 + 1, n) _ ⟨hlt2, hnS2⟩ (by simp only; omega) ⟨rfl, rfl, rfl, rfl, trivial⟩)
                          exact (hs.less (by simp +contextual))
                · have hge2 : ¬ ((i2 : Int) < (t.sys.length : Int) ∧ n ≤ most) := by simpa using h63
                  have hfin : BulkIs t (bulk t) most n := by (unfold BulkIs at hn2 ⊢; rcases Nat.lt_or_ge i2 t.sys.length with h | h; omega; rw [show i2 = t.sys.length by omega, bS_all] at hn2; exact hn2)
                  refine go_exit rfl ?_
                  refine go_seq ?_
                  refine go_region ⟨_, Try.func28⟩ rfl ?_
                  refine q0 rfl (o_move ?_)
                  refine q0 rfl (o_assign ?_)
                  refine rg_nil ?_
                  refine ret1 Try.func28 Try.results28 wn_ ⟨n, hfin⟩ rfl (fun w hs => hs.none)
theorem bulk_spec : ∀ t : T, BulkAt t := T.ind fun t ih most vr vk vs h0 hm => bulk_walk t ih most vr vk vs h0 hm
end Go.Hy
namespace Go.Hy
set_option linter.unusedVariables false
set_option linter.unusedSimpArgs false
set_option linter.unusedSectionVars false
open Go.Proofs
set_option linter.unusedVariables false
set_option linter.unusedSimpArgs false
set_option maxRecDepth 100000
theorem liftVarsF (t : T) (vr vk vs : SH) (f b : Int) (ha : in64 f) (hb : in64 b) (hz : size t ≤ 1152921504606846) : Spec Try.prog 14 #[.agg (tc t vr vk vs).toArray, .int .i64 f, .int .i64 b] [RT t vr vk vs] [] (fun x : SH × SH × SH => .tuple #[.agg (tc (varsRes t f b).2 x.1 x.2.1 x.2.2).toArray, .int .i64 (varsRes t f b).1]) (fun x => [RT (varsRes t f b).2 x.1 x.2.1 x.2.2]) (fun _ => []) :=
  Spec.settleT tys (fun v => .tuple #[v, .int .i64 (varsRes t f b).1]) (vars_spec t vr vk vs f b ha hb hz) (fun ok w hs => vars_okT hb (ok_of (hs.facts _ List.mem_cons_self)))
theorem liftDimsF (t : T) (vr vk vs : SH) (f b : Int) (ha : in64 f) (hb : in64 b) (hz : size t ≤ 1152921504606846) : Spec Try.prog 15 #[.agg (tc t vr vk vs).toArray, .int .i64 f, .int .i64 b] [RT t vr vk vs] [] (fun x : SH × SH × SH => .tuple #[.agg (tc (dimsRes t f b).2 x.1 x.2.1 x.2.2).toArray, .int .i64 (dimsRes t f b).1]) (fun x => [RT (dimsRes t f b).2 x.1 x.2.1 x.2.2]) (fun _ => []) :=
  Spec.settleT tys (fun v => .tuple #[v, .int .i64 (dimsRes t f b).1]) (dims_spec2 t vr vk vs f b ha hb hz) (fun ok w hs => dims_okT (ok_of (hs.facts _ List.mem_cons_self)))
theorem liftBothF (t : T) (vr vk vs : SH) (f b : Int) (ha : in64 f) (hb : in64 b) (hz : size t ≤ 1152921504606846) : Spec Try.prog 11 #[.agg (tc t vr vk vs).toArray, .int .i64 f, .int .i64 b] [RT t vr vk vs] [] (fun x : SH × SH × SH => .tuple #[.agg (tc (bothRes t f b).2 x.1 x.2.1 x.2.2).toArray, .int .i64 (bothRes t f b).1]) (fun x => [RT (bothRes t f b).2 x.1 x.2.1 x.2.2]) (fun _ => []) :=
  Spec.settleT tys (fun v => .tuple #[v, .int .i64 (bothRes t f b).1]) (both_spec t vr vk vs f b ha hb hz) (fun ok w hs => both_okT ha (ok_of (hs.facts _ List.mem_cons_self)))
theorem great11_spec (t : T) (vr_t vk_t vs_t : SH)  : Spec Try.prog 9 #[.agg (tc t vr_t vk_t vs_t).toArray] [RT t vr_t vk_t vs_t] [] (fun _ : Unit => .bool (decide (400 < bulk t))) (fun _ : Unit => []) (fun _ : Unit => []) := by
  refine spec_go (args := [.agg (tc t vr_t vk_t vs_t).toArray]) Try.func9 Try.ntmps9 rfl (by exact Nat.le_of_ble_eq_true rfl) fun B hB => ?_
  refine go_open (t := t) (vr := vr_t) (vk := vk_t) (vs := vs_t) (fun hk1 hn1 hm1 => ?_)
  refine go_openCL (l := (t).r) (a := vr_t) (fun hl2 hA2 hU2 => ?_)
  refine go_openTL (ts := (t).kids) (a := vk_t) (fun VR3 VK3 VS3 hl3 hA3 => ?_)
  refine go_openBL (bs := (t).sys) (a := vs_t) (fun VF4 VK4 hl4 hA4 => ?_)
  refine go_seq ?_
  refine go_region ⟨_, Try.func9⟩ rfl ?_
  refine q0 rfl (o_box fun b1 => ?_)
  refine q0 rfl (o_assign ?_)
  refine rg_nil ?_
  refine go_seq ?_
  refine go_region ⟨_, Try.func9⟩ rfl ?_
  refine q0 rfl (o_lds ?_)
  refine q0 rfl (o_call Try.call28 (bulk_spec t 400 vr_t vk_t vs_t (by omega) (by omega)) (fun x4 => ?_))
  have hx := x4.2
  unfold BulkIs at hx
  refine q0 rfl (o_gtr ?_)
  refine q0 rfl (o_assign ?_)
  refine rg_nil ?_
  refine ret1 Try.func9 Try.results9 wn_ () (congrArg Value.bool (decide_eq_decide.mpr (by omega))) (fun w hs => hs.none)
abbrev FarAt (t : T) : Prop := ∀ (vr_t vk_t vs_t : SH), Spec Try.prog 12 #[.agg (tc t vr_t vk_t vs_t).toArray] [RT t vr_t vk_t vs_t] [] (fun _ : Unit => .bool (farT t)) (fun _ : Unit => []) (fun _ : Unit => [])
theorem far_walk (t : T) (ihk : ∀ k, k ∈ t.kids → FarAt k) (ihs : ∀ b, b ∈ t.sys → ∀ k, k ∈ b.kids → FarAt k) (vr_t vk_t vs_t : SH)  : Spec Try.prog 12 #[.agg (tc t vr_t vk_t vs_t).toArray] [RT t vr_t vk_t vs_t] [] (fun _ : Unit => .bool (farT t)) (fun _ : Unit => []) (fun _ : Unit => []) := by
  refine spec_go (args := [.agg (tc t vr_t vk_t vs_t).toArray]) Try.func12 Try.ntmps12 rfl (by exact Nat.le_of_ble_eq_true rfl) fun B hB => ?_
  refine go_open (t := t) (vr := vr_t) (vk := vk_t) (vs := vs_t) (fun hk1 hn1 hm1 => ?_)
  refine go_openCL (l := (t).r) (a := vr_t) (fun hl2 hA2 hU2 => ?_)
  refine go_openTL (ts := (t).kids) (a := vk_t) (fun VR3 VK3 VS3 hl3 hA3 => ?_)
  refine go_openBL (bs := (t).sys) (a := vs_t) (fun VF4 VK4 hl4 hA4 => ?_)
  refine go_seq ?_
  refine go_region ⟨_, Try.func12⟩ rfl ?_
  refine q0 rfl (o_box fun b1 => ?_)
  refine q0 rfl (o_assign ?_)
  refine rg_nil ?_
  refine go_seq ?_
  refine go_seq ?_
  refine go_cutS ([(1, .pointer (some ⟨b1, 0, none⟩)), (16, .bool ((decide (((t).kind) = 1)) && (decide (1000000000 < ((t).n)))))]) (fun hK => ?_) (fun base => ?_)
  · refine go_region ⟨_, Try.func12⟩ rfl ?_
    refine q0 rfl (o_fa ?_)
    refine q0 rfl (o_ld ?_)
    refine q0 rfl (o_eqI ?_)
    refine q0 rfl (o_move ?_)
    refine qI rfl rfl rfl wl_ (fun hg12 => ?_) (fun hg12 => ?_)
    · have g12 : (decide (((t).kind) = 1)) = true := hg12
      try simp only [sC, bne_iff_ne, beq_iff_eq, ne_eq] at g12
      refine o_fa ?_
      refine qT rfl rfl rfl (o_ld ?_)
      refine qT rfl rfl rfl (o_gtr ?_)
      refine q0 rfl (o_pickT ?_)
      refine rg_nil ?_
      exact hK _ ⟨rfl, dn_, trivial⟩
    · have g12 : (decide (((t).kind) = 1)) = false := hg12
      try simp only [sC, bne_iff_ne, beq_iff_eq, ne_eq] at g12
      refine qF rfl rfl rfl ?_
      refine qF rfl rfl rfl ?_
      refine q0 rfl (o_pickF ?_)
      refine rg_nil ?_
      exact hK _ ⟨rfl, dn_, trivial⟩
  · refine go_condI (fun h16 => ?_) (fun h16 => ?_)
    · have c16 : ((decide (((t).kind) = 1)) && (decide (1000000000 < ((t).n)))) = true := h16
      try simp only [sC, bne_iff_ne, beq_iff_eq, ne_eq] at c16
      have hg : farT t = true := far_own (by simpa using h16)
      refine go_seq ?_
      refine go_region ⟨_, Try.func12⟩ rfl ?_
      refine q0 rfl (o_assign ?_)
      refine rg_nil ?_
      refine ret1 Try.func12 Try.results12 wn_ () (by rw [hg]) (fun w hs => hs.none)
    · have c16 : ((decide (((t).kind) = 1)) && (decide (1000000000 < ((t).n)))) = false := h16
      try simp only [sC, bne_iff_ne, beq_iff_eq, ne_eq] at c16
      refine go_skip ?_
      refine go_seq ?_
      refine go_seq ?_
      refine go_region ⟨_, Try.func12⟩ rfl ?_
      refine q0 rfl (o_fa ?_)
      refine q0 rfl (o_ld ?_)
      refine q0 rfl (o_len ?_)
      refine q0 rfl (o_move ?_)
      refine rg_nil ?_
      refine go_block ?_
      refine go_loopE (X := Nat) (fun s_ => s_ ≤ t.kids.length ∧ ∀ j, j < s_ → farT (t.kids.getD j t0) = false) (fun s_ => [(1, .pointer (some ⟨b1, 0, none⟩)), (18, sl vk_t ((t).kids.length)), (19, .int .i64 (((t).kids.length : Int))), (20, .int .i64 ((s_ : Int)))]) (fun s_ G_ => G_) (fun s_ => [boxR b1 (tc t vr_t vk_t vs_t) 26]) (fun s_ => t.kids.length - s_) (0) (⟨Nat.zero_le _, fun j hj => absurd hj (Nat.not_lt_zero _)⟩) (by exact ⟨rfl, rfl, rfl, rfl, trivial⟩) ?_ ?_
      · exact fun w hs => hs
      · intro i base0 ⟨hi, hok⟩ next0
        refine go_seq ?_
        refine go_region ⟨_, Try.func12⟩ rfl ?_
        refine q0 rfl (o_lss ?_)
        refine rg_nil ?_
        refine go_seq ?_
        refine go_condI (fun h21 => ?_) (fun h21 => ?_)
        · have c21 : (decide ((i : Int) < ((t).kids.length : Int))) = true := h21
          try simp only [sC, bne_iff_ne, beq_iff_eq, ne_eq] at c21
          refine go_skip ?_
          refine go_seq ?_
          refine go_block ?_
          refine go_seq ?_
          refine go_kid (ts := (t).kids) (a := vk_t) (VR := VR3) (VK := VK3) (VS := VS3) i (by omega) ?_
          refine go_region ⟨_, Try.func12⟩ rfl ?_
          obtain ⟨bk5, o5, hav5⟩ := hA3 (by omega)
          refine q0 rfl (o_ixN ?_ (j := i))
          refine q0 rfl (o_ldT ?_)
          refine q0 rfl (o_new fun b4 => ?_)
          refine q0 rfl (o_st ?_)
          refine rg_nil ?_
          refine go_seq ?_
          refine go_region ⟨_, Try.func12⟩ rfl ?_
          refine q0 rfl (o_lds ?_)
          refine q0 rfl (o_call Try.call12 ((ihk (((t).kids).getD i t0) (getD_mem (show i < ((t).kids).length by omega))) (VR3 i) (VK3 i) (VS3 i) ) (fun x25 => ?_))
          refine rg_nil ?_
          refine go_condI (fun h25 => ?_) (fun h25 => ?_)
          · have c25 : (farT (((t).kids).getD i t0)) = true := h25
            try simp only [sC, bne_iff_ne, beq_iff_eq, ne_eq] at c25
            have hg : farT t = true := far_kid (i := i) (by omega) h25
            refine go_seq ?_
            refine go_region ⟨_, Try.func12⟩ rfl ?_
            refine q0 rfl (o_assign ?_)
            refine rg_nil ?_
            refine ret1 Try.func12 Try.results12 wn_ () (by rw [hg]) (fun w hs => hs.none)
          · have c25 : (farT (((t).kids).getD i t0)) = false := h25
            try simp only [sC, bne_iff_ne, beq_iff_eq, ne_eq] at c25
            refine go_skip ?_
            refine go_inBlock ?_
            refine go_region ⟨_, Try.func12⟩ rfl ?_
            refine q0 rfl (o_add ?_)
            refine q0 rfl (o_move ?_)
            refine rg_nil ?_
            refine go_state (fun w hs => ?_) (next0 (i + 1) _ (⟨by omega, fun j hj => by rcases Nat.lt_succ_iff_lt_or_eq.mp hj with h | h; exact hok j h; subst h; exact h25⟩) (by omega) ⟨rfl, rfl, rfl, rfl, trivial⟩)
            exact (((hs.less (by simp +contextual)).perm perm1).dropR (A := [_]))
        · have c21 : (decide ((i : Int) < ((t).kids.length : Int))) = false := h21
          try simp only [sC, bne_iff_ne, beq_iff_eq, ne_eq] at c21
          refine go_exit rfl ?_
          refine go_seq ?_
          refine go_seq ?_
          refine go_region ⟨_, Try.func12⟩ rfl ?_
          refine q0 rfl (o_fa ?_)
          refine q0 rfl (o_ld ?_)
          refine q0 rfl (o_len ?_)
          refine q0 rfl (o_move ?_)
          refine rg_nil ?_
          refine go_block ?_
          refine go_loopE (X := Nat) (fun s_ => s_ ≤ t.sys.length ∧ ∀ j, j < s_ → farL (t.sys.getD j br0).kids = false) (fun s_ => [(28, sl vs_t ((t).sys.length)), (29, .int .i64 (((t).sys.length : Int))), (30, .int .i64 ((s_ : Int)))]) (fun s_ G_ => G_) (fun s_ => [boxR b1 (tc t vr_t vk_t vs_t) 26]) (fun s_ => t.sys.length - s_) (0) (⟨Nat.zero_le _, fun j hj => absurd hj (Nat.not_lt_zero _)⟩) (by exact ⟨rfl, rfl, rfl, trivial⟩) ?_ ?_
          · exact fun w hs => hs
          · intro s base1 ⟨hs1, hok2⟩ next1
            refine go_seq ?_
            refine go_region ⟨_, Try.func12⟩ rfl ?_
            refine q0 rfl (o_lss ?_)
            refine rg_nil ?_
            refine go_seq ?_
            refine go_condI (fun h31 => ?_) (fun h31 => ?_)
            · have c31 : (decide ((s : Int) < ((t).sys.length : Int))) = true := h31
              try simp only [sC, bne_iff_ne, beq_iff_eq, ne_eq] at c31
              refine go_skip ?_
              refine go_seq ?_
              refine go_block ?_
              refine go_seq ?_
              refine go_branch (bs := (t).sys) (a := vs_t) (VF := VF4) (VK := VK4) s (by omega) ?_
              refine go_openCL (l := (((t).sys).getD s br0).face) (a := VF4 s) (fun hl6 hA6 hU6 => ?_)
              refine go_openTL (ts := (((t).sys).getD s br0).kids) (a := VK4 s) (fun VR7 VK7 VS7 hl7 hA7 => ?_)
              refine go_region ⟨_, Try.func12⟩ rfl ?_
              obtain ⟨bk8, o8, hav8⟩ := hA4 (by omega)
              refine q0 rfl (o_ixN ?_ (j := s))
              refine q0 rfl (o_ldB ?_)
              refine q0 rfl (o_new fun b6 => ?_)
              refine q0 rfl (o_st ?_)
              refine rg_nil ?_
              refine go_seq ?_
              refine go_region ⟨_, Try.func12⟩ rfl ?_
              refine q0 rfl (o_fa ?_)
              refine q0 rfl (o_ld ?_)
              refine q0 rfl (o_len ?_)
              refine q0 rfl (o_move ?_)
              refine rg_nil ?_
              refine go_block ?_
              refine go_loopE (X := Nat) (fun s_ => s_ ≤ (t.sys.getD s br0).kids.length ∧ ∀ j, j < s_ → farT ((t.sys.getD s br0).kids.getD j t0) = false) (fun s_ => [(28, sl vs_t ((t).sys.length)), (29, .int .i64 (((t).sys.length : Int))), (30, .int .i64 ((s : Int))), (35, sl (VK4 s) ((((t).sys).getD s br0).kids.length)), (36, .int .i64 (((((t).sys).getD s br0).kids.length : Int))), (37, .int .i64 ((s_ : Int)))]) (fun s_ G_ => G_) (fun s_ => [boxR b6 (bc (((t).sys).getD s br0) (VF4 s) (VK4 s)) 63, boxR b1 (tc t vr_t vk_t vs_t) 26]) (fun s_ => (t.sys.getD s br0).kids.length - s_) (0) (⟨Nat.zero_le _, fun j hj => absurd hj (Nat.not_lt_zero _)⟩) (by exact ⟨rfl, rfl, rfl, rfl, rfl, rfl, trivial⟩) ?_ ?_
              · exact fun w hs => hs
              · intro k base2 ⟨hk1, hok3⟩ next2
                refine go_seq ?_
                refine go_region ⟨_, Try.func12⟩ rfl ?_
                refine q0 rfl (o_lss ?_)
                refine rg_nil ?_
                refine go_seq ?_
                refine go_condI (fun h38 => ?_) (fun h38 => ?_)
                · have c38 : (decide ((k : Int) < ((((t).sys).getD s br0).kids.length : Int))) = true := h38
                  try simp only [sC, bne_iff_ne, beq_iff_eq, ne_eq] at c38
                  refine go_skip ?_
                  refine go_seq ?_
                  refine go_block ?_
                  refine go_seq ?_
                  refine go_kid (ts := (((t).sys).getD s br0).kids) (a := VK4 s) (VR := VR7) (VK := VK7) (VS := VS7) k (by omega) ?_
                  refine go_region ⟨_, Try.func12⟩ rfl ?_
                  obtain ⟨bk9, o9, hav9⟩ := hA7 (by omega)
                  refine q0 rfl (o_ixN ?_ (j := k))
                  refine q0 rfl (o_ldT ?_)
                  refine q0 rfl (o_new fun b8 => ?_)
                  refine q0 rfl (o_st ?_)
                  refine rg_nil ?_
                  refine go_seq ?_
                  refine go_region ⟨_, Try.func12⟩ rfl ?_
                  refine q0 rfl (o_lds ?_)
                  refine q0 rfl (o_call Try.call12 ((ihs (((t).sys).getD s br0) (getD_mem (show s < ((t).sys).length by omega)) (((((t).sys).getD s br0).kids).getD k t0) (getD_mem (show k < ((((t).sys).getD s br0).kids).length by omega))) (VR7 k) (VK7 k) (VS7 k) ) (fun x42 => ?_))
                  refine rg_nil ?_
                  refine go_condI (fun h42 => ?_) (fun h42 => ?_)
                  · have c42 : (farT (((((t).sys).getD s br0).kids).getD k t0)) = true := h42
                    try simp only [sC, bne_iff_ne, beq_iff_eq, ne_eq] at c42
                    have hg : farT t = true := far_sys (s := s) (k := k) (by omega) (by omega) h42
                    refine go_seq ?_
                    refine go_region ⟨_, Try.func12⟩ rfl ?_
                    refine q0 rfl (o_assign ?_)
                    refine rg_nil ?_
                    refine ret1 Try.func12 Try.results12 wn_ () (by rw [hg]) (fun w hs => hs.none)
                  · have c42 : (farT (((((t).sys).getD s br0).kids).getD k t0)) = false := h42
                    try simp only [sC, bne_iff_ne, beq_iff_eq, ne_eq] at c42
                    refine go_skip ?_
                    refine go_inBlock ?_
                    refine go_region ⟨_, Try.func12⟩ rfl ?_
                    refine q0 rfl (o_add ?_)
                    refine q0 rfl (o_move ?_)
                    refine rg_nil ?_
                    refine go_state (fun w hs => ?_) (next2 (k + 1) _ (⟨by omega, fun j hj => by rcases Nat.lt_succ_iff_lt_or_eq.mp hj with h | h; exact hok3 j h; subst h; exact h42⟩) (by omega) ⟨rfl, rfl, rfl, rfl, rfl, rfl, trivial⟩)
                    exact ((((hs.less (by simp +contextual)).perm perm2).perm perm2).dropR (A := [_, _]))
                · have c38 : (decide ((k : Int) < ((((t).sys).getD s br0).kids.length : Int))) = false := h38
                  try simp only [sC, bne_iff_ne, beq_iff_eq, ne_eq] at c38
                  refine go_exit rfl ?_
                  refine go_inBlock ?_
                  refine go_region ⟨_, Try.func12⟩ rfl ?_
                  refine q0 rfl (o_add ?_)
                  refine q0 rfl (o_move ?_)
                  refine rg_nil ?_
                  refine go_state (fun w hs => ?_) (next1 (s + 1) _ (⟨by omega, fun j hj => by rcases Nat.lt_succ_iff_lt_or_eq.mp hj with h | h; exact hok2 j h; subst h; exact farL_none (fun k hk => hok3 k (by omega))⟩) (by omega) ⟨rfl, rfl, rfl, trivial⟩)
                  exact (((hs.less (by simp +contextual)).perm perm1).dropR (A := [_]))
            · have c31 : (decide ((s : Int) < ((t).sys.length : Int))) = false := h31
              try simp only [sC, bne_iff_ne, beq_iff_eq, ne_eq] at c31
              have hg : farT t = false := far_none (by simpa using h16) (fun j hj => hok j (by omega)) (fun j hj => hok2 j (by omega))
              refine go_exit rfl ?_
              refine go_seq ?_
              refine go_region ⟨_, Try.func12⟩ rfl ?_
              refine q0 rfl (o_assign ?_)
              refine rg_nil ?_
              refine ret1 Try.func12 Try.results12 wn_ () (by rw [hg]) (fun w hs => hs.none)
theorem far_spec : ∀ t : T, FarAt t := T.ind' fun t ihk ihs vr_t vk_t vs_t  => far_walk t ihk ihs vr_t vk_t vs_t 
theorem works11_spec   : Spec Try.prog 8 #[] [] [] (fun _ : Unit => .bool (true)) (fun _ : Unit => []) (fun _ : Unit => []) := by
  refine spec_go (args := []) Try.func8 Try.ntmps8 rfl (by exact Nat.le_of_ble_eq_true rfl) fun B hB => ?_
  refine go_seq ?_
  refine go_region ⟨_, Try.func8⟩ rfl ?_
  refine q0 rfl (o_assign ?_)
  refine rg_nil ?_
  refine go_seq ?_
  refine go_region ⟨_, Try.func8⟩ rfl ?_
  refine q0 rfl (o_build (cs := [.int .i64 (1), .int .i64 (0), .string ((ByteArray.mk #[])), sl (none, 0) (0), sl (none, 0) (0), sl (none, 0) (0)]) ?_)
  refine q0 rfl (o_build (cs := [.int .i64 (1), .int .i64 (1), .string ((ByteArray.mk #[])), sl (none, 0) (0), sl (none, 0) (0), sl (none, 0) (0)]) ?_)
  refine q0 rfl (o_lit2 fun b9 => ?_)
  refine q0 rfl (o_build (cs := [.int .i64 (6), .int .i64 (0), .string ((ByteArray.mk #[])), sl (none, 0) (0), sl (some ⟨b9, 0, none⟩, 2) (2), sl (none, 0) (0)]) ?_)
  refine q0 rfl (o_lit1 fun b11 => ?_)
  refine q0 rfl (o_build (cs := [.int .i64 (5), .int .i64 (0), .string ((ByteArray.mk #[])), sl (none, 0) (0), sl (some ⟨b11, 0, none⟩, 1) (1), sl (none, 0) (0)]) ?_)
  refine q0 rfl (o_new fun b1 => ?_)
  refine q0 rfl (o_st ?_)
  refine rg_nil ?_
  refine go_state (fun w hs => ?_) (?_ : GoT _ _ _ _ _ _ _ [RT exL nul (some ⟨b11, 0, none⟩, 1) nul] [boxR b1 (tc exL nul (some ⟨b11, 0, none⟩, 1) nul) 26])
  · have g1 := (((((hs.perm perm1).perm perm2).leaf 1 0 ⟨#[]⟩ (in_lit (by omega) (by omega)) (in_lit (by omega) (by omega)) (Nat.zero_le _)).leaf 1 1 ⟨#[]⟩ (in_lit (by omega) (by omega)) (in_lit (by omega) (by omega)) (Nat.zero_le _)).lit2T (t := vE 0) (vr := nul) (vk := nul) (vs := nul) (u := vE 1) (ur := nul) (uk := nul) (us := nul) hB (by simp [vE]) (by simp [vE]) rfl).node 6 0 [vE 0, vE 1] (some ⟨b9, 0, none⟩, 2) (in_lit (by omega) (by omega)) (in_lit (by omega) (by omega)) (by simp)
    have g3 := (g1.lit1T (t := appE) (vr := nul) (vk := (some ⟨b9, 0, none⟩, 2)) (vs := nul) hB (by simp [appE]) rfl).node 5 0 [appE] (some ⟨b11, 0, none⟩, 1) (in_lit (by omega) (by omega)) (in_lit (by omega) (by omega)) (by simp)
    exact (g3.less (by simp [exL]))
  refine go_seq ?_
  refine go_region ⟨_, Try.func8⟩ rfl ?_
  refine q0 rfl (o_lds ?_)
  refine q0 rfl (o_call Try.call14 ((by have h := liftVarsF exL nul (some ⟨b11, 0, none⟩, 1) nul 0 2 (by unfold in64; omega) (by unfold in64; omega) (by rw [exL_size.1]; omega); simp only [ex_vars1, ex_vars2] at h; exact h)) (fun x15 => ?_))
  refine q0 rfl (o_move ?_)
  refine q0 rfl (o_extract ?_)
  refine q0 rfl (o_extract ?_)
  refine q0 rfl (o_new fun b2 => ?_)
  refine q0 rfl (o_st ?_)
  refine q0 rfl (o_assign ?_)
  refine rg_nil ?_
  refine go_seq ?_
  refine go_region ⟨_, Try.func8⟩ rfl ?_
  refine q0 rfl (o_build (cs := [.int .u32 ((((⟨3, 0⟩ : Cl)).pos : Nat) : Int), .int .u32 ((((⟨3, 0⟩ : Cl)).neg : Nat) : Int)]) ?_)
  refine q0 rfl (o_lit1 fun b19 => ?_)
  refine q0 rfl (o_build (cs := [.int .i64 (21), .int .i64 (0), .string ((ByteArray.mk #[])), sl (some ⟨b19, 0, none⟩, 1) (1), sl (none, 0) (0), sl (none, 0) (0)]) ?_)
  refine q0 rfl (o_lit1 fun b21 => ?_)
  refine q0 rfl (o_build (cs := [.int .i64 (12), .int .i64 (0), .string ((ByteArray.mk #[])), sl (none, 0) (0), sl (some ⟨b21, 0, none⟩, 1) (1), sl (none, 0) (0)]) ?_)
  refine q0 rfl (o_new fun b4 => ?_)
  refine q0 rfl (o_st ?_)
  refine rg_nil ?_
  refine go_state (fun w hs => ?_) (?_ : GoT _ _ _ _ _ _ _ [RT exP nul (some ⟨b21, 0, none⟩, 1) nul, RT exA x15.1 x15.2.1 x15.2.2] [boxR b4 (tc exP nul (some ⟨b21, 0, none⟩, 1) nul) 26, boxR b1 (tc exL nul (some ⟨b11, 0, none⟩, 1) nul) 26, boxR b2 (tc exA x15.1 x15.2.1 x15.2.2) 26])
  · have g1 := ((((((hs.perm perm3).perm perm4).perm perm2).perm perm3).perm perm4).boxRow (sz := 2) (m := 1) rfl (by decide)).settleCL (l := [⟨3, 0⟩]) hB rfl rfl (by unfold reach; decide) (by intro c hc; simp at hc; subst hc; exact ⟨by decide, by decide⟩)
    have g2 := (((g1.nilTL 0).nilBL 0).mkRT (k := 21) (n := 0) (nm := ⟨#[]⟩) (in_lit (by omega) (by omega)) (in_lit (by omega) (by omega)) (Nat.zero_le _) (r := [⟨3, 0⟩]) (ks := []) (ss := []) (vr := (some ⟨b19, 0, none⟩, 1)) (vk := nul) (vs := nul) (by simp) (by simp) (by simp))
    have g3 := (g2.lit1T (t := loopE) (vr := (some ⟨b19, 0, none⟩, 1)) (vk := nul) (vs := nul) hB (by simp [loopE]) rfl).node 12 0 [loopE] (some ⟨b21, 0, none⟩, 1) (in_lit (by omega) (by omega)) (in_lit (by omega) (by omega)) (by simp)
    exact (g3.less (by simp [exP]))
  refine go_seq ?_
  refine go_region ⟨_, Try.func8⟩ rfl ?_
  refine q0 rfl (o_lds ?_)
  refine q0 rfl (o_call Try.call15 ((by have h := liftDimsF exP nul (some ⟨b21, 0, none⟩, 1) nul 0 1 (by unfold in64; omega) (by unfold in64; omega) (by rw [exL_size.2]; omega); simp only [ex_dims1, ex_dims2] at h; exact h)) (fun x25 => ?_))
  refine q0 rfl (o_move ?_)
  refine q0 rfl (o_extract ?_)
  refine q0 rfl (o_extract ?_)
  refine q0 rfl (o_new fun b5 => ?_)
  refine q0 rfl (o_st ?_)
  refine q0 rfl (o_assign ?_)
  refine rg_nil ?_
  refine go_open (t := exA) (vr := x15.1) (vk := x15.2.1) (vs := x15.2.2) (fun hk1 hn1 hm1 => ?_)
  refine go_openTL (ts := (exA).kids) (a := x15.2.1) (fun VR2 VK2 VS2 hl2 hA2 => ?_)
  refine go_kid (ts := (exA).kids) (a := x15.2.1) (VR := VR2) (VK := VK2) (VS := VS2) 0 (by decide) ?_
  refine go_open (t := (((exA).kids).getD 0 t0)) (vr := (VR2 0)) (vk := (VK2 0)) (vs := (VS2 0)) (fun hk3 hn3 hm3 => ?_)
  refine go_openTL (ts := (((exA).kids).getD 0 t0).kids) (a := VK2 0) (fun VR4 VK4 VS4 hl4 hA4 => ?_)
  refine go_open (t := exQ) (vr := x25.1) (vk := x25.2.1) (vs := x25.2.2) (fun hk5 hn5 hm5 => ?_)
  refine go_openTL (ts := (exQ).kids) (a := x25.2.1) (fun VR6 VK6 VS6 hl6 hA6 => ?_)
  refine go_kid (ts := (exQ).kids) (a := x25.2.1) (VR := VR6) (VK := VK6) (VS := VS6) 0 (by decide) ?_
  refine go_open (t := (((exQ).kids).getD 0 t0)) (vr := (VR6 0)) (vk := (VK6 0)) (vs := (VS6 0)) (fun hk7 hn7 hm7 => ?_)
  refine go_state (fun w hs => hs.less (Γ' := [TLx (exA).kids x15.2.1 VR2 VK2 VS2, TLx (((exA).kids).getD 0 t0).kids (VK2 0) VR4 VK4 VS4, TLx (exQ).kids x25.2.1 VR6 VK6 VS6, CL (((exQ).kids).getD 0 t0).r (VR6 0)]) (by simp)) ?_
  have hn9A : (exA).kids.length = 1 := rfl
  have hn9B : (((exA).kids).getD 0 t0).kids.length = 2 := rfl
  have hn9Q : (exQ).kids.length = 1 := rfl
  refine go_seq ?_
  refine go_kid (ts := (((exA).kids).getD 0 t0).kids) (a := VK2 0) (VR := VR4) (VK := VK4) (VS := VS4) 0 (by (first | omega | decide)) ?_
  refine go_kid (ts := (((exA).kids).getD 0 t0).kids) (a := VK2 0) (VR := VR4) (VK := VK4) (VS := VS4) 1 (by (first | omega | decide)) ?_
  refine go_cutS ([(0, .bool (true))]) (fun hK => ?_) (fun base => ?_)
  · refine go_region ⟨_, Try.func8⟩ rfl ?_
    refine q0 rfl (o_move ?_)
    refine q0 rfl (o_eqIY ?_ (hp := by first | rfl | decide))
    refine q0 rfl (o_move ?_)
    refine qT rfl rfl rfl (o_fa ?_)
    refine qT rfl rfl rfl (o_ld ?_)
    refine qT rfl rfl rfl (o_len ?_)
    refine qT rfl rfl rfl (o_eqIY ?_ (hp := by first | rfl | decide))
    refine q0 rfl (o_pickT ?_)
    refine q0 rfl (o_move ?_)
    refine qT rfl rfl rfl (o_fa ?_)
    refine qT rfl rfl rfl (o_ld ?_)
    obtain ⟨bk8, o8, hav8⟩ := hA2 (by (first | omega | decide))
    refine qT rfl rfl rfl (o_ixN ?_ (j := 0))
    refine qT rfl rfl rfl (o_fa ?_)
    refine qT rfl rfl rfl (o_ldTf ?_)
    refine qT rfl rfl rfl (o_len ?_)
    refine qT rfl rfl rfl (o_eqIY ?_ (hp := by first | rfl | decide))
    refine q0 rfl (o_pickT ?_)
    refine q0 rfl (o_move ?_)
    refine qT rfl rfl rfl (o_fa ?_)
    refine qT rfl rfl rfl (o_ld ?_)
    refine qT rfl rfl rfl (o_ixN ?_ (j := 0))
    refine qT rfl rfl rfl (o_fa ?_)
    refine qT rfl rfl rfl (o_ldTf ?_)
    obtain ⟨bk9, o9, hav9⟩ := hA4 (by (first | omega | decide))
    refine qT rfl rfl rfl (o_ixN ?_ (j := 0))
    refine qT rfl rfl rfl (o_fa ?_)
    refine qT rfl rfl rfl (o_ldTf ?_)
    refine qT rfl rfl rfl (o_eqIY ?_ (hp := by first | rfl | decide))
    refine q0 rfl (o_pickT ?_)
    refine q0 rfl (o_move ?_)
    refine qT rfl rfl rfl (o_fa ?_)
    refine qT rfl rfl rfl (o_ld ?_)
    refine qT rfl rfl rfl (o_ixN ?_ (j := 0))
    refine qT rfl rfl rfl (o_fa ?_)
    refine qT rfl rfl rfl (o_ldTf ?_)
    refine qT rfl rfl rfl (o_ixN ?_ (j := 1))
    refine qT rfl rfl rfl (o_fa ?_)
    refine qT rfl rfl rfl (o_ldTf ?_)
    refine qT rfl rfl rfl (o_eqIY ?_ (hp := by first | rfl | decide))
    refine q0 rfl (o_pickT ?_)
    refine q0 rfl (o_move ?_)
    refine qT rfl rfl rfl (o_move ?_)
    refine qT rfl rfl rfl (o_eqIY ?_ (hp := by first | rfl | decide))
    refine q0 rfl (o_pickT ?_)
    refine q0 rfl (o_move ?_)
    refine qT rfl rfl rfl (o_fa ?_)
    refine qT rfl rfl rfl (o_ld ?_)
    refine qT rfl rfl rfl (o_len ?_)
    refine qT rfl rfl rfl (o_eqIY ?_ (hp := by first | rfl | decide))
    refine q0 rfl (o_pickT ?_)
    refine q0 rfl (o_move ?_)
    refine qT rfl rfl rfl (o_fa ?_)
    refine qT rfl rfl rfl (o_ld ?_)
    obtain ⟨bk10, o10, hav10⟩ := hA6 (by (first | omega | decide))
    refine qT rfl rfl rfl (o_ixN ?_ (j := 0))
    refine qT rfl rfl rfl (o_fa ?_)
    refine qT rfl rfl rfl (o_ldTf ?_)
    refine qT rfl rfl rfl (o_build (cs := [.int .u32 ((((⟨5, 0⟩ : Cl)).pos : Nat) : Int), .int .u32 ((((⟨5, 0⟩ : Cl)).neg : Nat) : Int)]) ?_)
    refine qT rfl rfl rfl (o_lit1 fun b84 => ?_)
    refine rg_state (fun w hs => (((((((hs.perm perm4).perm perm4).perm perm4).perm perm4).perm perm4).boxRow (sz := 2) (m := 1) rfl (by decide)).settleCL (l := [⟨5, 0⟩]) hB rfl rfl (by unfold reach; decide) (by intro c hc; simp at hc; subst hc; exact ⟨by decide, by decide⟩))) ?_
    refine qT rfl rfl rfl (o_call Try.call29 ((by have h := rsameC (((exQ).kids).getD 0 t0).r (VR6 0) [⟨5, 0⟩] (some ⟨b84, 0, none⟩, 1); rw [decide_eq_true (show (((exQ).kids).getD 0 t0).r = [⟨5, 0⟩] from rfl)] at h; exact h)) (fun x85 => ?_))
    refine q0 rfl (o_pickT ?_)
    refine q0 rfl (o_assign ?_)
    refine rg_nil ?_
    exact go_state (fun w hs => (hs.less (by simp +contextual))) (hK _ ⟨(by first | rfl | ((conv => lhs; whnf); first | (simp_all [exA, exQ, vE, T.kids, T.kind, T.n, T.r]; done) | (simp_all [exA, exQ, vE, T.kids, T.kind, T.n, T.r]; omega))), trivial⟩)
  · refine ret1 Try.func8 Try.results8 wn_ () (by first | rfl | (simp_all; done)) (fun w hs => hs.none)
set_option maxHeartbeats 2000000 in
theorem liftAdds_spec (t : T) (vr_t vk_t vs_t : SH) (a : Int) (b : Int) (c : Int) (ha : in64 a) (hb : in64 b) (hc : in64 c) : Spec Try.prog 3 #[.agg (tc t vr_t vk_t vs_t).toArray, .int .i64 (a), .int .i64 (b), .int .i64 (c)] [RT t vr_t vk_t vs_t] [] (fun _ : Unit => .bool (true)) (fun _ : Unit => []) (fun _ : Unit => []) := by
  refine spec_go (args := [.agg (tc t vr_t vk_t vs_t).toArray, .int .i64 (a), .int .i64 (b), .int .i64 (c)]) Try.func3 Try.ntmps3 rfl (by exact Nat.le_of_ble_eq_true rfl) fun B hB => ?_
  have hst := size_le_bulk t
  refine go_seq ?_
  refine go_region ⟨_, Try.func3⟩ rfl ?_
  refine q0 rfl (o_box fun b4 => ?_)
  refine q0 rfl (o_assign ?_)
  refine rg_nil ?_
  refine go_seq ?_
  refine go_seq ?_
  refine go_region ⟨_, Try.func3⟩ rfl ?_
  refine q0 rfl (o_call Try.call8 (works11_spec ) (fun x23 => ?_))
  refine q0 rfl (o_not ?_)
  refine rg_nil ?_
  refine go_condF ?_
  refine go_skip ?_
  refine go_seq ?_
  refine go_seq ?_
  refine go_cutS ([(1, .int .i64 (a)), (2, .int .i64 (b)), (3, .int .i64 (c)), (4, .pointer (some ⟨b4, 0, none⟩)), (55, .bool ((((((((decide (400 < bulk t)) || (decide ((formedP t) ≠ 0))) || (decide (a < 0))) || (decide (b < 0))) || (decide (c < 0))) || (decide (20 < a))) || (decide (20 < b))) || (decide (20 < c))))]) (fun hK => ?_) (fun base => ?_)
  · refine go_region ⟨_, Try.func3⟩ rfl ?_
    refine q0 rfl (o_lds ?_)
    refine q0 rfl (o_call Try.call9 (great11_spec t vr_t vk_t vs_t ) (fun x26 => ?_))
    refine q0 rfl (o_move ?_)
    refine qI rfl rfl rfl wl_ (fun hg27 => ?_) (fun hg27 => ?_)
    · have g27 : (decide (400 < bulk t)) = false := hg27
      try simp only [sC, bne_iff_ne, beq_iff_eq, ne_eq] at g27
      refine o_lds ?_
      refine qT rfl rfl rfl (o_call Try.call10 (formed_spec t (.inr form_spec) vr_t vk_t vs_t om_) (fun x29 => ?_))
      refine qT rfl rfl rfl (o_neI ?_)
      refine q0 rfl (o_pickF ?_)
      refine q0 rfl (o_move ?_)
      refine qI rfl rfl rfl wl_ (fun hg32 => ?_) (fun hg32 => ?_)
      · have g32 : (decide ((formedP t) ≠ 0)) = false := hg32
        try simp only [sC, bne_iff_ne, beq_iff_eq, ne_eq] at g32
        refine o_move ?_
        refine qT rfl rfl rfl (o_lss ?_)
        refine q0 rfl (o_pickF ?_)
        refine q0 rfl (o_move ?_)
        refine qI rfl rfl rfl wl_ (fun hg36 => ?_) (fun hg36 => ?_)
        · have g36 : (decide (a < 0)) = false := hg36
          try simp only [sC, bne_iff_ne, beq_iff_eq, ne_eq] at g36
          refine o_move ?_
          refine qT rfl rfl rfl (o_lss ?_)
          refine q0 rfl (o_pickF ?_)
          refine q0 rfl (o_move ?_)
          refine qI rfl rfl rfl wl_ (fun hg40 => ?_) (fun hg40 => ?_)
          · have g40 : (decide (b < 0)) = false := hg40
            try simp only [sC, bne_iff_ne, beq_iff_eq, ne_eq] at g40
            refine o_move ?_
            refine qT rfl rfl rfl (o_lss ?_)
            refine q0 rfl (o_pickF ?_)
            refine q0 rfl (o_move ?_)
            refine qI rfl rfl rfl wl_ (fun hg44 => ?_) (fun hg44 => ?_)
            · have g44 : (decide (c < 0)) = false := hg44
              try simp only [sC, bne_iff_ne, beq_iff_eq, ne_eq] at g44
              refine o_move ?_
              refine qT rfl rfl rfl (o_gtr ?_)
              refine q0 rfl (o_pickF ?_)
              refine q0 rfl (o_move ?_)
              refine qI rfl rfl rfl wl_ (fun hg48 => ?_) (fun hg48 => ?_)
              · have g48 : (decide (20 < a)) = false := hg48
                try simp only [sC, bne_iff_ne, beq_iff_eq, ne_eq] at g48
                refine o_move ?_
                refine qT rfl rfl rfl (o_gtr ?_)
                refine q0 rfl (o_pickF ?_)
                refine q0 rfl (o_move ?_)
                refine qI rfl rfl rfl wl_ (fun hg52 => ?_) (fun hg52 => ?_)
                · have g52 : (decide (20 < b)) = false := hg52
                  try simp only [sC, bne_iff_ne, beq_iff_eq, ne_eq] at g52
                  refine o_move ?_
                  refine qT rfl rfl rfl (o_gtr ?_)
                  refine q0 rfl (o_pickF ?_)
                  refine rg_nil ?_
                  exact hK _ ⟨rfl, rfl, rfl, rfl, dn_, trivial⟩
                · have g52 : (decide (20 < b)) = true := hg52
                  try simp only [sC, bne_iff_ne, beq_iff_eq, ne_eq] at g52
                  refine qF rfl rfl rfl ?_
                  refine q0 rfl (o_pickT ?_)
                  refine rg_nil ?_
                  exact hK _ ⟨rfl, rfl, rfl, rfl, dn_, trivial⟩
              · have g48 : (decide (20 < a)) = true := hg48
                try simp only [sC, bne_iff_ne, beq_iff_eq, ne_eq] at g48
                refine qF rfl rfl rfl ?_
                refine q0 rfl (o_pickT ?_)
                refine q0 rfl (o_move ?_)
                refine qF rfl rfl rfl ?_
                refine qF rfl rfl rfl ?_
                refine q0 rfl (o_pickT ?_)
                refine rg_nil ?_
                exact hK _ ⟨rfl, rfl, rfl, rfl, dn_, trivial⟩
            · have g44 : (decide (c < 0)) = true := hg44
              try simp only [sC, bne_iff_ne, beq_iff_eq, ne_eq] at g44
              refine qF rfl rfl rfl ?_
              refine q0 rfl (o_pickT ?_)
              refine q0 rfl (o_move ?_)
              refine qF rfl rfl rfl ?_
              refine qF rfl rfl rfl ?_
              refine q0 rfl (o_pickT ?_)
              refine q0 rfl (o_move ?_)
              refine qF rfl rfl rfl ?_
              refine qF rfl rfl rfl ?_
              refine q0 rfl (o_pickT ?_)
              refine rg_nil ?_
              exact hK _ ⟨rfl, rfl, rfl, rfl, dn_, trivial⟩
          · have g40 : (decide (b < 0)) = true := hg40
            try simp only [sC, bne_iff_ne, beq_iff_eq, ne_eq] at g40
            refine qF rfl rfl rfl ?_
            refine q0 rfl (o_pickT ?_)
            refine q0 rfl (o_move ?_)
            refine qF rfl rfl rfl ?_
            refine qF rfl rfl rfl ?_
            refine q0 rfl (o_pickT ?_)
            refine q0 rfl (o_move ?_)
            refine qF rfl rfl rfl ?_
            refine qF rfl rfl rfl ?_
            refine q0 rfl (o_pickT ?_)
            refine q0 rfl (o_move ?_)
            refine qF rfl rfl rfl ?_
            refine qF rfl rfl rfl ?_
            refine q0 rfl (o_pickT ?_)
            refine rg_nil ?_
            exact hK _ ⟨rfl, rfl, rfl, rfl, dn_, trivial⟩
        · have g36 : (decide (a < 0)) = true := hg36
          try simp only [sC, bne_iff_ne, beq_iff_eq, ne_eq] at g36
          refine qF rfl rfl rfl ?_
          refine q0 rfl (o_pickT ?_)
          refine q0 rfl (o_move ?_)
          refine qF rfl rfl rfl ?_
          refine qF rfl rfl rfl ?_
          refine q0 rfl (o_pickT ?_)
          refine q0 rfl (o_move ?_)
          refine qF rfl rfl rfl ?_
          refine qF rfl rfl rfl ?_
          refine q0 rfl (o_pickT ?_)
          refine q0 rfl (o_move ?_)
          refine qF rfl rfl rfl ?_
          refine qF rfl rfl rfl ?_
          refine q0 rfl (o_pickT ?_)
          refine q0 rfl (o_move ?_)
          refine qF rfl rfl rfl ?_
          refine qF rfl rfl rfl ?_
          refine q0 rfl (o_pickT ?_)
          refine rg_nil ?_
          exact hK _ ⟨rfl, rfl, rfl, rfl, dn_, trivial⟩
      · have g32 : (decide ((formedP t) ≠ 0)) = true := hg32
        try simp only [sC, bne_iff_ne, beq_iff_eq, ne_eq] at g32
        refine qF rfl rfl rfl ?_
        refine q0 rfl (o_pickT ?_)
        refine q0 rfl (o_move ?_)
        refine qF rfl rfl rfl ?_
        refine qF rfl rfl rfl ?_
        refine q0 rfl (o_pickT ?_)
        refine q0 rfl (o_move ?_)
        refine qF rfl rfl rfl ?_
        refine qF rfl rfl rfl ?_
        refine q0 rfl (o_pickT ?_)
        refine q0 rfl (o_move ?_)
        refine qF rfl rfl rfl ?_
        refine qF rfl rfl rfl ?_
        refine q0 rfl (o_pickT ?_)
        refine q0 rfl (o_move ?_)
        refine qF rfl rfl rfl ?_
        refine qF rfl rfl rfl ?_
        refine q0 rfl (o_pickT ?_)
        refine q0 rfl (o_move ?_)
        refine qF rfl rfl rfl ?_
        refine qF rfl rfl rfl ?_
        refine q0 rfl (o_pickT ?_)
        refine rg_nil ?_
        exact hK _ ⟨rfl, rfl, rfl, rfl, dn_, trivial⟩
    · have g27 : (decide (400 < bulk t)) = true := hg27
      try simp only [sC, bne_iff_ne, beq_iff_eq, ne_eq] at g27
      refine qF rfl rfl rfl ?_
      refine qF rfl rfl rfl ?_
      refine q0 rfl (o_pickT ?_)
      refine q0 rfl (o_move ?_)
      refine qF rfl rfl rfl ?_
      refine qF rfl rfl rfl ?_
      refine q0 rfl (o_pickT ?_)
      refine q0 rfl (o_move ?_)
      refine qF rfl rfl rfl ?_
      refine qF rfl rfl rfl ?_
      refine q0 rfl (o_pickT ?_)
      refine q0 rfl (o_move ?_)
      refine qF rfl rfl rfl ?_
      refine qF rfl rfl rfl ?_
      refine q0 rfl (o_pickT ?_)
      refine q0 rfl (o_move ?_)
      refine qF rfl rfl rfl ?_
      refine qF rfl rfl rfl ?_
      refine q0 rfl (o_pickT ?_)
      refine q0 rfl (o_move ?_)
      refine qF rfl rfl rfl ?_
      refine qF rfl rfl rfl ?_
      refine q0 rfl (o_pickT ?_)
      refine q0 rfl (o_move ?_)
      refine qF rfl rfl rfl ?_
      refine qF rfl rfl rfl ?_
      refine q0 rfl (o_pickT ?_)
      refine rg_nil ?_
      exact hK _ ⟨rfl, rfl, rfl, rfl, dn_, trivial⟩
  · refine go_condI (fun h55 => ?_) (fun h55 => ?_)
    · have c55 : ((((((((decide (400 < bulk t)) || (decide ((formedP t) ≠ 0))) || (decide (a < 0))) || (decide (b < 0))) || (decide (c < 0))) || (decide (20 < a))) || (decide (20 < b))) || (decide (20 < c))) = true := h55
      try simp only [sC, bne_iff_ne, beq_iff_eq, ne_eq] at c55
      refine go_seq ?_
      refine go_region ⟨_, Try.func3⟩ rfl ?_
      refine q0 rfl (o_assign ?_)
      refine rg_nil ?_
      refine ret1 Try.func3 Try.results3 wn_ () rfl (fun w hs => hs.none)
    · have c55 : ((((((((decide (400 < bulk t)) || (decide ((formedP t) ≠ 0))) || (decide (a < 0))) || (decide (b < 0))) || (decide (c < 0))) || (decide (20 < a))) || (decide (20 < b))) || (decide (20 < c))) = false := h55
      try simp only [sC, bne_iff_ne, beq_iff_eq, ne_eq] at c55
      have hbt : bulk t ≤ 400 := by omega
      have hf0 : formedP t = 0 := by omega
      have hab : 0 ≤ a ∧ 0 ≤ b ∧ 0 ≤ c ∧ a ≤ 20 ∧ b ≤ 20 ∧ c ≤ 20 := by omega
      have hs1 := both_size t a b
      have hs2 := vars_size t 0 a
      have hs3 := dims_size t 0 b
      refine go_skip ?_
      refine go_seq ?_
      refine go_region ⟨_, Try.func3⟩ rfl ?_
      refine q0 rfl (o_lds ?_)
      refine q0 rfl (o_call Try.call11 (liftBothF t vr_t vk_t vs_t 0 0 om_ om_ om_) (fun x58 => ?_))
      refine q0 rfl (o_move ?_)
      refine q0 rfl (o_extract ?_)
      refine q0 rfl (o_extract ?_)
      refine q0 rfl (o_new fun b9 => ?_)
      refine q0 rfl (o_st ?_)
      refine q0 rfl (o_assign ?_)
      refine rg_nil ?_
      refine go_seq ?_
      refine go_seq ?_
      refine go_region ⟨_, Try.func3⟩ rfl ?_
      refine q0 rfl (o_move ?_)
      refine q0 rfl (o_neI ?_)
      refine rg_nil ?_
      refine go_condI (fun h62 => ?_) (fun h62 => ?_)
      · have c62 : (decide (((bothRes t 0 0).1) ≠ 0)) = true := h62
        try simp only [sC, bne_iff_ne, beq_iff_eq, ne_eq] at c62
        have hn9 := (adds_none hf0).resolve_left (fun h9 => absurd h9.1 (by simpa using h62))
        obtain ⟨hn9a, hn9b⟩ := hn9
        refine go_seq ?_
        refine go_cutS ([(8, .bool (farT t))]) (fun hK => ?_) (fun base => ?_)
        · refine go_region ⟨_, Try.func3⟩ rfl ?_
          refine q0 rfl (o_move ?_)
          refine q0 rfl (o_eqIY ?_ (hp := hn9a))
          refine q0 rfl (o_move ?_)
          refine qT rfl rfl rfl (o_lds ?_)
          refine qT rfl rfl rfl (o_call Try.call12 (far_spec t vr_t vk_t vs_t ) (fun x67 => ?_))
          refine q0 rfl (o_pickT ?_)
          refine q0 rfl (o_assign ?_)
          refine rg_nil ?_
          exact hK _ ⟨dn_, trivial⟩
        · refine ret1 Try.func3 Try.results3 wn_ () (congrArg Value.bool hn9b) (fun w hs => hs.none)
      · have c62 : (decide (((bothRes t 0 0).1) ≠ 0)) = false := h62
        try simp only [sC, bne_iff_ne, beq_iff_eq, ne_eq] at c62
        have hn9 : (bothRes t 0 0).2 = t := by rcases adds_none hf0 with h9 | h9; exact h9.2; exact absurd h9.1 (by intro h8; rw [h8] at h62; cases h62)
        refine go_skip ?_
        refine go_seq ?_
        refine go_seq ?_
        refine go_region ⟨_, Try.func3⟩ rfl ?_
        refine q0 rfl (o_lds ?_)
        refine q0 rfl (o_lds ?_)
        refine q0 rfl (o_call Try.call13 (rsame ((bothRes t 0 0).2) t x58.1 x58.2.1 x58.2.2 vr_t vk_t vs_t) (fun x71 => ?_))
        refine q0 rfl (o_not ?_)
        refine rg_nil ?_
        refine go_condI (fun h72 => ?_) (fun h72 => ?_)
        · have c72 : (!(decide (((bothRes t 0 0).2) = t))) = true := h72
          try simp only [sC, bne_iff_ne, beq_iff_eq, ne_eq] at c72
          exact absurd hn9 (by simpa using h72)
        · have c72 : (!(decide (((bothRes t 0 0).2) = t))) = false := h72
          try simp only [sC, bne_iff_ne, beq_iff_eq, ne_eq] at c72
          refine go_skip ?_
          refine go_seq ?_
          refine go_region ⟨_, Try.func3⟩ rfl ?_
          refine q0 rfl (o_lds ?_)
          refine q0 rfl (o_move ?_)
          refine q0 rfl (o_move ?_)
          refine q0 rfl (o_call Try.call11 (liftBothF t vr_t vk_t vs_t a b om_ om_ om_) (fun x77 => ?_))
          refine q0 rfl (o_move ?_)
          refine q0 rfl (o_extract ?_)
          refine q0 rfl (o_extract ?_)
          refine q0 rfl (o_st ?_)
          refine q0 rfl (o_assign ?_)
          refine rg_nil ?_
          refine go_seq ?_
          refine go_region ⟨_, Try.func3⟩ rfl ?_
          refine q0 rfl (o_lds ?_)
          refine q0 rfl (o_move ?_)
          refine q0 rfl (o_call Try.call11 (liftBothF ((bothRes t a b).2) x77.1 x77.2.1 x77.2.2 c 0 om_ om_ om_) (fun x83 => ?_))
          refine q0 rfl (o_move ?_)
          refine q0 rfl (o_extract ?_)
          refine q0 rfl (o_extract ?_)
          refine q0 rfl (o_new fun b11 => ?_)
          refine q0 rfl (o_st ?_)
          refine q0 rfl (o_assign ?_)
          refine rg_nil ?_
          refine go_seq ?_
          refine go_region ⟨_, Try.func3⟩ rfl ?_
          refine q0 rfl (o_lds ?_)
          refine q0 rfl (o_move ?_)
          refine q0 rfl (o_move ?_)
          refine q0 rfl (o_add ?_)
          refine q0 rfl (o_move ?_)
          refine q0 rfl (o_call Try.call11 (liftBothF t vr_t vk_t vs_t (a + c) b om_ om_ om_) (fun x92 => ?_))
          refine q0 rfl (o_move ?_)
          refine q0 rfl (o_extract ?_)
          refine q0 rfl (o_extract ?_)
          refine q0 rfl (o_new fun b13 => ?_)
          refine q0 rfl (o_st ?_)
          refine q0 rfl (o_assign ?_)
          refine rg_nil ?_
          refine go_seq ?_
          refine go_seq ?_
          refine go_cutS ([(1, .int .i64 (a)), (2, .int .i64 (b)), (4, .pointer (some ⟨b4, 0, none⟩)), (9, .pointer (some ⟨b9, 0, none⟩)), (10, .int .i64 ((bothRes t a b).1)), (115, .bool (((decide (((bothRes t a b).1) = 0)) && ((decide (((bothRes ((bothRes t a b).2) c 0).1) ≠ ((bothRes t (a + c) b).1))) || (!(decide (((bothRes ((bothRes t a b).2) c 0).2) = ((bothRes t (a + c) b).2)))))) || ((decide (((bothRes t a b).1) ≠ 0)) && (decide (((bothRes t (a + c) b).1) = 0)))))]) (fun hK => ?_) (fun base => ?_)
          · refine go_region ⟨_, Try.func3⟩ rfl ?_
            refine q0 rfl (o_move ?_)
            refine q0 rfl (o_eqI ?_)
            refine q0 rfl (o_move ?_)
            refine qI rfl rfl rfl wl_ (fun hg97 => ?_) (fun hg97 => ?_)
            · have g97 : (decide (((bothRes t a b).1) = 0)) = true := hg97
              try simp only [sC, bne_iff_ne, beq_iff_eq, ne_eq] at g97
              refine o_move ?_
              refine qT rfl rfl rfl (o_move ?_)
              refine qT rfl rfl rfl (o_neI ?_)
              refine qT rfl rfl rfl (o_move ?_)
              refine qI rfl rfl rfl wl_ (fun hg101 => ?_) (fun hg101 => ?_)
              · have g101 : (decide (((bothRes ((bothRes t a b).2) c 0).1) ≠ ((bothRes t (a + c) b).1))) = false := hg101
                try simp only [sC, bne_iff_ne, beq_iff_eq, ne_eq] at g101
                refine o_lds ?_
                refine qT rfl rfl rfl (o_lds ?_)
                refine qT rfl rfl rfl (o_call Try.call13 (rsame ((bothRes ((bothRes t a b).2) c 0).2) ((bothRes t (a + c) b).2) x83.1 x83.2.1 x83.2.2 x92.1 x92.2.1 x92.2.2) (fun x104 => ?_))
                refine qT rfl rfl rfl (o_not ?_)
                refine qT rfl rfl rfl (o_pickF ?_)
                refine q0 rfl (o_pickT ?_)
                refine q0 rfl (o_move ?_)
                refine qI rfl rfl rfl wl_ (fun hg108 => ?_) (fun hg108 => ?_)
                · have g108 : (!(decide (((bothRes ((bothRes t a b).2) c 0).2) = ((bothRes t (a + c) b).2)))) = false := hg108
                  try simp only [sC, bne_iff_ne, beq_iff_eq, ne_eq] at g108
                  refine o_move ?_
                  refine qT rfl rfl rfl (o_neI ?_)
                  refine qT rfl rfl rfl (o_move ?_)
                  refine qI rfl rfl rfl wl_ (fun hg111 => ?_) (fun hg111 => ?_)
                  · have g111 : (decide (((bothRes t a b).1) ≠ 0)) = true := hg111
                    try simp only [sC, bne_iff_ne, beq_iff_eq, ne_eq] at g111
                    refine o_move ?_
                    refine qT rfl rfl rfl (o_eqI ?_)
                    refine qT rfl rfl rfl (o_pickT ?_)
                    refine q0 rfl (o_pickF ?_)
                    refine rg_nil ?_
                    exact hK _ ⟨rfl, rfl, rfl, rfl, rfl, dn_, trivial⟩
                  · have g111 : (decide (((bothRes t a b).1) ≠ 0)) = false := hg111
                    try simp only [sC, bne_iff_ne, beq_iff_eq, ne_eq] at g111
                    refine qF rfl rfl rfl ?_
                    refine qT rfl rfl rfl (o_pickF ?_)
                    refine q0 rfl (o_pickF ?_)
                    refine rg_nil ?_
                    exact hK _ ⟨rfl, rfl, rfl, rfl, rfl, dn_, trivial⟩
                · have g108 : (!(decide (((bothRes ((bothRes t a b).2) c 0).2) = ((bothRes t (a + c) b).2)))) = true := hg108
                  try simp only [sC, bne_iff_ne, beq_iff_eq, ne_eq] at g108
                  refine qF rfl rfl rfl ?_
                  refine qF rfl rfl rfl ?_
                  refine qU rfl rfl rfl ?_
                  refine qU rfl rfl rfl ?_
                  refine qF rfl rfl rfl ?_
                  refine q0 rfl (o_pickT ?_)
                  refine rg_nil ?_
                  exact hK _ ⟨rfl, rfl, rfl, rfl, rfl, dn_, trivial⟩
              · have g101 : (decide (((bothRes ((bothRes t a b).2) c 0).1) ≠ ((bothRes t (a + c) b).1))) = true := hg101
                try simp only [sC, bne_iff_ne, beq_iff_eq, ne_eq] at g101
                refine qF rfl rfl rfl ?_
                refine qF rfl rfl rfl ?_
                refine qF rfl rfl rfl ?_
                refine qT rfl rfl rfl (o_pickT ?_)
                refine q0 rfl (o_pickT ?_)
                refine q0 rfl (o_move ?_)
                refine qF rfl rfl rfl ?_
                refine qF rfl rfl rfl ?_
                refine qF rfl rfl rfl ?_
                refine qU rfl rfl rfl ?_
                refine qU rfl rfl rfl ?_
                refine qF rfl rfl rfl ?_
                refine q0 rfl (o_pickT ?_)
                refine rg_nil ?_
                exact hK _ ⟨rfl, rfl, rfl, rfl, rfl, dn_, trivial⟩
            · have g97 : (decide (((bothRes t a b).1) = 0)) = false := hg97
              try simp only [sC, bne_iff_ne, beq_iff_eq, ne_eq] at g97
              refine qF rfl rfl rfl ?_
              refine qF rfl rfl rfl ?_
              refine qF rfl rfl rfl ?_
              refine qU rfl rfl rfl ?_
              refine qU rfl rfl rfl ?_
              refine qU rfl rfl rfl ?_
              refine qU rfl rfl rfl ?_
              refine qF rfl rfl rfl ?_
              refine q0 rfl (o_pickF ?_)
              refine q0 rfl (o_move ?_)
              refine qT rfl rfl rfl (o_move ?_)
              refine qT rfl rfl rfl (o_neI ?_)
              refine qT rfl rfl rfl (o_move ?_)
              refine qI rfl rfl rfl wl_ (fun hg111 => ?_) (fun hg111 => ?_)
              · have g111 : (decide (((bothRes t a b).1) ≠ 0)) = true := hg111
                try simp only [sC, bne_iff_ne, beq_iff_eq, ne_eq] at g111
                refine o_move ?_
                refine qT rfl rfl rfl (o_eqI ?_)
                refine qT rfl rfl rfl (o_pickT ?_)
                refine q0 rfl (o_pickF ?_)
                refine rg_nil ?_
                exact hK _ ⟨rfl, rfl, rfl, rfl, rfl, dn_, trivial⟩
              · have g111 : (decide (((bothRes t a b).1) ≠ 0)) = false := hg111
                try simp only [sC, bne_iff_ne, beq_iff_eq, ne_eq] at g111
                refine qF rfl rfl rfl ?_
                refine qT rfl rfl rfl (o_pickF ?_)
                refine q0 rfl (o_pickF ?_)
                refine rg_nil ?_
                exact hK _ ⟨rfl, rfl, rfl, rfl, rfl, dn_, trivial⟩
          · refine go_condI (fun h115 => ?_) (fun h115 => ?_)
            · have c115 : (((decide (((bothRes t a b).1) = 0)) && ((decide (((bothRes ((bothRes t a b).2) c 0).1) ≠ ((bothRes t (a + c) b).1))) || (!(decide (((bothRes ((bothRes t a b).2) c 0).2) = ((bothRes t (a + c) b).2)))))) || ((decide (((bothRes t a b).1) ≠ 0)) && (decide (((bothRes t (a + c) b).1) = 0)))) = true := h115
              try simp only [sC, bne_iff_ne, beq_iff_eq, ne_eq] at c115
              exfalso
              obtain ⟨q1, q2⟩ := adds_adds hf0 (a := a) (b := b) (c := c) (by omega) (by omega) (by omega)
              by_cases q0 : (bothRes t a b).1 = 0
              · obtain ⟨q3, q4⟩ := q1 q0
                simp [q0, q3, q4] at h115
              · have q3 := q2 q0
                simp [q0, q3] at h115
            · have c115 : (((decide (((bothRes t a b).1) = 0)) && ((decide (((bothRes ((bothRes t a b).2) c 0).1) ≠ ((bothRes t (a + c) b).1))) || (!(decide (((bothRes ((bothRes t a b).2) c 0).2) = ((bothRes t (a + c) b).2)))))) || ((decide (((bothRes t a b).1) ≠ 0)) && (decide (((bothRes t (a + c) b).1) = 0)))) = false := h115
              try simp only [sC, bne_iff_ne, beq_iff_eq, ne_eq] at c115
              refine go_skip ?_
              refine go_seq ?_
              refine go_region ⟨_, Try.func3⟩ rfl ?_
              refine q0 rfl (o_lds ?_)
              refine q0 rfl (o_move ?_)
              refine q0 rfl (o_call Try.call14 (liftVarsF t vr_t vk_t vs_t 0 a om_ om_ om_) (fun x119 => ?_))
              refine q0 rfl (o_move ?_)
              refine q0 rfl (o_extract ?_)
              refine q0 rfl (o_extract ?_)
              refine q0 rfl (o_new fun b15 => ?_)
              refine q0 rfl (o_st ?_)
              refine q0 rfl (o_assign ?_)
              refine rg_nil ?_
              refine go_seq ?_
              refine go_region ⟨_, Try.func3⟩ rfl ?_
              refine q0 rfl (o_lds ?_)
              refine q0 rfl (o_move ?_)
              refine q0 rfl (o_call Try.call15 (liftDimsF ((varsRes t 0 a).2) x119.1 x119.2.1 x119.2.2 0 b om_ om_ om_) (fun x125 => ?_))
              refine q0 rfl (o_move ?_)
              refine q0 rfl (o_extract ?_)
              refine q0 rfl (o_extract ?_)
              refine q0 rfl (o_new fun b17 => ?_)
              refine q0 rfl (o_st ?_)
              refine q0 rfl (o_assign ?_)
              refine rg_nil ?_
              refine go_seq ?_
              refine go_region ⟨_, Try.func3⟩ rfl ?_
              refine q0 rfl (o_lds ?_)
              refine q0 rfl (o_move ?_)
              refine q0 rfl (o_call Try.call15 (liftDimsF t vr_t vk_t vs_t 0 b om_ om_ om_) (fun x131 => ?_))
              refine q0 rfl (o_move ?_)
              refine q0 rfl (o_extract ?_)
              refine q0 rfl (o_extract ?_)
              refine q0 rfl (o_new fun b19 => ?_)
              refine q0 rfl (o_st ?_)
              refine q0 rfl (o_assign ?_)
              refine rg_nil ?_
              refine go_seq ?_
              refine go_region ⟨_, Try.func3⟩ rfl ?_
              refine q0 rfl (o_lds ?_)
              refine q0 rfl (o_move ?_)
              refine q0 rfl (o_call Try.call14 (liftVarsF ((dimsRes t 0 b).2) x131.1 x131.2.1 x131.2.2 0 a om_ om_ om_) (fun x137 => ?_))
              refine q0 rfl (o_move ?_)
              refine q0 rfl (o_extract ?_)
              refine q0 rfl (o_extract ?_)
              refine q0 rfl (o_new fun b21 => ?_)
              refine q0 rfl (o_st ?_)
              refine q0 rfl (o_assign ?_)
              refine rg_nil ?_
              refine go_seq ?_
              refine go_cutS ([(8, .bool ((decide (((varsRes t 0 a).1) ≠ 0)) || ((((decide (((dimsRes ((varsRes t 0 a).2) 0 b).1) = 0)) == ((decide (((dimsRes t 0 b).1) = 0)) && (decide (((varsRes ((dimsRes t 0 b).2) 0 a).1) = 0)))) && (decide (((dimsRes ((varsRes t 0 a).2) 0 b).2) = ((varsRes ((dimsRes t 0 b).2) 0 a).2)))) && ((decide (((dimsRes ((varsRes t 0 a).2) 0 b).1) ≠ ((bothRes t a b).1))) || (decide (((dimsRes ((varsRes t 0 a).2) 0 b).2) = ((bothRes t a b).2)))))))]) (fun hK => ?_) (fun base => ?_)
              · refine go_region ⟨_, Try.func3⟩ rfl ?_
                refine q0 rfl (o_move ?_)
                refine q0 rfl (o_neI ?_)
                refine q0 rfl (o_move ?_)
                refine qI rfl rfl rfl wl_ (fun hg142 => ?_) (fun hg142 => ?_)
                · have g142 : (decide (((varsRes t 0 a).1) ≠ 0)) = false := hg142
                  try simp only [sC, bne_iff_ne, beq_iff_eq, ne_eq] at g142
                  refine o_move ?_
                  refine qT rfl rfl rfl (o_eqI ?_)
                  refine qT rfl rfl rfl (o_move ?_)
                  refine qT rfl rfl rfl (o_eqI ?_)
                  refine qT rfl rfl rfl (o_move ?_)
                  refine qI rfl rfl rfl wl_ (fun hg147 => ?_) (fun hg147 => ?_)
                  · have g147 : (decide (((dimsRes t 0 b).1) = 0)) = true := hg147
                    try simp only [sC, bne_iff_ne, beq_iff_eq, ne_eq] at g147
                    refine o_move ?_
                    refine qT rfl rfl rfl (o_eqI ?_)
                    refine qT rfl rfl rfl (o_pickT ?_)
                    refine qT rfl rfl rfl (o_eqB ?_)
                    refine qT rfl rfl rfl (o_move ?_)
                    refine qI rfl rfl rfl wl_ (fun hg152 => ?_) (fun hg152 => ?_)
                    · have g152 : ((decide (((dimsRes ((varsRes t 0 a).2) 0 b).1) = 0)) == (decide (((varsRes ((dimsRes t 0 b).2) 0 a).1) = 0))) = true := hg152
                      try simp only [sC, bne_iff_ne, beq_iff_eq, ne_eq] at g152
                      refine o_lds ?_
                      refine qT rfl rfl rfl (o_lds ?_)
                      refine qT rfl rfl rfl (o_call Try.call13 (rsame ((dimsRes ((varsRes t 0 a).2) 0 b).2) ((varsRes ((dimsRes t 0 b).2) 0 a).2) x125.1 x125.2.1 x125.2.2 x137.1 x137.2.1 x137.2.2) (fun x155 => ?_))
                      refine qT rfl rfl rfl (o_pickT ?_)
                      refine qT rfl rfl rfl (o_move ?_)
                      refine qI rfl rfl rfl wl_ (fun hg157 => ?_) (fun hg157 => ?_)
                      · have g157 : ((decide (((dimsRes ((varsRes t 0 a).2) 0 b).2) = ((varsRes ((dimsRes t 0 b).2) 0 a).2)))) = true := hg157
                        try simp only [sC, bne_iff_ne, beq_iff_eq, ne_eq] at g157
                        refine o_move ?_
                        refine qT rfl rfl rfl (o_move ?_)
                        refine qT rfl rfl rfl (o_neI ?_)
                        refine qT rfl rfl rfl (o_move ?_)
                        refine qI rfl rfl rfl wl_ (fun hg161 => ?_) (fun hg161 => ?_)
                        · have g161 : (decide (((dimsRes ((varsRes t 0 a).2) 0 b).1) ≠ ((bothRes t a b).1))) = false := hg161
                          try simp only [sC, bne_iff_ne, beq_iff_eq, ne_eq] at g161
                          refine o_lds ?_
                          refine qT rfl rfl rfl (o_lds ?_)
                          refine qT rfl rfl rfl (o_call Try.call13 (rsame ((dimsRes ((varsRes t 0 a).2) 0 b).2) ((bothRes t a b).2) x125.1 x125.2.1 x125.2.2 x77.1 x77.2.1 x77.2.2) (fun x164 => ?_))
                          refine qT rfl rfl rfl (o_pickF ?_)
                          refine qT rfl rfl rfl (o_pickT ?_)
                          refine q0 rfl (o_pickF ?_)
                          refine q0 rfl (o_assign ?_)
                          refine rg_nil ?_
                          exact hK _ ⟨dn_, trivial⟩
                        · have g161 : (decide (((dimsRes ((varsRes t 0 a).2) 0 b).1) ≠ ((bothRes t a b).1))) = true := hg161
                          try simp only [sC, bne_iff_ne, beq_iff_eq, ne_eq] at g161
                          refine qF rfl rfl rfl ?_
                          refine qF rfl rfl rfl ?_
                          refine qT rfl rfl rfl (o_pickT ?_)
                          refine qT rfl rfl rfl (o_pickT ?_)
                          refine q0 rfl (o_pickF ?_)
                          refine q0 rfl (o_assign ?_)
                          refine rg_nil ?_
                          exact hK _ ⟨dn_, trivial⟩
                      · have g157 : ((decide (((dimsRes ((varsRes t 0 a).2) 0 b).2) = ((varsRes ((dimsRes t 0 b).2) 0 a).2)))) = false := hg157
                        try simp only [sC, bne_iff_ne, beq_iff_eq, ne_eq] at g157
                        refine qF rfl rfl rfl ?_
                        refine qF rfl rfl rfl ?_
                        refine qF rfl rfl rfl ?_
                        refine qU rfl rfl rfl ?_
                        refine qU rfl rfl rfl ?_
                        refine qU rfl rfl rfl ?_
                        refine qF rfl rfl rfl ?_
                        refine qT rfl rfl rfl (o_pickF ?_)
                        refine q0 rfl (o_pickF ?_)
                        refine q0 rfl (o_assign ?_)
                        refine rg_nil ?_
                        exact hK _ ⟨dn_, trivial⟩
                    · have g152 : ((decide (((dimsRes ((varsRes t 0 a).2) 0 b).1) = 0)) == (decide (((varsRes ((dimsRes t 0 b).2) 0 a).1) = 0))) = false := hg152
                      try simp only [sC, bne_iff_ne, beq_iff_eq, ne_eq] at g152
                      refine qF rfl rfl rfl ?_
                      refine qF rfl rfl rfl ?_
                      refine qT rfl rfl rfl (o_pickF ?_)
                      refine qT rfl rfl rfl (o_move ?_)
                      refine qF rfl rfl rfl ?_
                      refine qF rfl rfl rfl ?_
                      refine qF rfl rfl rfl ?_
                      refine qF rfl rfl rfl ?_
                      refine qU rfl rfl rfl ?_
                      refine qU rfl rfl rfl ?_
                      refine qU rfl rfl rfl ?_
                      refine qF rfl rfl rfl ?_
                      refine qT rfl rfl rfl (o_pickF ?_)
                      refine q0 rfl (o_pickF ?_)
                      refine q0 rfl (o_assign ?_)
                      refine rg_nil ?_
                      exact hK _ ⟨dn_, trivial⟩
                  · have g147 : (decide (((dimsRes t 0 b).1) = 0)) = false := hg147
                    try simp only [sC, bne_iff_ne, beq_iff_eq, ne_eq] at g147
                    refine qF rfl rfl rfl ?_
                    refine qT rfl rfl rfl (o_pickF ?_)
                    refine qT rfl rfl rfl (o_eqB ?_)
                    refine qT rfl rfl rfl (o_move ?_)
                    refine qI rfl rfl rfl wl_ (fun hg152 => ?_) (fun hg152 => ?_)
                    · have g152 : ((decide (((dimsRes ((varsRes t 0 a).2) 0 b).1) = 0)) == false) = true := hg152
                      try simp only [sC, bne_iff_ne, beq_iff_eq, ne_eq] at g152
                      refine o_lds ?_
                      refine qT rfl rfl rfl (o_lds ?_)
                      refine qT rfl rfl rfl (o_call Try.call13 (rsame ((dimsRes ((varsRes t 0 a).2) 0 b).2) ((varsRes ((dimsRes t 0 b).2) 0 a).2) x125.1 x125.2.1 x125.2.2 x137.1 x137.2.1 x137.2.2) (fun x155 => ?_))
                      refine qT rfl rfl rfl (o_pickT ?_)
                      refine qT rfl rfl rfl (o_move ?_)
                      refine qI rfl rfl rfl wl_ (fun hg157 => ?_) (fun hg157 => ?_)
                      · have g157 : ((decide (((dimsRes ((varsRes t 0 a).2) 0 b).2) = ((varsRes ((dimsRes t 0 b).2) 0 a).2)))) = true := hg157
                        try simp only [sC, bne_iff_ne, beq_iff_eq, ne_eq] at g157
                        refine o_move ?_
                        refine qT rfl rfl rfl (o_move ?_)
                        refine qT rfl rfl rfl (o_neI ?_)
                        refine qT rfl rfl rfl (o_move ?_)
                        refine qI rfl rfl rfl wl_ (fun hg161 => ?_) (fun hg161 => ?_)
                        · have g161 : (decide (((dimsRes ((varsRes t 0 a).2) 0 b).1) ≠ ((bothRes t a b).1))) = false := hg161
                          try simp only [sC, bne_iff_ne, beq_iff_eq, ne_eq] at g161
                          refine o_lds ?_
                          refine qT rfl rfl rfl (o_lds ?_)
                          refine qT rfl rfl rfl (o_call Try.call13 (rsame ((dimsRes ((varsRes t 0 a).2) 0 b).2) ((bothRes t a b).2) x125.1 x125.2.1 x125.2.2 x77.1 x77.2.1 x77.2.2) (fun x164 => ?_))
                          refine qT rfl rfl rfl (o_pickF ?_)
                          refine qT rfl rfl rfl (o_pickT ?_)
                          refine q0 rfl (o_pickF ?_)
                          refine q0 rfl (o_assign ?_)
                          refine rg_nil ?_
                          exact hK _ ⟨dn_, trivial⟩
                        · have g161 : (decide (((dimsRes ((varsRes t 0 a).2) 0 b).1) ≠ ((bothRes t a b).1))) = true := hg161
                          try simp only [sC, bne_iff_ne, beq_iff_eq, ne_eq] at g161
                          refine qF rfl rfl rfl ?_
                          refine qF rfl rfl rfl ?_
                          refine qT rfl rfl rfl (o_pickT ?_)
                          refine qT rfl rfl rfl (o_pickT ?_)
                          refine q0 rfl (o_pickF ?_)
                          refine q0 rfl (o_assign ?_)
                          refine rg_nil ?_
                          exact hK _ ⟨dn_, trivial⟩
                      · have g157 : ((decide (((dimsRes ((varsRes t 0 a).2) 0 b).2) = ((varsRes ((dimsRes t 0 b).2) 0 a).2)))) = false := hg157
                        try simp only [sC, bne_iff_ne, beq_iff_eq, ne_eq] at g157
                        refine qF rfl rfl rfl ?_
                        refine qF rfl rfl rfl ?_
                        refine qF rfl rfl rfl ?_
                        refine qU rfl rfl rfl ?_
                        refine qU rfl rfl rfl ?_
                        refine qU rfl rfl rfl ?_
                        refine qF rfl rfl rfl ?_
                        refine qT rfl rfl rfl (o_pickF ?_)
                        refine q0 rfl (o_pickF ?_)
                        refine q0 rfl (o_assign ?_)
                        refine rg_nil ?_
                        exact hK _ ⟨dn_, trivial⟩
                    · have g152 : ((decide (((dimsRes ((varsRes t 0 a).2) 0 b).1) = 0)) == false) = false := hg152
                      try simp only [sC, bne_iff_ne, beq_iff_eq, ne_eq] at g152
                      refine qF rfl rfl rfl ?_
                      refine qF rfl rfl rfl ?_
                      refine qT rfl rfl rfl (o_pickF ?_)
                      refine qT rfl rfl rfl (o_move ?_)
                      refine qF rfl rfl rfl ?_
                      refine qF rfl rfl rfl ?_
                      refine qF rfl rfl rfl ?_
                      refine qF rfl rfl rfl ?_
                      refine qU rfl rfl rfl ?_
                      refine qU rfl rfl rfl ?_
                      refine qU rfl rfl rfl ?_
                      refine qF rfl rfl rfl ?_
                      refine qT rfl rfl rfl (o_pickF ?_)
                      refine q0 rfl (o_pickF ?_)
                      refine q0 rfl (o_assign ?_)
                      refine rg_nil ?_
                      exact hK _ ⟨dn_, trivial⟩
                · have g142 : (decide (((varsRes t 0 a).1) ≠ 0)) = true := hg142
                  try simp only [sC, bne_iff_ne, beq_iff_eq, ne_eq] at g142
                  refine qF rfl rfl rfl ?_
                  refine qF rfl rfl rfl ?_
                  refine qF rfl rfl rfl ?_
                  refine qF rfl rfl rfl ?_
                  refine qU rfl rfl rfl ?_
                  refine qU rfl rfl rfl ?_
                  refine qF rfl rfl rfl ?_
                  refine qF rfl rfl rfl ?_
                  refine qF rfl rfl rfl ?_
                  refine qU rfl rfl rfl ?_
                  refine qU rfl rfl rfl ?_
                  refine qU rfl rfl rfl ?_
                  refine qF rfl rfl rfl ?_
                  refine qF rfl rfl rfl ?_
                  refine qU rfl rfl rfl ?_
                  refine qU rfl rfl rfl ?_
                  refine qU rfl rfl rfl ?_
                  refine qU rfl rfl rfl ?_
                  refine qU rfl rfl rfl ?_
                  refine qU rfl rfl rfl ?_
                  refine qU rfl rfl rfl ?_
                  refine qU rfl rfl rfl ?_
                  refine qF rfl rfl rfl ?_
                  refine q0 rfl (o_pickT ?_)
                  refine q0 rfl (o_assign ?_)
                  refine rg_nil ?_
                  exact hK _ ⟨dn_, trivial⟩
              · refine ret1 Try.func3 Try.results3 wn_ () (congrArg Value.bool (adds_last hf0 (a := a) (b := b) (by omega) (by omega))) (fun w hs => hs.none)
end Go.Hy
