/- Contracts of this program's functions and the laws that they need: a separation logic over the machine's rules, one theorem each (partly printed by a program of this repository). -/
import Derived.Test.YtceegbilhbhibaaGreatP2
import Derived.Test.YtceegbilhbhibaaGreatP3
import Derived.Test.YtceegbilhbhibaaGreatP4
import Derived.Test.YtceegbilhbhibaaGreatP5
import Derived.Test.YtceegbilhbhibaaGreatP6
import Derived.Test.YtceegbilhbhibaaGreatP7
import Derived.Test.YtceegbilhbhibaaGreatP8
import Derived.Test.YtceegbilhbhibaaGreatP9
import Derived.Test.YtceegbilhbhibaaGreatP10
namespace Go.Hy
set_option linter.unusedVariables false
set_option linter.unusedSimpArgs false
set_option linter.unusedSectionVars false
open Go.Proofs
set_option linter.unusedVariables false
set_option linter.unusedSimpArgs false
set_option maxRecDepth 100000
abbrev BulkAt (t : T) : Prop := ∀ (most : Int) vr vk vs, 0 ≤ most → most ≤ 1000000 → Spec Tryz.prog 24 #[.agg (tc t vr vk vs).toArray, .int .i64 most] [RT t vr vk vs] [] (fun x : {x : Int // BulkIs t (bulk t) most x} => .int .i64 x.1) (fun _ => []) (fun _ => [])
theorem bulk_walk (t : T) (ih : ∀ p, p ∈ parts t → BulkAt p.1) (most : Int) (vr vk vs : SH) (h0 : 0 ≤ most) (hm : most ≤ 1000000) : Spec Tryz.prog 24 #[.agg (tc t vr vk vs).toArray, .int .i64 most] [RT t vr vk vs] [] (fun x : {x : Int // BulkIs t (bulk t) most x} => .int .i64 x.1) (fun _ => []) (fun _ => []) := by
  refine spec_go (args := [.agg (tc t vr vk vs).toArray, .int .i64 most]) Tryz.func24 Tryz.ntmps24 rfl (by exact Nat.le_of_ble_eq_true rfl) fun B hB => ?_
  refine go_open (fun hk hn hnm => ?_)
  refine go_openCL (l := t.r) (a := vr) (fun hlr hAr hUr => ?_)
  refine go_openTL (ts := t.kids) (fun VR VK VS hl1 hA1 => ?_)
  refine go_openBL (bs := t.sys) (fun VF VK2 hl2 hA2 => ?_)
  refine go_seq ?_
  refine go_region ⟨_, Tryz.func24⟩ rfl ?_
  refine q0 rfl (o_box fun b2 => ?_)
  refine q0 rfl (o_assign ?_)
  refine rg_nil ?_
  refine go_seq ?_
  refine go_seq ?_
  refine go_cutS ([(1, .int .i64 most), (2, .pointer (some ⟨b2, 0, none⟩)), (20, .bool (decide (most < (t.r.length : Int)) || decide (most < (t.name.size : Int))))]) (fun hK => ?_) (fun base => ?_)
  · refine go_region ⟨_, Tryz.func24⟩ rfl ?_
    refine q0 rfl (o_fa ?_)
    refine q0 rfl (o_ld ?_)
    refine q0 rfl (o_len ?_)
    refine q0 rfl (o_move ?_)
    refine q0 rfl (o_gtr ?_)
    refine q0 rfl (o_move ?_)
    refine qI rfl rfl rfl wl_ (fun hg14 => o_fa ?_) (fun hg14 => ?_)
    · refine qT rfl rfl rfl (o_ld ?_)
      refine qT rfl rfl rfl (o_lenStr ?_)
      refine qT rfl rfl rfl (o_move ?_)
      refine qT rfl rfl rfl (o_gtr ?_)
      refine q0 rfl (o_pickF ?_)
      refine rg_nil ?_
      exact hK _ ⟨rfl, rfl, (by (conv => lhs; whnf); first | (simp_all [Bool.and_assoc]; done) | (simp_all [Bool.and_assoc]; omega)), trivial⟩
    · refine qF rfl rfl rfl ?_
      refine qF rfl rfl rfl ?_
      refine qF rfl rfl rfl ?_
      refine qF rfl rfl rfl ?_
      refine q0 rfl (o_pickT ?_)
      refine rg_nil ?_
      exact hK _ ⟨rfl, rfl, (by (conv => lhs; whnf); first | (simp_all [Bool.and_assoc]; done) | (simp_all [Bool.and_assoc]; omega)), trivial⟩
  · refine go_condI (fun h20 => ?_) (fun h20 => ?_)
    · have hb : most < (t.r.length : Int) ∨ most < (t.name.size : Int) := by simpa using h20
      refine go_seq ?_
      refine go_region ⟨_, Tryz.func24⟩ rfl ?_
      refine q0 rfl (o_move ?_)
      refine q0 rfl (o_add ?_)
      refine q0 rfl (o_assign ?_)
      refine rg_nil ?_
      refine ret1 Tryz.func24 Tryz.results24 wn_ ⟨most + 1, by unfold BulkIs; have h9 := bK_le t 0; rw [bK_zero] at h9; omega⟩ rfl (fun w hs => hs.none)
    · have hb : (t.r.length : Int) ≤ most ∧ (t.name.size : Int) ≤ most := by simpa using h20
      have hge1 := bK_le t 0
      rw [bK_zero] at hge1
      refine go_skip ?_
      refine go_seq ?_
      refine go_region ⟨_, Tryz.func24⟩ rfl ?_
      refine q0 rfl (o_fa ?_)
      refine q0 rfl (o_ld ?_)
      refine q0 rfl (o_len ?_)
      refine q0 rfl (o_add ?_)
      refine q0 rfl (o_fa ?_)
      refine q0 rfl (o_ld ?_)
      refine q0 rfl (o_lenStr ?_)
      refine q0 rfl (o_add ?_)
      refine q0 rfl (o_assign ?_)
      refine rg_nil ?_
      refine go_seq ?_
      refine go_seq ?_
      refine go_region ⟨_, Tryz.func24⟩ rfl ?_
      refine q0 rfl (o_assign ?_)
      refine rg_nil ?_
      refine go_block ?_
      refine go_loopI (X := Nat × Int) (fun s => s.1 ≤ t.kids.length ∧ BulkIs t (bK t s.1) most s.2) (fun s => [(1, .int .i64 most), (2, .pointer (some ⟨b2, 0, none⟩)), (5, .int .i64 s.2), (6, .int .i64 (s.1 : Int))]) (fun s => [TLx t.kids vk VR VK VS, BLx t.sys vs VF VK2]) (fun s => [boxR b2 (tc t vr vk vs) 26]) (fun s => t.kids.length - s.1) ((0, 1 + (t.r.length : Int) + (t.name.size : Int))) (⟨Nat.zero_le _, by unfold BulkIs; rw [bK_zero]; simp only; omega⟩) (by exact ⟨rfl, rfl, rfl, rfl, trivial⟩) ?_ ?_
      · exact fun w hs => hs.less (by simp +contextual)
      · intro ⟨i, n⟩ base0 ⟨hi, hn0⟩ next0
        dsimp only at hi hn0 next0 ⊢
        refine go_seq ?_
        refine go_seq ?_
        refine go_cutS ([(1, .int .i64 most), (2, .pointer (some ⟨b2, 0, none⟩)), (5, .int .i64 n), (6, .int .i64 (i : Int)), (40, .bool (decide ((i : Int) < (t.kids.length : Int)) && decide (n ≤ most)))]) (fun hK => ?_) (fun base => ?_)
        · refine go_region ⟨_, Tryz.func24⟩ rfl ?_
          refine q0 rfl (o_move ?_)
          refine q0 rfl (o_fa ?_)
          refine q0 rfl (o_ld ?_)
          refine q0 rfl (o_len ?_)
          refine q0 rfl (o_lss ?_)
          refine q0 rfl (o_move ?_)
          refine qI rfl rfl rfl wl_ (fun hg36 => o_move ?_) (fun hg36 => ?_)
          · refine qT rfl rfl rfl (o_move ?_)
            refine qT rfl rfl rfl (o_leq ?_)
            refine q0 rfl (o_pickT ?_)
            refine rg_nil ?_
            exact hK _ ⟨rfl, rfl, rfl, rfl, (by (conv => lhs; whnf); first | (simp_all [Bool.and_assoc]; done) | (simp_all [Bool.and_assoc]; omega)), trivial⟩
          · refine qF rfl rfl rfl ?_
            refine qF rfl rfl rfl ?_
            refine q0 rfl (o_pickF ?_)
            refine rg_nil ?_
            exact hK _ ⟨rfl, rfl, rfl, rfl, (by (conv => lhs; whnf); first | (simp_all [Bool.and_assoc]; done) | (simp_all [Bool.and_assoc]; omega)), trivial⟩
        · refine go_condI (fun h40 => ?_) (fun h40 => ?_)
          · have hlt' : (i : Int) < (t.kids.length : Int) ∧ n ≤ most := by simpa using h40
            have hlt : i < t.kids.length := by omega
            obtain ⟨bk, o, hav⟩ := hA1 (by omega)
            refine go_kid (ts := t.kids) (a := vk) i hlt ?_
            obtain ⟨hz1, hz2, hz3⟩ := hn0
            refine go_skip ?_
            refine go_seq ?_
            refine go_block ?_
            refine go_region ⟨_, Tryz.func24⟩ rfl ?_
            refine q0 rfl (o_move ?_)
            refine q0 rfl (o_fa ?_)
            refine q0 rfl (o_ld ?_)
            refine q0 rfl (o_move ?_)
            refine q0 rfl (o_ixN ?_)
            refine q0 rfl (o_ldT ?_)
            refine q0 rfl (o_move ?_)
            refine q0 rfl (o_move ?_)
            refine q0 rfl (o_sub ?_)
            refine q0 rfl (o_call Tryz.call24 (ih (t.kids.getD i t0, _, _) (parts_mem (parts_kid t i hlt)) (most - n) _ _ _ (by omega) (by omega)) (fun x52 => ?_))
            have hx := x52.2
            unfold BulkIs at hx
            refine q0 rfl (o_add ?_)
            refine q0 rfl (o_assign ?_)
            refine rg_nil ?_
            refine go_inBlock ?_
            refine go_region ⟨_, Tryz.func24⟩ rfl ?_
            refine q0 rfl (o_move ?_)
            refine q0 rfl (o_add ?_)
            refine q0 rfl (o_assign ?_)
            refine rg_nil ?_
            have hnn : BulkIs t (bK t (i + 1)) most (n + x52.1) := by (have h9 := bK_le t (i + 1); rw [bK_succ hlt] at h9 ⊢; unfold BulkIs; simp only at hx; omega)
            refine go_state (fun w hs => ?_) (next0 (i + 1, n + x52.1) _ ⟨hlt, hnn⟩ (by simp only; omega) ⟨rfl, rfl, rfl, rfl, trivial⟩)
            exact (hs.less (by simp +contextual))
          · have hge : ¬ ((i : Int) < (t.kids.length : Int) ∧ n ≤ most) := by simpa using h40
            have hnS : BulkIs t (bS t 0) most n := by (unfold BulkIs at hn0 ⊢; rw [bS_zero]; have h9 := bK_le t t.kids.length; rcases Nat.lt_or_ge i t.kids.length with h | h; omega; rw [show i = t.kids.length by omega] at hn0; exact hn0)
            refine go_exit rfl ?_
            refine go_seq ?_
            refine go_seq ?_
            refine go_region ⟨_, Tryz.func24⟩ rfl ?_
            refine q0 rfl (o_assign ?_)
            refine rg_nil ?_
            refine go_block ?_
            refine go_loopI (X := Nat × Int) (fun s => s.1 ≤ t.sys.length ∧ BulkIs t (bS t s.1) most s.2) (fun s => [(1, .int .i64 most), (2, .pointer (some ⟨b2, 0, none⟩)), (5, .int .i64 s.2), (7, .int .i64 (s.1 : Int))]) (fun s => [TLx t.kids vk VR VK VS, BLx t.sys vs VF VK2]) (fun s => [boxR b2 (tc t vr vk vs) 26]) (fun s => t.sys.length - s.1) ((0, n)) (⟨Nat.zero_le _, hnS⟩) (by exact ⟨rfl, rfl, rfl, rfl, trivial⟩) ?_ ?_
            · exact fun w hs => hs.less (by simp +contextual)
            · intro ⟨i2, n⟩ base1 ⟨hi2, hn2⟩ next1
              dsimp only at hi2 hn2 next1 ⊢
              refine go_seq ?_
              refine go_seq ?_
              refine go_cutS ([(1, .int .i64 most), (2, .pointer (some ⟨b2, 0, none⟩)), (5, .int .i64 n), (7, .int .i64 (i2 : Int)), (63, .bool (decide ((i2 : Int) < (t.sys.length : Int)) && decide (n ≤ most)))]) (fun hK => ?_) (fun base => ?_)
              · refine go_region ⟨_, Tryz.func24⟩ rfl ?_
                refine q0 rfl (o_move ?_)
                refine q0 rfl (o_fa ?_)
                refine q0 rfl (o_ld ?_)
                refine q0 rfl (o_len ?_)
                refine q0 rfl (o_lss ?_)
                refine q0 rfl (o_move ?_)
                refine qI rfl rfl rfl wl_ (fun hg59 => o_move ?_) (fun hg59 => ?_)
                · refine qT rfl rfl rfl (o_move ?_)
                  refine qT rfl rfl rfl (o_leq ?_)
                  refine q0 rfl (o_pickT ?_)
                  refine rg_nil ?_
                  exact hK _ ⟨rfl, rfl, rfl, rfl, (by (conv => lhs; whnf); first | (simp_all [Bool.and_assoc]; done) | (simp_all [Bool.and_assoc]; omega)), trivial⟩
                · refine qF rfl rfl rfl ?_
                  refine qF rfl rfl rfl ?_
                  refine q0 rfl (o_pickF ?_)
                  refine rg_nil ?_
                  exact hK _ ⟨rfl, rfl, rfl, rfl, (by (conv => lhs; whnf); first | (simp_all [Bool.and_assoc]; done) | (simp_all [Bool.and_assoc]; omega)), trivial⟩
              · refine go_condI (fun h63 => ?_) (fun h63 => ?_)
                · have hlt' : (i2 : Int) < (t.sys.length : Int) ∧ n ≤ most := by simpa using h63
                  have hlt2 : i2 < t.sys.length := by omega
                  obtain ⟨bk2, o2, hav2⟩ := hA2 (by omega)
                  refine go_branch (bs := t.sys) (a := vs) i2 hlt2 ?_
                  refine go_openCL (l := (t.sys.getD i2 br0).face) (a := VF i2) (fun hlf hAf hUf => ?_)
                  refine go_openTL (ts := (t.sys.getD i2 br0).kids) (a := VK2 i2) (fun VR3 VK3 VS3 hl3 hA3 => ?_)
                  obtain ⟨hz1, hz2, hz3⟩ := hn2
                  have hj0 := bJ_le (j := 0) hlt2
                  rw [bJ_zero] at hj0
                  refine go_skip ?_
                  refine go_seq ?_
                  refine go_block ?_
                  refine go_seq ?_
                  refine go_seq ?_
                  refine go_region ⟨_, Tryz.func24⟩ rfl ?_
                  refine q0 rfl (o_fa ?_)
                  refine q0 rfl (o_ld ?_)
                  refine q0 rfl (o_move ?_)
                  refine q0 rfl (o_ixN ?_)
                  refine q0 rfl (o_fa ?_)
                  refine q0 rfl (o_ldBf ?_)
                  refine q0 rfl (o_len ?_)
                  refine q0 rfl (o_move ?_)
                  refine q0 rfl (o_gtr ?_)
                  refine rg_nil ?_
                  refine go_condI (fun h74 => ?_) (fun h74 => ?_)
                  · have hbf := of_decide_eq_true h74
                    refine go_seq ?_
                    refine go_region ⟨_, Tryz.func24⟩ rfl ?_
                    refine q0 rfl (o_move ?_)
                    refine q0 rfl (o_add ?_)
                    refine q0 rfl (o_assign ?_)
                    refine rg_nil ?_
                    refine ret1 Tryz.func24 Tryz.results24 wn_ ⟨most + 1, by unfold BulkIs; omega⟩ rfl (fun w hs => hs.none)
                  · have hbf := of_decide_eq_false h74
                    refine go_skip ?_
                    refine go_seq ?_
                    refine go_region ⟨_, Tryz.func24⟩ rfl ?_
                    refine q0 rfl (o_move ?_)
                    refine q0 rfl (o_add ?_)
                    refine q0 rfl (o_fa ?_)
                    refine q0 rfl (o_ld ?_)
                    refine q0 rfl (o_move ?_)
                    refine q0 rfl (o_ixN ?_)
                    refine q0 rfl (o_fa ?_)
                    refine q0 rfl (o_ldBf ?_)
                    refine q0 rfl (o_len ?_)
                    refine q0 rfl (o_add ?_)
                    refine q0 rfl (o_assign ?_)
                    refine rg_nil ?_
                    refine go_seq ?_
                    refine go_region ⟨_, Tryz.func24⟩ rfl ?_
                    refine q0 rfl (o_assign ?_)
                    refine rg_nil ?_
                    refine go_block ?_
                    refine go_loopI (X := Nat × Int) (fun s => s.1 ≤ (t.sys.getD i2 br0).kids.length ∧ BulkIs t (bJ t i2 s.1) most s.2) (fun s => [(1, .int .i64 most), (2, .pointer (some ⟨b2, 0, none⟩)), (5, .int .i64 s.2), (7, .int .i64 (i2 : Int)), (8, .int .i64 (s.1 : Int))]) (fun s => TLx (t.sys.getD i2 br0).kids (VK2 i2) VR3 VK3 VS3 :: [TLx t.kids vk VR VK VS, BLx t.sys vs VF VK2]) (fun s => [boxR b2 (tc t vr vk vs) 26]) (fun s => (t.sys.getD i2 br0).kids.length - s.1) ((0, n + 1 + ((t.sys.getD i2 br0).face.length : Int))) (⟨Nat.zero_le _, by (unfold BulkIs; rw [bJ_zero]; simp only; omega)⟩) (by exact ⟨rfl, rfl, rfl, rfl, rfl, trivial⟩) ?_ ?_
                    · exact fun w hs => hs.less (by simp +contextual)
                    · intro ⟨j, n⟩ base2 ⟨hj, hn3⟩ next2
                      dsimp only at hj hn3 next2 ⊢
                      refine go_seq ?_
                      refine go_seq ?_
                      refine go_cutS ([(1, .int .i64 most), (2, .pointer (some ⟨b2, 0, none⟩)), (5, .int .i64 n), (7, .int .i64 (i2 : Int)), (8, .int .i64 (j : Int)), (100, .bool (decide ((j : Int) < ((t.sys.getD i2 br0).kids.length : Int)) && decide (n ≤ most)))]) (fun hK => ?_) (fun base => ?_)
                      · refine go_region ⟨_, Tryz.func24⟩ rfl ?_
                        refine q0 rfl (o_move ?_)
                        refine q0 rfl (o_fa ?_)
                        refine q0 rfl (o_ld ?_)
                        refine q0 rfl (o_move ?_)
                        refine q0 rfl (o_ixN ?_)
                        refine q0 rfl (o_fa ?_)
                        refine q0 rfl (o_ldBf ?_)
                        refine q0 rfl (o_len ?_)
                        refine q0 rfl (o_lss ?_)
                        refine q0 rfl (o_move ?_)
                        refine qI rfl rfl rfl wl_ (fun hg96 => o_move ?_) (fun hg96 => ?_)
                        · refine qT rfl rfl rfl (o_move ?_)
                          refine qT rfl rfl rfl (o_leq ?_)
                          refine q0 rfl (o_pickT ?_)
                          refine rg_nil ?_
                          exact hK _ ⟨rfl, rfl, rfl, rfl, rfl, (by (conv => lhs; whnf); first | (simp_all [Bool.and_assoc]; done) | (simp_all [Bool.and_assoc]; omega)), trivial⟩
                        · refine qF rfl rfl rfl ?_
                          refine qF rfl rfl rfl ?_
                          refine q0 rfl (o_pickF ?_)
                          refine rg_nil ?_
                          exact hK _ ⟨rfl, rfl, rfl, rfl, rfl, (by (conv => lhs; whnf); first | (simp_all [Bool.and_assoc]; done) | (simp_all [Bool.and_assoc]; omega)), trivial⟩
                      · refine go_condI (fun h100 => ?_) (fun h100 => ?_)
                        · have hlt3' : (j : Int) < ((t.sys.getD i2 br0).kids.length : Int) ∧ n ≤ most := by simpa using h100
                          have hlt3 : j < (t.sys.getD i2 br0).kids.length := by omega
                          obtain ⟨bk3, o3, hav3⟩ := hA3 (by omega)
                          refine go_kid (ts := (t.sys.getD i2 br0).kids) (a := VK2 i2) j hlt3 ?_
                          obtain ⟨hy1, hy2, hy3⟩ := hn3
                          refine go_skip ?_
                          refine go_seq ?_
                          refine go_block ?_
                          refine go_region ⟨_, Tryz.func24⟩ rfl ?_
                          refine q0 rfl (o_move ?_)
                          refine q0 rfl (o_fa ?_)
                          refine q0 rfl (o_ld ?_)
                          refine q0 rfl (o_move ?_)
                          refine q0 rfl (o_ixN ?_)
                          refine q0 rfl (o_fa ?_)
                          refine q0 rfl (o_ldBf ?_)
                          refine q0 rfl (o_move ?_)
                          refine q0 rfl (o_ixN ?_)
                          refine q0 rfl (o_ldT ?_)
                          refine q0 rfl (o_move ?_)
                          refine q0 rfl (o_move ?_)
                          refine q0 rfl (o_sub ?_)
                          refine q0 rfl (o_call Tryz.call24 (ih ((t.sys.getD i2 br0).kids.getD j t0, _, _) (parts_mem (parts_sys t i2 j hlt2 hlt3)) (most - n) _ _ _ (by omega) (by omega)) (fun x116 => ?_))
                          have hx := x116.2
                          unfold BulkIs at hx
                          refine q0 rfl (o_add ?_)
                          refine q0 rfl (o_assign ?_)
                          refine rg_nil ?_
                          refine go_inBlock ?_
                          refine go_region ⟨_, Tryz.func24⟩ rfl ?_
                          refine q0 rfl (o_move ?_)
                          refine q0 rfl (o_add ?_)
                          refine q0 rfl (o_assign ?_)
                          refine rg_nil ?_
                          have hnn : BulkIs t (bJ t i2 (j + 1)) most (n + x116.1) := by (have h9 := bJ_le (j := j + 1) hlt2; rw [bJ_succ hlt3] at h9 ⊢; unfold BulkIs; simp only at hx; omega)
                          refine go_state (fun w hs => ?_) (next2 (j + 1, n + x116.1) _ ⟨hlt3, hnn⟩ (by simp only; omega) ⟨rfl, rfl, rfl, rfl, rfl, trivial⟩)
                          exact (hs.less (by simp +contextual))
                        · have hge3 : ¬ ((j : Int) < ((t.sys.getD i2 br0).kids.length : Int) ∧ n ≤ most) := by simpa using h100
                          have hnS2 : BulkIs t (bS t (i2 + 1)) most n := by (unfold BulkIs at hn3 ⊢; rw [bS_succ hlt2]; have h9 := bS_le t (i2 + 1); rw [bS_succ hlt2] at h9; rcases Nat.lt_or_ge j (t.sys.getD i2 br0).kids.length with h | h; omega; rw [show j = (t.sys.getD i2 br0).kids.length by omega] at hn3; exact hn3)
                          refine go_exit rfl ?_
                          refine go_inBlock ?_
                          refine go_region ⟨_, Tryz.func24⟩ rfl ?_
                          refine q0 rfl (o_move ?_)
                          refine q0 rfl (o_add ?_)
                          refine q0 rfl (o_assign ?_)
                          refine rg_nil ?_
                          refine go_state (fun w hs => ?_) (next1 (i2 + 1, n) _ ⟨hlt2, hnS2⟩ (by simp only; omega) ⟨rfl, rfl, rfl, rfl, trivial⟩)
                          exact (hs.less (by simp +contextual))
                · have hge2 : ¬ ((i2 : Int) < (t.sys.length : Int) ∧ n ≤ most) := by simpa using h63
                  have hfin : BulkIs t (bulk t) most n := by (unfold BulkIs at hn2 ⊢; rcases Nat.lt_or_ge i2 t.sys.length with h | h; omega; rw [show i2 = t.sys.length by omega, bS_all] at hn2; exact hn2)
                  refine go_exit rfl ?_
                  refine go_seq ?_
                  refine go_region ⟨_, Tryz.func24⟩ rfl ?_
                  refine q0 rfl (o_move ?_)
                  refine q0 rfl (o_assign ?_)
                  refine rg_nil ?_
                  refine ret1 Tryz.func24 Tryz.results24 wn_ ⟨n, hfin⟩ rfl (fun w hs => hs.none)
theorem bulk_spec : ∀ t : T, BulkAt t := T.ind fun t ih most vr vk vs h0 hm => bulk_walk t ih most vr vk vs h0 hm
end Go.Hy
namespace Go.Hy
set_option linter.unusedVariables false
set_option linter.unusedSimpArgs false
set_option linter.unusedSectionVars false
open Go.Proofs
set_option linter.unusedVariables false
set_option linter.unusedSimpArgs false
set_option maxRecDepth 100000
theorem liftVarsF (t : T) (vr vk vs : SH) (f b : Int) (ha : in64 f) (hb : in64 b) (hz : size t ≤ 1152921504606846) : Spec Tryz.prog 25 #[.agg (tc t vr vk vs).toArray, .int .i64 f, .int .i64 b] [RT t vr vk vs] [] (fun x : SH × SH × SH => .tuple #[.agg (tc (varsRes t f b).2 x.1 x.2.1 x.2.2).toArray, .int .i64 (varsRes t f b).1]) (fun x => [RT (varsRes t f b).2 x.1 x.2.1 x.2.2]) (fun _ => []) :=
  Spec.settleT tys (fun v => .tuple #[v, .int .i64 (varsRes t f b).1]) (vars_spec t vr vk vs f b ha hb hz) (fun ok w hs => vars_okT hb (ok_of (hs.facts _ List.mem_cons_self)))
theorem liftDimsF (t : T) (vr vk vs : SH) (f b : Int) (ha : in64 f) (hb : in64 b) (hz : size t ≤ 1152921504606846) : Spec Tryz.prog 8 #[.agg (tc t vr vk vs).toArray, .int .i64 f, .int .i64 b] [RT t vr vk vs] [] (fun x : SH × SH × SH => .tuple #[.agg (tc (dimsRes t f b).2 x.1 x.2.1 x.2.2).toArray, .int .i64 (dimsRes t f b).1]) (fun x => [RT (dimsRes t f b).2 x.1 x.2.1 x.2.2]) (fun _ => []) :=
  Spec.settleT tys (fun v => .tuple #[v, .int .i64 (dimsRes t f b).1]) (dims_spec2 t vr vk vs f b ha hb hz) (fun ok w hs => dims_okT (ok_of (hs.facts _ List.mem_cons_self)))
theorem liftBothF (t : T) (vr vk vs : SH) (f b : Int) (ha : in64 f) (hb : in64 b) (hz : size t ≤ 1152921504606846) : Spec Tryz.prog 10 #[.agg (tc t vr vk vs).toArray, .int .i64 f, .int .i64 b] [RT t vr vk vs] [] (fun x : SH × SH × SH => .tuple #[.agg (tc (bothRes t f b).2 x.1 x.2.1 x.2.2).toArray, .int .i64 (bothRes t f b).1]) (fun x => [RT (bothRes t f b).2 x.1 x.2.1 x.2.2]) (fun _ => []) :=
  Spec.settleT tys (fun v => .tuple #[v, .int .i64 (bothRes t f b).1]) (both_spec t vr vk vs f b ha hb hz) (fun ok w hs => both_okT ha (ok_of (hs.facts _ List.mem_cons_self)))
theorem great11_spec (t : T) (vr_t vk_t vs_t : SH)  : Spec Tryz.prog 5 #[.agg (tc t vr_t vk_t vs_t).toArray] [RT t vr_t vk_t vs_t] [] (fun _ : Unit => .bool (decide (400 < bulk t))) (fun _ : Unit => []) (fun _ : Unit => []) := by
  refine spec_go (args := [.agg (tc t vr_t vk_t vs_t).toArray]) Tryz.func5 Tryz.ntmps5 rfl (by exact Nat.le_of_ble_eq_true rfl) fun B hB => ?_
  refine go_open (t := t) (vr := vr_t) (vk := vk_t) (vs := vs_t) (fun hk1 hn1 hm1 => ?_)
  refine go_openCL (l := (t).r) (a := vr_t) (fun hl2 hA2 hU2 => ?_)
  refine go_openTL (ts := (t).kids) (a := vk_t) (fun VR3 VK3 VS3 hl3 hA3 => ?_)
  refine go_openBL (bs := (t).sys) (a := vs_t) (fun VF4 VK4 hl4 hA4 => ?_)
  refine go_seq ?_
  refine go_region ⟨_, Tryz.func5⟩ rfl ?_
  refine q0 rfl (o_box fun b1 => ?_)
  refine q0 rfl (o_assign ?_)
  refine rg_nil ?_
  refine go_seq ?_
  refine go_region ⟨_, Tryz.func5⟩ rfl ?_
  refine q0 rfl (o_lds ?_)
  refine q0 rfl (o_call Tryz.call24 (bulk_spec t 400 vr_t vk_t vs_t (by omega) (by omega)) (fun x4 => ?_))
  have hx := x4.2
  unfold BulkIs at hx
  refine q0 rfl (o_gtr ?_)
  refine q0 rfl (o_assign ?_)
  refine rg_nil ?_
  refine ret1 Tryz.func5 Tryz.results5 wn_ () (congrArg Value.bool (decide_eq_decide.mpr (by omega))) (fun w hs => hs.none)
theorem works11_spec   : Spec Tryz.prog 6 #[] [] [] (fun _ : Unit => .bool (true)) (fun _ : Unit => []) (fun _ : Unit => []) := by
  refine spec_go (args := []) Tryz.func6 Tryz.ntmps6 rfl (by exact Nat.le_of_ble_eq_true rfl) fun B hB => ?_
  refine go_seq ?_
  refine go_region ⟨_, Tryz.func6⟩ rfl ?_
  refine q0 rfl (o_assign ?_)
  refine rg_nil ?_
  refine go_seq ?_
  refine go_region ⟨_, Tryz.func6⟩ rfl ?_
  refine q0 rfl (o_build (cs := [.int .i64 (1), .int .i64 (0), .string ((ByteArray.mk #[])), sl (none, 0) (0), sl (none, 0) (0), sl (none, 0) (0)]) ?_)
  refine q0 rfl (o_build (cs := [.int .i64 (1), .int .i64 (1), .string ((ByteArray.mk #[])), sl (none, 0) (0), sl (none, 0) (0), sl (none, 0) (0)]) ?_)
  refine q0 rfl (o_lit2 fun b9 => ?_)
  refine q0 rfl (o_build (cs := [.int .i64 (6), .int .i64 (0), .string ((ByteArray.mk #[])), sl (none, 0) (0), sl (some ⟨b9, 0, none⟩, 2) (2), sl (none, 0) (0)]) ?_)
  refine q0 rfl (o_lit1 fun b11 => ?_)
  refine q0 rfl (o_build (cs := [.int .i64 (5), .int .i64 (0), .string ((ByteArray.mk #[])), sl (none, 0) (0), sl (some ⟨b11, 0, none⟩, 1) (1), sl (none, 0) (0)]) ?_)
  refine q0 rfl (o_new fun b1 => ?_)
  refine q0 rfl (o_st ?_)
  refine rg_nil ?_
  refine go_state (fun w hs => ?_) (?_ : GoT _ _ _ _ _ _ _ [RT exL nul (some ⟨b11, 0, none⟩, 1) nul] [boxR b1 (tc exL nul (some ⟨b11, 0, none⟩, 1) nul) 26])
  · have g1 := (((((hs.perm perm1).perm perm2).leaf 1 0 ⟨#[]⟩ (in_lit (by omega) (by omega)) (in_lit (by omega) (by omega)) (Nat.zero_le _)).leaf 1 1 ⟨#[]⟩ (in_lit (by omega) (by omega)) (in_lit (by omega) (by omega)) (Nat.zero_le _)).lit2T (t := vE 0) (vr := nul) (vk := nul) (vs := nul) (u := vE 1) (ur := nul) (uk := nul) (us := nul) hB (by simp [vE]) (by simp [vE]) rfl).node 6 0 [vE 0, vE 1] (some ⟨b9, 0, none⟩, 2) (in_lit (by omega) (by omega)) (in_lit (by omega) (by omega)) (by simp)
    have g3 := (g1.lit1T (t := appE) (vr := nul) (vk := (some ⟨b9, 0, none⟩, 2)) (vs := nul) hB (by simp [appE]) rfl).node 5 0 [appE] (some ⟨b11, 0, none⟩, 1) (in_lit (by omega) (by omega)) (in_lit (by omega) (by omega)) (by simp)
    exact (g3.less (by simp [exL]))
  refine go_seq ?_
  refine go_region ⟨_, Tryz.func6⟩ rfl ?_
  refine q0 rfl (o_lds ?_)
  refine q0 rfl (o_call Tryz.call25 ((by have h := liftVarsF exL nul (some ⟨b11, 0, none⟩, 1) nul 0 2 (by unfold in64; omega) (by unfold in64; omega) (by rw [exL_size.1]; omega); simp only [ex_vars1, ex_vars2] at h; exact h)) (fun x15 => ?_))
  refine q0 rfl (o_move ?_)
  refine q0 rfl (o_extract ?_)
  refine q0 rfl (o_extract ?_)
  refine q0 rfl (o_new fun b2 => ?_)
  refine q0 rfl (o_st ?_)
  refine q0 rfl (o_assign ?_)
  refine rg_nil ?_
  refine go_seq ?_
  refine go_region ⟨_, Tryz.func6⟩ rfl ?_
  refine q0 rfl (o_build (cs := [.int .u32 ((((⟨3, 0⟩ : Cl)).pos : Nat) : Int), .int .u32 ((((⟨3, 0⟩ : Cl)).neg : Nat) : Int)]) ?_)
  refine q0 rfl (o_lit1 fun b19 => ?_)
  refine q0 rfl (o_build (cs := [.int .i64 (21), .int .i64 (0), .string ((ByteArray.mk #[])), sl (some ⟨b19, 0, none⟩, 1) (1), sl (none, 0) (0), sl (none, 0) (0)]) ?_)
  refine q0 rfl (o_lit1 fun b21 => ?_)
  refine q0 rfl (o_build (cs := [.int .i64 (12), .int .i64 (0), .string ((ByteArray.mk #[])), sl (none, 0) (0), sl (some ⟨b21, 0, none⟩, 1) (1), sl (none, 0) (0)]) ?_)
  refine q0 rfl (o_new fun b4 => ?_)
  refine q0 rfl (o_st ?_)
  refine rg_nil ?_
  refine go_state (fun w hs => ?_) (?_ : GoT _ _ _ _ _ _ _ [RT exP nul (some ⟨b21, 0, none⟩, 1) nul, RT exA x15.1 x15.2.1 x15.2.2] [boxR b4 (tc exP nul (some ⟨b21, 0, none⟩, 1) nul) 26, boxR b1 (tc exL nul (some ⟨b11, 0, none⟩, 1) nul) 26, boxR b2 (tc exA x15.1 x15.2.1 x15.2.2) 26])
  · have g1 := ((((((hs.perm perm3).perm perm4).perm perm2).perm perm3).perm perm4).boxRow (sz := 2) (m := 1) rfl (by decide)).settleCL (l := [⟨3, 0⟩]) hB rfl rfl (by unfold reach; decide) (by intro c hc; simp at hc; subst hc; exact ⟨by decide, by decide⟩)
    have g2 := (((g1.nilTL 0).nilBL 0).mkRT (k := 21) (n := 0) (nm := ⟨#[]⟩) (in_lit (by omega) (by omega)) (in_lit (by omega) (by omega)) (Nat.zero_le _) (r := [⟨3, 0⟩]) (ks := []) (ss := []) (vr := (some ⟨b19, 0, none⟩, 1)) (vk := nul) (vs := nul) (by simp) (by simp) (by simp))
    have g3 := (g2.lit1T (t := loopE) (vr := (some ⟨b19, 0, none⟩, 1)) (vk := nul) (vs := nul) hB (by simp [loopE]) rfl).node 12 0 [loopE] (some ⟨b21, 0, none⟩, 1) (in_lit (by omega) (by omega)) (in_lit (by omega) (by omega)) (by simp)
    exact (g3.less (by simp [exP]))
  refine go_seq ?_
  refine go_region ⟨_, Tryz.func6⟩ rfl ?_
  refine q0 rfl (o_lds ?_)
  refine q0 rfl (o_call Tryz.call8 ((by have h := liftDimsF exP nul (some ⟨b21, 0, none⟩, 1) nul 0 1 (by unfold in64; omega) (by unfold in64; omega) (by rw [exL_size.2]; omega); simp only [ex_dims1, ex_dims2] at h; exact h)) (fun x25 => ?_))
  refine q0 rfl (o_move ?_)
  refine q0 rfl (o_extract ?_)
  refine q0 rfl (o_extract ?_)
  refine q0 rfl (o_new fun b5 => ?_)
  refine q0 rfl (o_st ?_)
  refine q0 rfl (o_assign ?_)
  refine rg_nil ?_
  refine go_open (t := exA) (vr := x15.1) (vk := x15.2.1) (vs := x15.2.2) (fun hk1 hn1 hm1 => ?_)
  refine go_openTL (ts := (exA).kids) (a := x15.2.1) (fun VR2 VK2 VS2 hl2 hA2 => ?_)
  refine go_kid (ts := (exA).kids) (a := x15.2.1) (VR := VR2) (VK := VK2) (VS := VS2) 0 (by decide) ?_
  refine go_open (t := (((exA).kids).getD 0 t0)) (vr := (VR2 0)) (vk := (VK2 0)) (vs := (VS2 0)) (fun hk3 hn3 hm3 => ?_)
  refine go_openTL (ts := (((exA).kids).getD 0 t0).kids) (a := VK2 0) (fun VR4 VK4 VS4 hl4 hA4 => ?_)
  refine go_open (t := exQ) (vr := x25.1) (vk := x25.2.1) (vs := x25.2.2) (fun hk5 hn5 hm5 => ?_)
  refine go_openTL (ts := (exQ).kids) (a := x25.2.1) (fun VR6 VK6 VS6 hl6 hA6 => ?_)
  refine go_kid (ts := (exQ).kids) (a := x25.2.1) (VR := VR6) (VK := VK6) (VS := VS6) 0 (by decide) ?_
  refine go_open (t := (((exQ).kids).getD 0 t0)) (vr := (VR6 0)) (vk := (VK6 0)) (vs := (VS6 0)) (fun hk7 hn7 hm7 => ?_)
  refine go_state (fun w hs => hs.less (Γ' := [TLx (exA).kids x15.2.1 VR2 VK2 VS2, TLx (((exA).kids).getD 0 t0).kids (VK2 0) VR4 VK4 VS4, TLx (exQ).kids x25.2.1 VR6 VK6 VS6, CL (((exQ).kids).getD 0 t0).r (VR6 0)]) (by simp)) ?_
  have hn9A : (exA).kids.length = 1 := rfl
  have hn9B : (((exA).kids).getD 0 t0).kids.length = 2 := rfl
  have hn9Q : (exQ).kids.length = 1 := rfl
  refine go_seq ?_
  refine go_kid (ts := (((exA).kids).getD 0 t0).kids) (a := VK2 0) (VR := VR4) (VK := VK4) (VS := VS4) 0 (by (first | omega | decide)) ?_
  refine go_kid (ts := (((exA).kids).getD 0 t0).kids) (a := VK2 0) (VR := VR4) (VK := VK4) (VS := VS4) 1 (by (first | omega | decide)) ?_
  refine go_cutS ([(0, .bool (true))]) (fun hK => ?_) (fun base => ?_)
  · refine go_region ⟨_, Tryz.func6⟩ rfl ?_
    refine q0 rfl (o_move ?_)
    refine q0 rfl (o_eqIY ?_ (hp := by first | rfl | decide))
    refine q0 rfl (o_move ?_)
    refine qT rfl rfl rfl (o_fa ?_)
    refine qT rfl rfl rfl (o_ld ?_)
    refine qT rfl rfl rfl (o_len ?_)
    refine qT rfl rfl rfl (o_eqIY ?_ (hp := by first | rfl | decide))
    refine q0 rfl (o_pickT ?_)
    refine q0 rfl (o_move ?_)
    refine qT rfl rfl rfl (o_fa ?_)
    refine qT rfl rfl rfl (o_ld ?_)
    obtain ⟨bk8, o8, hav8⟩ := hA2 (by (first | omega | decide))
    refine qT rfl rfl rfl (o_ixN ?_ (j := 0))
    refine qT rfl rfl rfl (o_fa ?_)
    refine qT rfl rfl rfl (o_ldTf ?_)
    refine qT rfl rfl rfl (o_len ?_)
    refine qT rfl rfl rfl (o_eqIY ?_ (hp := by first | rfl | decide))
    refine q0 rfl (o_pickT ?_)
    refine q0 rfl (o_move ?_)
    refine qT rfl rfl rfl (o_fa ?_)
    refine qT rfl rfl rfl (o_ld ?_)
    refine qT rfl rfl rfl (o_ixN ?_ (j := 0))
    refine qT rfl rfl rfl (o_fa ?_)
    refine qT rfl rfl rfl (o_ldTf ?_)
    obtain ⟨bk9, o9, hav9⟩ := hA4 (by (first | omega | decide))
    refine qT rfl rfl rfl (o_ixN ?_ (j := 0))
    refine qT rfl rfl rfl (o_fa ?_)
    refine qT rfl rfl rfl (o_ldTf ?_)
    refine qT rfl rfl rfl (o_eqIY ?_ (hp := by first | rfl | decide))
    refine q0 rfl (o_pickT ?_)
    refine q0 rfl (o_move ?_)
    refine qT rfl rfl rfl (o_fa ?_)
    refine qT rfl rfl rfl (o_ld ?_)
    refine qT rfl rfl rfl (o_ixN ?_ (j := 0))
    refine qT rfl rfl rfl (o_fa ?_)
    refine qT rfl rfl rfl (o_ldTf ?_)
    refine qT rfl rfl rfl (o_ixN ?_ (j := 1))
    refine qT rfl rfl rfl (o_fa ?_)
    refine qT rfl rfl rfl (o_ldTf ?_)
    refine qT rfl rfl rfl (o_eqIY ?_ (hp := by first | rfl | decide))
    refine q0 rfl (o_pickT ?_)
    refine q0 rfl (o_move ?_)
    refine qT rfl rfl rfl (o_move ?_)
    refine qT rfl rfl rfl (o_eqIY ?_ (hp := by first | rfl | decide))
    refine q0 rfl (o_pickT ?_)
    refine q0 rfl (o_move ?_)
    refine qT rfl rfl rfl (o_fa ?_)
    refine qT rfl rfl rfl (o_ld ?_)
    refine qT rfl rfl rfl (o_len ?_)
    refine qT rfl rfl rfl (o_eqIY ?_ (hp := by first | rfl | decide))
    refine q0 rfl (o_pickT ?_)
    refine q0 rfl (o_move ?_)
    refine qT rfl rfl rfl (o_fa ?_)
    refine qT rfl rfl rfl (o_ld ?_)
    obtain ⟨bk10, o10, hav10⟩ := hA6 (by (first | omega | decide))
    refine qT rfl rfl rfl (o_ixN ?_ (j := 0))
    refine qT rfl rfl rfl (o_fa ?_)
    refine qT rfl rfl rfl (o_ldTf ?_)
    refine qT rfl rfl rfl (o_build (cs := [.int .u32 ((((⟨5, 0⟩ : Cl)).pos : Nat) : Int), .int .u32 ((((⟨5, 0⟩ : Cl)).neg : Nat) : Int)]) ?_)
    refine qT rfl rfl rfl (o_lit1 fun b84 => ?_)
    refine rg_state (fun w hs => (((((((hs.perm perm4).perm perm4).perm perm4).perm perm4).perm perm4).boxRow (sz := 2) (m := 1) rfl (by decide)).settleCL (l := [⟨5, 0⟩]) hB rfl rfl (by unfold reach; decide) (by intro c hc; simp at hc; subst hc; exact ⟨by decide, by decide⟩))) ?_
    refine qT rfl rfl rfl (o_call Tryz.call26 ((by have h := rsameC (((exQ).kids).getD 0 t0).r (VR6 0) [⟨5, 0⟩] (some ⟨b84, 0, none⟩, 1); rw [decide_eq_true (show (((exQ).kids).getD 0 t0).r = [⟨5, 0⟩] from rfl)] at h; exact h)) (fun x85 => ?_))
    refine q0 rfl (o_pickT ?_)
    refine q0 rfl (o_assign ?_)
    refine rg_nil ?_
    exact go_state (fun w hs => (hs.less (by simp +contextual))) (hK _ ⟨(by first | rfl | ((conv => lhs; whnf); first | (simp_all [exA, exQ, vE, T.kids, T.kind, T.n, T.r]; done) | (simp_all [exA, exQ, vE, T.kids, T.kind, T.n, T.r]; omega))), trivial⟩)
  · refine ret1 Tryz.func6 Tryz.results6 wn_ () (by first | rfl | (simp_all; done)) (fun w hs => hs.none)
end Go.Hy
namespace Go.Hy
set_option linter.unusedVariables false
set_option linter.unusedSimpArgs false
set_option linter.unusedSectionVars false
open Go.Proofs
set_option linter.unusedVariables false
set_option linter.unusedSimpArgs false
set_option maxRecDepth 100000
theorem liftDimsH (t : T) (vr vk vs : SH) (f b : Int) (ha : in64 f) (hb : in64 b) (hz : size t ≤ 1152921504606846) : Spec Tryz.prog 8 #[.agg (tc t vr vk vs).toArray, .int .i64 f, .int .i64 b] [RT t vr vk vs] [] (fun x : {x : (Int × T) × (SH × SH × SH) // x.1 = dimsRes t f b} => .tuple #[.agg (tc x.1.1.2 x.1.2.1 x.1.2.2.1 x.1.2.2.2).toArray, .int .i64 x.1.1.1]) (fun x => [RT x.1.1.2 x.1.2.1 x.1.2.2.1 x.1.2.2.2]) (fun _ => []) :=
  Spec.hide (dimsRes t f b) (val := fun (r : Int × T) (x : SH × SH × SH) => .tuple #[.agg (tc r.2 x.1 x.2.1 x.2.2).toArray, .int .i64 r.1]) (N := fun (r : Int × T) (x : SH × SH × SH) => [RT r.2 x.1 x.2.1 x.2.2]) (Ms1 := fun _ _ => []) (liftDimsF t vr vk vs f b ha hb hz)
theorem liftBothH (t : T) (vr vk vs : SH) (f b : Int) (ha : in64 f) (hb : in64 b) (hz : size t ≤ 1152921504606846) : Spec Tryz.prog 10 #[.agg (tc t vr vk vs).toArray, .int .i64 f, .int .i64 b] [RT t vr vk vs] [] (fun x : {x : (Int × T) × (SH × SH × SH) // x.1 = bothRes t f b} => .tuple #[.agg (tc x.1.1.2 x.1.2.1 x.1.2.2.1 x.1.2.2.2).toArray, .int .i64 x.1.1.1]) (fun x => [RT x.1.1.2 x.1.2.1 x.1.2.2.1 x.1.2.2.2]) (fun _ => []) :=
  Spec.hide (bothRes t f b) (val := fun (r : Int × T) (x : SH × SH × SH) => .tuple #[.agg (tc r.2 x.1 x.2.1 x.2.2).toArray, .int .i64 r.1]) (N := fun (r : Int × T) (x : SH × SH × SH) => [RT r.2 x.1 x.2.1 x.2.2]) (Ms1 := fun _ _ => []) (liftBothF t vr vk vs f b ha hb hz)
end Go.Hy
namespace Go.Hy
set_option linter.unusedVariables false
set_option linter.unusedSimpArgs false
set_option linter.unusedSectionVars false
open Go.Proofs
set_option linter.unusedVariables false
set_option linter.unusedSimpArgs false
set_option maxRecDepth 100000
abbrev RcopyO (t : T) : Prop := ∀ vr vk vs, Spec Tryz.prog 7 #[.agg (tc t vr vk vs).toArray] [RT t vr vk vs] [] (fun x : {h : HT // h.er = t} => .agg (tc t x.1.vr x.1.vk x.1.vs).toArray) (fun _ => []) (fun x => [bigR (treeR tys x.1)])
theorem rcopyO_walk (t : T) (vr_t vk_t vs_t : SH) (ihk : ∀ k, k ∈ t.kids → RcopyO k) (ihs : ∀ b, b ∈ t.sys → ∀ k, k ∈ b.kids → RcopyO k) : Spec Tryz.prog 7 #[.agg (tc t vr_t vk_t vs_t).toArray] [RT t vr_t vk_t vs_t] [] (fun x : {h : HT // h.er = t} => .agg (tc t x.1.vr x.1.vk x.1.vs).toArray) (fun x : {h : HT // h.er = t} => []) (fun x : {h : HT // h.er = t} => [bigR (treeR tys x.1)]) := by
  refine spec_go (args := [.agg (tc t vr_t vk_t vs_t).toArray]) Tryz.func7 Tryz.ntmps7 rfl (by exact Nat.le_of_ble_eq_true rfl) fun B hB => ?_
  refine go_open (t := t) (vr := vr_t) (vk := vk_t) (vs := vs_t) (fun hk1 hn1 hm1 => ?_)
  refine go_openCL (l := (t).r) (a := vr_t) (fun hl2 hA2 hU2 => ?_)
  refine go_openTL (ts := (t).kids) (a := vk_t) (fun VR3 VK3 VS3 hl3 hA3 => ?_)
  refine go_openBL (bs := (t).sys) (a := vs_t) (fun VF4 VK4 hl4 hA4 => ?_)
  refine go_seq ?_
  refine go_region ⟨_, Tryz.func7⟩ rfl ?_
  refine q0 rfl (o_box fun b1 => ?_)
  refine q0 rfl (o_new fun b2 => ?_)
  refine rg_nil ?_
  refine go_seq ?_
  refine go_state (fun w hs => ((hs.perm perm1).settleBox hB)) ?_
  refine go_draw (pn := 1000000) (tn := true) (A := [0, 1, 0, 4, 0, 16, 0, 0, 128, 448, 1023, 0, 4095]) (l := [0, 1, 2, 3, 4, 5, 7, 8, 6, 9, 10, 11]) (fin := [12]) Tab.mixed ⟨_, Tryz.func7⟩ (by rfl) ?_
  refine n0 rfl (v_fa ?_)
  refine n0 rfl (f_ldg ?_)
  refine n0 rfl (v_fa ?_)
  refine n0 rfl (f_ldg ?_)
  refine n0 rfl (v_fa ?_)
  refine n0 rfl (f_ldg ?_)
  refine n0 rfl (v_fa ?_)
  refine n0 rfl (f_ldg ?_)
  refine n0 rfl (v_lit0 fun b14 => ?_)
  refine nv_conv [_] [_] (fun _ _ _ hs => hs.boxRow (sz := 2) (m := 0) rfl (by decide)) ?_
  refine n0 rfl (t_appCL (fun a17 => ?_) (by simp) (a := (some ⟨b14, 0, none⟩, 0)) (n' := 0) (b := vr_t) (ls := ((t).r)))
  refine nv_conv [_] [_] (fun _ _ _ hs => hs.appFlatC (l := []) (m := (t).r)) ?_
  rw [Nat.zero_add ((t).r).length]
  refine n0 rfl (v_build (cs := [.int .i64 ((t).kind), .int .i64 ((t).n), .string ((t).name), sl a17 (((t).r).length), sl (none, 0) (0), sl (none, 0) (0)]) ?_)
  refine n0 rfl (v_new fun b3 => ?_)
  refine NV.done ?_
  refine q0 rfl (o_st ?_)
  refine rg_nil ?_
  refine go_seq ?_
  refine go_seq ?_
  refine go_region ⟨_, Tryz.func7⟩ rfl ?_
  refine q0 rfl (o_assign ?_)
  refine rg_nil ?_
  refine go_block ?_
  refine go_loopE (X := Nat × SH × List HT) (fun s_ => s_.1 ≤ t.kids.length ∧ s_.2.2.map HT.er = t.kids.take s_.1) (fun s_ => [(1, .pointer (some ⟨b1, 0, none⟩)), (2, .pointer (some ⟨b2, 0, none⟩)), (3, .pointer (some ⟨b3, 0, none⟩)), (4, .int .i64 ((s_.1 : Int)))]) (fun s_ G_ => G_) (fun s_ => [bigR (kidsR tys s_.2.2), rowS 6 26 s_.2.1 (s_.1) (tpFlat (s_.2.2.map HT.tp)), boxR b3 [.int .i64 (t.kind), .int .i64 (t.n), .string (t.name), sl a17 (t.r.length), sl s_.2.1 (s_.1), sl (none, 0) (0)] 26, rowS 2 55 a17 (((t).r).length) (clFlat ((t).r)), boxR b2 [.int .i64 (0), .int .i64 (0), .string ((ByteArray.mk #[])), sl (none, 0) (0), sl (none, 0) (0), sl (none, 0) (0)] 26]) (fun s_ => t.kids.length - s_.1) (0, (none, 0), []) (⟨by omega, rfl⟩) (by exact ⟨rfl, rfl, rfl, rfl, trivial⟩) ?_ ?_
  · exact fun w hs => ((hs.rowS0 6 26).bigNil)
  · intro ⟨i, a, ks⟩ base0 ⟨hi, hks⟩ next0
    dsimp only at  hi  hks  next0 ⊢
    refine go_seq ?_
    refine go_seq ?_
    refine go_region ⟨_, Tryz.func7⟩ rfl ?_
    refine q0 rfl (o_move ?_)
    refine q0 rfl (o_fa ?_)
    refine q0 rfl (o_ldg ?_)
    refine q0 rfl (o_len ?_)
    refine q0 rfl (o_lss ?_)
    refine rg_nil ?_
    refine go_condI (fun h23 => ?_) (fun h23 => ?_)
    · have c23 : (decide ((i : Int) < ((t).kids.length : Int))) = true := h23
      try simp only [sC, bne_iff_ne, beq_iff_eq, ne_eq] at c23
      refine go_skip ?_
      refine go_seq ?_
      refine go_block ?_
      refine go_kid (ts := (t).kids) (a := vk_t) (VR := VR3) (VK := VK3) (VS := VS3) i (by omega) ?_
      refine go_draw (pn := 1000000) (tn := false) (A := [0, 1, 0, 4, 0, 28, 60, 124, 252, 511, 1023, 2047]) (l := [0, 1, 2, 3, 4, 5, 6, 7, 8]) (fin := [9, 10, 11]) Tab.mixed ⟨_, Tryz.func7⟩ (by rfl) ?_
      refine n0 rfl (v_fa ?_)
      refine n0 rfl (v_ld ?_)
      refine n0 rfl (v_fa ?_)
      refine n0 rfl (f_ldg ?_)
      refine n0 rfl (v_move ?_)
      obtain ⟨bk5, o5, hav5⟩ := hA3 (by omega)
      refine n0 rfl (v_ixN ?_ (j := i))
      refine n0 rfl (v_ldT ?_)
      refine n0 rfl (v_call Tryz.call7 (ihk _ (getD_mem (show i < t.kids.length by omega)) (VR3 i) (VK3 i) (VS3 i)) (fun x33 => ?_))
      refine n0 rfl (v_lit1 fun b34 => ?_)
      refine NV.done ?_
      refine q0 rfl (o_appS (fun a35 => ?_) (a := a) (n' := i))
      refine rg_state (fun w hs => ((hs.perm perm1).drop).snocT) ?_
      refine q0 rfl (o_fa ?_)
      refine q0 rfl (o_stc ?_)
      refine rg_nil ?_
      refine go_inBlock ?_
      refine go_region ⟨_, Tryz.func7⟩ rfl ?_
      refine q0 rfl (o_move ?_)
      refine q0 rfl (o_add ?_)
      refine q0 rfl (o_assign ?_)
      refine rg_nil ?_
      refine go_state (fun w hs => ?_) (next0 (i + 1, a35, ks ++ [x33.1]) _ (⟨by omega, by rw [List.map_append, hks, take_succ_getD (d := t0) (by omega)]; simp [x33.2]⟩) (by (try simp only); omega) ⟨rfl, rfl, rfl, rfl, trivial⟩)
      have e1 : (ks ++ [x33.1]).map HT.tp = ks.map HT.tp ++ [(t.kids.getD i t0, x33.1.vr, x33.1.vk, x33.1.vs)] := by simp only [List.map_append, List.map_cons, List.map_nil, HT.tp, x33.2]
      rw [e1]; exact (((((((((((((hs.less (by simp +contextual)).perm perm5).perm perm5).perm perm3).perm perm3).perm perm5).perm perm5).joinK).perm perm4).perm perm4).perm perm3).perm perm4).perm perm4)
    · have c23 : (decide ((i : Int) < ((t).kids.length : Int))) = false := h23
      try simp only [sC, bne_iff_ne, beq_iff_eq, ne_eq] at c23
      have hei : i = t.kids.length := by omega
      have hkk : ks.map HT.er = t.kids := by rw [hks, hei, List.take_length]
      refine go_ms (Ms' := [bigR (kidsR tys ks), rowS 6 26 a (t.kids.length) (tpFlat (ks.map HT.tp)), boxR b3 [.int .i64 (t.kind), .int .i64 (t.n), .string (t.name), sl a17 (t.r.length), sl a (t.kids.length), sl (none, 0) (0)] 26, rowS 2 55 a17 (((t).r).length) (clFlat ((t).r)), boxR b2 [.int .i64 (0), .int .i64 (0), .string ((ByteArray.mk #[])), sl (none, 0) (0), sl (none, 0) (0), sl (none, 0) (0)] 26]) (by rw [hei]) ?_
      refine go_exit rfl ?_
      refine go_seq ?_
      refine go_seq ?_
      refine go_region ⟨_, Tryz.func7⟩ rfl ?_
      refine q0 rfl (o_assign ?_)
      refine rg_nil ?_
      refine go_block ?_
      refine go_loopE (X := Nat × SH × List HB) (fun s_ => s_.1 ≤ t.sys.length ∧ s_.2.2.map HB.er = t.sys.take s_.1) (fun s_ => [(1, .pointer (some ⟨b1, 0, none⟩)), (2, .pointer (some ⟨b2, 0, none⟩)), (3, .pointer (some ⟨b3, 0, none⟩)), (5, .int .i64 ((s_.1 : Int)))]) (fun s_ G_ => G_) (fun s_ => [bigR (brsR tys s_.2.2), rowS 2 58 s_.2.1 (s_.1) (bpFlat (s_.2.2.map HB.bp)), bigR (kidsR tys ks), rowS 6 26 a (t.kids.length) (tpFlat (ks.map HT.tp)), boxR b3 [.int .i64 (t.kind), .int .i64 (t.n), .string (t.name), sl a17 (t.r.length), sl a (t.kids.length), sl s_.2.1 (s_.1)] 26, rowS 2 55 a17 (((t).r).length) (clFlat ((t).r)), boxR b2 [.int .i64 (0), .int .i64 (0), .string ((ByteArray.mk #[])), sl (none, 0) (0), sl (none, 0) (0), sl (none, 0) (0)] 26]) (fun s_ => t.sys.length - s_.1) (0, (none, 0), []) (⟨by omega, rfl⟩) (by exact ⟨rfl, rfl, rfl, rfl, trivial⟩) ?_ ?_
      · exact fun w hs => ((hs.rowS0 2 58).bigNil)
      · intro ⟨s, a2, bs⟩ base1 ⟨hs1, hbs⟩ next1
        dsimp only at  hs1  hbs  next1 ⊢
        refine go_seq ?_
        refine go_seq ?_
        refine go_region ⟨_, Tryz.func7⟩ rfl ?_
        refine q0 rfl (o_move ?_)
        refine q0 rfl (o_fa ?_)
        refine q0 rfl (o_ldg ?_)
        refine q0 rfl (o_len ?_)
        refine q0 rfl (o_lss ?_)
        refine rg_nil ?_
        refine go_condI (fun h41 => ?_) (fun h41 => ?_)
        · have c41 : (decide ((s : Int) < ((t).sys.length : Int))) = true := h41
          try simp only [sC, bne_iff_ne, beq_iff_eq, ne_eq] at c41
          refine go_skip ?_
          refine go_seq ?_
          refine go_block ?_
          refine go_seq ?_
          refine go_branch (bs := (t).sys) (a := vs_t) (VF := VF4) (VK := VK4) s (by omega) ?_
          refine go_openCL (l := (((t).sys).getD s br0).face) (a := VF4 s) (fun hl6 hA6 hU6 => ?_)
          refine go_openTL (ts := (((t).sys).getD s br0).kids) (a := VK4 s) (fun VR7 VK7 VS7 hl7 hA7 => ?_)
          refine go_region ⟨_, Tryz.func7⟩ rfl ?_
          refine q0 rfl (o_lit0 fun b44 => ?_)
          refine q0 rfl (o_fa ?_)
          refine q0 rfl (o_ldg ?_)
          refine q0 rfl (o_move ?_)
          obtain ⟨bk8, o8, hav8⟩ := hA4 (by omega)
          refine q0 rfl (o_ixN ?_ (j := s))
          refine q0 rfl (o_fa ?_)
          refine q0 rfl (o_ldBf ?_)
          refine rg_state (fun w hs => hs.boxRow (sz := 2) (m := 0) rfl (by decide)) ?_
          refine q0 rfl (o_appCL (fun a51 => ?_) (by simp) (a := (some ⟨b44, 0, none⟩, 0)) (n' := 0) (b := (VF4 s)) (ls := ((((t).sys).getD s br0).face)))
          refine rg_state (fun w hs => hs.appFlatC (l := []) (m := (((t).sys).getD s br0).face)) ?_
          rw [Nat.zero_add ((((t).sys).getD s br0).face).length]
          refine q0 rfl (o_build (cs := [sl a51 (((((t).sys).getD s br0).face).length), sl (none, 0) (0)]) ?_)
          refine q0 rfl (o_new fun b6 => ?_)
          refine q0 rfl (o_st ?_)
          refine rg_nil ?_
          refine go_seq ?_
          refine go_seq ?_
          refine go_region ⟨_, Tryz.func7⟩ rfl ?_
          refine q0 rfl (o_assign ?_)
          refine rg_nil ?_
          refine go_block ?_
          refine go_loopE (X := Nat × SH × List HT) (fun s_ => s_.1 ≤ (t.sys.getD s br0).kids.length ∧ s_.2.2.map HT.er = (t.sys.getD s br0).kids.take s_.1) (fun s_ => [(1, .pointer (some ⟨b1, 0, none⟩)), (2, .pointer (some ⟨b2, 0, none⟩)), (3, .pointer (some ⟨b3, 0, none⟩)), (5, .int .i64 ((s : Int))), (6, .pointer (some ⟨b6, 0, none⟩)), (7, .int .i64 ((s_.1 : Int)))]) (fun s_ G_ => G_) (fun s_ => [bigR (kidsR tys s_.2.2), rowS 6 26 s_.2.1 (s_.1) (tpFlat (s_.2.2.map HT.tp)), boxR b6 [sl a51 ((t.sys.getD s br0).face.length), sl s_.2.1 (s_.1)] 58, rowS 2 55 a51 (((((t).sys).getD s br0).face).length) (clFlat ((((t).sys).getD s br0).face)), bigR (brsR tys bs), rowS 2 58 a2 (s) (bpFlat (bs.map HB.bp)), bigR (kidsR tys ks), rowS 6 26 a (t.kids.length) (tpFlat (ks.map HT.tp)), boxR b3 [.int .i64 (t.kind), .int .i64 (t.n), .string (t.name), sl a17 (t.r.length), sl a (t.kids.length), sl a2 (s)] 26, rowS 2 55 a17 (((t).r).length) (clFlat ((t).r)), boxR b2 [.int .i64 (0), .int .i64 (0), .string ((ByteArray.mk #[])), sl (none, 0) (0), sl (none, 0) (0), sl (none, 0) (0)] 26]) (fun s_ => (t.sys.getD s br0).kids.length - s_.1) (0, (none, 0), []) (⟨by omega, rfl⟩) (by exact ⟨rfl, rfl, rfl, rfl, rfl, rfl, trivial⟩) ?_ ?_
          · exact fun w hs => ((hs.rowS0 6 26).bigNil)
          · intro ⟨k, a3, ls⟩ base2 ⟨hk1, hls⟩ next2
            dsimp only at  hk1  hls  next2 ⊢
            refine go_seq ?_
            refine go_seq ?_
            refine go_region ⟨_, Tryz.func7⟩ rfl ?_
            refine q0 rfl (o_move ?_)
            refine q0 rfl (o_fa ?_)
            refine q0 rfl (o_ldg ?_)
            refine q0 rfl (o_move ?_)
            refine q0 rfl (o_ixN ?_ (j := s))
            refine q0 rfl (o_fa ?_)
            refine q0 rfl (o_ldBf ?_)
            refine q0 rfl (o_len ?_)
            refine q0 rfl (o_lss ?_)
            refine rg_nil ?_
            refine go_condI (fun h61 => ?_) (fun h61 => ?_)
            · have c61 : (decide ((k : Int) < ((((t).sys).getD s br0).kids.length : Int))) = true := h61
              try simp only [sC, bne_iff_ne, beq_iff_eq, ne_eq] at c61
              refine go_skip ?_
              refine go_seq ?_
              refine go_block ?_
              refine go_kid (ts := (((t).sys).getD s br0).kids) (a := VK4 s) (VR := VR7) (VK := VK7) (VS := VS7) k (by omega) ?_
              refine go_draw (pn := 1000000) (tn := false) (A := [0, 1, 0, 4, 0, 28, 60, 124, 0, 508, 1020, 2044, 4092, 8191, 16383, 32767]) (l := [0, 1, 2, 3, 4, 5, 6, 7, 8, 9, 10, 11, 12]) (fin := [13, 14, 15]) Tab.mixed ⟨_, Tryz.func7⟩ (by rfl) ?_
              refine n0 rfl (v_fa ?_)
              refine n0 rfl (v_ld ?_)
              refine n0 rfl (v_fa ?_)
              refine n0 rfl (f_ldg ?_)
              refine n0 rfl (v_move ?_)
              refine n0 rfl (v_ixN ?_ (j := s))
              refine n0 rfl (v_fa ?_)
              refine n0 rfl (v_ldBf ?_)
              refine n0 rfl (v_move ?_)
              obtain ⟨bk9, o9, hav9⟩ := hA7 (by omega)
              refine n0 rfl (v_ixN ?_ (j := k))
              refine n0 rfl (v_ldT ?_)
              refine n0 rfl (v_call Tryz.call7 (ihs _ (getD_mem (show s < t.sys.length by omega)) _ (getD_mem (show k < (t.sys.getD s br0).kids.length by omega)) (VR7 k) (VK7 k) (VS7 k)) (fun x75 => ?_))
              refine n0 rfl (v_lit1 fun b76 => ?_)
              refine NV.done ?_
              refine q0 rfl (o_appS (fun a77 => ?_) (a := a3) (n' := k))
              refine rg_state (fun w hs => ((hs.perm perm1).drop).snocT) ?_
              refine q0 rfl (o_fa ?_)
              refine q0 rfl (o_stc ?_)
              refine rg_nil ?_
              refine go_inBlock ?_
              refine go_region ⟨_, Tryz.func7⟩ rfl ?_
              refine q0 rfl (o_move ?_)
              refine q0 rfl (o_add ?_)
              refine q0 rfl (o_assign ?_)
              refine rg_nil ?_
              refine go_state (fun w hs => ?_) (next2 (k + 1, a77, ls ++ [x75.1]) _ (⟨by omega, by rw [List.map_append, hls, take_succ_getD (d := t0) (by omega)]; simp [x75.2]⟩) (by (try simp only); omega) ⟨rfl, rfl, rfl, rfl, rfl, rfl, trivial⟩)
              have e1 : (ls ++ [x75.1]).map HT.tp = ls.map HT.tp ++ [((t.sys.getD s br0).kids.getD k t0, x75.1.vr, x75.1.vk, x75.1.vs)] := by simp only [List.map_append, List.map_cons, List.map_nil, HT.tp, x75.2]
              rw [e1]; exact (((((((((((((((((((((((((hs.less (by simp +contextual)).perm perm11).perm perm11).perm perm11).perm perm11).perm perm11).perm perm11).perm perm11).perm perm11).perm perm9).perm perm9).perm perm11).perm perm11).joinK).perm perm10).perm perm10).perm perm10).perm perm10).perm perm10).perm perm10).perm perm10).perm perm10).perm perm9).perm perm10).perm perm10)
            · have c61 : (decide ((k : Int) < ((((t).sys).getD s br0).kids.length : Int))) = false := h61
              try simp only [sC, bne_iff_ne, beq_iff_eq, ne_eq] at c61
              have hek : k = (t.sys.getD s br0).kids.length := by omega
              have hll : ls.map HT.er = (t.sys.getD s br0).kids := by rw [hls, hek, List.take_length]
              refine go_ms (Ms' := [bigR (kidsR tys ls), rowS 6 26 a3 ((t.sys.getD s br0).kids.length) (tpFlat (ls.map HT.tp)), boxR b6 [sl a51 ((t.sys.getD s br0).face.length), sl a3 ((t.sys.getD s br0).kids.length)] 58, rowS 2 55 a51 (((((t).sys).getD s br0).face).length) (clFlat ((((t).sys).getD s br0).face)), bigR (brsR tys bs), rowS 2 58 a2 (s) (bpFlat (bs.map HB.bp)), bigR (kidsR tys ks), rowS 6 26 a (t.kids.length) (tpFlat (ks.map HT.tp)), boxR b3 [.int .i64 (t.kind), .int .i64 (t.n), .string (t.name), sl a17 (t.r.length), sl a (t.kids.length), sl a2 (s)] 26, rowS 2 55 a17 (((t).r).length) (clFlat ((t).r)), boxR b2 [.int .i64 (0), .int .i64 (0), .string ((ByteArray.mk #[])), sl (none, 0) (0), sl (none, 0) (0), sl (none, 0) (0)] 26]) (by rw [hek]) ?_
              refine go_exit rfl ?_
              refine go_region ⟨_, Tryz.func7⟩ rfl ?_
              refine q0 rfl (o_fa ?_)
              refine q0 rfl (o_ld ?_)
              refine q0 rfl (o_lds ?_)
              refine q0 rfl (o_lit1 fun b82 => ?_)
              refine q0 rfl (o_appS (fun a83 => ?_) (a := a2) (n' := s))
              refine rg_state (fun w hs => ((hs.perm perm1).drop).snocB) ?_
              refine q0 rfl (o_fa ?_)
              refine rg_state (fun w hs => hs.perm perm8) ?_
              refine q0 rfl (o_stc ?_)
              refine rg_nil ?_
              refine go_inBlock ?_
              refine go_region ⟨_, Tryz.func7⟩ rfl ?_
              refine q0 rfl (o_move ?_)
              refine q0 rfl (o_add ?_)
              refine q0 rfl (o_assign ?_)
              refine rg_nil ?_
              refine go_state (fun w hs => ?_) (next1 (s + 1, a83, bs ++ [HB.mk (t.sys.getD s br0).face a51 ls a3]) _ (⟨by omega, by rw [List.map_append, hbs, take_succ_getD (d := br0) (by omega)]; simp [HB.er, HT.erL_eq, hll, Br.eta]⟩) (by (try simp only); omega) ⟨rfl, rfl, rfl, rfl, trivial⟩)
              have e1 : (bs ++ [HB.mk (t.sys.getD s br0).face a51 ls a3]).map HB.bp = bs.map HB.bp ++ [(t.sys.getD s br0, a51, a3)] := by simp only [List.map_append, List.map_cons, List.map_nil, HB.bp, HB.er, HB.vf, HB.vk, HT.erL_eq, hll, Br.eta]
              rw [e1]; exact (((((((((((((((((((((hs.less (by simp +contextual)).perm perm10).perm perm10).perm perm10).perm perm10).perm perm8).perm perm6).perm perm6).perm perm10).perm perm8).perm perm9).perm perm10).joinB rfl (by have h9 := congrArg List.length hll; simp only [List.length_map] at h9; omega) rfl rfl).perm perm7).perm perm7).perm perm3).perm perm7).perm perm7).perm perm6).perm perm6).dropR (A := [_, _, _, _, _, _, _]))
        · have c41 : (decide ((s : Int) < ((t).sys.length : Int))) = false := h41
          try simp only [sC, bne_iff_ne, beq_iff_eq, ne_eq] at c41
          have hes : s = t.sys.length := by omega
          have hbb : bs.map HB.er = t.sys := by rw [hbs, hes, List.take_length]
          refine go_ms (Ms' := [bigR (brsR tys bs), rowS 2 58 a2 (t.sys.length) (bpFlat (bs.map HB.bp)), bigR (kidsR tys ks), rowS 6 26 a (t.kids.length) (tpFlat (ks.map HT.tp)), boxR b3 [.int .i64 (t.kind), .int .i64 (t.n), .string (t.name), sl a17 (t.r.length), sl a (t.kids.length), sl a2 (t.sys.length)] 26, rowS 2 55 a17 (((t).r).length) (clFlat ((t).r)), boxR b2 [.int .i64 (0), .int .i64 (0), .string ((ByteArray.mk #[])), sl (none, 0) (0), sl (none, 0) (0), sl (none, 0) (0)] 26]) (by rw [hes]) ?_
          refine go_exit rfl ?_
          refine go_seq ?_
          refine go_region ⟨_, Tryz.func7⟩ rfl ?_
          refine q0 rfl (o_lds ?_)
          refine q0 rfl (o_st ?_)
          refine rg_nil ?_
          have her : (HT.mk t.kind t.n t.name t.r a17 ks a bs a2).er = t := by simp only [HT.er, HT.erL_eq, HT.erB_eq]; rw [hkk, hbb, T.eta]
          have hkl : ks.length = t.kids.length := by rw [← hkk]; simp
          have hbl : bs.length = t.sys.length := by rw [← hbb]; simp
          refine retC Tryz.func7 Tryz.results7 ⟨(HT.mk t.kind t.n t.name t.r a17 ks a bs a2), her⟩ rfl mm_ rfl rfl rfl rfl (fun w hs => ?_)
          exact ((((((((((hs.less (by simp)).perm perm5).perm perm1).perm perm2).perm perm4).perm perm4).perm perm5).perm perm6).joinT (y := tys) (k := t.kind) (n := t.n) (nm := t.name) rfl hkl.symm hbl.symm rfl rfl rfl).dropR (A := [_]))
theorem rcopyO : ∀ t : T, RcopyO t := T.ind' fun t ihk ihs vr vk vs => rcopyO_walk t vr vk vs ihk ihs
end Go.Hy
namespace Go.Hy
set_option linter.unusedVariables false
set_option linter.unusedSimpArgs false
set_option linter.unusedSectionVars false
open Go.Proofs
set_option linter.unusedVariables false
set_option linter.unusedSimpArgs false
set_option maxRecDepth 100000
theorem rcopyF (t : T) (vr vk vs : SH) : Spec Tryz.prog 7 #[.agg (tc t vr vk vs).toArray] [RT t vr vk vs] [] (fun x : SH × SH × SH => .agg (tc t x.1 x.2.1 x.2.2).toArray) (fun x => [RT t x.1 x.2.1 x.2.2]) (fun _ => []) := by
  intro ok w hok hst
  have hokt : okT t := ok_of (hst.facts (RT t vr vk vs) List.mem_cons_self)
  refine (rcopyO t vr vk vs ok w hok hst).mono ?_
  rintro e w' ⟨x, rfl, hx⟩
  refine ⟨(x.1.vr, x.1.vk, x.1.vs), rfl, ?_⟩
  have h1 := hx.unpack
  have h2 := St.settleT tys trivial x.1 (by rw [x.2]; exact hokt) h1
  rw [x.2] at h2
  exact h2
end Go.Hy
namespace Go.Hy
set_option linter.unusedVariables false
set_option linter.unusedSimpArgs false
set_option linter.unusedSectionVars false
open Go.Proofs
set_option linter.unusedVariables false
set_option linter.unusedSimpArgs false
set_option maxRecDepth 100000
theorem rwrong (t : T) (vr_t vk_t vs_t : SH) (a : Int) (b : Int) (hz : size t ≤ 1152921504606846) : Spec Tryz.prog 30 #[.agg (tc t vr_t vk_t vs_t).toArray, .int .i64 (a), .int .i64 (b)] [RT t vr_t vk_t vs_t] [] (fun _ : Unit => .int .i64 (wrongR t a b)) (fun _ : Unit => []) (fun _ : Unit => []) := by
  refine spec_go (args := [.agg (tc t vr_t vk_t vs_t).toArray, .int .i64 (a), .int .i64 (b)]) Tryz.func30 Tryz.ntmps30 rfl (by exact Nat.le_of_ble_eq_true rfl) fun B hB => ?_
  refine go_seq ?_
  refine go_region ⟨_, Tryz.func30⟩ rfl ?_
  refine q0 rfl (o_box fun b3 => ?_)
  refine q0 rfl (o_assign ?_)
  refine rg_nil ?_
  refine go_seq ?_
  refine go_region ⟨_, Tryz.func30⟩ rfl ?_
  refine q0 rfl (o_lds ?_)
  refine q0 rfl (o_call Tryz.call35 (rformed_spec t vr_t vk_t vs_t om_) (fun x9 => ?_))
  refine q0 rfl (o_assign ?_)
  refine rg_nil ?_
  refine go_seq ?_
  refine go_seq ?_
  refine go_cutS ([(7, .int .i64 (formedP t)), (19, .bool ((decide ((formedP t) = 0)) && ((decide (a < 0)) || (decide (b < 0)))))]) (fun hK => ?_) (fun base => ?_)
  · refine go_region ⟨_, Tryz.func30⟩ rfl ?_
    refine q0 rfl (o_move ?_)
    refine q0 rfl (o_eqI ?_)
    refine q0 rfl (o_move ?_)
    refine qI rfl rfl rfl wl_ (fun hg12 => ?_) (fun hg12 => ?_)
    · have g12 : (decide ((formedP t) = 0)) = true := hg12
      try simp only [sC, bne_iff_ne, beq_iff_eq, ne_eq] at g12
      refine o_move ?_
      refine qT rfl rfl rfl (o_lss ?_)
      refine qT rfl rfl rfl (o_move ?_)
      refine qI rfl rfl rfl wl_ (fun hg15 => ?_) (fun hg15 => ?_)
      · have g15 : (decide (a < 0)) = false := hg15
        try simp only [sC, bne_iff_ne, beq_iff_eq, ne_eq] at g15
        refine o_move ?_
        refine qT rfl rfl rfl (o_lss ?_)
        refine qT rfl rfl rfl (o_pickF ?_)
        refine q0 rfl (o_pickT ?_)
        refine rg_nil ?_
        exact hK _ ⟨rfl, dn_, trivial⟩
      · have g15 : (decide (a < 0)) = true := hg15
        try simp only [sC, bne_iff_ne, beq_iff_eq, ne_eq] at g15
        refine qF rfl rfl rfl ?_
        refine qT rfl rfl rfl (o_pickT ?_)
        refine q0 rfl (o_pickT ?_)
        refine rg_nil ?_
        exact hK _ ⟨rfl, dn_, trivial⟩
    · have g12 : (decide ((formedP t) = 0)) = false := hg12
      try simp only [sC, bne_iff_ne, beq_iff_eq, ne_eq] at g12
      refine qF rfl rfl rfl ?_
      refine qF rfl rfl rfl ?_
      refine qU rfl rfl rfl ?_
      refine qU rfl rfl rfl ?_
      refine qF rfl rfl rfl ?_
      refine q0 rfl (o_pickF ?_)
      refine rg_nil ?_
      exact hK _ ⟨rfl, dn_, trivial⟩
  · refine go_cutS ([(7, .int .i64 (wrongR t a b))]) (fun hK => ?_) (fun base => ?_)
    · refine go_condI (fun h19 => ?_) (fun h19 => ?_)
      · have c19 : ((decide ((formedP t) = 0)) && ((decide (a < 0)) || (decide (b < 0)))) = true := h19
        try simp only [sC, bne_iff_ne, beq_iff_eq, ne_eq] at c19
        refine go_region ⟨_, Tryz.func30⟩ rfl ?_
        refine q0 rfl (o_assign ?_)
        refine rg_nil ?_
        exact hK _ ⟨(by (conv => lhs; whnf); unfold wrongR; first | (simp_all; done) | (simp_all; omega)), trivial⟩
      · have c19 : ((decide ((formedP t) = 0)) && ((decide (a < 0)) || (decide (b < 0)))) = false := h19
        try simp only [sC, bne_iff_ne, beq_iff_eq, ne_eq] at c19
        refine go_skip ?_
        exact hK _ ⟨(by (conv => lhs; whnf); unfold wrongR; first | (simp_all; done) | (simp_all; omega)), trivial⟩
    · refine go_seq ?_
      refine go_region ⟨_, Tryz.func30⟩ rfl ?_
      refine q0 rfl (o_move ?_)
      refine q0 rfl (o_assign ?_)
      refine rg_nil ?_
      refine ret1 Tryz.func30 Tryz.results30 wn_ () (by first | rfl | (simp_all; done) | (simp_all; omega)) (fun w hs => hs.none)
theorem rdone (t : T) (vr_t vk_t vs_t : SH) (hk9 : -1000000 ≤ t.kind) : Spec Tryz.prog 31 #[.agg (tc t vr_t vk_t vs_t).toArray] [RT t vr_t vk_t vs_t] [] (fun x : SH × SH × SH => .tuple #[.agg (tc (doneR t).2 x.1 x.2.1 x.2.2).toArray, .int .i64 (doneR t).1]) (fun x : SH × SH × SH => [RT (doneR t).2 x.1 x.2.1 x.2.2]) (fun x : SH × SH × SH => []) := by
  refine spec_go (args := [.agg (tc t vr_t vk_t vs_t).toArray]) Tryz.func31 Tryz.ntmps31 rfl (by exact Nat.le_of_ble_eq_true rfl) fun B hB => ?_
  refine go_open (t := t) (vr := vr_t) (vk := vk_t) (vs := vs_t) (fun hk1 hn1 hm1 => ?_)
  refine go_openCL (l := (t).r) (a := vr_t) (fun hl2 hA2 hU2 => ?_)
  refine go_openTL (ts := (t).kids) (a := vk_t) (fun VR3 VK3 VS3 hl3 hA3 => ?_)
  refine go_openBL (bs := (t).sys) (a := vs_t) (fun VF4 VK4 hl4 hA4 => ?_)
  refine go_seq ?_
  refine go_region ⟨_, Tryz.func31⟩ rfl ?_
  refine q0 rfl (o_box fun b1 => ?_)
  refine q0 rfl (o_new fun b2 => ?_)
  refine q0 rfl (o_assign ?_)
  refine rg_nil ?_
  refine go_seq ?_
  refine go_seq ?_
  refine go_state (fun w hs => ((hs.perm perm1).settleBox hB)) ?_
  refine go_region ⟨_, Tryz.func31⟩ rfl ?_
  refine q0 rfl (o_fa ?_)
  refine q0 rfl (o_ldg ?_)
  refine q0 rfl (o_lss ?_)
  refine rg_nil ?_
  refine go_condI (fun h6 => ?_) (fun h6 => ?_)
  · have c6 : (decide (((t).kind) < 0)) = true := h6
    try simp only [sC, bne_iff_ne, beq_iff_eq, ne_eq] at c6
    have hg : doneR t = (-t.kind, t0) := (by unfold doneR; rw [if_pos (by simpa using h6)])
    refine go_seq ?_
    refine go_draw (pn := 1000000) (tn := true) (A := [0, 0, 2, 6, 1, 31]) (l := [0, 1, 2, 3, 4, 5]) (fin := []) Tab.mixed ⟨_, Tryz.func31⟩ (by rfl) ?_
    refine n0 rfl (v_build (cs := [.int .i64 (0), .int .i64 (0), .string ((ByteArray.mk #[])), sl (none, 0) (0), sl (none, 0) (0), sl (none, 0) (0)]) ?_)
    refine n0 rfl (v_fa ?_)
    refine n0 rfl (f_ldg ?_)
    refine n0 rfl (v_neg ?_)
    refine n0 rfl (v_st ?_)
    refine n0 rfl (v_assign ?_)
    refine NV.done ?_
    refine rg_nil ?_
    refine retCT Tryz.func31 Tryz.results31 (nul, nul, nul) rfl mm_ rfl rfl rfl rfl (by rw [hg]; rfl) (fun w hs => by rw [hg]; exact hs.bare.zeroRT.less (by simp))
  · have c6 : (decide (((t).kind) < 0)) = false := h6
    try simp only [sC, bne_iff_ne, beq_iff_eq, ne_eq] at c6
    have hg : doneR t = (0, t) := (by unfold doneR; rw [if_neg (by simpa using h6)])
    refine go_skip ?_
    refine go_seq ?_
    refine go_region ⟨_, Tryz.func31⟩ rfl ?_
    refine q0 rfl (o_ldgs ?_)
    refine q0 rfl (o_st ?_)
    refine q0 rfl (o_assign ?_)
    refine rg_nil ?_
    refine retCT Tryz.func31 Tryz.results31 (vr_t, vk_t, vs_t) rfl mm_ rfl rfl rfl rfl (by rw [hg]; rfl) (fun w hs => by rw [hg]; exact hs.bare.less (by simp))
theorem rdoneH (t : T) (vr vk vs : SH) (hk9 : -1000000 ≤ t.kind) : Spec Tryz.prog 31 #[.agg (tc t vr vk vs).toArray] [RT t vr vk vs] [] (fun x : {x : (Int × T) × (SH × SH × SH) // x.1 = doneR t} => .tuple #[.agg (tc x.1.1.2 x.1.2.1 x.1.2.2.1 x.1.2.2.2).toArray, .int .i64 x.1.1.1]) (fun x => [RT x.1.1.2 x.1.2.1 x.1.2.2.1 x.1.2.2.2]) (fun _ => []) :=
  Spec.hide (doneR t) (val := fun (r : Int × T) (x : SH × SH × SH) => .tuple #[.agg (tc r.2 x.1 x.2.1 x.2.2).toArray, .int .i64 r.1]) (N := fun (r : Int × T) (x : SH × SH × SH) => [RT r.2 x.1 x.2.1 x.2.2]) (Ms1 := fun _ _ => []) (rdone t vr vk vs hk9)
theorem liftRes_low {vb db : Int} {t : T} {v d : Int} (hf : fineT t) : -1000000 ≤ (liftRes vb db t v d).kind := by
  rcases liftRes_alt (vb := vb) (db := db) (v := v) (d := d) hf with ⟨_, h2⟩ | ⟨e, h1, h2, h3⟩
  · omega
  · have := lift_bad_le t h2
    rw [h3]
    show -1000000 ≤ -e
    omega
set_option maxHeartbeats 1000000 in
theorem rvars (t : T) (vr_t vk_t vs_t : SH) (f : Int) (b : Int) (hf : in64 f) (hb : in64 b) (hz : size t ≤ 1152921504606846) : Spec Tryz.prog 34 #[.agg (tc t vr_t vk_t vs_t).toArray, .int .i64 (f), .int .i64 (b)] [RT t vr_t vk_t vs_t] [] (fun x : SH × SH × SH => .tuple #[.agg (tc (varsRes t f b).2 x.1 x.2.1 x.2.2).toArray, .int .i64 (varsRes t f b).1]) (fun x : SH × SH × SH => [RT (varsRes t f b).2 x.1 x.2.1 x.2.2]) (fun x : SH × SH × SH => []) := by
  refine spec_go (args := [.agg (tc t vr_t vk_t vs_t).toArray, .int .i64 (f), .int .i64 (b)]) Tryz.func34 Tryz.ntmps34 rfl (by exact Nat.le_of_ble_eq_true rfl) fun B hB => ?_
  refine go_seq ?_
  refine go_region ⟨_, Tryz.func34⟩ rfl ?_
  refine q0 rfl (o_box fun b3 => ?_)
  refine q0 rfl (o_new fun b6 => ?_)
  refine q0 rfl (o_assign ?_)
  refine rg_nil ?_
  refine go_seq ?_
  refine go_region ⟨_, Tryz.func34⟩ rfl ?_
  refine q0 rfl (o_lds ?_)
  refine q0 rfl (o_move ?_)
  refine q0 rfl (o_move ?_)
  refine q0 rfl (o_call Tryz.call30 (rwrong t vr_t vk_t vs_t f b om_) (fun x12 => ?_))
  refine q0 rfl (o_assign ?_)
  refine rg_nil ?_
  refine go_seq ?_
  refine go_seq ?_
  refine go_cutS ([(1, .int .i64 (f)), (2, .int .i64 (b)), (3, .pointer (some ⟨b3, 0, none⟩)), (6, .pointer (some ⟨b6, 0, none⟩)), (8, .int .i64 (wrongR t f b)), (18, .bool ((decide ((wrongR t f b) = 0)) && (decide (1000000 < b))))]) (fun hK => ?_) (fun base => ?_)
  · refine go_region ⟨_, Tryz.func34⟩ rfl ?_
    refine q0 rfl (o_move ?_)
    refine q0 rfl (o_eqI ?_)
    refine q0 rfl (o_move ?_)
    refine qI rfl rfl rfl wl_ (fun hg15 => ?_) (fun hg15 => ?_)
    · have g15 : (decide ((wrongR t f b) = 0)) = true := hg15
      try simp only [sC, bne_iff_ne, beq_iff_eq, ne_eq] at g15
      refine o_move ?_
      refine qT rfl rfl rfl (o_gtr ?_)
      refine q0 rfl (o_pickT ?_)
      refine rg_nil ?_
      exact hK _ ⟨rfl, rfl, rfl, rfl, rfl, dn_, trivial⟩
    · have g15 : (decide ((wrongR t f b) = 0)) = false := hg15
      try simp only [sC, bne_iff_ne, beq_iff_eq, ne_eq] at g15
      refine qF rfl rfl rfl ?_
      refine q0 rfl (o_pickF ?_)
      refine rg_nil ?_
      exact hK _ ⟨rfl, rfl, rfl, rfl, rfl, dn_, trivial⟩
  · refine go_cutS ([(1, .int .i64 (f)), (2, .int .i64 (b)), (3, .pointer (some ⟨b3, 0, none⟩)), (6, .pointer (some ⟨b6, 0, none⟩)), (8, .int .i64 ((wrongV t f b)))]) (fun hK => ?_) (fun base => ?_)
    · refine go_condI (fun h18 => ?_) (fun h18 => ?_)
      · have c18 : ((decide ((wrongR t f b) = 0)) && (decide (1000000 < b))) = true := h18
        try simp only [sC, bne_iff_ne, beq_iff_eq, ne_eq] at c18
        refine go_region ⟨_, Tryz.func34⟩ rfl ?_
        refine q0 rfl (o_assign ?_)
        refine rg_nil ?_
        exact hK _ ⟨rfl, rfl, rfl, rfl, (by (conv => lhs; whnf); unfold wrongV; first | (simp_all; done) | (simp_all; omega)), trivial⟩
      · have c18 : ((decide ((wrongR t f b) = 0)) && (decide (1000000 < b))) = false := h18
        try simp only [sC, bne_iff_ne, beq_iff_eq, ne_eq] at c18
        refine go_skip ?_
        exact hK _ ⟨rfl, rfl, rfl, rfl, (by (conv => lhs; whnf); unfold wrongV; first | (simp_all; done) | (simp_all; omega)), trivial⟩
    · refine go_seq ?_
      refine go_seq ?_
      refine go_region ⟨_, Tryz.func34⟩ rfl ?_
      refine q0 rfl (o_move ?_)
      refine q0 rfl (o_neI ?_)
      refine rg_nil ?_
      refine go_condI (fun h20 => ?_) (fun h20 => ?_)
      · have c20 : (decide ((wrongV t f b) ≠ 0)) = true := h20
        try simp only [sC, bne_iff_ne, beq_iff_eq, ne_eq] at c20
        have hg : varsRes t f b = (wrongV t f b, t0) := vars_wrong hb (by simpa using h20)
        refine go_seq ?_
        refine go_region ⟨_, Tryz.func34⟩ rfl ?_
        refine q0 rfl (o_build (cs := [.int .i64 (0), .int .i64 (0), .string ((ByteArray.mk #[])), sl (none, 0) (0), sl (none, 0) (0), sl (none, 0) (0)]) ?_)
        refine q0 rfl (o_move ?_)
        refine q0 rfl (o_st ?_)
        refine q0 rfl (o_assign ?_)
        refine rg_nil ?_
        refine retCT Tryz.func34 Tryz.results34 (nul, nul, nul) rfl mm_ rfl rfl rfl rfl (by rw [hg]; rfl) (fun w hs => by rw [hg]; exact hs.bare.zeroRT.less (by simp))
      · have c20 : (decide ((wrongV t f b) ≠ 0)) = false := h20
        try simp only [sC, bne_iff_ne, beq_iff_eq, ne_eq] at c20
        obtain ⟨f1, f2, f3, f4, f5⟩ := vars_right (t := t) (f := f) hb (by simpa using h20)
        have hfine := (formed_fine.mp f1).2
        have hfz := formed_size f1
        refine go_skip ?_
        refine go_seq ?_
        refine go_seq ?_
        refine go_region ⟨_, Tryz.func34⟩ rfl ?_
        refine q0 rfl (o_move ?_)
        refine q0 rfl (o_gtr ?_)
        refine rg_nil ?_
        refine go_cutS ([(1, .int .i64 ((if 2000000000 < f then 2000000000 else f))), (2, .int .i64 (b)), (3, .pointer (some ⟨b3, 0, none⟩)), (6, .pointer (some ⟨b6, 0, none⟩))]) (fun hK => ?_) (fun base => ?_)
        · refine go_condI (fun h24 => ?_) (fun h24 => ?_)
          · have c24 : (decide (2000000000 < f)) = true := h24
            try simp only [sC, bne_iff_ne, beq_iff_eq, ne_eq] at c24
            refine go_region ⟨_, Tryz.func34⟩ rfl ?_
            refine q0 rfl (o_assign ?_)
            refine rg_nil ?_
            exact hK _ ⟨(by (conv => lhs; whnf); first | (simp_all; done) | (simp_all; omega)), rfl, rfl, rfl, trivial⟩
          · have c24 : (decide (2000000000 < f)) = false := h24
            try simp only [sC, bne_iff_ne, beq_iff_eq, ne_eq] at c24
            refine go_skip ?_
            exact hK _ ⟨(by (conv => lhs; whnf); first | (simp_all; done) | (simp_all; omega)), rfl, rfl, rfl, trivial⟩
        · have hmn : 0 ≤ (if 2000000000 < f then 2000000000 else f) ∧ (if 2000000000 < f then 2000000000 else f) ≤ 2000000000 := (by split <;> omega)
          refine go_seq ?_
          refine go_region ⟨_, Tryz.func34⟩ rfl ?_
          refine q0 rfl (o_lds ?_)
          refine q0 rfl (o_move ?_)
          refine q0 rfl (o_move ?_)
          refine q0 rfl (o_call Tryz.call32 (rliftF (vb := b) (db := 0) t vr_t vk_t vs_t (if 2000000000 < f then 2000000000 else f) 0 hfine ⟨f3, f4⟩ (by unfold in64; omega) (by omega) (by omega)) (fun x28 => ?_))
          refine q0 rfl (o_call Tryz.call31 (rdoneH x28.1.1 x28.1.2.1 x28.1.2.2.1 x28.1.2.2.2 (by rw [x28.2]; exact liftRes_low hfine)) (fun x29 => ?_))
          refine q0 rfl (o_extract ?_)
          refine q0 rfl (o_extract ?_)
          refine q0 rfl (o_st ?_)
          refine q0 rfl (o_assign ?_)
          refine rg_nil ?_
          have hq : x29.1.1 = asRes (varsR t f b) := (by rw [x29.2, x28.2]; exact done_lift hfine)
          have hg := f5
          refine retCT Tryz.func34 Tryz.results34 (x29.1.2.1, x29.1.2.2.1, x29.1.2.2.2) rfl mm_ rfl rfl rfl rfl (by rw [hg, ← hq]; rfl) (fun w hs => by rw [hg, ← hq]; exact hs.bare.less (by simp))
theorem rvarsH (t : T) (vr vk vs : SH) (f b : Int) (ha : in64 f) (hb : in64 b) (hz : size t ≤ 1152921504606846) : Spec Tryz.prog 34 #[.agg (tc t vr vk vs).toArray, .int .i64 f, .int .i64 b] [RT t vr vk vs] [] (fun x : {x : (Int × T) × (SH × SH × SH) // x.1 = varsRes t f b} => .tuple #[.agg (tc x.1.1.2 x.1.2.1 x.1.2.2.1 x.1.2.2.2).toArray, .int .i64 x.1.1.1]) (fun x => [RT x.1.1.2 x.1.2.1 x.1.2.2.1 x.1.2.2.2]) (fun _ => []) :=
  Spec.hide (varsRes t f b) (val := fun (r : Int × T) (x : SH × SH × SH) => .tuple #[.agg (tc r.2 x.1 x.2.1 x.2.2).toArray, .int .i64 r.1]) (N := fun (r : Int × T) (x : SH × SH × SH) => [RT r.2 x.1 x.2.1 x.2.2]) (Ms1 := fun _ _ => []) (rvars t vr vk vs f b ha hb hz)
set_option maxHeartbeats 1000000 in
theorem rdims11 (t : T) (vr_t vk_t vs_t : SH) (f : Int) (b : Int) (hf : in64 f) (hb : in64 b) (hz : size t ≤ 1152921504606846) : Spec Tryz.prog 9 #[.agg (tc t vr_t vk_t vs_t).toArray, .int .i64 (f), .int .i64 (b)] [RT t vr_t vk_t vs_t] [] (fun x : SH × SH × SH => .tuple #[.agg (tc (dimsRes t f b).2 x.1 x.2.1 x.2.2).toArray, .int .i64 (dimsRes t f b).1]) (fun x : SH × SH × SH => [RT (dimsRes t f b).2 x.1 x.2.1 x.2.2]) (fun x : SH × SH × SH => []) := by
  refine spec_go (args := [.agg (tc t vr_t vk_t vs_t).toArray, .int .i64 (f), .int .i64 (b)]) Tryz.func9 Tryz.ntmps9 rfl (by exact Nat.le_of_ble_eq_true rfl) fun B hB => ?_
  refine go_seq ?_
  refine go_region ⟨_, Tryz.func9⟩ rfl ?_
  refine q0 rfl (o_box fun b3 => ?_)
  refine q0 rfl (o_new fun b6 => ?_)
  refine q0 rfl (o_assign ?_)
  refine rg_nil ?_
  refine go_seq ?_
  refine go_region ⟨_, Tryz.func9⟩ rfl ?_
  refine q0 rfl (o_lds ?_)
  refine q0 rfl (o_move ?_)
  refine q0 rfl (o_move ?_)
  refine q0 rfl (o_call Tryz.call30 (rwrong t vr_t vk_t vs_t f b om_) (fun x12 => ?_))
  refine q0 rfl (o_assign ?_)
  refine rg_nil ?_
  refine go_seq ?_
  refine go_seq ?_
  refine go_region ⟨_, Tryz.func9⟩ rfl ?_
  refine q0 rfl (o_move ?_)
  refine q0 rfl (o_neI ?_)
  refine rg_nil ?_
  refine go_condI (fun h14 => ?_) (fun h14 => ?_)
  · have c14 : (decide ((wrongR t f b) ≠ 0)) = true := h14
    try simp only [sC, bne_iff_ne, beq_iff_eq, ne_eq] at c14
    have hg : dimsRes t f b = (wrongR t f b, t0) := dims_wrong (by simpa using h14)
    refine go_seq ?_
    refine go_region ⟨_, Tryz.func9⟩ rfl ?_
    refine q0 rfl (o_build (cs := [.int .i64 (0), .int .i64 (0), .string ((ByteArray.mk #[])), sl (none, 0) (0), sl (none, 0) (0), sl (none, 0) (0)]) ?_)
    refine q0 rfl (o_move ?_)
    refine q0 rfl (o_st ?_)
    refine q0 rfl (o_assign ?_)
    refine rg_nil ?_
    refine retCT Tryz.func9 Tryz.results9 (nul, nul, nul) rfl mm_ rfl rfl rfl rfl (by rw [hg]; rfl) (fun w hs => by rw [hg]; exact hs.bare.zeroRT.less (by simp))
  · have c14 : (decide ((wrongR t f b) ≠ 0)) = false := h14
    try simp only [sC, bne_iff_ne, beq_iff_eq, ne_eq] at c14
    have hw0 : wrongR t f b = 0 := (by simpa using h14)
    obtain ⟨f1, f2, f3⟩ := wrongR_zero.mp hw0
    have f5 := dims_right hw0
    have hfine := (formed_fine.mp f1).2
    have hfz := formed_size f1
    refine go_skip ?_
    refine go_seq ?_
    refine go_seq ?_
    refine go_region ⟨_, Tryz.func9⟩ rfl ?_
    refine q0 rfl (o_move ?_)
    refine q0 rfl (o_gtr ?_)
    refine rg_nil ?_
    refine go_cutS ([(1, .int .i64 ((if 1000000000 < f then 1000000000 else f))), (2, .int .i64 (b)), (3, .pointer (some ⟨b3, 0, none⟩)), (6, .pointer (some ⟨b6, 0, none⟩))]) (fun hK => ?_) (fun base => ?_)
    · refine go_condI (fun h18 => ?_) (fun h18 => ?_)
      · have c18 : (decide (1000000000 < f)) = true := h18
        try simp only [sC, bne_iff_ne, beq_iff_eq, ne_eq] at c18
        refine go_region ⟨_, Tryz.func9⟩ rfl ?_
        refine q0 rfl (o_assign ?_)
        refine rg_nil ?_
        exact hK _ ⟨(by (conv => lhs; whnf); first | (simp_all; done) | (simp_all; omega)), rfl, rfl, rfl, trivial⟩
      · have c18 : (decide (1000000000 < f)) = false := h18
        try simp only [sC, bne_iff_ne, beq_iff_eq, ne_eq] at c18
        refine go_skip ?_
        exact hK _ ⟨(by (conv => lhs; whnf); first | (simp_all; done) | (simp_all; omega)), rfl, rfl, rfl, trivial⟩
    · have hmn : 0 ≤ (if 1000000000 < f then 1000000000 else f) ∧ (if 1000000000 < f then 1000000000 else f) ≤ 1000000000 := (by split <;> omega)
      refine go_seq ?_
      refine go_region ⟨_, Tryz.func9⟩ rfl ?_
      refine q0 rfl (o_lds ?_)
      refine q0 rfl (o_move ?_)
      refine q0 rfl (o_move ?_)
      refine q0 rfl (o_call Tryz.call32 (rliftF (vb := 0) (db := b) t vr_t vk_t vs_t 0 (if 1000000000 < f then 1000000000 else f) hfine (by omega) ⟨f3, hb⟩ (by omega) (by omega)) (fun x22 => ?_))
      refine q0 rfl (o_call Tryz.call31 (rdoneH x22.1.1 x22.1.2.1 x22.1.2.2.1 x22.1.2.2.2 (by rw [x22.2]; exact liftRes_low hfine)) (fun x23 => ?_))
      refine q0 rfl (o_extract ?_)
      refine q0 rfl (o_extract ?_)
      refine q0 rfl (o_st ?_)
      refine q0 rfl (o_assign ?_)
      refine rg_nil ?_
      have hq : x23.1.1 = asRes (trav (liftTr 0 b) t (0, (if 1000000000 < f then 1000000000 else f))) := (by rw [x23.2, x22.2]; exact done_lift hfine)
      have hg := f5
      refine retCT Tryz.func9 Tryz.results9 (x23.1.2.1, x23.1.2.2.1, x23.1.2.2.2) rfl mm_ rfl rfl rfl rfl (by rw [hg, ← hq]; rfl) (fun w hs => by rw [hg, ← hq]; exact hs.bare.less (by simp))
theorem rdimsH (t : T) (vr vk vs : SH) (f b : Int) (ha : in64 f) (hb : in64 b) (hz : size t ≤ 1152921504606846) : Spec Tryz.prog 9 #[.agg (tc t vr vk vs).toArray, .int .i64 f, .int .i64 b] [RT t vr vk vs] [] (fun x : {x : (Int × T) × (SH × SH × SH) // x.1 = dimsRes t f b} => .tuple #[.agg (tc x.1.1.2 x.1.2.1 x.1.2.2.1 x.1.2.2.2).toArray, .int .i64 x.1.1.1]) (fun x => [RT x.1.1.2 x.1.2.1 x.1.2.2.1 x.1.2.2.2]) (fun _ => []) :=
  Spec.hide (dimsRes t f b) (val := fun (r : Int × T) (x : SH × SH × SH) => .tuple #[.agg (tc r.2 x.1 x.2.1 x.2.2).toArray, .int .i64 r.1]) (N := fun (r : Int × T) (x : SH × SH × SH) => [RT r.2 x.1 x.2.1 x.2.2]) (Ms1 := fun _ _ => []) (rdims11 t vr vk vs f b ha hb hz)
set_option maxHeartbeats 1000000 in
theorem rboth (t : T) (vr_t vk_t vs_t : SH) (v : Int) (d : Int) (hv : in64 v) (hd : in64 d) (hz : size t ≤ 1152921504606846) : Spec Tryz.prog 11 #[.agg (tc t vr_t vk_t vs_t).toArray, .int .i64 (v), .int .i64 (d)] [RT t vr_t vk_t vs_t] [] (fun x : SH × SH × SH => .tuple #[.agg (tc (bothRes t v d).2 x.1 x.2.1 x.2.2).toArray, .int .i64 (bothRes t v d).1]) (fun x : SH × SH × SH => [RT (bothRes t v d).2 x.1 x.2.1 x.2.2]) (fun x : SH × SH × SH => []) := by
  refine spec_go (args := [.agg (tc t vr_t vk_t vs_t).toArray, .int .i64 (v), .int .i64 (d)]) Tryz.func11 Tryz.ntmps11 rfl (by exact Nat.le_of_ble_eq_true rfl) fun B hB => ?_
  refine go_seq ?_
  refine go_region ⟨_, Tryz.func11⟩ rfl ?_
  refine q0 rfl (o_box fun b3 => ?_)
  refine q0 rfl (o_new fun b6 => ?_)
  refine q0 rfl (o_assign ?_)
  refine rg_nil ?_
  refine go_seq ?_
  refine go_region ⟨_, Tryz.func11⟩ rfl ?_
  refine q0 rfl (o_lds ?_)
  refine q0 rfl (o_move ?_)
  refine q0 rfl (o_call Tryz.call34 (rvarsH t vr_t vk_t vs_t 0 v om_ om_ om_) (fun x13 => ?_))
  refine q0 rfl (o_move ?_)
  refine q0 rfl (o_extract ?_)
  refine q0 rfl (o_extract ?_)
  refine q0 rfl (o_new fun b8 => ?_)
  refine q0 rfl (o_st ?_)
  refine q0 rfl (o_assign ?_)
  refine rg_nil ?_
  refine go_seq ?_
  refine go_seq ?_
  refine go_cutS ([(2, .int .i64 (d)), (3, .pointer (some ⟨b3, 0, none⟩)), (6, .pointer (some ⟨b6, 0, none⟩)), (8, .pointer (some ⟨b8, 0, none⟩)), (9, .int .i64 (x13.1.1.1)), (21, .bool ((decide (x13.1.1.1 = 0)) && (decide (d < 0))))]) (fun hK => ?_) (fun base => ?_)
  · refine go_region ⟨_, Tryz.func11⟩ rfl ?_
    refine q0 rfl (o_move ?_)
    refine q0 rfl (o_eqI ?_)
    refine q0 rfl (o_move ?_)
    refine qI rfl rfl rfl wl_ (fun hg18 => ?_) (fun hg18 => ?_)
    · have g18 : (decide (x13.1.1.1 = 0)) = true := hg18
      try simp only [sC, bne_iff_ne, beq_iff_eq, ne_eq] at g18
      refine o_move ?_
      refine qT rfl rfl rfl (o_lss ?_)
      refine q0 rfl (o_pickT ?_)
      refine rg_nil ?_
      exact hK _ ⟨rfl, rfl, rfl, rfl, rfl, dn_, trivial⟩
    · have g18 : (decide (x13.1.1.1 = 0)) = false := hg18
      try simp only [sC, bne_iff_ne, beq_iff_eq, ne_eq] at g18
      refine qF rfl rfl rfl ?_
      refine q0 rfl (o_pickF ?_)
      refine rg_nil ?_
      exact hK _ ⟨rfl, rfl, rfl, rfl, rfl, dn_, trivial⟩
  · refine go_cutS ([(2, .int .i64 (d)), (3, .pointer (some ⟨b3, 0, none⟩)), (6, .pointer (some ⟨b6, 0, none⟩)), (8, .pointer (some ⟨b8, 0, none⟩)), (9, .int .i64 ((bothE x13.1.1.1 d)))]) (fun hK => ?_) (fun base => ?_)
    · refine go_condI (fun h21 => ?_) (fun h21 => ?_)
      · have c21 : ((decide (x13.1.1.1 = 0)) && (decide (d < 0))) = true := h21
        try simp only [sC, bne_iff_ne, beq_iff_eq, ne_eq] at c21
        refine go_region ⟨_, Tryz.func11⟩ rfl ?_
        refine q0 rfl (o_assign ?_)
        refine rg_nil ?_
        exact hK _ ⟨rfl, rfl, rfl, rfl, (by (conv => lhs; whnf); unfold bothE; first | (simp_all; done) | (simp_all; omega)), trivial⟩
      · have c21 : ((decide (x13.1.1.1 = 0)) && (decide (d < 0))) = false := h21
        try simp only [sC, bne_iff_ne, beq_iff_eq, ne_eq] at c21
        refine go_skip ?_
        exact hK _ ⟨rfl, rfl, rfl, rfl, (by (conv => lhs; whnf); unfold bothE; first | (simp_all; done) | (simp_all; omega)), trivial⟩
    · refine go_seq ?_
      refine go_seq ?_
      refine go_region ⟨_, Tryz.func11⟩ rfl ?_
      refine q0 rfl (o_move ?_)
      refine q0 rfl (o_neI ?_)
      refine rg_nil ?_
      refine go_condI (fun h23 => ?_) (fun h23 => ?_)
      · have c23 : (decide ((bothE x13.1.1.1 d) ≠ 0)) = true := h23
        try simp only [sC, bne_iff_ne, beq_iff_eq, ne_eq] at c23
        have hg : bothRes t v d = ((if d < 0 ∧ (bothE x13.1.1.1 d) = 100 ∧ formedP t = 0 then 2 else (bothE x13.1.1.1 d)), t0) := (by have h9 := both_wrong (t := t) (v := v) (d := d) hv (by rw [← x13.2]; simpa using h23); rw [← x13.2] at h9; exact h9)
        refine go_seq ?_
        refine go_seq ?_
        refine go_cutS ([(6, .pointer (some ⟨b6, 0, none⟩)), (9, .int .i64 ((bothE x13.1.1.1 d))), (34, .bool (((decide (d < 0)) && (decide ((bothE x13.1.1.1 d) = 100))) && (decide ((formedP t) = 0))))]) (fun hK => ?_) (fun base => ?_)
        · refine go_region ⟨_, Tryz.func11⟩ rfl ?_
          refine q0 rfl (o_move ?_)
          refine q0 rfl (o_lss ?_)
          refine q0 rfl (o_move ?_)
          refine qI rfl rfl rfl wl_ (fun hg26 => ?_) (fun hg26 => ?_)
          · have g26 : (decide (d < 0)) = true := hg26
            try simp only [sC, bne_iff_ne, beq_iff_eq, ne_eq] at g26
            refine o_move ?_
            refine qT rfl rfl rfl (o_eqI ?_)
            refine q0 rfl (o_pickT ?_)
            refine q0 rfl (o_move ?_)
            refine qI rfl rfl rfl wl_ (fun hg30 => ?_) (fun hg30 => ?_)
            · have g30 : (decide ((bothE x13.1.1.1 d) = 100)) = true := hg30
              try simp only [sC, bne_iff_ne, beq_iff_eq, ne_eq] at g30
              refine o_lds ?_
              refine qT rfl rfl rfl (o_call Tryz.call35 (rformed_spec t vr_t vk_t vs_t om_) (fun x32 => ?_))
              refine qT rfl rfl rfl (o_eqI ?_)
              refine q0 rfl (o_pickT ?_)
              refine rg_nil ?_
              exact hK _ ⟨rfl, rfl, dn_, trivial⟩
            · have g30 : (decide ((bothE x13.1.1.1 d) = 100)) = false := hg30
              try simp only [sC, bne_iff_ne, beq_iff_eq, ne_eq] at g30
              refine qF rfl rfl rfl ?_
              refine qF rfl rfl rfl ?_
              refine q0 rfl (o_pickF ?_)
              refine rg_nil ?_
              exact hK _ ⟨rfl, rfl, dn_, trivial⟩
          · have g26 : (decide (d < 0)) = false := hg26
            try simp only [sC, bne_iff_ne, beq_iff_eq, ne_eq] at g26
            refine qF rfl rfl rfl ?_
            refine q0 rfl (o_pickF ?_)
            refine q0 rfl (o_move ?_)
            refine qF rfl rfl rfl ?_
            refine qF rfl rfl rfl ?_
            refine qF rfl rfl rfl ?_
            refine q0 rfl (o_pickF ?_)
            refine rg_nil ?_
            exact hK _ ⟨rfl, rfl, dn_, trivial⟩
        · refine go_cutS ([(6, .pointer (some ⟨b6, 0, none⟩)), (9, .int .i64 ((if d < 0 ∧ (bothE x13.1.1.1 d) = 100 ∧ formedP t = 0 then 2 else (bothE x13.1.1.1 d))))]) (fun hK => ?_) (fun base => ?_)
          · refine go_condI (fun h34 => ?_) (fun h34 => ?_)
            · have c34 : (((decide (d < 0)) && (decide ((bothE x13.1.1.1 d) = 100))) && (decide ((formedP t) = 0))) = true := h34
              try simp only [sC, bne_iff_ne, beq_iff_eq, ne_eq] at c34
              refine go_region ⟨_, Tryz.func11⟩ rfl ?_
              refine q0 rfl (o_assign ?_)
              refine rg_nil ?_
              exact hK _ ⟨rfl, (by (conv => lhs; whnf); first | (simp_all; done) | (simp_all; omega)), trivial⟩
            · have c34 : (((decide (d < 0)) && (decide ((bothE x13.1.1.1 d) = 100))) && (decide ((formedP t) = 0))) = false := h34
              try simp only [sC, bne_iff_ne, beq_iff_eq, ne_eq] at c34
              refine go_skip ?_
              exact hK _ ⟨rfl, (by (conv => lhs; whnf); first | (simp_all; done) | (simp_all; omega)), trivial⟩
          · refine go_seq ?_
            refine go_region ⟨_, Tryz.func11⟩ rfl ?_
            refine q0 rfl (o_build (cs := [.int .i64 (0), .int .i64 (0), .string ((ByteArray.mk #[])), sl (none, 0) (0), sl (none, 0) (0), sl (none, 0) (0)]) ?_)
            refine q0 rfl (o_move ?_)
            refine q0 rfl (o_st ?_)
            refine q0 rfl (o_assign ?_)
            refine rg_nil ?_
            refine retCT Tryz.func11 Tryz.results11 (nul, nul, nul) rfl mm_ rfl rfl rfl rfl (by rw [hg]; rfl) (fun w hs => by rw [hg]; exact hs.bare.zeroRT.less (by simp))
      · have c23 : (decide ((bothE x13.1.1.1 d) ≠ 0)) = false := h23
        try simp only [sC, bne_iff_ne, beq_iff_eq, ne_eq] at c23
        have hbr := both_right (t := t) (v := v) (d := d) hv (by rw [← x13.2]; simpa using h23)
        rw [← x13.2] at hbr
        obtain ⟨f5, hfine, f3, f6, f7⟩ := hbr
        refine go_skip ?_
        refine go_seq ?_
        refine go_region ⟨_, Tryz.func11⟩ rfl ?_
        refine q0 rfl (o_lds ?_)
        refine q0 rfl (o_move ?_)
        refine q0 rfl (o_call Tryz.call32 (rliftF (vb := 0) (db := d) x13.1.1.2 x13.1.2.1 x13.1.2.2.1 x13.1.2.2.2 0 0 hfine (by omega) ⟨f3, hd⟩ (by omega) (by omega)) (fun x39 => ?_))
        refine q0 rfl (o_call Tryz.call31 (rdoneH x39.1.1 x39.1.2.1 x39.1.2.2.1 x39.1.2.2.2 (by rw [x39.2]; exact liftRes_low hfine)) (fun x40 => ?_))
        refine q0 rfl (o_extract ?_)
        refine q0 rfl (o_extract ?_)
        refine q0 rfl (o_st ?_)
        refine q0 rfl (o_assign ?_)
        refine rg_nil ?_
        have hq : x40.1.1 = asRes (trav (liftTr 0 d) x13.1.1.2 (0, 0)) := (by rw [x40.2, x39.2]; exact done_lift hfine)
        have hg := f5
        refine retCT Tryz.func11 Tryz.results11 (x40.1.2.1, x40.1.2.2.1, x40.1.2.2.2) rfl mm_ rfl rfl rfl rfl (by rw [hg, ← hq]; rfl) (fun w hs => by rw [hg, ← hq]; exact hs.bare.less (by simp))
theorem rbothH (t : T) (vr vk vs : SH) (f b : Int) (ha : in64 f) (hb : in64 b) (hz : size t ≤ 1152921504606846) : Spec Tryz.prog 11 #[.agg (tc t vr vk vs).toArray, .int .i64 f, .int .i64 b] [RT t vr vk vs] [] (fun x : {x : (Int × T) × (SH × SH × SH) // x.1 = bothRes t f b} => .tuple #[.agg (tc x.1.1.2 x.1.2.1 x.1.2.2.1 x.1.2.2.2).toArray, .int .i64 x.1.1.1]) (fun x => [RT x.1.1.2 x.1.2.1 x.1.2.2.1 x.1.2.2.2]) (fun _ => []) :=
  Spec.hide (bothRes t f b) (val := fun (r : Int × T) (x : SH × SH × SH) => .tuple #[.agg (tc r.2 x.1 x.2.1 x.2.2).toArray, .int .i64 r.1]) (N := fun (r : Int × T) (x : SH × SH × SH) => [RT r.2 x.1 x.2.1 x.2.2]) (Ms1 := fun _ _ => []) (rboth t vr vk vs f b ha hb hz)
theorem same11_spec (t : T) (vr_t vk_t vs_t : SH) (e : Int) (u : T) (vr_u vk_u vs_u : SH) (f : Int)  : Spec Tryz.prog 12 #[.agg (tc t vr_t vk_t vs_t).toArray, .int .i64 (e), .agg (tc u vr_u vk_u vs_u).toArray, .int .i64 (f)] [RT t vr_t vk_t vs_t, RT u vr_u vk_u vs_u] [] (fun _ : Unit => .bool ((decide (t = u) && decide (e = f)))) (fun _ : Unit => []) (fun _ : Unit => []) := by
  refine spec_go (args := [.agg (tc t vr_t vk_t vs_t).toArray, .int .i64 (e), .agg (tc u vr_u vk_u vs_u).toArray, .int .i64 (f)]) Tryz.func12 Tryz.ntmps12 rfl (by exact Nat.le_of_ble_eq_true rfl) fun B hB => ?_
  refine go_seq ?_
  refine go_region ⟨_, Tryz.func12⟩ rfl ?_
  refine q0 rfl (o_box fun b4 => ?_)
  refine q0 rfl (o_box fun b6 => ?_)
  refine q0 rfl (o_assign ?_)
  refine rg_nil ?_
  refine go_seq ?_
  refine go_cutS ([(8, .bool ((decide (t = u)) && (decide (e = f))))]) (fun hK => ?_) (fun base => ?_)
  · refine go_region ⟨_, Tryz.func12⟩ rfl ?_
    refine q0 rfl (o_lds ?_)
    refine q0 rfl (o_lds ?_)
    refine q0 rfl (o_call Tryz.call13 (rsame t u vr_t vk_t vs_t vr_u vk_u vs_u) (fun x11 => ?_))
    refine q0 rfl (o_move ?_)
    refine qI rfl rfl rfl wl_ (fun hg12 => ?_) (fun hg12 => ?_)
    · have g12 : ((decide (t = u))) = true := hg12
      try simp only [sC, bne_iff_ne, beq_iff_eq, ne_eq] at g12
      refine o_move ?_
      refine qT rfl rfl rfl (o_move ?_)
      refine qT rfl rfl rfl (o_eqI ?_)
      refine q0 rfl (o_pickT ?_)
      refine q0 rfl (o_assign ?_)
      refine rg_nil ?_
      exact hK _ ⟨dn_, trivial⟩
    · have g12 : ((decide (t = u))) = false := hg12
      try simp only [sC, bne_iff_ne, beq_iff_eq, ne_eq] at g12
      refine qF rfl rfl rfl ?_
      refine qF rfl rfl rfl ?_
      refine q0 rfl (o_pickF ?_)
      refine q0 rfl (o_assign ?_)
      refine rg_nil ?_
      exact hK _ ⟨dn_, trivial⟩
  · refine ret1 Tryz.func12 Tryz.results12 wn_ () (by first | rfl | (simp_all; done) | (simp_all; omega)) (fun w hs => hs.none)
set_option maxHeartbeats 2000000 in
theorem liftDims_spec (t : T) (vr_t vk_t vs_t : SH) (f : Int) (b : Int) (v : Int) (hf : in64 f) (hb : in64 b) (hv : in64 v) : Spec Tryz.prog 3 #[.agg (tc t vr_t vk_t vs_t).toArray, .int .i64 (f), .int .i64 (b), .int .i64 (v)] [RT t vr_t vk_t vs_t] [] (fun _ : Unit => .bool (true)) (fun _ : Unit => []) (fun _ : Unit => []) := by
  refine spec_go (args := [.agg (tc t vr_t vk_t vs_t).toArray, .int .i64 (f), .int .i64 (b), .int .i64 (v)]) Tryz.func3 Tryz.ntmps3 rfl (by exact Nat.le_of_ble_eq_true rfl) fun B hB => ?_
  have hst := size_le_bulk t
  refine go_seq ?_
  refine go_region ⟨_, Tryz.func3⟩ rfl ?_
  refine q0 rfl (o_box fun b4 => ?_)
  refine q0 rfl (o_assign ?_)
  refine rg_nil ?_
  refine go_seq ?_
  refine go_seq ?_
  refine go_region ⟨_, Tryz.func3⟩ rfl ?_
  refine q0 rfl (o_lds ?_)
  refine q0 rfl (o_call Tryz.call5 (great11_spec t vr_t vk_t vs_t ) (fun x19 => ?_))
  refine rg_nil ?_
  refine go_condI (fun h19 => ?_) (fun h19 => ?_)
  · have c19 : (decide (400 < bulk t)) = true := h19
    try simp only [sC, bne_iff_ne, beq_iff_eq, ne_eq] at c19
    refine go_seq ?_
    refine go_region ⟨_, Tryz.func3⟩ rfl ?_
    refine q0 rfl (o_call Tryz.call6 (works11_spec ) (fun x20 => ?_))
    refine q0 rfl (o_assign ?_)
    refine rg_nil ?_
    refine ret1 Tryz.func3 Tryz.results3 wn_ () rfl (fun w hs => hs.none)
  · have c19 : (decide (400 < bulk t)) = false := h19
    try simp only [sC, bne_iff_ne, beq_iff_eq, ne_eq] at c19
    have hbt : bulk t ≤ 400 := by omega
    refine go_skip ?_
    refine go_seq ?_
    refine go_region ⟨_, Tryz.func3⟩ rfl ?_
    refine q0 rfl (o_lds ?_)
    refine q0 rfl (o_call Tryz.call7 (rcopyF t vr_t vk_t vs_t) (fun x22 => ?_))
    refine q0 rfl (o_new fun b9 => ?_)
    refine q0 rfl (o_st ?_)
    refine rg_nil ?_
    refine go_seq ?_
    refine go_region ⟨_, Tryz.func3⟩ rfl ?_
    refine q0 rfl (o_lds ?_)
    refine q0 rfl (o_move ?_)
    refine q0 rfl (o_move ?_)
    refine q0 rfl (o_call Tryz.call8 (liftDimsH t x22.1 x22.2.1 x22.2.2 f b om_ om_ om_) (fun x27 => ?_))
    refine q0 rfl (o_move ?_)
    refine q0 rfl (o_extract ?_)
    refine q0 rfl (o_extract ?_)
    refine q0 rfl (o_new fun b10 => ?_)
    refine q0 rfl (o_st ?_)
    refine q0 rfl (o_assign ?_)
    refine rg_nil ?_
    refine go_seq ?_
    refine go_region ⟨_, Tryz.func3⟩ rfl ?_
    refine q0 rfl (o_lds ?_)
    refine q0 rfl (o_move ?_)
    refine q0 rfl (o_move ?_)
    refine q0 rfl (o_call Tryz.call9 (rdimsH t vr_t vk_t vs_t f b om_ om_ om_) (fun x34 => ?_))
    refine q0 rfl (o_move ?_)
    refine q0 rfl (o_extract ?_)
    refine q0 rfl (o_extract ?_)
    refine q0 rfl (o_new fun b12 => ?_)
    refine q0 rfl (o_st ?_)
    refine q0 rfl (o_assign ?_)
    refine rg_nil ?_
    refine go_seq ?_
    refine go_region ⟨_, Tryz.func3⟩ rfl ?_
    refine q0 rfl (o_lds ?_)
    refine q0 rfl (o_move ?_)
    refine q0 rfl (o_move ?_)
    refine q0 rfl (o_call Tryz.call10 (liftBothH t x22.1 x22.2.1 x22.2.2 v b om_ om_ om_) (fun x41 => ?_))
    refine q0 rfl (o_move ?_)
    refine q0 rfl (o_extract ?_)
    refine q0 rfl (o_extract ?_)
    refine q0 rfl (o_new fun b14 => ?_)
    refine q0 rfl (o_st ?_)
    refine q0 rfl (o_assign ?_)
    refine rg_nil ?_
    refine go_seq ?_
    refine go_region ⟨_, Tryz.func3⟩ rfl ?_
    refine q0 rfl (o_lds ?_)
    refine q0 rfl (o_move ?_)
    refine q0 rfl (o_move ?_)
    refine q0 rfl (o_call Tryz.call11 (rbothH t vr_t vk_t vs_t v b om_ om_ om_) (fun x48 => ?_))
    refine q0 rfl (o_move ?_)
    refine q0 rfl (o_extract ?_)
    refine q0 rfl (o_extract ?_)
    refine q0 rfl (o_new fun b16 => ?_)
    refine q0 rfl (o_st ?_)
    refine q0 rfl (o_assign ?_)
    refine rg_nil ?_
    refine go_seq ?_
    refine go_cutS ([(8, .bool (((decide (x27.1.1.2 = x34.1.1.2) && decide (x27.1.1.1 = x34.1.1.1)) && (decide (x41.1.1.2 = x48.1.1.2) && decide (x41.1.1.1 = x48.1.1.1))) && (decide (t = t))))]) (fun hK => ?_) (fun base => ?_)
    · refine go_region ⟨_, Tryz.func3⟩ rfl ?_
      refine q0 rfl (o_lds ?_)
      refine q0 rfl (o_move ?_)
      refine q0 rfl (o_lds ?_)
      refine q0 rfl (o_move ?_)
      refine q0 rfl (o_call Tryz.call12 (same11_spec x27.1.1.2 x27.1.2.1 x27.1.2.2.1 x27.1.2.2.2 x27.1.1.1 x34.1.1.2 x34.1.2.1 x34.1.2.2.1 x34.1.2.2.2 x34.1.1.1 ) (fun x55 => ?_))
      refine q0 rfl (o_move ?_)
      refine qI rfl rfl rfl wl_ (fun hg56 => ?_) (fun hg56 => ?_)
      · have g56 : ((decide (x27.1.1.2 = x34.1.1.2) && decide (x27.1.1.1 = x34.1.1.1))) = true := hg56
        try simp only [sC, bne_iff_ne, beq_iff_eq, ne_eq] at g56
        refine o_lds ?_
        refine qT rfl rfl rfl (o_move ?_)
        refine qT rfl rfl rfl (o_lds ?_)
        refine qT rfl rfl rfl (o_move ?_)
        refine qT rfl rfl rfl (o_call Tryz.call12 (same11_spec x41.1.1.2 x41.1.2.1 x41.1.2.2.1 x41.1.2.2.2 x41.1.1.1 x48.1.1.2 x48.1.2.1 x48.1.2.2.1 x48.1.2.2.2 x48.1.1.1 ) (fun x61 => ?_))
        refine q0 rfl (o_pickT ?_)
        refine q0 rfl (o_move ?_)
        refine qI rfl rfl rfl wl_ (fun hg63 => ?_) (fun hg63 => ?_)
        · have g63 : ((decide (x41.1.1.2 = x48.1.1.2) && decide (x41.1.1.1 = x48.1.1.1))) = true := hg63
          try simp only [sC, bne_iff_ne, beq_iff_eq, ne_eq] at g63
          refine o_lds ?_
          refine qT rfl rfl rfl (o_lds ?_)
          refine qT rfl rfl rfl (o_call Tryz.call13 (rsame t t x22.1 x22.2.1 x22.2.2 vr_t vk_t vs_t) (fun x66 => ?_))
          refine q0 rfl (o_pickT ?_)
          refine q0 rfl (o_move ?_)
          refine qI rfl rfl rfl wl_ (fun hg68 => ?_) (fun hg68 => ?_)
          · have g68 : ((decide (t = t))) = true := hg68
            try simp only [sC, bne_iff_ne, beq_iff_eq, ne_eq] at g68
            refine o_call Tryz.call6 (works11_spec ) (fun x69 => ?_)
            refine q0 rfl (o_pickT ?_)
            refine q0 rfl (o_assign ?_)
            refine rg_nil ?_
            exact hK _ ⟨dn_, trivial⟩
          · have g68 : ((decide (t = t))) = false := hg68
            try simp only [sC, bne_iff_ne, beq_iff_eq, ne_eq] at g68
            refine q0 rfl (o_pickF ?_)
            refine q0 rfl (o_assign ?_)
            refine rg_nil ?_
            exact hK _ ⟨dn_, trivial⟩
        · have g63 : ((decide (x41.1.1.2 = x48.1.1.2) && decide (x41.1.1.1 = x48.1.1.1))) = false := hg63
          try simp only [sC, bne_iff_ne, beq_iff_eq, ne_eq] at g63
          refine qF rfl rfl rfl ?_
          refine qF rfl rfl rfl ?_
          refine q0 rfl (o_pickF ?_)
          refine q0 rfl (o_move ?_)
          refine qF rfl rfl rfl ?_
          refine q0 rfl (o_pickF ?_)
          refine q0 rfl (o_assign ?_)
          refine rg_nil ?_
          exact hK _ ⟨dn_, trivial⟩
      · have g56 : ((decide (x27.1.1.2 = x34.1.1.2) && decide (x27.1.1.1 = x34.1.1.1))) = false := hg56
        try simp only [sC, bne_iff_ne, beq_iff_eq, ne_eq] at g56
        refine qF rfl rfl rfl ?_
        refine qF rfl rfl rfl ?_
        refine qF rfl rfl rfl ?_
        refine qF rfl rfl rfl ?_
        refine q0 rfl (o_pickF ?_)
        refine q0 rfl (o_move ?_)
        refine qF rfl rfl rfl ?_
        refine qF rfl rfl rfl ?_
        refine qF rfl rfl rfl ?_
        refine q0 rfl (o_pickF ?_)
        refine q0 rfl (o_move ?_)
        refine qF rfl rfl rfl ?_
        refine q0 rfl (o_pickF ?_)
        refine q0 rfl (o_assign ?_)
        refine rg_nil ?_
        exact hK _ ⟨dn_, trivial⟩
    · refine ret1 Tryz.func3 Tryz.results3 wn_ () (by rw [x27.2, x34.2, x41.2, x48.2]; simp) (fun w hs => hs.none)
end Go.Hy
