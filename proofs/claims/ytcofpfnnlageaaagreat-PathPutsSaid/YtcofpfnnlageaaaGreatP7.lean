/- Contracts of this program's functions and the laws that they need: a separation logic over the machine's rules, one theorem each (partly printed by a program of this repository). -/
import Derived.Test.YtcofpfnnlageaaaGreatP2
import Derived.Test.YtcofpfnnlageaaaGreatP3
import Derived.Test.YtcofpfnnlageaaaGreatP4
import Derived.Test.YtcofpfnnlageaaaGreatP5
import Derived.Test.YtcofpfnnlageaaaGreatP6
namespace Go.Hy
set_option linter.unusedVariables false
set_option linter.unusedSimpArgs false
set_option linter.unusedSectionVars false
open Go.Proofs
set_option linter.unusedVariables false
set_option linter.unusedSimpArgs false
set_option maxRecDepth 100000
theorem rsize_walk (t : T) (vr vk vs : SH) (hsz : size t ≤ 1152921504606846976) (ih : ∀ p, p ∈ parts t → size p.1 ≤ 1152921504606846976 → ∀ vr vk vs, Spec Tryz.prog 56 #[.agg (tc p.1 vr vk vs).toArray] [RT p.1 vr vk vs] [] (fun _ : Unit => .int .i64 (size p.1 : Int)) (fun _ => []) (fun _ => [])) : Spec Tryz.prog 56 #[.agg (tc t vr vk vs).toArray] [RT t vr vk vs] [] (fun _ : Unit => .int .i64 (size t : Int)) (fun _ => []) (fun _ => []) := by
  refine spec_go (args := [.agg (tc t vr vk vs).toArray]) Tryz.func56 Tryz.ntmps56 rfl (by exact Nat.le_of_ble_eq_true rfl) fun B hB => ?_
  refine go_open (fun hk hn hnm => ?_)
  refine go_openTL (ts := t.kids) (fun VR VK VS hl1 hA1 => ?_)
  refine go_openBL (bs := t.sys) (fun VF VK2 hl2 hA2 => ?_)
  have hpl := parts_length t
  refine go_seq ?_
  refine go_region ⟨_, Tryz.func56⟩ rfl ?_
  refine q0 rfl (o_box fun b1 => ?_)
  refine q0 rfl (o_assign ?_)
  refine rg_nil ?_
  refine go_seq ?_
  refine go_region ⟨_, Tryz.func56⟩ rfl ?_
  refine q0 rfl (o_assign ?_)
  refine rg_nil ?_
  refine go_seq ?_
  refine go_seq ?_
  refine go_region ⟨_, Tryz.func56⟩ rfl ?_
  refine q0 rfl (o_assign ?_)
  refine rg_nil ?_
  refine go_block ?_
  refine go_loopI (X := Nat) (fun i => i ≤ t.kids.length) (fun i => [(1, .pointer (some ⟨b1, 0, none⟩)), (3, .int .i64 (sizeUpto t i : Int)), (4, .int .i64 (i : Int))]) (fun i => [TLx t.kids vk VR VK VS, BLx t.sys vs VF VK2]) (fun i => [boxR b1 (tc t vr vk vs) 26]) (fun i => t.kids.length - i) (0) (Nat.zero_le _) (by exact ⟨rfl, (by rw [sizeUpto_zero]; rfl), rfl, trivial⟩) ?_ ?_
  · exact fun w hs => (hs.less (by simp +contextual))
  · intro i base0 hi next0
    refine go_seq ?_
    refine go_seq ?_
    refine go_region ⟨_, Tryz.func56⟩ rfl ?_
    refine q0 rfl (o_move ?_)
    refine q0 rfl (o_fa ?_)
    refine q0 rfl (o_ld ?_)
    refine q0 rfl (o_len ?_)
    refine q0 rfl (o_lss ?_)
    refine rg_nil ?_
    refine go_condI (fun h11 => ?_) (fun h11 => ?_)
    · have hlt : i < t.kids.length := by have := of_decide_eq_true h11; omega
      obtain ⟨bk, o, hav⟩ := hA1 (by omega)
      have hpk := parts_kid t i hlt
      refine go_kid (ts := t.kids) (a := vk) i hlt ?_
      refine go_skip ?_
      refine go_seq ?_
      refine go_block ?_
      refine go_region ⟨_, Tryz.func56⟩ rfl ?_
      refine q0 rfl (o_move ?_)
      refine q0 rfl (o_fa ?_)
      refine q0 rfl (o_ld ?_)
      refine q0 rfl (o_move ?_)
      refine q0 rfl (o_ixN ?_)
      refine q0 rfl (o_ldT ?_)
      refine q0 rfl (o_call Tryz.call56 (ih (t.kids.getD i t0, _, _) (parts_mem hpk) (by have := size_part hpk; simp only at this ⊢; omega) _ _ _) (fun x20 => ?_))
      have hle := size_part hpk
      refine q0 rfl (o_add ?_)
      refine q0 rfl (o_assign ?_)
      refine rg_nil ?_
      refine go_inBlock ?_
      refine go_region ⟨_, Tryz.func56⟩ rfl ?_
      refine q0 rfl (o_move ?_)
      refine q0 rfl (o_add ?_)
      refine q0 rfl (o_assign ?_)
      refine rg_nil ?_
      refine go_state (fun w hs => ?_) (next0 (i + 1) _ hlt (by omega) ⟨rfl, (by rw [sizeUpto_succ hpk]; rfl), rfl, trivial⟩)
      exact (hs.less (by simp +contextual))
    · have hge : i = t.kids.length := by have := of_decide_eq_false h11; omega
      refine go_exit rfl ?_
      refine go_seq ?_
      refine go_seq ?_
      refine go_region ⟨_, Tryz.func56⟩ rfl ?_
      refine q0 rfl (o_assign ?_)
      refine rg_nil ?_
      refine go_block ?_
      refine go_loopI (X := Nat) (fun i2 => i2 ≤ t.sys.length) (fun i2 => [(1, .pointer (some ⟨b1, 0, none⟩)), (3, .int .i64 (sizeUpto t (t.kids.length + sysBefore i2 t.sys) : Int)), (5, .int .i64 (i2 : Int))]) (fun i2 => [TLx t.kids vk VR VK VS, BLx t.sys vs VF VK2]) (fun i2 => [boxR b1 (tc t vr vk vs) 26]) (fun i2 => t.sys.length - i2) (0) (Nat.zero_le _) (by exact ⟨rfl, (by rw [hge]; rfl), rfl, trivial⟩) ?_ ?_
      · exact fun w hs => (hs.less (by simp +contextual))
      · intro i2 base1 hi2 next1
        refine go_seq ?_
        refine go_seq ?_
        refine go_region ⟨_, Tryz.func56⟩ rfl ?_
        refine q0 rfl (o_move ?_)
        refine q0 rfl (o_fa ?_)
        refine q0 rfl (o_ld ?_)
        refine q0 rfl (o_len ?_)
        refine q0 rfl (o_lss ?_)
        refine rg_nil ?_
        refine go_condI (fun h26 => ?_) (fun h26 => ?_)
        · have hlt2 : i2 < t.sys.length := by have := of_decide_eq_true h26; omega
          obtain ⟨bk2, o2, hav2⟩ := hA2 (by omega)
          refine go_branch (bs := t.sys) (a := vs) i2 hlt2 ?_
          refine go_openTL (ts := (t.sys.getD i2 br0).kids) (a := VK2 i2) (fun VR3 VK3 VS3 hl3 hA3 => ?_)
          refine go_skip ?_
          refine go_seq ?_
          refine go_block ?_
          refine go_seq ?_
          refine go_region ⟨_, Tryz.func56⟩ rfl ?_
          refine q0 rfl (o_assign ?_)
          refine rg_nil ?_
          refine go_block ?_
          refine go_loopI (X := Nat) (fun j => j ≤ (t.sys.getD i2 br0).kids.length) (fun j => [(1, .pointer (some ⟨b1, 0, none⟩)), (3, .int .i64 (sizeUpto t (t.kids.length + sysBefore i2 t.sys + j) : Int)), (5, .int .i64 (i2 : Int)), (6, .int .i64 (j : Int))]) (fun j => TLx (t.sys.getD i2 br0).kids (VK2 i2) VR3 VK3 VS3 :: [TLx t.kids vk VR VK VS, BLx t.sys vs VF VK2]) (fun j => [boxR b1 (tc t vr vk vs) 26]) (fun j => (t.sys.getD i2 br0).kids.length - j) (0) (Nat.zero_le _) (by exact ⟨rfl, rfl, rfl, rfl, trivial⟩) ?_ ?_
          · exact fun w hs => (hs.less (by simp +contextual))
          · intro j base2 hj next2
            refine go_seq ?_
            refine go_seq ?_
            refine go_region ⟨_, Tryz.func56⟩ rfl ?_
            refine q0 rfl (o_move ?_)
            refine q0 rfl (o_fa ?_)
            refine q0 rfl (o_ld ?_)
            refine q0 rfl (o_move ?_)
            refine q0 rfl (o_ixN ?_)
            refine q0 rfl (o_fa ?_)
            refine q0 rfl (o_ldBf ?_)
            refine q0 rfl (o_len ?_)
            refine q0 rfl (o_lss ?_)
            refine rg_nil ?_
            refine go_condI (fun h37 => ?_) (fun h37 => ?_)
            · have hlt3 : j < (t.sys.getD i2 br0).kids.length := by have := of_decide_eq_true h37; omega
              obtain ⟨bk3, o3, hav3⟩ := hA3 (by omega)
              have hpk := parts_sys t i2 j hlt2 hlt3
              refine go_kid (ts := (t.sys.getD i2 br0).kids) (a := VK2 i2) j hlt3 ?_
              refine go_skip ?_
              refine go_seq ?_
              refine go_block ?_
              refine go_region ⟨_, Tryz.func56⟩ rfl ?_
              refine q0 rfl (o_move ?_)
              refine q0 rfl (o_fa ?_)
              refine q0 rfl (o_ld ?_)
              refine q0 rfl (o_move ?_)
              refine q0 rfl (o_ixN ?_)
              refine q0 rfl (o_fa ?_)
              refine q0 rfl (o_ldBf ?_)
              refine q0 rfl (o_move ?_)
              refine q0 rfl (o_ixN ?_)
              refine q0 rfl (o_ldT ?_)
              refine q0 rfl (o_call Tryz.call56 (ih ((t.sys.getD i2 br0).kids.getD j t0, _, _) (parts_mem hpk) (by have := size_part hpk; simp only at this ⊢; omega) _ _ _) (fun x50 => ?_))
              have hle := size_part hpk
              refine q0 rfl (o_add ?_)
              refine q0 rfl (o_assign ?_)
              refine rg_nil ?_
              refine go_inBlock ?_
              refine go_region ⟨_, Tryz.func56⟩ rfl ?_
              refine q0 rfl (o_move ?_)
              refine q0 rfl (o_add ?_)
              refine q0 rfl (o_assign ?_)
              refine rg_nil ?_
              refine go_state (fun w hs => ?_) (next2 (j + 1) _ hlt3 (by omega) ⟨rfl, (by rw [← Nat.add_assoc, sizeUpto_succ hpk]; rfl), rfl, rfl, trivial⟩)
              exact (hs.less (by simp +contextual))
            · have hge3 : j = (t.sys.getD i2 br0).kids.length := by have := of_decide_eq_false h37; omega
              refine go_exit rfl ?_
              refine go_inBlock ?_
              refine go_region ⟨_, Tryz.func56⟩ rfl ?_
              refine q0 rfl (o_move ?_)
              refine q0 rfl (o_add ?_)
              refine q0 rfl (o_assign ?_)
              refine rg_nil ?_
              refine go_state (fun w hs => ?_) (next1 (i2 + 1) _ hlt2 (by omega) ⟨rfl, (by rw [sysBefore_succ i2 t.sys hlt2, ← hge3, ← Nat.add_assoc]; rfl), rfl, trivial⟩)
              exact (hs.less (by simp +contextual))
        · have hge2 : i2 = t.sys.length := by have := of_decide_eq_false h26; omega
          refine go_exit rfl ?_
          refine go_seq ?_
          refine go_region ⟨_, Tryz.func56⟩ rfl ?_
          refine q0 rfl (o_move ?_)
          refine q0 rfl (o_assign ?_)
          refine rg_nil ?_
          have he : sizeUpto t (t.kids.length + sysBefore i2 t.sys) = size t := by rw [hge2, ← hpl, sizeUpto_all]
          refine ret1 Tryz.func56 Tryz.results56 wn_ () (by rw [he]) (fun w hs => hs.none)
theorem rsize_spec : ∀ (t : T), size t ≤ 1152921504606846976 → ∀ vr vk vs, Spec Tryz.prog 56 #[.agg (tc t vr vk vs).toArray] [RT t vr vk vs] [] (fun _ : Unit => .int .i64 (size t : Int)) (fun _ => []) (fun _ => []) :=
  T.ind fun t ih hsz vr vk vs => rsize_walk t vr vk vs hsz ih
theorem rdepth_walk (t : T) (vr vk vs : SH) (hsz : size t ≤ 1152921504606846976) (ih : ∀ p, p ∈ parts t → size p.1 ≤ 1152921504606846976 → ∀ vr vk vs, Spec Tryz.prog 55 #[.agg (tc p.1 vr vk vs).toArray] [RT p.1 vr vk vs] [] (fun _ : Unit => .int .i64 (depth p.1 : Int)) (fun _ => []) (fun _ => [])) : Spec Tryz.prog 55 #[.agg (tc t vr vk vs).toArray] [RT t vr vk vs] [] (fun _ : Unit => .int .i64 (depth t : Int)) (fun _ => []) (fun _ => []) := by
  refine spec_go (args := [.agg (tc t vr vk vs).toArray]) Tryz.func55 Tryz.ntmps55 rfl (by exact Nat.le_of_ble_eq_true rfl) fun B hB => ?_
  refine go_open (fun hk hn hnm => ?_)
  refine go_openTL (ts := t.kids) (fun VR VK VS hl1 hA1 => ?_)
  refine go_openBL (bs := t.sys) (fun VF VK2 hl2 hA2 => ?_)
  have hpl := parts_length t
  have hds := depth_le_size t
  have hdu := depthUpto_le t (parts t).length
  refine go_seq ?_
  refine go_region ⟨_, Tryz.func55⟩ rfl ?_
  refine q0 rfl (o_box fun b1 => ?_)
  refine q0 rfl (o_assign ?_)
  refine rg_nil ?_
  refine go_seq ?_
  refine go_region ⟨_, Tryz.func55⟩ rfl ?_
  refine q0 rfl (o_assign ?_)
  refine rg_nil ?_
  refine go_seq ?_
  refine go_seq ?_
  refine go_region ⟨_, Tryz.func55⟩ rfl ?_
  refine q0 rfl (o_assign ?_)
  refine rg_nil ?_
  refine go_block ?_
  refine go_loopI (X := Nat) (fun i => i ≤ t.kids.length) (fun i => [(1, .pointer (some ⟨b1, 0, none⟩)), (3, .int .i64 (depthUpto t i : Int)), (4, .int .i64 (i : Int))]) (fun i => [TLx t.kids vk VR VK VS, BLx t.sys vs VF VK2]) (fun i => [boxR b1 (tc t vr vk vs) 26]) (fun i => t.kids.length - i) (0) (Nat.zero_le _) (by exact ⟨rfl, (by rw [depthUpto_zero]; rfl), rfl, trivial⟩) ?_ ?_
  · exact fun w hs => (hs.less (by simp +contextual))
  · intro i base0 hi next0
    refine go_seq ?_
    refine go_seq ?_
    refine go_region ⟨_, Tryz.func55⟩ rfl ?_
    refine q0 rfl (o_move ?_)
    refine q0 rfl (o_fa ?_)
    refine q0 rfl (o_ld ?_)
    refine q0 rfl (o_len ?_)
    refine q0 rfl (o_lss ?_)
    refine rg_nil ?_
    refine go_condI (fun h13 => ?_) (fun h13 => ?_)
    · have hlt : i < t.kids.length := by have := of_decide_eq_true h13; omega
      obtain ⟨bk, o, hav⟩ := hA1 (by omega)
      have hpk := parts_kid t i hlt
      refine go_kid (ts := t.kids) (a := vk) i hlt ?_
      refine go_skip ?_
      refine go_seq ?_
      refine go_block ?_
      refine go_seq ?_
      refine go_region ⟨_, Tryz.func55⟩ rfl ?_
      refine q0 rfl (o_fa ?_)
      refine q0 rfl (o_ld ?_)
      refine q0 rfl (o_move ?_)
      refine q0 rfl (o_ixN ?_)
      refine q0 rfl (o_ldT ?_)
      refine q0 rfl (o_call Tryz.call55 (ih (t.kids.getD i t0, _, _) (parts_mem hpk) (by have := size_part hpk; simp only at this ⊢; omega) _ _ _) (fun x21 => ?_))
      refine q0 rfl (o_assign ?_)
      refine rg_nil ?_
      refine go_seq ?_
      refine go_region ⟨_, Tryz.func55⟩ rfl ?_
      refine q0 rfl (o_move ?_)
      refine q0 rfl (o_move ?_)
      refine q0 rfl (o_gtr ?_)
      refine rg_nil ?_
      refine go_condI (fun h24 => ?_) (fun h24 => ?_)
      · refine go_region ⟨_, Tryz.func55⟩ rfl ?_
        refine q0 rfl (o_move ?_)
        refine q0 rfl (o_assign ?_)
        refine rg_nil ?_
        refine go_inBlock ?_
        refine go_region ⟨_, Tryz.func55⟩ rfl ?_
        refine q0 rfl (o_move ?_)
        refine q0 rfl (o_add ?_)
        refine q0 rfl (o_assign ?_)
        refine rg_nil ?_
        refine go_state (fun w hs => ?_) (next0 (i + 1) _ hlt (by omega) ⟨rfl, (by rw [depthUpto_succ hpk, Int.ofNat_max']; first | (rw [if_pos (of_decide_eq_true h24)]; rfl) | (rw [if_neg (of_decide_eq_false h24)]; rfl)), rfl, trivial⟩)
        exact (hs.less (by simp +contextual))
      · refine go_skip ?_
        refine go_inBlock ?_
        refine go_region ⟨_, Tryz.func55⟩ rfl ?_
        refine q0 rfl (o_move ?_)
        refine q0 rfl (o_add ?_)
        refine q0 rfl (o_assign ?_)
        refine rg_nil ?_
        refine go_state (fun w hs => ?_) (next0 (i + 1) _ hlt (by omega) ⟨rfl, (by rw [depthUpto_succ hpk, Int.ofNat_max']; first | (rw [if_pos (of_decide_eq_true h24)]; rfl) | (rw [if_neg (of_decide_eq_false h24)]; rfl)), rfl, trivial⟩)
        exact (hs.less (by simp +contextual))
    · have hge : i = t.kids.length := by have := of_decide_eq_false h13; omega
      refine go_exit rfl ?_
      refine go_seq ?_
      refine go_seq ?_
      refine go_region ⟨_, Tryz.func55⟩ rfl ?_
      refine q0 rfl (o_assign ?_)
      refine rg_nil ?_
      refine go_block ?_
      refine go_loopI (X := Nat) (fun i2 => i2 ≤ t.sys.length) (fun i2 => [(1, .pointer (some ⟨b1, 0, none⟩)), (3, .int .i64 (depthUpto t (t.kids.length + sysBefore i2 t.sys) : Int)), (6, .int .i64 (i2 : Int))]) (fun i2 => [TLx t.kids vk VR VK VS, BLx t.sys vs VF VK2]) (fun i2 => [boxR b1 (tc t vr vk vs) 26]) (fun i2 => t.sys.length - i2) (0) (Nat.zero_le _) (by exact ⟨rfl, (by rw [hge]; rfl), rfl, trivial⟩) ?_ ?_
      · exact fun w hs => (hs.less (by simp +contextual))
      · intro i2 base1 hi2 next1
        refine go_seq ?_
        refine go_seq ?_
        refine go_region ⟨_, Tryz.func55⟩ rfl ?_
        refine q0 rfl (o_move ?_)
        refine q0 rfl (o_fa ?_)
        refine q0 rfl (o_ld ?_)
        refine q0 rfl (o_len ?_)
        refine q0 rfl (o_lss ?_)
        refine rg_nil ?_
        refine go_condI (fun h30 => ?_) (fun h30 => ?_)
        · have hlt2 : i2 < t.sys.length := by have := of_decide_eq_true h30; omega
          obtain ⟨bk2, o2, hav2⟩ := hA2 (by omega)
          refine go_branch (bs := t.sys) (a := vs) i2 hlt2 ?_
          refine go_openTL (ts := (t.sys.getD i2 br0).kids) (a := VK2 i2) (fun VR3 VK3 VS3 hl3 hA3 => ?_)
          refine go_skip ?_
          refine go_seq ?_
          refine go_block ?_
          refine go_seq ?_
          refine go_region ⟨_, Tryz.func55⟩ rfl ?_
          refine q0 rfl (o_assign ?_)
          refine rg_nil ?_
          refine go_block ?_
          refine go_loopI (X := Nat) (fun j => j ≤ (t.sys.getD i2 br0).kids.length) (fun j => [(1, .pointer (some ⟨b1, 0, none⟩)), (3, .int .i64 (depthUpto t (t.kids.length + sysBefore i2 t.sys + j) : Int)), (6, .int .i64 (i2 : Int)), (7, .int .i64 (j : Int))]) (fun j => TLx (t.sys.getD i2 br0).kids (VK2 i2) VR3 VK3 VS3 :: [TLx t.kids vk VR VK VS, BLx t.sys vs VF VK2]) (fun j => [boxR b1 (tc t vr vk vs) 26]) (fun j => (t.sys.getD i2 br0).kids.length - j) (0) (Nat.zero_le _) (by exact ⟨rfl, rfl, rfl, rfl, trivial⟩) ?_ ?_
          · exact fun w hs => (hs.less (by simp +contextual))
          · intro j base2 hj next2
            refine go_seq ?_
            refine go_seq ?_
            refine go_region ⟨_, Tryz.func55⟩ rfl ?_
            refine q0 rfl (o_move ?_)
            refine q0 rfl (o_fa ?_)
            refine q0 rfl (o_ld ?_)
            refine q0 rfl (o_move ?_)
            refine q0 rfl (o_ixN ?_)
            refine q0 rfl (o_fa ?_)
            refine q0 rfl (o_ldBf ?_)
            refine q0 rfl (o_len ?_)
            refine q0 rfl (o_lss ?_)
            refine rg_nil ?_
            refine go_condI (fun h41 => ?_) (fun h41 => ?_)
            · have hlt3 : j < (t.sys.getD i2 br0).kids.length := by have := of_decide_eq_true h41; omega
              obtain ⟨bk3, o3, hav3⟩ := hA3 (by omega)
              have hpk := parts_sys t i2 j hlt2 hlt3
              refine go_kid (ts := (t.sys.getD i2 br0).kids) (a := VK2 i2) j hlt3 ?_
              refine go_skip ?_
              refine go_seq ?_
              refine go_block ?_
              refine go_seq ?_
              refine go_region ⟨_, Tryz.func55⟩ rfl ?_
              refine q0 rfl (o_fa ?_)
              refine q0 rfl (o_ld ?_)
              refine q0 rfl (o_move ?_)
              refine q0 rfl (o_ixN ?_)
              refine q0 rfl (o_fa ?_)
              refine q0 rfl (o_ldBf ?_)
              refine q0 rfl (o_move ?_)
              refine q0 rfl (o_ixN ?_)
              refine q0 rfl (o_ldT ?_)
              refine q0 rfl (o_call Tryz.call55 (ih ((t.sys.getD i2 br0).kids.getD j t0, _, _) (parts_mem hpk) (by have := size_part hpk; simp only at this ⊢; omega) _ _ _) (fun x53 => ?_))
              refine q0 rfl (o_assign ?_)
              refine rg_nil ?_
              refine go_seq ?_
              refine go_region ⟨_, Tryz.func55⟩ rfl ?_
              refine q0 rfl (o_move ?_)
              refine q0 rfl (o_move ?_)
              refine q0 rfl (o_gtr ?_)
              refine rg_nil ?_
              refine go_condI (fun h56 => ?_) (fun h56 => ?_)
              · refine go_region ⟨_, Tryz.func55⟩ rfl ?_
                refine q0 rfl (o_move ?_)
                refine q0 rfl (o_assign ?_)
                refine rg_nil ?_
                refine go_inBlock ?_
                refine go_region ⟨_, Tryz.func55⟩ rfl ?_
                refine q0 rfl (o_move ?_)
                refine q0 rfl (o_add ?_)
                refine q0 rfl (o_assign ?_)
                refine rg_nil ?_
                refine go_state (fun w hs => ?_) (next2 (j + 1) _ hlt3 (by omega) ⟨rfl, (by rw [← Nat.add_assoc, depthUpto_succ hpk, Int.ofNat_max']; first | (rw [if_pos (of_decide_eq_true h56)]; rfl) | (rw [if_neg (of_decide_eq_false h56)]; rfl)), rfl, rfl, trivial⟩)
                exact (hs.less (by simp +contextual))
              · refine go_skip ?_
                refine go_inBlock ?_
                refine go_region ⟨_, Tryz.func55⟩ rfl ?_
                refine q0 rfl (o_move ?_)
                refine q0 rfl (o_add ?_)
                refine q0 rfl (o_assign ?_)
                refine rg_nil ?_
                refine go_state (fun w hs => ?_) (next2 (j + 1) _ hlt3 (by omega) ⟨rfl, (by rw [← Nat.add_assoc, depthUpto_succ hpk, Int.ofNat_max']; first | (rw [if_pos (of_decide_eq_true h56)]; rfl) | (rw [if_neg (of_decide_eq_false h56)]; rfl)), rfl, rfl, trivial⟩)
                exact (hs.less (by simp +contextual))
            · have hge3 : j = (t.sys.getD i2 br0).kids.length := by have := of_decide_eq_false h41; omega
              refine go_exit rfl ?_
              refine go_inBlock ?_
              refine go_region ⟨_, Tryz.func55⟩ rfl ?_
              refine q0 rfl (o_move ?_)
              refine q0 rfl (o_add ?_)
              refine q0 rfl (o_assign ?_)
              refine rg_nil ?_
              refine go_state (fun w hs => ?_) (next1 (i2 + 1) _ hlt2 (by omega) ⟨rfl, (by rw [sysBefore_succ i2 t.sys hlt2, ← hge3, ← Nat.add_assoc]; rfl), rfl, trivial⟩)
              exact (hs.less (by simp +contextual))
        · have hge2 : i2 = t.sys.length := by have := of_decide_eq_false h30; omega
          refine go_exit rfl ?_
          refine go_seq ?_
          refine go_region ⟨_, Tryz.func55⟩ rfl ?_
          refine q0 rfl (o_move ?_)
          rw [hge2, ← hpl]
          refine q0 rfl (o_add ?_)
          refine q0 rfl (o_assign ?_)
          refine rg_nil ?_
          refine ret1 Tryz.func55 Tryz.results55 wn_ () (by rw [← depthUpto_all t]; rfl) (fun w hs => hs.none)
theorem rdepth_spec : ∀ (t : T), size t ≤ 1152921504606846976 → ∀ vr vk vs, Spec Tryz.prog 55 #[.agg (tc t vr vk vs).toArray] [RT t vr vk vs] [] (fun _ : Unit => .int .i64 (depth t : Int)) (fun _ => []) (fun _ => []) :=
  T.ind fun t ih hsz vr vk vs => rdepth_walk t vr vk vs hsz ih
end Go.Hy
namespace Go.Hy
set_option linter.unusedVariables false
set_option linter.unusedSimpArgs false
set_option linter.unusedSectionVars false
open Go.Proofs
set_option linter.unusedVariables false
set_option linter.unusedSimpArgs false
set_option maxRecDepth 100000
theorem equal_spec (l m : List Cl) (a b : SH) : Spec Tryz.prog 66 #[sl a l.length, sl b m.length] [CL l a, CL m b] [] (fun _ : Unit => .bool (decide (l = m))) (fun _ => []) (fun _ => []) := by
  refine spec_go (args := [sl a l.length, sl b m.length]) Tryz.func66 Tryz.ntmps66 rfl (by exact Nat.le_of_ble_eq_true rfl) fun B hB => ?_
  refine go_openCL (l := l) (a := a) (fun hl1 hA1 hU1 => ?_)
  refine go_openCL (l := m) (a := b) (fun hl2 hA2 hU2 => ?_)
  refine go_seq ?_
  refine go_region ⟨_, Tryz.func66⟩ rfl ?_
  refine q0 rfl (o_assign ?_)
  refine rg_nil ?_
  refine go_seq ?_
  refine go_seq ?_
  refine go_region ⟨_, Tryz.func66⟩ rfl ?_
  refine q0 rfl (o_move ?_)
  refine q0 rfl (o_len ?_)
  refine q0 rfl (o_move ?_)
  refine q0 rfl (o_len ?_)
  refine q0 rfl (o_neI ?_)
  refine rg_nil ?_
  refine go_condI (fun h10 => ?_) (fun h10 => ?_)
  · have hne : ¬ l = m := fun e => by subst e; simp at h10
    refine go_seq ?_
    refine go_region ⟨_, Tryz.func66⟩ rfl ?_
    refine q0 rfl (o_assign ?_)
    refine rg_nil ?_
    refine ret1 Tryz.func66 Tryz.results66 wn_ () (by rw [decide_eq_false hne]) (fun w hs => hs.none)
  · have hlen : l.length = m.length := by simp at h10; omega
    refine go_skip ?_
    refine go_seq ?_
    refine go_seq ?_
    refine go_region ⟨_, Tryz.func66⟩ rfl ?_
    refine q0 rfl (o_move ?_)
    refine q0 rfl (o_len ?_)
    refine q0 rfl (o_move ?_)
    refine rg_nil ?_
    refine go_block ?_
    refine go_loopI (X := Nat) (fun i => i ≤ l.length ∧ ∀ j, j < i → l.getD j cl0 = m.getD j cl0) (fun i => [(0, sl a l.length), (1, sl b m.length), (12, .int .i64 (l.length : Int)), (13, .int .i64 (i : Int))]) (fun i => [CL l a, CL m b]) (fun i => []) (fun i => l.length - i) (0) (⟨Nat.zero_le _, fun j hj => by omega⟩) (by exact ⟨rfl, rfl, rfl, rfl, trivial⟩) ?_ ?_
    · exact fun w hs => hs.less (by simp +contextual)
    · intro i base0 ⟨hi, hok⟩ next0
      refine go_seq ?_
      refine go_region ⟨_, Tryz.func66⟩ rfl ?_
      refine q0 rfl (o_lss ?_)
      refine rg_nil ?_
      refine go_seq ?_
      refine go_condI (fun h14 => ?_) (fun h14 => ?_)
      · have hlt : i < l.length := by have := of_decide_eq_true h14; omega
        have hlt2 : i < m.length := by omega
        obtain ⟨bk, o, hav⟩ := hA1 (by omega)
        obtain ⟨bk2, o2, hav2⟩ := hA2 (by omega)
        refine go_skip ?_
        refine go_seq ?_
        refine go_block ?_
        refine go_seq ?_
        refine go_region ⟨_, Tryz.func66⟩ rfl ?_
        refine q0 rfl (o_move ?_)
        refine q0 rfl (o_assign ?_)
        refine rg_nil ?_
        refine go_seq ?_
        refine go_draw (tn := false) (A := [0, 0, 3, 7, 0, 0, 48, 112, 255]) (l := [0, 1, 2, 3, 4, 5, 6, 7, 8]) (fin := []) Tab.mixed ⟨_, Tryz.func66⟩ (by rfl) ?_
        refine n0 rfl (v_move ?_)
        refine n0 rfl (v_move ?_)
        refine n0 rfl (v_ixN ?_)
        refine n0 rfl (v_ldC ?_)
        refine n0 rfl (v_move ?_)
        refine n0 rfl (v_move ?_)
        refine n0 rfl (v_ixN ?_)
        refine n0 rfl (v_ldC ?_)
        refine n0 rfl (v_neC ?_)
        refine NV.done ?_
        refine rg_nil ?_
        refine go_condI (fun h24 => ?_) (fun h24 => ?_)
        · refine go_seq ?_
          refine go_region ⟨_, Tryz.func66⟩ rfl ?_
          refine q0 rfl (o_assign ?_)
          refine rg_nil ?_
          refine ret1 Tryz.func66 Tryz.results66 wn_ () (by rw [decide_eq_false (fun e => by subst e; simp at h24)]) (fun w hs => hs.none)
        · refine go_skip ?_
          refine go_inBlock ?_
          refine go_region ⟨_, Tryz.func66⟩ rfl ?_
          refine q0 rfl (o_add ?_)
          refine q0 rfl (o_move ?_)
          refine rg_nil ?_
          have hb : l.getD i cl0 = m.getD i cl0 := by simpa using h24
          refine go_state (fun w hs => ?_) (next0 (i + 1) _ ⟨hlt, fun j hj => (by rcases Nat.lt_succ_iff_lt_or_eq.mp hj with h | h; exact hok j h; subst h; exact hb)⟩ (by omega) ⟨rfl, rfl, rfl, rfl, trivial⟩)
          exact hs
      · have hge : i = l.length := by have := of_decide_eq_false h14; omega
        refine go_exit rfl ?_
        refine go_seq ?_
        refine go_region ⟨_, Tryz.func66⟩ rfl ?_
        refine q0 rfl (o_assign ?_)
        refine rg_nil ?_
        refine ret1 Tryz.func66 Tryz.results66 wn_ () (by rw [decide_eq_true (list_eq_of hlen (by rw [← hge]; exact hok))]) (fun w hs => hs.none)
end Go.Hy
namespace Go.Hy
set_option linter.unusedVariables false
set_option linter.unusedSimpArgs false
set_option linter.unusedSectionVars false
open Go.Proofs
set_option linter.unusedVariables false
set_option linter.unusedSimpArgs false
set_option maxRecDepth 100000
theorem clone_spec (l : List Cl) (a : SH) : Spec Tryz.prog 70 #[sl a l.length] [CL l a] [] (fun x : SH => sl x l.length) (fun x => [CL l x]) (fun _ => []) := by
  refine spec_go (args := [sl a l.length]) Tryz.func70 Tryz.ntmps70 rfl (by exact Nat.le_of_ble_eq_true rfl) fun B hB => ?_
  refine go_openCL (l := l) (a := a) (fun hl1 hA1 hU1 => ?_)
  refine go_seq ?_
  refine go_region ⟨_, Tryz.func70⟩ rfl ?_
  refine q0 rfl (o_assign ?_)
  refine rg_nil ?_
  refine go_seq ?_
  refine go_seq ?_
  refine go_region ⟨_, Tryz.func70⟩ rfl ?_
  refine q0 rfl (o_move ?_)
  refine q0 rfl (o_eqNil ?_)
  refine rg_nil ?_
  refine go_condI (fun h4 => ?_) (fun h4 => ?_)
  · refine go_seq ?_
    refine go_region ⟨_, Tryz.func70⟩ rfl ?_
    refine q0 rfl (o_assign ?_)
    refine rg_nil ?_
    have hl : l = [] := by (rcases Nat.eq_zero_or_pos l.length with h | h; exact List.eq_nil_of_length_eq_zero h; obtain ⟨bk, o, hav⟩ := hA1 h; rw [hav] at h4; cases h4)
    subst hl
    refine ret1 Tryz.func70 Tryz.results70 wn_ (none, 0) rfl (fun w hs => (hs.nilCL 0).less (by simp))
  · refine go_skip ?_
    refine go_seq ?_
    refine go_region ⟨_, Tryz.func70⟩ rfl ?_
    refine q0 rfl (o_lit0 fun b5 => ?_)
    refine q0 rfl (o_move ?_)
    refine rg_state (fun w hs => hs.boxRow (sz := 2) (m := 0) rfl (by decide)) ?_
    refine q0 rfl (o_appCL (fun a7 => ?_) (by exact List.mem_cons_self))
    refine q0 rfl (o_assign ?_)
    refine rg_nil ?_
    have e0 : 0 + l.length = l.length := by omega
    rw [e0]
    refine ret1 Tryz.func70 Tryz.results70 wn_ a7 rfl (fun w hs => ((hs.settleCL hB (by simp) (by omega) (by unfold reach at *; omega) hU1).less (by simp)))
abbrev CopyAt (t : T) : Prop := ∀ vr vk vs, Spec Tryz.prog 36 #[.agg (tc t vr vk vs).toArray] [RT t vr vk vs] [] (fun x : SH × SH × SH => .agg (tc t x.1 x.2.1 x.2.2).toArray) (fun x => [RT t x.1 x.2.1 x.2.2]) (fun _ => [])
theorem copied_walk (ts : List T) (a : SH) (ih : ∀ t, t ∈ ts → CopyAt t) : Spec Tryz.prog 71 #[sl a ts.length] [TL ts a] [] (fun x : SH => sl x ts.length) (fun x => [TL ts x]) (fun _ => []) := by
  refine spec_go (args := [sl a ts.length]) Tryz.func71 Tryz.ntmps71 rfl (by exact Nat.le_of_ble_eq_true rfl) fun B hB => ?_
  refine go_openTL (ts := ts) (a := a) (fun VR VK VS hl1 hA1 => ?_)
  refine go_seq ?_
  refine go_region ⟨_, Tryz.func71⟩ rfl ?_
  refine q0 rfl (o_assign ?_)
  refine rg_nil ?_
  refine go_seq ?_
  refine go_region ⟨_, Tryz.func71⟩ rfl ?_
  refine q0 rfl (o_assign ?_)
  refine rg_nil ?_
  refine go_seq ?_
  refine go_seq ?_
  refine go_region ⟨_, Tryz.func71⟩ rfl ?_
  refine q0 rfl (o_move ?_)
  refine q0 rfl (o_len ?_)
  refine q0 rfl (o_move ?_)
  refine rg_nil ?_
  refine go_block ?_
  refine go_loopI (X := Nat × SH × List TP) (fun s => s.1 ≤ ts.length ∧ s.2.2.length = s.1 ∧ s.2.2.map (·.1) = ts.take s.1) (fun s => [(3, sl s.2.1 s.1), (6, sl a ts.length), (7, .int .i64 (ts.length : Int)), (8, .int .i64 (s.1 : Int))]) (fun s => [AP s.2.2, TLx ts a VR VK VS]) (fun s => [rowS 6 26 s.2.1 s.1 (tpFlat s.2.2)]) (fun s => ts.length - s.1) ((0, (none, 0), [])) (⟨Nat.zero_le _, rfl, rfl⟩) (by exact ⟨rfl, rfl, rfl, rfl, trivial⟩) ?_ ?_
  · exact fun w hs => ((hs.rowS0 6 26).apNil).less (by simp +contextual)
  · intro ⟨i, a3, ps⟩ base0 ⟨hi, hpl, hpm⟩ next0
    dsimp only at hi hpl hpm next0 ⊢
    refine go_seq ?_
    refine go_region ⟨_, Tryz.func71⟩ rfl ?_
    refine q0 rfl (o_lss ?_)
    refine rg_nil ?_
    refine go_seq ?_
    refine go_condI (fun h9 => ?_) (fun h9 => ?_)
    · have hlt : i < ts.length := by have := of_decide_eq_true h9; omega
      obtain ⟨bk, o, hav⟩ := hA1 (by omega)
      refine go_kid (ts := ts) (a := a) (VR := VR) (VK := VK) (VS := VS) i hlt ?_
      refine go_skip ?_
      refine go_seq ?_
      refine go_block ?_
      refine go_seq ?_
      refine go_region ⟨_, Tryz.func71⟩ rfl ?_
      refine q0 rfl (o_ixN ?_)
      refine q0 rfl (o_ldT ?_)
      refine q0 rfl (o_new fun b5 => ?_)
      refine q0 rfl (o_st ?_)
      refine rg_nil ?_
      refine go_region ⟨_, Tryz.func71⟩ rfl ?_
      refine q0 rfl (o_move ?_)
      refine q0 rfl (o_lds ?_)
      refine q0 rfl (o_call Tryz.call36 (ih _ (getD_mem hlt) (VR i) (VK i) (VS i)) (fun x14 => ?_))
      refine q0 rfl (o_lit1 fun b15 => ?_)
      refine q0 rfl (o_appS (fun a16 => ?_)  )
      refine q0 rfl (o_assign ?_)
      refine rg_nil ?_
      refine go_inBlock ?_
      refine go_region ⟨_, Tryz.func71⟩ rfl ?_
      refine q0 rfl (o_add ?_)
      refine q0 rfl (o_move ?_)
      refine rg_nil ?_
      refine go_state (fun w hs => ?_) (next0 (i + 1, a16, ps ++ [(ts.getD i t0, x14)]) _ ⟨hlt, by simp [hpl], by simp only [List.map_append, List.map_cons, List.map_nil, hpm]; exact (take_succ_getD hlt).symm⟩ (by simp only; omega) ⟨rfl, rfl, rfl, rfl, trivial⟩)
      have h1 := hs.apAdd (ps := ps) (t := ts.getD i t0) (vr := x14.1) (vk := x14.2.1) (vs := x14.2.2) (by simp) (by simp)
      have e1 : tpFlat (ps ++ [(ts.getD i t0, x14)]) = tpFlat ps ++ tc (ts.getD i t0) x14.1 x14.2.1 x14.2.2 := by simp [tpFlat, tpCells]
      rw [e1]
      exact (h1.less (by simp +contextual)).dropR (A := [_])
    · have hge : i = ts.length := by have := of_decide_eq_false h9; omega
      refine go_exit rfl ?_
      refine go_seq ?_
      refine go_region ⟨_, Tryz.func71⟩ rfl ?_
      refine q0 rfl (o_move ?_)
      refine q0 rfl (o_assign ?_)
      refine rg_nil ?_
      have hm2 : ps.map (·.1) = ts := by rw [hpm, hge, List.take_length]
      rw [hge]
      refine ret1 Tryz.func71 Tryz.results71 wn_ a3 rfl (fun w hs => (hs.settleTL hB (by simp) rfl hm2 (by omega) (by unfold reach at *; omega)).less (by simp))
theorem copy_walk (t : T) (ih : ∀ p, p ∈ parts t → CopyAt p.1) (vr vk vs : SH) : Spec Tryz.prog 36 #[.agg (tc t vr vk vs).toArray] [RT t vr vk vs] [] (fun x : SH × SH × SH => .agg (tc t x.1 x.2.1 x.2.2).toArray) (fun x => [RT t x.1 x.2.1 x.2.2]) (fun _ => []) := by
  refine spec_go (args := [.agg (tc t vr vk vs).toArray]) Tryz.func36 Tryz.ntmps36 rfl (by exact Nat.le_of_ble_eq_true rfl) fun B hB => ?_
  refine go_open (t := t) (vr := vr) (vk := vk) (vs := vs) (fun hk hn hnm => ?_)
  refine go_openBL (bs := t.sys) (a := vs) (fun VF VK hl1 hA1 => ?_)
  refine go_seq ?_
  refine go_region ⟨_, Tryz.func36⟩ rfl ?_
  refine q0 rfl (o_box fun b1 => ?_)
  refine q0 rfl (o_new fun b2 => ?_)
  refine rg_nil ?_
  refine go_seq ?_
  refine go_draw (tn := false) (A := [0, 1, 0, 4, 0, 16, 0, 64, 192, 0, 512, 1984, 4095, 0, 16383]) (l := [0, 1, 2, 3, 4, 5, 6, 7, 9, 10, 8, 11, 12, 13]) (fin := [14]) Tab.mixed ⟨_, Tryz.func36⟩ (by rfl) ?_
  refine n0 rfl (v_fa ?_)
  refine n0 rfl (v_ld ?_)
  refine n0 rfl (v_fa ?_)
  refine n0 rfl (v_ld ?_)
  refine n0 rfl (v_fa ?_)
  refine n0 rfl (v_ld ?_)
  refine n0 rfl (v_fa ?_)
  refine n0 rfl (v_ld ?_)
  refine n0 rfl (v_fa ?_)
  refine n0 rfl (v_ld ?_)
  refine n0 rfl (v_call Tryz.call70 (clone_spec t.r vr) (fun x14 => ?_))
  refine n0 rfl (v_call Tryz.call71 (copied_walk t.kids vk (fun k hk => (by obtain ⟨p, hp, e⟩ := kid_mem_parts hk; exact e ▸ ih p hp))) (fun x17 => ?_))
  refine n0 rfl (v_build (cs := [.int .i64 t.kind, .int .i64 t.n, .string t.name, sl x14 t.r.length, sl x17 t.kids.length, .slice none 0 0]) ?_)
  refine n0 rfl (v_new fun b3 => ?_)
  refine NV.done ?_
  refine q0 rfl (o_st ?_)
  refine rg_nil ?_
  refine go_seq ?_
  refine go_seq ?_
  refine go_region ⟨_, Tryz.func36⟩ rfl ?_
  refine q0 rfl (o_fa ?_)
  refine q0 rfl (o_ld ?_)
  refine q0 rfl (o_len ?_)
  refine q0 rfl (o_move ?_)
  refine rg_nil ?_
  refine go_block ?_
  refine go_loopI (X := Nat × SH × List BP) (fun s => s.1 ≤ t.sys.length ∧ s.2.2.length = s.1 ∧ s.2.2.map (·.1) = t.sys.take s.1) (fun s => [(2, .pointer (some ⟨b2, 0, none⟩)), (3, .pointer (some ⟨b3, 0, none⟩)), (20, sl vs t.sys.length), (21, .int .i64 (t.sys.length : Int)), (22, .int .i64 (s.1 : Int))]) (fun s => [BPs s.2.2, BLx t.sys vs VF VK, CL t.r x14, TL t.kids x17]) (fun s => [boxR b3 [.int .i64 t.kind, .int .i64 t.n, .string t.name, sl x14 t.r.length, sl x17 t.kids.length, sl s.2.1 s.1] 26, rowS 2 71 s.2.1 s.1 (bpFlat s.2.2), boxR b2 [.int .i64 0, .int .i64 0, .string ⟨#[]⟩, .slice none 0 0, .slice none 0 0, .slice none 0 0] 26]) (fun s => t.sys.length - s.1) ((0, (none, 0), [])) (⟨Nat.zero_le _, rfl, rfl⟩) (by exact ⟨rfl, rfl, rfl, rfl, rfl, trivial⟩) ?_ ?_
  · exact fun w hs => (((hs.rowS0 2 71).bpNil).less (by simp +contextual)).perm perm1 |>.dropR (A := [_, _, _])
  · intro ⟨i, a3, ps⟩ base0 ⟨hi, hpl, hpm⟩ next0
    dsimp only at hi hpl hpm next0 ⊢
    refine go_seq ?_
    refine go_region ⟨_, Tryz.func36⟩ rfl ?_
    refine q0 rfl (o_lss ?_)
    refine rg_nil ?_
    refine go_seq ?_
    refine go_condI (fun h23 => ?_) (fun h23 => ?_)
    · have hlt : i < t.sys.length := by have := of_decide_eq_true h23; omega
      obtain ⟨bk, o, hav⟩ := hA1 (by omega)
      refine go_skip ?_
      refine go_seq ?_
      refine go_block ?_
      refine go_seq ?_
      refine go_region ⟨_, Tryz.func36⟩ rfl ?_
      refine q0 rfl (o_ixN ?_)
      refine q0 rfl (o_ldB ?_)
      refine q0 rfl (o_new fun b5 => ?_)
      refine q0 rfl (o_st ?_)
      refine rg_nil ?_
      refine go_branch (bs := t.sys) (a := vs) (VF := VF) (VK := VK) i hlt ?_
      refine go_draw (tn := false) (A := [0, 1, 0, 4, 12, 0, 32, 124, 252, 508, 1023, 2047, 4095]) (l := [0, 1, 2, 3, 5, 6, 4, 7, 8, 9]) (fin := [10, 11, 12]) Tab.mixed ⟨_, Tryz.func36⟩ (by rfl) ?_
      refine n0 rfl (v_fa ?_)
      refine n0 rfl (v_ld ?_)
      refine n0 rfl (v_fa ?_)
      refine n0 rfl (v_ld ?_)
      refine n0 rfl (v_fa ?_)
      refine n0 rfl (v_ld ?_)
      refine n0 rfl (v_call Tryz.call70 (clone_spec (t.sys.getD i br0).face (VF i)) (fun x30 => ?_))
      refine n0 rfl (v_call Tryz.call71 (copied_walk (t.sys.getD i br0).kids (VK i) (fun k hk => (by obtain ⟨p, hp, e⟩ := sys_mem_parts (getD_mem hlt) hk; exact e ▸ ih p hp))) (fun x33 => ?_))
      refine n0 rfl (v_build (cs := bc (t.sys.getD i br0) x30 x33) ?_)
      refine n0 rfl (v_lit1 fun b35 => ?_)
      refine NV.done ?_
      refine q0 rfl (o_appS (fun a36 => ?_)  )
      refine q0 rfl (o_fa ?_)
      refine q0 rfl (o_stc ?_)
      refine rg_nil ?_
      refine go_inBlock ?_
      refine go_region ⟨_, Tryz.func36⟩ rfl ?_
      refine q0 rfl (o_add ?_)
      refine q0 rfl (o_move ?_)
      refine rg_nil ?_
      refine go_state (fun w hs => ?_) (next0 (i + 1, a36, ps ++ [(t.sys.getD i br0, x30, x33)]) _ ⟨hlt, by simp [hpl], by simp only [List.map_append, List.map_cons, List.map_nil, hpm]; exact (take_succ_getD hlt).symm⟩ (by simp only; omega) ⟨rfl, rfl, rfl, rfl, rfl, trivial⟩)
      have h1 := hs.bpAdd (ps := ps) (f := (t.sys.getD i br0).face) (ks := (t.sys.getD i br0).kids) (vf := x30) (vk := x33) (by simp) (by simp) (by simp)
      rw [Br.eta] at h1
      have e1 : bpFlat (ps ++ [(t.sys.getD i br0, x30, x33)]) = bpFlat ps ++ bc (t.sys.getD i br0) x30 x33 := by simp [bpFlat, bpCells]
      rw [e1]
      have h2 := h1.less (Γ' := [BPs (ps ++ [(t.sys.getD i br0, x30, x33)]), BLx t.sys vs VF VK, CL t.r x14, TL t.kids x17]) (by simp +contextual)
      exact ((h2.perm (perm4.trans (perm2.trans perm2))).dropR (A := [_, _, _]))
    · have hge : i = t.sys.length := by have := of_decide_eq_false h23; omega
      refine go_exit rfl ?_
      refine go_seq ?_
      refine go_region ⟨_, Tryz.func36⟩ rfl ?_
      refine q0 rfl (o_lds ?_)
      refine q0 rfl (o_st ?_)
      refine rg_nil ?_
      have hm2 : ps.map (·.1) = t.sys := by rw [hpm, hge, List.take_length]
      refine retC Tryz.func36 Tryz.results36 (x14, x17, a3) rfl mm_ rfl rfl rfl (by simp only [tc, hge]; rfl) (fun w hs => ?_)
      have h2 := (hs.perm perm2).settleBL hB (by simp) rfl hm2 (by omega) (by unfold reach at *; omega)
      have h3 := h2.mkRT hk hn hnm (r := t.r) (vr := x14) (ks := t.kids) (vk := x17) (ss := t.sys) (vs := a3) (by simp) (by simp) (by simp)
      rw [T.eta] at h3
      exact (h3.bare).less (by simp)
theorem copy_spec : ∀ t : T, CopyAt t := T.ind fun t ih vr vk vs => copy_walk t ih vr vk vs
end Go.Hy
namespace Go.Hy
set_option linter.unusedVariables false
set_option linter.unusedSimpArgs false
set_option linter.unusedSectionVars false
open Go.Proofs
set_option linter.unusedVariables false
set_option linter.unusedSimpArgs false
set_option maxRecDepth 100000
def varT (n : Int) : T := .mk 1 n ⟨#[]⟩ [] [] []
def lamT (t : T) : T := .mk 5 0 ⟨#[]⟩ [] [t] []
theorem in_lit {n : Int} (h : 0 ≤ n) (h2 : n ≤ 1000) : in64 n := by unfold in64; omega
def kidInts : List Int := [-1, 0, 0, 0, 2, 1, 2, 2, 2, 1, 1, 3, 1, 3, 2, 2, 1, 1, 1, 0, 0, 0, 4, 1, 0, 0, 1, 5, 2]
def kidTab : List Value := kidInts.map (fun z => .int .i64 z)
def kidPV : List (Nat × Value) := [(0, .int .i64 (-1)), (1, .int .i64 (0)), (2, .int .i64 (0)), (3, .int .i64 (0)), (4, .int .i64 (2)), (5, .int .i64 (1)), (6, .int .i64 (2)), (7, .int .i64 (2)), (8, .int .i64 (2)), (9, .int .i64 (1)), (10, .int .i64 (1)), (11, .int .i64 (3)), (12, .int .i64 (1)), (13, .int .i64 (3)), (14, .int .i64 (2)), (15, .int .i64 (2)), (16, .int .i64 (1)), (17, .int .i64 (1)), (18, .int .i64 (1)), (19, .int .i64 (0)), (20, .int .i64 (0)), (21, .int .i64 (0)), (22, .int .i64 (4)), (23, .int .i64 (1)), (24, .int .i64 (0)), (25, .int .i64 (0)), (26, .int .i64 (1)), (27, .int .i64 (5)), (28, .int .i64 (2))]
theorem kidFill : Instr.fill (fun i => some (i * 1, 1)) (Value.agg #[.int .i64 0, .int .i64 0, .int .i64 0, .int .i64 0, .int .i64 0, .int .i64 0, .int .i64 0, .int .i64 0, .int .i64 0, .int .i64 0, .int .i64 0, .int .i64 0, .int .i64 0, .int .i64 0, .int .i64 0, .int .i64 0, .int .i64 0, .int .i64 0, .int .i64 0, .int .i64 0, .int .i64 0, .int .i64 0, .int .i64 0, .int .i64 0, .int .i64 0, .int .i64 0, .int .i64 0, .int .i64 0, .int .i64 0]).cells kidPV = some kidTab.toArray := by kernel_rfl
theorem kidInts_get : ∀ n : Fin 29, kidInts[n.1]? = some (kidsN (n.1 : Int)) := by decide
theorem kidTab_get (n : Fin 29) : kidTab[n.1]? = some (.int .i64 (kidsN (n.1 : Int))) := by
  unfold kidTab; rw [List.getElem?_map, kidInts_get n]; rfl
theorem kidTab_at {k : Int} (h0 : 0 ≤ k) (h1 : k < 29) : kidTab[0 + k.toNat * 1]? = some (.int .i64 (kidsN k)) := by
  have := kidTab_get ⟨k.toNat, by omega⟩
  simp only [Int.toNat_of_nonneg h0] at this
  rw [Nat.zero_add, Nat.mul_one]; exact this
theorem kidsN_out {k : Int} (h : k < 0 ∨ 28 < k) : kidsN k = -1 := by
  unfold kidsN; repeat rw [if_neg (by omega)]
theorem rkids_spec (k : Int) : Spec Tryz.prog 57 #[.int .i64 k] [] [] (fun _ : Unit => .int .i64 (kidsN k)) (fun _ => []) (fun _ => []) := by
  refine spec_go (args := [.int .i64 k]) Tryz.func57 Tryz.ntmps57 rfl (by exact Nat.le_of_ble_eq_true rfl) fun B hB => ?_
  refine go_seq ?_
  refine go_region ⟨_, Tryz.func57⟩ rfl ?_
  refine q0 rfl (o_assign ?_)
  refine rg_nil ?_
  refine go_seq ?_
  refine go_region ⟨_, Tryz.func57⟩ rfl ?_
  refine q0 rfl (o_buildA (pv := kidPV) (cs := kidTab) ?_ (hp := by rfl) (hb := kidFill))
  refine q0 rfl (o_new fun b3 => ?_)
  refine q0 rfl (o_st ?_)
  refine rg_nil ?_
  refine go_seq ?_
  refine go_seq ?_
  refine go_cutS ([(0, .int .i64 k), (3, .pointer (some ⟨b3, 0, none⟩)), (10, .bool (decide (k < 0) || decide (28 < k)))]) (fun hK => ?_) (fun base => ?_)
  · refine go_region ⟨_, Tryz.func57⟩ rfl ?_
    refine q0 rfl (o_move ?_)
    refine q0 rfl (o_lss ?_)
    refine q0 rfl (o_move ?_)
    refine qI rfl rfl rfl wl_ (fun hg7 => o_move ?_) (fun hg7 => ?_)
    · refine qT rfl rfl rfl (o_gtr ?_)
      refine q0 rfl (o_pickF ?_)
      refine rg_nil ?_
      exact hK _ ⟨rfl, rfl, (by (conv => lhs; whnf); first | (simp_all; done) | (simp_all; omega)), trivial⟩
    · refine qF rfl rfl rfl ?_
      refine q0 rfl (o_pickT ?_)
      refine rg_nil ?_
      exact hK _ ⟨rfl, rfl, (by (conv => lhs; whnf); first | (simp_all; done) | (simp_all; omega)), trivial⟩
  · refine go_condI (fun h10 => ?_) (fun h10 => ?_)
    · have hb : k < 0 ∨ 28 < k := by simpa using h10
      refine go_seq ?_
      refine go_region ⟨_, Tryz.func57⟩ rfl ?_
      refine q0 rfl (o_assign ?_)
      refine rg_nil ?_
      refine ret1 Tryz.func57 Tryz.results57 wn_ () (by rw [kidsN_out hb]) (fun w hs => hs.none)
    · have hb : 0 ≤ k ∧ k ≤ 28 := by simpa using h10
      refine go_skip ?_
      refine go_seq ?_
      refine go_region ⟨_, Tryz.func57⟩ rfl ?_
      refine q0 rfl (o_move ?_)
      refine q0 rfl (o_ixA ?_ (j := k) (m := 29))
      refine q0 rfl (o_ld ?_ (cs := kidTab) (k := 0 + k.toNat * 1) (hk := kidTab_at (by omega) (by omega)))
      refine q0 rfl (o_assign ?_)
      refine rg_nil ?_
      refine ret1 Tryz.func57 Tryz.results57 wn_ () rfl (fun w hs => hs.none)
end Go.Hy
namespace Go.Hy
set_option linter.unusedVariables false
set_option linter.unusedSimpArgs false
set_option linter.unusedSectionVars false
open Go.Proofs
set_option linter.unusedVariables false
set_option linter.unusedSimpArgs false
set_option maxRecDepth 100000
theorem rpower (n : Int) (h0 : 0 ≤ n) (hn : n ≤ 40) : Spec Tryz.prog 78 #[.int .i64 (n)] [] [] (fun _ : Unit => .int .i64 (((2 ^ n.toNat : Nat) : Int))) (fun _ : Unit => []) (fun _ : Unit => []) := by
  refine spec_go (args := [.int .i64 (n)]) Tryz.func78 Tryz.ntmps78 rfl (by exact Nat.le_of_ble_eq_true rfl) fun B hB => ?_
  refine go_seq ?_
  refine go_region ⟨_, Tryz.func78⟩ rfl ?_
  refine q0 rfl (o_assign ?_)
  refine rg_nil ?_
  refine go_seq ?_
  refine go_region ⟨_, Tryz.func78⟩ rfl ?_
  refine q0 rfl (o_assign ?_)
  refine rg_nil ?_
  refine go_seq ?_
  refine go_seq ?_
  refine go_region ⟨_, Tryz.func78⟩ rfl ?_
  refine q0 rfl (o_assign ?_)
  refine rg_nil ?_
  refine go_block ?_
  refine go_loopE (X := Nat) (fun s_ => (s_ : Int) ≤ n) (fun s_ => [(0, .int .i64 (n)), (3, .int .i64 (((2 ^ s_ : Nat) : Int))), (4, .int .i64 ((s_ : Int)))]) (fun s_ G_ => G_) (fun s_ => []) (fun s_ => n.toNat - s_) (0) (by simpa using h0) (by exact ⟨rfl, rfl, rfl, trivial⟩) ?_ ?_
  · exact fun w hs => hs
  · intro i base0 hi0 next0
    have hpw : 2 ^ i ≤ 2 ^ 40 := Nat.pow_le_pow_right (by omega) (by omega)
    have hpz : (0 : Int) ≤ ((2 ^ i : Nat) : Int) := Int.natCast_nonneg _
    refine go_seq ?_
    refine go_seq ?_
    refine go_region ⟨_, Tryz.func78⟩ rfl ?_
    refine q0 rfl (o_move ?_)
    refine q0 rfl (o_move ?_)
    refine q0 rfl (o_lss ?_)
    refine rg_nil ?_
    refine go_condI (fun h7 => ?_) (fun h7 => ?_)
    · have c7 : (decide ((i : Int) < n)) = true := h7
      try simp only [sC, bne_iff_ne, beq_iff_eq, ne_eq] at c7
      refine go_skip ?_
      refine go_seq ?_
      refine go_block ?_
      refine go_region ⟨_, Tryz.func78⟩ rfl ?_
      refine q0 rfl (o_move ?_)
      refine q0 rfl (o_mul ?_)
      refine q0 rfl (o_assign ?_)
      refine rg_nil ?_
      refine go_inBlock ?_
      refine go_region ⟨_, Tryz.func78⟩ rfl ?_
      refine q0 rfl (o_move ?_)
      refine q0 rfl (o_add ?_)
      refine q0 rfl (o_assign ?_)
      refine rg_nil ?_
      refine go_state (fun w hs => ?_) (next0 (i + 1) _ (by omega) (by omega) ⟨rfl, (by (conv => lhs; whnf); rw [Nat.pow_succ]; push_cast; rfl), rfl, trivial⟩)
      exact (hs.less (by simp +contextual))
    · have c7 : (decide ((i : Int) < n)) = false := h7
      try simp only [sC, bne_iff_ne, beq_iff_eq, ne_eq] at c7
      have he : n.toNat = i := by omega
      refine go_exit rfl ?_
      refine go_seq ?_
      refine go_region ⟨_, Tryz.func78⟩ rfl ?_
      refine q0 rfl (o_move ?_)
      refine q0 rfl (o_assign ?_)
      refine rg_nil ?_
      refine ret1 Tryz.func78 Tryz.results78 wn_ () (by rw [he]) (fun w hs => hs.none)
theorem rhas (s : Nat) (i : Int) (hs : s < 4294967296) : Spec Tryz.prog 76 #[.int .u32 ((s : Nat) : Int), .int .i64 (i)] [] [] (fun _ : Unit => .bool ((hasM s i))) (fun _ : Unit => []) (fun _ : Unit => []) := by
  refine spec_go (args := [.int .u32 ((s : Nat) : Int), .int .i64 (i)]) Tryz.func76 Tryz.ntmps76 rfl (by exact Nat.le_of_ble_eq_true rfl) fun B hB => ?_
  refine go_seq ?_
  refine go_region ⟨_, Tryz.func76⟩ rfl ?_
  refine q0 rfl (o_assign ?_)
  refine rg_nil ?_
  refine go_seq ?_
  refine go_cutS ([(4, .bool (((decide (0 ≤ i)) && (decide (i < 24))) && (decide (((s / 2 ^ i.toNat % 2 : Nat) : Int) = 1))))]) (fun hK => ?_) (fun base => ?_)
  · refine go_region ⟨_, Tryz.func76⟩ rfl ?_
    refine q0 rfl (o_move ?_)
    refine q0 rfl (o_geq ?_)
    refine q0 rfl (o_move ?_)
    refine qI rfl rfl rfl wl_ (fun hg7 => ?_) (fun hg7 => ?_)
    · have g7 : (decide (0 ≤ i)) = true := hg7
      try simp only [sC, bne_iff_ne, beq_iff_eq, ne_eq] at g7
      refine o_move ?_
      refine qT rfl rfl rfl (o_lss ?_)
      refine q0 rfl (o_pickT ?_)
      refine q0 rfl (o_move ?_)
      refine qI rfl rfl rfl wl_ (fun hg11 => ?_) (fun hg11 => ?_)
      · have g11 : (decide (i < 24)) = true := hg11
        try simp only [sC, bne_iff_ne, beq_iff_eq, ne_eq] at g11
        refine o_move ?_
        refine qT rfl rfl rfl (o_convUI ?_)
        refine qT rfl rfl rfl (o_move ?_)
        refine qT rfl rfl rfl (o_call Tryz.call78 (rpower i om_ om_) (fun x15 => ?_))
        refine qT rfl rfl rfl (o_quoN ?_ (a := s) (b := 2 ^ i.toNat))
        refine qT rfl rfl rfl (o_remN ?_ (a := s / 2 ^ i.toNat) (b := 2))
        refine qT rfl rfl rfl (o_eqI ?_ (a := ((s / 2 ^ i.toNat % 2 : Nat) : Int)) (b := 1))
        refine q0 rfl (o_pickT ?_)
        refine q0 rfl (o_assign ?_)
        refine rg_nil ?_
        exact hK _ ⟨(by first | rfl | ((conv => lhs; whnf); first | (simp_all [hasM_eq]; done) | (simp_all [hasM_eq]; omega))), trivial⟩
      · have g11 : (decide (i < 24)) = false := hg11
        try simp only [sC, bne_iff_ne, beq_iff_eq, ne_eq] at g11
        refine qF rfl rfl rfl ?_
        refine qF rfl rfl rfl ?_
        refine qF rfl rfl rfl ?_
        refine qF rfl rfl rfl ?_
        refine qF rfl rfl rfl ?_
        refine qF rfl rfl rfl ?_
        refine q0 rfl (o_pickF ?_)
        refine q0 rfl (o_assign ?_)
        refine rg_nil ?_
        exact hK _ ⟨(by first | rfl | ((conv => lhs; whnf); first | (simp_all [hasM_eq]; done) | (simp_all [hasM_eq]; omega))), trivial⟩
    · have g7 : (decide (0 ≤ i)) = false := hg7
      try simp only [sC, bne_iff_ne, beq_iff_eq, ne_eq] at g7
      refine qF rfl rfl rfl ?_
      refine q0 rfl (o_pickF ?_)
      refine q0 rfl (o_move ?_)
      refine qF rfl rfl rfl ?_
      refine qF rfl rfl rfl ?_
      refine qF rfl rfl rfl ?_
      refine qF rfl rfl rfl ?_
      refine qF rfl rfl rfl ?_
      refine qF rfl rfl rfl ?_
      refine qF rfl rfl rfl ?_
      refine q0 rfl (o_pickF ?_)
      refine q0 rfl (o_assign ?_)
      refine rg_nil ?_
      exact hK _ ⟨(by first | rfl | ((conv => lhs; whnf); first | (simp_all [hasM_eq]; done) | (simp_all [hasM_eq]; omega))), trivial⟩
  · refine ret1 Tryz.func76 Tryz.results76 wn_ () (congrArg Value.bool (by rw [hasM_eq, show decide (((s / 2 ^ i.toNat % 2 : Nat) : Int) = 1) = decide (s / 2 ^ i.toNat % 2 = 1) from decide_eq_decide.mpr (by omega)])) (fun w hs => hs.none)
theorem p24 : (2 ^ (24 : Int).toNat : Nat) = 16777216 := by decide +kernel
theorem rmright (s : Nat) (hs : s < 4294967296) : Spec Tryz.prog 101 #[.int .u32 ((s : Nat) : Int)] [] [] (fun _ : Unit => .bool ((decide (s < 16777216)))) (fun _ : Unit => []) (fun _ : Unit => []) := by
  refine spec_go (args := [.int .u32 ((s : Nat) : Int)]) Tryz.func101 Tryz.ntmps101 rfl (by exact Nat.le_of_ble_eq_true rfl) fun B hB => ?_
  refine go_seq ?_
  refine go_region ⟨_, Tryz.func101⟩ rfl ?_
  refine q0 rfl (o_assign ?_)
  refine rg_nil ?_
  refine go_seq ?_
  refine go_region ⟨_, Tryz.func101⟩ rfl ?_
  refine q0 rfl (o_move ?_)
  refine q0 rfl (o_convUI ?_)
  refine q0 rfl (o_call Tryz.call78 (rpower 24 om_ om_) (fun x5 => ?_))
  refine q0 rfl (o_lss ?_)
  refine q0 rfl (o_assign ?_)
  refine rg_nil ?_
  refine ret1 Tryz.func101 Tryz.results101 wn_ () (congrArg Value.bool (decide_eq_decide.mpr (by rw [p24]; omega))) (fun w hs => hs.none)
theorem rlist (s : Nat) (hs : s < 4294967296) : Spec Tryz.prog 84 #[.int .u32 ((s : Nat) : Int)] [] [] (fun x : SH => sl x (listM s).length) (fun x : SH => [IL (listM s) x]) (fun x : SH => []) := by
  refine spec_go (args := [.int .u32 ((s : Nat) : Int)]) Tryz.func84 Tryz.ntmps84 rfl (by exact Nat.le_of_ble_eq_true rfl) fun B hB => ?_
  refine go_seq ?_
  refine go_region ⟨_, Tryz.func84⟩ rfl ?_
  refine q0 rfl (o_assign ?_)
  refine rg_nil ?_
  refine go_seq ?_
  refine go_region ⟨_, Tryz.func84⟩ rfl ?_
  refine q0 rfl (o_assign ?_)
  refine rg_nil ?_
  refine go_seq ?_
  refine go_seq ?_
  refine go_region ⟨_, Tryz.func84⟩ rfl ?_
  refine q0 rfl (o_assign ?_)
  refine rg_nil ?_
  refine go_block ?_
  refine go_loopE (X := Nat × SH) (fun s_ => s_.1 ≤ 24) (fun s_ => [(0, .int .u32 ((s : Nat) : Int)), (3, sl s_.2 ((listTo s s_.1).length)), (4, .int .i64 ((s_.1 : Int)))]) (fun s_ G_ => G_) (fun s_ => [rowS 1 3 s_.2 ((listTo s s_.1).length) (intFlat (listTo s s_.1))]) (fun s_ => 24 - s_.1) (0, (none, 0)) (by omega) (by exact ⟨rfl, rfl, rfl, trivial⟩) ?_ ?_
  · exact fun w hs => (hs.rowS0 1 3)
  · intro ⟨i, a⟩ base0 hi0 next0
    dsimp only at hi0 next0 ⊢
    have hln := listTo_len s i
    refine go_seq ?_
    refine go_seq ?_
    refine go_region ⟨_, Tryz.func84⟩ rfl ?_
    refine q0 rfl (o_move ?_)
    refine q0 rfl (o_lss ?_)
    refine rg_nil ?_
    refine go_condI (fun h6 => ?_) (fun h6 => ?_)
    · have c6 : (decide ((i : Int) < 24)) = true := h6
      try simp only [sC, bne_iff_ne, beq_iff_eq, ne_eq] at c6
      refine go_skip ?_
      refine go_seq ?_
      refine go_block ?_
      refine go_seq ?_
      refine go_region ⟨_, Tryz.func84⟩ rfl ?_
      refine q0 rfl (o_move ?_)
      refine q0 rfl (o_move ?_)
      refine q0 rfl (o_call Tryz.call76 (rhas s (i : Int) om_) (fun x11 => ?_))
      refine rg_nil ?_
      refine go_condI (fun h11 => ?_) (fun h11 => ?_)
      · have c11 : ((hasM s (i : Int))) = true := h11
        try simp only [sC, bne_iff_ne, beq_iff_eq, ne_eq] at c11
        refine go_region ⟨_, Tryz.func84⟩ rfl ?_
        refine q0 rfl (o_move ?_)
        refine q0 rfl (o_move ?_)
        refine q0 rfl (o_lit1 fun b14 => ?_)
        refine q0 rfl (o_appS (fun a15 => ?_) (a := a) (n' := (listTo s i).length))
        refine rg_state (fun w hs => ((hs.perm perm1).drop).snocI) ?_
        refine q0 rfl (o_assign ?_)
        refine rg_nil ?_
        refine go_inBlock ?_
        refine go_region ⟨_, Tryz.func84⟩ rfl ?_
        refine q0 rfl (o_move ?_)
        refine q0 rfl (o_add ?_)
        refine q0 rfl (o_assign ?_)
        refine rg_nil ?_
        have hnx : listTo s (i + 1) = listTo s i ++ [(i : Int)] := by rw [listTo_succ, if_pos]; simp [hasM] at c11; exact c11.2
        refine go_state (fun w hs => ?_) (next0 (i + 1, a15) _ (by omega) (by (try simp only); omega) ⟨rfl, (by (conv => lhs; whnf); simp [sl, hnx]), rfl, trivial⟩)
        rw [hnx]; simpa using (hs.less (by simp +contextual))
      · have c11 : ((hasM s (i : Int))) = false := h11
        try simp only [sC, bne_iff_ne, beq_iff_eq, ne_eq] at c11
        refine go_skip ?_
        refine go_inBlock ?_
        refine go_region ⟨_, Tryz.func84⟩ rfl ?_
        refine q0 rfl (o_move ?_)
        refine q0 rfl (o_add ?_)
        refine q0 rfl (o_assign ?_)
        refine rg_nil ?_
        have hnx : listTo s (i + 1) = listTo s i := by rw [listTo_succ, if_neg]; simp [hasM] at c11; simp [c11 (by omega)]
        refine go_state (fun w hs => ?_) (next0 (i + 1, a) _ (by omega) (by (try simp only); omega) ⟨rfl, (by (conv => lhs; whnf); simp [sl, hnx]), rfl, trivial⟩)
        rw [hnx]; exact (hs.less (by simp +contextual))
    · have c6 : (decide ((i : Int) < 24)) = false := h6
      try simp only [sC, bne_iff_ne, beq_iff_eq, ne_eq] at c6
      refine go_exit rfl ?_
      refine go_seq ?_
      refine go_region ⟨_, Tryz.func84⟩ rfl ?_
      refine q0 rfl (o_move ?_)
      refine q0 rfl (o_assign ?_)
      refine rg_nil ?_
      have he : i = 24 := by omega
      subst he
      refine ret1 Tryz.func84 Tryz.results84 wn_ a rfl (fun w hs => (hs.settleIL hB rfl rfl (by unfold reach; omega) (fun c hc => by have := listTo_in hc; unfold in64; omega)).less (by simp))
theorem rset (l : List Int) (a_l : SH) (hl : l.length ≤ 64) (hx : ∀ x, x ∈ l → 0 ≤ x ∧ x < 24) : Spec Tryz.prog 44 #[sl a_l (l.length)] [IL l a_l] [] (fun _ : Unit => .int .u32 (((setM l) : Nat) : Int)) (fun _ : Unit => []) (fun _ : Unit => []) := by
  refine spec_go (args := [sl a_l (l.length)]) Tryz.func44 Tryz.ntmps44 rfl (by exact Nat.le_of_ble_eq_true rfl) fun B hB => ?_
  refine go_openIL (l := l) (a := a_l) (fun hl1 hA1 hU1 => ?_)
  refine go_seq ?_
  refine go_region ⟨_, Tryz.func44⟩ rfl ?_
  refine q0 rfl (o_assign ?_)
  refine rg_nil ?_
  refine go_seq ?_
  refine go_region ⟨_, Tryz.func44⟩ rfl ?_
  refine q0 rfl (o_assign ?_)
  refine rg_nil ?_
  refine go_seq ?_
  refine go_seq ?_
  refine go_region ⟨_, Tryz.func44⟩ rfl ?_
  refine q0 rfl (o_assign ?_)
  refine rg_nil ?_
  refine go_block ?_
  refine go_loopE (X := Nat) (fun s_ => s_ ≤ l.length) (fun s_ => [(0, sl a_l (l.length)), (3, .int .i64 (((setTo l s_ : Nat) : Int))), (4, .int .i64 ((s_ : Int)))]) (fun s_ G_ => G_) (fun s_ => []) (fun s_ => l.length - s_) (0) (by omega) (by exact ⟨rfl, (by rw [setTo_zero]; rfl), rfl, trivial⟩) ?_ ?_
  · exact fun w hs => hs
  · intro i base0 hi0 next0
    have hst := setTo_le hx i
    refine go_seq ?_
    refine go_seq ?_
    refine go_region ⟨_, Tryz.func44⟩ rfl ?_
    refine q0 rfl (o_move ?_)
    refine q0 rfl (o_move ?_)
    refine q0 rfl (o_len ?_)
    refine q0 rfl (o_lss ?_)
    refine rg_nil ?_
    refine go_condI (fun h8 => ?_) (fun h8 => ?_)
    · have c8 : (decide ((i : Int) < (l.length : Int))) = true := h8
      try simp only [sC, bne_iff_ne, beq_iff_eq, ne_eq] at c8
      have hgx := hx _ (getD_mem (d := 0) (show i < l.length by omega))
      have hg2 : 2 ^ (l.getD i 0).toNat ≤ 2 ^ 24 := Nat.pow_le_pow_right (by omega) (by omega)
      have hpz : (0 : Int) ≤ ((2 ^ (l.getD i 0).toNat : Nat) : Int) := Int.natCast_nonneg _
      refine go_skip ?_
      refine go_seq ?_
      refine go_block ?_
      refine go_region ⟨_, Tryz.func44⟩ rfl ?_
      refine q0 rfl (o_move ?_)
      refine q0 rfl (o_move ?_)
      refine q0 rfl (o_move ?_)
      obtain ⟨bk2, o2, hav2⟩ := hA1 (by omega)
      refine q0 rfl (o_ixN ?_ (j := i))
      refine q0 rfl (o_ldI ?_)
      refine q0 rfl (o_call Tryz.call78 (rpower (l.getD i 0) om_ om_) (fun x16 => ?_))
      refine q0 rfl (o_add ?_)
      refine q0 rfl (o_assign ?_)
      refine rg_nil ?_
      refine go_inBlock ?_
      refine go_region ⟨_, Tryz.func44⟩ rfl ?_
      refine q0 rfl (o_move ?_)
      refine q0 rfl (o_add ?_)
      refine q0 rfl (o_assign ?_)
      refine rg_nil ?_
      refine go_state (fun w hs => ?_) (next0 (i + 1) _ (by omega) (by omega) ⟨rfl, (by (conv => lhs; whnf); rw [setTo_succ (by omega)]; push_cast; rfl), rfl, trivial⟩)
      exact (hs.less (by simp +contextual))
    · have c8 : (decide ((i : Int) < (l.length : Int))) = false := h8
      try simp only [sC, bne_iff_ne, beq_iff_eq, ne_eq] at c8
      have he : i = l.length := by omega
      subst he
      rw [setTo_all] at hst ⊢
      refine go_exit rfl ?_
      refine go_seq ?_
      refine go_region ⟨_, Tryz.func44⟩ rfl ?_
      refine q0 rfl (o_move ?_)
      refine q0 rfl (o_convIU ?_ (a := setM l))
      refine q0 rfl (o_assign ?_)
      refine rg_nil ?_
      refine ret1 Tryz.func44 Tryz.results44 wn_ () (by first | rfl | (simp_all; done) | (simp_all; omega)) (fun w hs => hs.none)
end Go.Hy
namespace Go.Hy
set_option linter.unusedVariables false
set_option linter.unusedSimpArgs false
set_option linter.unusedSectionVars false
open Go.Proofs
set_option linter.unusedVariables false
set_option linter.unusedSimpArgs false
set_option maxRecDepth 100000
theorem rcright (c : Cl) (hc : u32 c) : Spec Tryz.prog 89 #[keyV c] [] [] (fun _ : Unit => .bool ((right24 c))) (fun _ : Unit => []) (fun _ : Unit => []) := by
  refine spec_go (args := [keyV c]) Tryz.func89 Tryz.ntmps89 rfl (by exact Nat.le_of_ble_eq_true rfl) fun B hB => ?_
  have hc1 := hc.1
  have hc2 := hc.2
  refine go_seq ?_
  refine go_region ⟨_, Tryz.func89⟩ rfl ?_
  refine q0 rfl (o_box fun b1 => ?_)
  refine q0 rfl (o_assign ?_)
  refine rg_nil ?_
  refine go_seq ?_
  refine go_cutS ([(2, .bool ((decide (((c).pos) < 16777216)) && (decide (((c).neg) < 16777216))))]) (fun hK => ?_) (fun base => ?_)
  · refine go_region ⟨_, Tryz.func89⟩ rfl ?_
    refine q0 rfl (o_fa ?_)
    refine q0 rfl (o_ld ?_)
    refine q0 rfl (o_call Tryz.call101 (rmright ((c).pos) om_) (fun x5 => ?_))
    refine q0 rfl (o_move ?_)
    refine qI rfl rfl rfl wl_ (fun hg6 => ?_) (fun hg6 => ?_)
    · have g6 : ((decide (((c).pos) < 16777216))) = true := hg6
      try simp only [sC, bne_iff_ne, beq_iff_eq, ne_eq] at g6
      refine o_fa ?_
      refine qT rfl rfl rfl (o_ld ?_)
      refine qT rfl rfl rfl (o_call Tryz.call101 (rmright ((c).neg) om_) (fun x9 => ?_))
      refine q0 rfl (o_pickT ?_)
      refine q0 rfl (o_assign ?_)
      refine rg_nil ?_
      exact hK _ ⟨(by first | rfl | ((conv => lhs; whnf); first | (simp_all [right24]; done) | (simp_all [right24]; omega))), trivial⟩
    · have g6 : ((decide (((c).pos) < 16777216))) = false := hg6
      try simp only [sC, bne_iff_ne, beq_iff_eq, ne_eq] at g6
      refine qF rfl rfl rfl ?_
      refine qF rfl rfl rfl ?_
      refine q0 rfl (o_pickF ?_)
      refine q0 rfl (o_assign ?_)
      refine rg_nil ?_
      exact hK _ ⟨(by first | rfl | ((conv => lhs; whnf); first | (simp_all [right24]; done) | (simp_all [right24]; omega))), trivial⟩
  · refine ret1 Tryz.func89 Tryz.results89 wn_ () (by first | rfl | (simp_all [right24]; done) | (simp_all [right24]; omega)) (fun w hs => hs.none)
theorem rbelow (c : Cl) (d : Cl) (hc : u32 c) (hd : u32 d) : Spec Tryz.prog 102 #[keyV c, keyV d] [] [] (fun _ : Unit => .bool ((below c d))) (fun _ : Unit => []) (fun _ : Unit => []) := by
  refine spec_go (args := [keyV c, keyV d]) Tryz.func102 Tryz.ntmps102 rfl (by exact Nat.le_of_ble_eq_true rfl) fun B hB => ?_
  have hc1 := hc.1
  have hc2 := hc.2
  have hd1 := hd.1
  have hd2 := hd.2
  refine go_seq ?_
  refine go_region ⟨_, Tryz.func102⟩ rfl ?_
  refine q0 rfl (o_box fun b2 => ?_)
  refine q0 rfl (o_box fun b3 => ?_)
  refine q0 rfl (o_assign ?_)
  refine rg_nil ?_
  refine go_seq ?_
  refine go_cutS ([(4, .bool ((decide ((((c).pos) ||| ((d).pos)) = ((c).pos))) && (decide ((((c).neg) ||| ((d).neg)) = ((c).neg)))))]) (fun hK => ?_) (fun base => ?_)
  · refine go_region ⟨_, Tryz.func102⟩ rfl ?_
    refine q0 rfl (o_fa ?_)
    refine q0 rfl (o_ld ?_)
    refine q0 rfl (o_fa ?_)
    refine q0 rfl (o_ld ?_)
    refine q0 rfl (o_orU32 ?_ (a := ((c).pos)) (b := ((d).pos)))
    refine q0 rfl (o_fa ?_)
    refine q0 rfl (o_ld ?_)
    refine q0 rfl (o_eqU ?_ (a := (((c).pos) ||| ((d).pos))) (b := ((c).pos)))
    refine q0 rfl (o_move ?_)
    refine qI rfl rfl rfl wl_ (fun hg13 => ?_) (fun hg13 => ?_)
    · have g13 : (decide ((((c).pos) ||| ((d).pos)) = ((c).pos))) = true := hg13
      try simp only [sC, bne_iff_ne, beq_iff_eq, ne_eq] at g13
      refine o_fa ?_
      refine qT rfl rfl rfl (o_ld ?_)
      refine qT rfl rfl rfl (o_fa ?_)
      refine qT rfl rfl rfl (o_ld ?_)
      refine qT rfl rfl rfl (o_orU32 ?_ (a := ((c).neg)) (b := ((d).neg)))
      refine qT rfl rfl rfl (o_fa ?_)
      refine qT rfl rfl rfl (o_ld ?_)
      refine qT rfl rfl rfl (o_eqU ?_ (a := (((c).neg) ||| ((d).neg))) (b := ((c).neg)))
      refine q0 rfl (o_pickT ?_)
      refine q0 rfl (o_assign ?_)
      refine rg_nil ?_
      exact hK _ ⟨(by first | rfl | ((conv => lhs; whnf); first | (simp_all [below]; done) | (simp_all [below]; omega))), trivial⟩
    · have g13 : (decide ((((c).pos) ||| ((d).pos)) = ((c).pos))) = false := hg13
      try simp only [sC, bne_iff_ne, beq_iff_eq, ne_eq] at g13
      refine qF rfl rfl rfl ?_
      refine qF rfl rfl rfl ?_
      refine qF rfl rfl rfl ?_
      refine qF rfl rfl rfl ?_
      refine qF rfl rfl rfl ?_
      refine qF rfl rfl rfl ?_
      refine qF rfl rfl rfl ?_
      refine q0 rfl (o_pickF ?_)
      refine q0 rfl (o_assign ?_)
      refine rg_nil ?_
      exact hK _ ⟨(by first | rfl | ((conv => lhs; whnf); first | (simp_all [below]; done) | (simp_all [below]; omega))), trivial⟩
  · refine ret1 Tryz.func102 Tryz.results102 wn_ () (by first | rfl | (simp_all [below]; done) | (simp_all [below]; omega)) (fun w hs => hs.none)
theorem rless (c : Cl) (d : Cl) (hc : u32 c) (hd : u32 d) : Spec Tryz.prog 91 #[keyV c, keyV d] [] [] (fun _ : Unit => .bool ((lessC c d))) (fun _ : Unit => []) (fun _ : Unit => []) := by
  refine spec_go (args := [keyV c, keyV d]) Tryz.func91 Tryz.ntmps91 rfl (by exact Nat.le_of_ble_eq_true rfl) fun B hB => ?_
  have hc1 := hc.1
  have hc2 := hc.2
  have hd1 := hd.1
  have hd2 := hd.2
  refine go_seq ?_
  refine go_region ⟨_, Tryz.func91⟩ rfl ?_
  refine q0 rfl (o_box fun b2 => ?_)
  refine q0 rfl (o_box fun b3 => ?_)
  refine q0 rfl (o_assign ?_)
  refine rg_nil ?_
  refine go_seq ?_
  refine go_cutS ([(4, .bool ((decide (((c).pos) < ((d).pos))) || ((decide (((c).pos) = ((d).pos))) && (decide (((c).neg) < ((d).neg))))))]) (fun hK => ?_) (fun base => ?_)
  · refine go_region ⟨_, Tryz.func91⟩ rfl ?_
    refine q0 rfl (o_fa ?_)
    refine q0 rfl (o_ld ?_)
    refine q0 rfl (o_fa ?_)
    refine q0 rfl (o_ld ?_)
    refine q0 rfl (o_lssU ?_ (a := ((c).pos)) (b := ((d).pos)))
    refine q0 rfl (o_move ?_)
    refine qI rfl rfl rfl wl_ (fun hg10 => ?_) (fun hg10 => ?_)
    · have g10 : (decide (((c).pos) < ((d).pos))) = false := hg10
      try simp only [sC, bne_iff_ne, beq_iff_eq, ne_eq] at g10
      refine o_fa ?_
      refine qT rfl rfl rfl (o_ld ?_)
      refine qT rfl rfl rfl (o_fa ?_)
      refine qT rfl rfl rfl (o_ld ?_)
      refine qT rfl rfl rfl (o_eqU ?_ (a := ((c).pos)) (b := ((d).pos)))
      refine qT rfl rfl rfl (o_move ?_)
      refine qI rfl rfl rfl wl_ (fun hg16 => ?_) (fun hg16 => ?_)
      · have g16 : (decide (((c).pos) = ((d).pos))) = true := hg16
        try simp only [sC, bne_iff_ne, beq_iff_eq, ne_eq] at g16
        refine o_fa ?_
        refine qT rfl rfl rfl (o_ld ?_)
        refine qT rfl rfl rfl (o_fa ?_)
        refine qT rfl rfl rfl (o_ld ?_)
        refine qT rfl rfl rfl (o_lssU ?_ (a := ((c).neg)) (b := ((d).neg)))
        refine qT rfl rfl rfl (o_pickT ?_)
        refine q0 rfl (o_pickF ?_)
        refine q0 rfl (o_assign ?_)
        refine rg_nil ?_
        exact hK _ ⟨(by first | rfl | ((conv => lhs; whnf); first | (simp_all [lessC]; done) | (simp_all [lessC]; omega))), trivial⟩
      · have g16 : (decide (((c).pos) = ((d).pos))) = false := hg16
        try simp only [sC, bne_iff_ne, beq_iff_eq, ne_eq] at g16
        refine qF rfl rfl rfl ?_
        refine qF rfl rfl rfl ?_
        refine qF rfl rfl rfl ?_
        refine qF rfl rfl rfl ?_
        refine qT rfl rfl rfl (o_pickF ?_)
        refine q0 rfl (o_pickF ?_)
        refine q0 rfl (o_assign ?_)
        refine rg_nil ?_
        exact hK _ ⟨(by first | rfl | ((conv => lhs; whnf); first | (simp_all [lessC]; done) | (simp_all [lessC]; omega))), trivial⟩
    · have g10 : (decide (((c).pos) < ((d).pos))) = true := hg10
      try simp only [sC, bne_iff_ne, beq_iff_eq, ne_eq] at g10
      refine qF rfl rfl rfl ?_
      refine qF rfl rfl rfl ?_
      refine qF rfl rfl rfl ?_
      refine qF rfl rfl rfl ?_
      refine qF rfl rfl rfl ?_
      refine qU rfl rfl rfl ?_
      refine qU rfl rfl rfl ?_
      refine qU rfl rfl rfl ?_
      refine qU rfl rfl rfl ?_
      refine qU rfl rfl rfl ?_
      refine qF rfl rfl rfl ?_
      refine q0 rfl (o_pickT ?_)
      refine q0 rfl (o_assign ?_)
      refine rg_nil ?_
      exact hK _ ⟨(by first | rfl | ((conv => lhs; whnf); first | (simp_all [lessC]; done) | (simp_all [lessC]; omega))), trivial⟩
  · refine ret1 Tryz.func91 Tryz.results91 wn_ () (by first | rfl | (simp_all [lessC]; done) | (simp_all [lessC]; omega)) (fun w hs => hs.none)
theorem rclash_spec (c : Cl) (hc : u32 c) : Spec Tryz.prog 83 #[keyV c] [] [] (fun _ : Unit => .bool ((rclash c))) (fun _ : Unit => []) (fun _ : Unit => []) := by
  refine spec_go (args := [keyV c]) Tryz.func83 Tryz.ntmps83 rfl (by exact Nat.le_of_ble_eq_true rfl) fun B hB => ?_
  have hc1 := hc.1
  have hc2 := hc.2
  refine go_seq ?_
  refine go_region ⟨_, Tryz.func83⟩ rfl ?_
  refine q0 rfl (o_box fun b1 => ?_)
  refine q0 rfl (o_assign ?_)
  refine rg_nil ?_
  refine go_seq ?_
  refine go_seq ?_
  refine go_region ⟨_, Tryz.func83⟩ rfl ?_
  refine q0 rfl (o_assign ?_)
  refine rg_nil ?_
  refine go_block ?_
  refine go_loopE (X := Nat) (fun s_ => s_ ≤ 24 ∧ ∀ j, j < s_ → (hasM c.pos (j : Int) && hasM c.neg (j : Int)) = false) (fun s_ => [(1, .pointer (some ⟨b1, 0, none⟩)), (3, .int .i64 ((s_ : Int)))]) (fun s_ G_ => G_) (fun s_ => [boxR b1 (clCells c) 89]) (fun s_ => 24 - s_) (0) (⟨by omega, fun j hj => by omega⟩) (by exact ⟨rfl, rfl, trivial⟩) ?_ ?_
  · exact fun w hs => hs
  · intro i base0 ⟨hi, hok⟩ next0
    refine go_seq ?_
    refine go_seq ?_
    refine go_region ⟨_, Tryz.func83⟩ rfl ?_
    refine q0 rfl (o_move ?_)
    refine q0 rfl (o_lss ?_)
    refine rg_nil ?_
    refine go_condI (fun h5 => ?_) (fun h5 => ?_)
    · have c5 : (decide ((i : Int) < 24)) = true := h5
      try simp only [sC, bne_iff_ne, beq_iff_eq, ne_eq] at c5
      refine go_skip ?_
      refine go_seq ?_
      refine go_block ?_
      refine go_seq ?_
      refine go_cutS ([(1, .pointer (some ⟨b1, 0, none⟩)), (3, .int .i64 ((i : Int))), (17, .bool ((hasM ((c).pos) (i : Int)) && (hasM ((c).neg) (i : Int))))]) (fun hK => ?_) (fun base => ?_)
      · refine go_region ⟨_, Tryz.func83⟩ rfl ?_
        refine q0 rfl (o_fa ?_)
        refine q0 rfl (o_ld ?_)
        refine q0 rfl (o_move ?_)
        refine q0 rfl (o_call Tryz.call76 (rhas ((c).pos) (i : Int) om_) (fun x11 => ?_))
        refine q0 rfl (o_move ?_)
        refine qI rfl rfl rfl wl_ (fun hg12 => ?_) (fun hg12 => ?_)
        · have g12 : ((hasM ((c).pos) (i : Int))) = true := hg12
          try simp only [sC, bne_iff_ne, beq_iff_eq, ne_eq] at g12
          refine o_fa ?_
          refine qT rfl rfl rfl (o_ld ?_)
          refine qT rfl rfl rfl (o_move ?_)
          refine qT rfl rfl rfl (o_call Tryz.call76 (rhas ((c).neg) (i : Int) om_) (fun x16 => ?_))
          refine q0 rfl (o_pickT ?_)
          refine rg_nil ?_
          exact hK _ ⟨rfl, rfl, dn_, trivial⟩
        · have g12 : ((hasM ((c).pos) (i : Int))) = false := hg12
          try simp only [sC, bne_iff_ne, beq_iff_eq, ne_eq] at g12
          refine qF rfl rfl rfl ?_
          refine qF rfl rfl rfl ?_
          refine qF rfl rfl rfl ?_
          refine q0 rfl (o_pickF ?_)
          refine rg_nil ?_
          exact hK _ ⟨rfl, rfl, dn_, trivial⟩
      · refine go_condI (fun h17 => ?_) (fun h17 => ?_)
        · have c17 : ((hasM ((c).pos) (i : Int)) && (hasM ((c).neg) (i : Int))) = true := h17
          try simp only [sC, bne_iff_ne, beq_iff_eq, ne_eq] at c17
          refine go_seq ?_
          refine go_region ⟨_, Tryz.func83⟩ rfl ?_
          refine q0 rfl (o_assign ?_)
          refine rg_nil ?_
          have hb : (hasM c.pos (i : Int) && hasM c.neg (i : Int)) = true := by simpa using h17
          refine ret1 Tryz.func83 Tryz.results83 wn_ () (by rw [rclash, List.any_eq_true.mpr ⟨i, List.mem_range.mpr (by omega), hb⟩]) (fun w hs => hs.none)
        · have c17 : ((hasM ((c).pos) (i : Int)) && (hasM ((c).neg) (i : Int))) = false := h17
          try simp only [sC, bne_iff_ne, beq_iff_eq, ne_eq] at c17
          refine go_skip ?_
          refine go_inBlock ?_
          refine go_region ⟨_, Tryz.func83⟩ rfl ?_
          refine q0 rfl (o_move ?_)
          refine q0 rfl (o_add ?_)
          refine q0 rfl (o_assign ?_)
          refine rg_nil ?_
          have hb : (hasM c.pos (i : Int) && hasM c.neg (i : Int)) = false := by simpa using h17
          refine go_state (fun w hs => ?_) (next0 (i + 1) _ (⟨by omega, succ_inv hok hb⟩) (by omega) ⟨rfl, rfl, trivial⟩)
          exact (hs.less (by simp +contextual))
    · have c5 : (decide ((i : Int) < 24)) = false := h5
      try simp only [sC, bne_iff_ne, beq_iff_eq, ne_eq] at c5
      refine go_exit rfl ?_
      refine go_seq ?_
      refine go_region ⟨_, Tryz.func83⟩ rfl ?_
      refine q0 rfl (o_assign ?_)
      refine rg_nil ?_
      refine ret1 Tryz.func83 Tryz.results83 wn_ () (by rw [rclash, List.any_eq_false.mpr (fun j hj => by rw [hok j (by have := List.mem_range.mp hj; omega)]; decide)]) (fun w hs => hs.none)
theorem needless_eq (l : List Cl) (c : Cl) : needless l c = l.any fun d => !decide (d = c) && below c d := by
  unfold needless; congr 1; funext d; rw [show (decide (c = d)) = decide (d = c) from decide_eq_decide.mpr eq_comm]
theorem rneeded (l : List Cl) (a_l : SH) (c : Cl) (hc : u32 c) : Spec Tryz.prog 90 #[sl a_l (l.length), keyV c] [CL l a_l] [] (fun _ : Unit => .bool ((!needless l c))) (fun _ : Unit => []) (fun _ : Unit => []) := by
  refine spec_go (args := [sl a_l (l.length), keyV c]) Tryz.func90 Tryz.ntmps90 rfl (by exact Nat.le_of_ble_eq_true rfl) fun B hB => ?_
  refine go_openCL (l := l) (a := a_l) (fun hl1 hA1 hU1 => ?_)
  have hc1 := hc.1
  have hc2 := hc.2
  refine go_seq ?_
  refine go_region ⟨_, Tryz.func90⟩ rfl ?_
  refine q0 rfl (o_box fun b3 => ?_)
  refine q0 rfl (o_assign ?_)
  refine rg_nil ?_
  refine go_seq ?_
  refine go_seq ?_
  refine go_region ⟨_, Tryz.func90⟩ rfl ?_
  refine q0 rfl (o_assign ?_)
  refine rg_nil ?_
  refine go_block ?_
  refine go_loopE (X := Nat) (fun s_ => s_ ≤ l.length ∧ ∀ j, j < s_ → (!decide (l.getD j cl0 = c) && below c (l.getD j cl0)) = false) (fun s_ => [(0, sl a_l (l.length)), (3, .pointer (some ⟨b3, 0, none⟩)), (5, .int .i64 ((s_ : Int)))]) (fun s_ G_ => G_) (fun s_ => [boxR b3 (clCells c) 89]) (fun s_ => l.length - s_) (0) (⟨by omega, fun j hj => by omega⟩) (by exact ⟨rfl, rfl, rfl, trivial⟩) ?_ ?_
  · exact fun w hs => hs
  · intro i base0 ⟨hi, hok⟩ next0
    refine go_seq ?_
    refine go_seq ?_
    refine go_region ⟨_, Tryz.func90⟩ rfl ?_
    refine q0 rfl (o_move ?_)
    refine q0 rfl (o_move ?_)
    refine q0 rfl (o_len ?_)
    refine q0 rfl (o_lss ?_)
    refine rg_nil ?_
    refine go_condI (fun h9 => ?_) (fun h9 => ?_)
    · have c9 : (decide ((i : Int) < (l.length : Int))) = true := h9
      try simp only [sC, bne_iff_ne, beq_iff_eq, ne_eq] at c9
      have hu := hU1 _ (getD_mem (d := cl0) (show i < l.length by omega))
      have hu1 := hu.1
      have hu2 := hu.2
      refine go_skip ?_
      refine go_seq ?_
      refine go_block ?_
      refine go_seq ?_
      refine go_cutS ([(0, sl a_l (l.length)), (3, .pointer (some ⟨b3, 0, none⟩)), (5, .int .i64 ((i : Int))), (25, .bool ((!decide ((l.getD i cl0) = c)) && (below c (l.getD i cl0))))]) (fun hK => ?_) (fun base => ?_)
      · refine go_draw (tn := false) (A := [0, 0, 3, 7, 0, 31, 63, 127, 127, 127, 895, 1919, 4095, 8191]) (l := [0, 1, 2, 3, 4, 5, 6, 7, 8, 9, 10, 11, 12, 13]) (fin := []) Tab.mixed ⟨_, Tryz.func90⟩ (by rfl) ?_
        refine n0 rfl (v_move ?_)
        refine n0 rfl (v_move ?_)
        obtain ⟨bk2, o2, hav2⟩ := hA1 (by omega)
        refine n0 rfl (v_ixN ?_ (j := i))
        refine n0 rfl (v_ldC ?_)
        refine n0 rfl (v_lds ?_)
        refine n0 rfl (v_neC ?_ (c := (l.getD i cl0)) (c' := c))
        refine n0 rfl (v_move ?_)
        refine nI rfl rfl rfl wl_ (fun hg18 => ?_) (fun hg18 => ?_)
        · have g18 : (!decide ((l.getD i cl0) = c)) = true := hg18
          try simp only [sC, bne_iff_ne, beq_iff_eq, ne_eq] at g18
          refine v_lds ?_
          refine nT rfl rfl rfl (v_move ?_)
          refine nT rfl rfl rfl (v_move ?_)
          refine nT rfl rfl rfl (v_ixN ?_ (j := i))
          refine nT rfl rfl rfl (v_ldC ?_)
          refine nT rfl rfl rfl (v_call Tryz.call102 (rbelow c (l.getD i cl0) om_ om_) (fun x24 => ?_))
          refine n0 rfl (v_pickT ?_)
          refine NV.done ?_
          refine rg_nil ?_
          exact hK _ ⟨rfl, rfl, rfl, dn_, trivial⟩
        · have g18 : (!decide ((l.getD i cl0) = c)) = false := hg18
          try simp only [sC, bne_iff_ne, beq_iff_eq, ne_eq] at g18
          refine nF rfl rfl rfl ?_
          refine nF rfl rfl rfl ?_
          refine nF rfl rfl rfl ?_
          refine nF rfl rfl rfl ?_
          refine nF rfl rfl rfl ?_
          refine n0 rfl (v_pickF ?_)
          refine NV.done ?_
          refine rg_nil ?_
          exact hK _ ⟨rfl, rfl, rfl, dn_, trivial⟩
      · refine go_condI (fun h25 => ?_) (fun h25 => ?_)
        · have c25 : ((!decide ((l.getD i cl0) = c)) && (below c (l.getD i cl0))) = true := h25
          try simp only [sC, bne_iff_ne, beq_iff_eq, ne_eq] at c25
          refine go_seq ?_
          refine go_region ⟨_, Tryz.func90⟩ rfl ?_
          refine q0 rfl (o_assign ?_)
          refine rg_nil ?_
          have hb : (!decide (l.getD i cl0 = c) && below c (l.getD i cl0)) = true := by simpa using h25
          refine ret1 Tryz.func90 Tryz.results90 wn_ () (by rw [needless_eq, any_true_at (d := cl0) (i := i) (by omega) hb]; rfl) (fun w hs => hs.none)
        · have c25 : ((!decide ((l.getD i cl0) = c)) && (below c (l.getD i cl0))) = false := h25
          try simp only [sC, bne_iff_ne, beq_iff_eq, ne_eq] at c25
          refine go_skip ?_
          refine go_inBlock ?_
          refine go_region ⟨_, Tryz.func90⟩ rfl ?_
          refine q0 rfl (o_move ?_)
          refine q0 rfl (o_add ?_)
          refine q0 rfl (o_assign ?_)
          refine rg_nil ?_
          have hb : (!decide (l.getD i cl0 = c) && below c (l.getD i cl0)) = false := by simpa using h25
          refine go_state (fun w hs => ?_) (next0 (i + 1) _ (⟨by omega, succ_inv hok hb⟩) (by omega) ⟨rfl, rfl, rfl, trivial⟩)
          exact (hs.less (by simp +contextual))
    · have c9 : (decide ((i : Int) < (l.length : Int))) = false := h9
      try simp only [sC, bne_iff_ne, beq_iff_eq, ne_eq] at c9
      refine go_exit rfl ?_
      refine go_seq ?_
      refine go_region ⟨_, Tryz.func90⟩ rfl ?_
      refine q0 rfl (o_assign ?_)
      refine rg_nil ?_
      refine ret1 Tryz.func90 Tryz.results90 wn_ () (by rw [needless_eq, any_false_of (d := cl0) (fun j hj => hok j (by omega))]; rfl) (fun w hs => hs.none)
theorem rsameC (l : List Cl) (a_l : SH) (m : List Cl) (a_m : SH)  : Spec Tryz.prog 48 #[sl a_l (l.length), sl a_m (m.length)] [CL l a_l, CL m a_m] [] (fun _ : Unit => .bool ((decide (l = m)))) (fun _ : Unit => []) (fun _ : Unit => []) := by
  refine spec_go (args := [sl a_l (l.length), sl a_m (m.length)]) Tryz.func48 Tryz.ntmps48 rfl (by exact Nat.le_of_ble_eq_true rfl) fun B hB => ?_
  refine go_openCL (l := l) (a := a_l) (fun hl1 hA1 hU1 => ?_)
  refine go_openCL (l := m) (a := a_m) (fun hl2 hA2 hU2 => ?_)
  refine go_seq ?_
  refine go_region ⟨_, Tryz.func48⟩ rfl ?_
  refine q0 rfl (o_assign ?_)
  refine rg_nil ?_
  refine go_seq ?_
  refine go_seq ?_
  refine go_region ⟨_, Tryz.func48⟩ rfl ?_
  refine q0 rfl (o_move ?_)
  refine q0 rfl (o_len ?_)
  refine q0 rfl (o_move ?_)
  refine q0 rfl (o_len ?_)
  refine q0 rfl (o_neI ?_)
  refine rg_nil ?_
  refine go_condI (fun h10 => ?_) (fun h10 => ?_)
  · have c10 : (decide ((l.length : Int) ≠ (m.length : Int))) = true := h10
    try simp only [sC, bne_iff_ne, beq_iff_eq, ne_eq] at c10
    have hne : ¬ l = m := fun e => by subst e; simp at h10
    refine go_seq ?_
    refine go_region ⟨_, Tryz.func48⟩ rfl ?_
    refine q0 rfl (o_assign ?_)
    refine rg_nil ?_
    refine ret1 Tryz.func48 Tryz.results48 wn_ () (by rw [decide_eq_false hne]) (fun w hs => hs.none)
  · have c10 : (decide ((l.length : Int) ≠ (m.length : Int))) = false := h10
    try simp only [sC, bne_iff_ne, beq_iff_eq, ne_eq] at c10
    have hlen : l.length = m.length := by simp at h10; omega
    refine go_skip ?_
    refine go_seq ?_
    refine go_seq ?_
    refine go_region ⟨_, Tryz.func48⟩ rfl ?_
    refine q0 rfl (o_assign ?_)
    refine rg_nil ?_
    refine go_block ?_
    refine go_loopE (X := Nat) (fun s_ => s_ ≤ l.length ∧ ∀ j, j < s_ → l.getD j cl0 = m.getD j cl0) (fun s_ => [(0, sl a_l (l.length)), (1, sl a_m (m.length)), (5, .int .i64 ((s_ : Int)))]) (fun s_ G_ => G_) (fun s_ => []) (fun s_ => l.length - s_) (0) (⟨by omega, fun j hj => by omega⟩) (by exact ⟨rfl, rfl, rfl, trivial⟩) ?_ ?_
    · exact fun w hs => hs
    · intro i base0 ⟨hi, hok⟩ next0
      refine go_seq ?_
      refine go_seq ?_
      refine go_region ⟨_, Tryz.func48⟩ rfl ?_
      refine q0 rfl (o_move ?_)
      refine q0 rfl (o_move ?_)
      refine q0 rfl (o_len ?_)
      refine q0 rfl (o_lss ?_)
      refine rg_nil ?_
      refine go_condI (fun h14 => ?_) (fun h14 => ?_)
      · have c14 : (decide ((i : Int) < (l.length : Int))) = true := h14
        try simp only [sC, bne_iff_ne, beq_iff_eq, ne_eq] at c14
        refine go_skip ?_
        refine go_seq ?_
        refine go_block ?_
        refine go_seq ?_
        refine go_draw (tn := false) (A := [0, 0, 3, 7, 0, 0, 48, 112, 255]) (l := [0, 1, 2, 3, 4, 5, 6, 7, 8]) (fin := []) Tab.mixed ⟨_, Tryz.func48⟩ (by rfl) ?_
        refine n0 rfl (v_move ?_)
        refine n0 rfl (v_move ?_)
        obtain ⟨bk3, o3, hav3⟩ := hA1 (by omega)
        refine n0 rfl (v_ixN ?_ (j := i))
        refine n0 rfl (v_ldC ?_)
        refine n0 rfl (v_move ?_)
        refine n0 rfl (v_move ?_)
        obtain ⟨bk4, o4, hav4⟩ := hA2 (by omega)
        refine n0 rfl (v_ixN ?_ (j := i))
        refine n0 rfl (v_ldC ?_)
        refine n0 rfl (v_neC ?_ (c := (l.getD i cl0)) (c' := (m.getD i cl0)))
        refine NV.done ?_
        refine rg_nil ?_
        refine go_condI (fun h25 => ?_) (fun h25 => ?_)
        · have c25 : (!decide ((l.getD i cl0) = (m.getD i cl0))) = true := h25
          try simp only [sC, bne_iff_ne, beq_iff_eq, ne_eq] at c25
          refine go_seq ?_
          refine go_region ⟨_, Tryz.func48⟩ rfl ?_
          refine q0 rfl (o_assign ?_)
          refine rg_nil ?_
          refine ret1 Tryz.func48 Tryz.results48 wn_ () (by rw [decide_eq_false (fun e => by subst e; simp at h25)]) (fun w hs => hs.none)
        · have c25 : (!decide ((l.getD i cl0) = (m.getD i cl0))) = false := h25
          try simp only [sC, bne_iff_ne, beq_iff_eq, ne_eq] at c25
          refine go_skip ?_
          refine go_inBlock ?_
          refine go_region ⟨_, Tryz.func48⟩ rfl ?_
          refine q0 rfl (o_move ?_)
          refine q0 rfl (o_add ?_)
          refine q0 rfl (o_assign ?_)
          refine rg_nil ?_
          have hb : l.getD i cl0 = m.getD i cl0 := by simpa using h25
          refine go_state (fun w hs => ?_) (next0 (i + 1) _ (⟨by omega, succ_inv hok hb⟩) (by omega) ⟨rfl, rfl, rfl, trivial⟩)
          exact (hs.less (by simp +contextual))
      · have c14 : (decide ((i : Int) < (l.length : Int))) = false := h14
        try simp only [sC, bne_iff_ne, beq_iff_eq, ne_eq] at c14
        refine go_exit rfl ?_
        refine go_seq ?_
        refine go_region ⟨_, Tryz.func48⟩ rfl ?_
        refine q0 rfl (o_assign ?_)
        refine rg_nil ?_
        refine ret1 Tryz.func48 Tryz.results48 wn_ () (by rw [decide_eq_true (list_eq_of hlen (fun j hj => hok j (by omega)))]) (fun w hs => hs.none)
theorem rleast (l : List Cl) (a_l : SH)  : Spec Tryz.prog 82 #[sl a_l (l.length)] [CL l a_l] [] (fun x : SH => .tuple #[sl x (leastF l).2.length, .int .i64 (leastF l).1]) (fun x : SH => [CL (leastF l).2 x]) (fun x : SH => []) := by
  refine spec_go (args := [sl a_l (l.length)]) Tryz.func82 Tryz.ntmps82 rfl (by exact Nat.le_of_ble_eq_true rfl) fun B hB => ?_
  refine go_openCL (l := l) (a := a_l) (fun hl1 hA1 hU1 => ?_)
  refine go_seq ?_
  refine go_region ⟨_, Tryz.func82⟩ rfl ?_
  refine q0 rfl (o_assign ?_)
  refine q0 rfl (o_assign ?_)
  refine rg_nil ?_
  refine go_seq ?_
  refine go_seq ?_
  refine go_region ⟨_, Tryz.func82⟩ rfl ?_
  refine q0 rfl (o_assign ?_)
  refine rg_nil ?_
  refine go_block ?_
  refine go_loopE (X := Nat) (fun s_ => s_ ≤ l.length ∧ ∀ j, j < s_ → right24 (l.getD j cl0) = true) (fun s_ => [(0, sl a_l (l.length)), (4, .int .i64 ((s_ : Int)))]) (fun s_ G_ => G_) (fun s_ => []) (fun s_ => l.length - s_) (0) (⟨by omega, fun j hj => by omega⟩) (by exact ⟨rfl, rfl, trivial⟩) ?_ ?_
  · exact fun w hs => hs
  · intro i base0 ⟨hi, hok⟩ next0
    refine go_seq ?_
    refine go_seq ?_
    refine go_region ⟨_, Tryz.func82⟩ rfl ?_
    refine q0 rfl (o_move ?_)
    refine q0 rfl (o_move ?_)
    refine q0 rfl (o_len ?_)
    refine q0 rfl (o_lss ?_)
    refine rg_nil ?_
    refine go_condI (fun h11 => ?_) (fun h11 => ?_)
    · have c11 : (decide ((i : Int) < (l.length : Int))) = true := h11
      try simp only [sC, bne_iff_ne, beq_iff_eq, ne_eq] at c11
      have hu := hU1 _ (getD_mem (d := cl0) (show i < l.length by omega))
      have hu1 := hu.1
      have hu2 := hu.2
      refine go_skip ?_
      refine go_seq ?_
      refine go_block ?_
      refine go_seq ?_
      refine go_region ⟨_, Tryz.func82⟩ rfl ?_
      refine q0 rfl (o_move ?_)
      refine q0 rfl (o_move ?_)
      obtain ⟨bk2, o2, hav2⟩ := hA1 (by omega)
      refine q0 rfl (o_ixN ?_ (j := i))
      refine q0 rfl (o_ldC ?_)
      refine q0 rfl (o_call Tryz.call89 (rcright (l.getD i cl0) om_) (fun x18 => ?_))
      refine q0 rfl (o_not ?_)
      refine rg_nil ?_
      refine go_condI (fun h19 => ?_) (fun h19 => ?_)
      · have c19 : (!(right24 (l.getD i cl0))) = true := h19
        try simp only [sC, bne_iff_ne, beq_iff_eq, ne_eq] at c19
        have hlf : leastF l = (2, []) := by rw [leastF, if_pos (all_false_at (d := cl0) (i := i) (by omega) (by simpa using h19))]
        refine go_seq ?_
        refine go_region ⟨_, Tryz.func82⟩ rfl ?_
        refine q0 rfl (o_assign ?_)
        refine q0 rfl (o_assign ?_)
        refine rg_nil ?_
        refine ret2 Tryz.func82 Tryz.results82 wn_ wn_ (none, 0) (by rw [hlf]; rfl) (fun w hs => by rw [hlf]; exact (hs.nilCL 0).bare.less (by simp))
      · have c19 : (!(right24 (l.getD i cl0))) = false := h19
        try simp only [sC, bne_iff_ne, beq_iff_eq, ne_eq] at c19
        refine go_skip ?_
        refine go_inBlock ?_
        refine go_region ⟨_, Tryz.func82⟩ rfl ?_
        refine q0 rfl (o_move ?_)
        refine q0 rfl (o_add ?_)
        refine q0 rfl (o_assign ?_)
        refine rg_nil ?_
        have hb : right24 (l.getD i cl0) = true := by simpa using h19
        refine go_state (fun w hs => ?_) (next0 (i + 1) _ (⟨by omega, succ_inv hok hb⟩) (by omega) ⟨rfl, rfl, trivial⟩)
        exact (hs.less (by simp +contextual))
    · have c11 : (decide ((i : Int) < (l.length : Int))) = false := h11
      try simp only [sC, bne_iff_ne, beq_iff_eq, ne_eq] at c11
      have hall : l.all right24 = true := all_true_of (d := cl0) (fun j hj => hok j (by omega))
      refine go_exit rfl ?_
      refine go_seq ?_
      refine go_region ⟨_, Tryz.func82⟩ rfl ?_
      refine q0 rfl (o_assign ?_)
      refine rg_nil ?_
      refine go_seq ?_
      refine go_seq ?_
      refine go_region ⟨_, Tryz.func82⟩ rfl ?_
      refine q0 rfl (o_assign ?_)
      refine rg_nil ?_
      refine go_block ?_
      refine go_loopE (X := Nat × SH) (fun s_ => s_.1 ≤ l.length) (fun s_ => [(0, sl a_l (l.length)), (5, sl s_.2 (((rlTo l s_.1)).length)), (6, .int .i64 ((s_.1 : Int)))]) (fun s_ G_ => CL (rlTo l s_.1) s_.2 :: G_) (fun s_ => []) (fun s_ => l.length - s_.1) (0, (none, 0)) (by omega) (by exact ⟨rfl, (by rw [rlTo_zero]; rfl), rfl, trivial⟩) ?_ ?_
      · exact fun w hs => by rw [rlTo_zero]; exact hs.nilCL 0
      · intro ⟨i, a⟩ base1 hi1 next1
        dsimp only at hi1 next1 ⊢
        refine go_openCL (l := (rlTo l i)) (a := a) (fun hl3 hA3 hU3 => ?_)
        have hrl := rlTo_len l i
        refine go_seq ?_
        refine go_seq ?_
        refine go_region ⟨_, Tryz.func82⟩ rfl ?_
        refine q0 rfl (o_move ?_)
        refine q0 rfl (o_move ?_)
        refine q0 rfl (o_len ?_)
        refine q0 rfl (o_lss ?_)
        refine rg_nil ?_
        refine go_condI (fun h23 => ?_) (fun h23 => ?_)
        · have c23 : (decide ((i : Int) < (l.length : Int))) = true := h23
          try simp only [sC, bne_iff_ne, beq_iff_eq, ne_eq] at c23
          have hu := hU1 _ (getD_mem (d := cl0) (show i < l.length by omega))
          have hu1 := hu.1
          have hu2 := hu.2
          refine go_skip ?_
          refine go_seq ?_
          refine go_block ?_
          refine go_seq ?_
          refine go_seq ?_
          refine go_region ⟨_, Tryz.func82⟩ rfl ?_
          refine q0 rfl (o_move ?_)
          refine q0 rfl (o_move ?_)
          refine q0 rfl (o_move ?_)
          obtain ⟨bk4, o4, hav4⟩ := hA1 (by omega)
          refine q0 rfl (o_ixN ?_ (j := i))
          refine q0 rfl (o_ldC ?_)
          refine q0 rfl (o_call Tryz.call90 (rneeded l a_l (l.getD i cl0) om_) (fun x31 => ?_))
          refine q0 rfl (o_not ?_)
          refine rg_nil ?_
          refine go_condI (fun h32 => ?_) (fun h32 => ?_)
          · have c32 : (!(!needless l (l.getD i cl0))) = true := h32
            try simp only [sC, bne_iff_ne, beq_iff_eq, ne_eq] at c32
            refine go_exit rfl ?_
            refine go_region ⟨_, Tryz.func82⟩ rfl ?_
            refine q0 rfl (o_move ?_)
            refine q0 rfl (o_add ?_)
            refine q0 rfl (o_assign ?_)
            refine rg_nil ?_
            have hnx : rlTo l (i + 1) = rlTo l i := by rw [rlTo_succ (by omega), if_pos (by simpa using h32)]
            refine go_state (fun w hs => ?_) (next1 (i + 1, a) _ (by omega) (by (try simp only); omega) ⟨rfl, (by (conv => lhs; whnf); simp [sl, hnx]), rfl, trivial⟩)
            rw [hnx]; exact (hs.less (by simp +contextual))
          · have c32 : (!(!needless l (l.getD i cl0))) = false := h32
            try simp only [sC, bne_iff_ne, beq_iff_eq, ne_eq] at c32
            refine go_skip ?_
            refine go_seq ?_
            refine go_region ⟨_, Tryz.func82⟩ rfl ?_
            refine q0 rfl (o_assign ?_)
            refine rg_nil ?_
            refine go_seq ?_
            refine go_block ?_
            refine go_loopE (X := Nat) (fun s_ => s_ ≤ (rlTo l i).length ∧ ∀ j, j < s_ → lessC ((rlTo l i).getD j cl0) (l.getD i cl0) = true) (fun s_ => [(0, sl a_l (l.length)), (5, sl a (((rlTo l i)).length)), (6, .int .i64 ((i : Int))), (7, .int .i64 ((s_ : Int)))]) (fun s_ G_ => G_) (fun s_ => []) (fun s_ => (rlTo l i).length - s_) (0) (⟨by omega, fun j hj => by omega⟩) (by exact ⟨rfl, rfl, rfl, rfl, trivial⟩) ?_ ?_
            · exact fun w hs => hs
            · intro k base2 ⟨hk, hk2⟩ next2
              have hvo : k < (rlTo l i).length → u32 ((rlTo l i).getD k cl0) := fun h => hU1 _ (rlTo_in (getD_mem h))
              refine go_seq ?_
              refine go_seq ?_
              refine go_cutS ([(0, sl a_l (l.length)), (5, sl a (((rlTo l i)).length)), (6, .int .i64 ((i : Int))), (7, .int .i64 ((k : Int))), (47, .bool ((decide ((k : Int) < (((rlTo l i)).length : Int))) && (lessC (((rlTo l i)).getD k cl0) (l.getD i cl0))))]) (fun hK => ?_) (fun base => ?_)
              · refine go_draw (tn := false) (A := [0, 0, 2, 7, 15, 31, 31, 127, 255, 31, 31, 1567, 3615, 8191, 16383]) (l := [0, 1, 2, 3, 4, 5, 6, 7, 8, 9, 10, 11, 12, 13, 14]) (fin := []) Tab.mixed ⟨_, Tryz.func82⟩ (by rfl) ?_
                refine n0 rfl (v_move ?_)
                refine n0 rfl (v_move ?_)
                refine n0 rfl (v_len ?_)
                refine n0 rfl (v_lss ?_)
                refine n0 rfl (v_move ?_)
                refine nI rfl rfl rfl wl_ (fun hg37 => ?_) (fun hg37 => ?_)
                · have g37 : (decide ((k : Int) < (((rlTo l i)).length : Int))) = true := hg37
                  try simp only [sC, bne_iff_ne, beq_iff_eq, ne_eq] at g37
                  refine v_move ?_
                  refine nT rfl rfl rfl (v_move ?_)
                  obtain ⟨bk5, o5, hav5⟩ := hA3 (by omega)
                  refine nT rfl rfl rfl (v_ixN ?_ (j := k))
                  refine nT rfl rfl rfl (v_ldC ?_)
                  refine nT rfl rfl rfl (v_move ?_)
                  refine nT rfl rfl rfl (v_move ?_)
                  refine nT rfl rfl rfl (v_ixN ?_ (j := i))
                  refine nT rfl rfl rfl (v_ldC ?_)
                  refine nT rfl rfl rfl (v_call Tryz.call91 (rless (((rlTo l i)).getD k cl0) (l.getD i cl0) om_ om_) (fun x46 => ?_))
                  refine n0 rfl (v_pickT ?_)
                  refine NV.done ?_
                  refine rg_nil ?_
                  exact hK _ ⟨rfl, rfl, rfl, rfl, dn_, trivial⟩
                · have g37 : (decide ((k : Int) < (((rlTo l i)).length : Int))) = false := hg37
                  try simp only [sC, bne_iff_ne, beq_iff_eq, ne_eq] at g37
                  refine nF rfl rfl rfl ?_
                  refine nF rfl rfl rfl ?_
                  refine nF rfl rfl rfl ?_
                  refine nF rfl rfl rfl ?_
                  refine nF rfl rfl rfl ?_
                  refine nF rfl rfl rfl ?_
                  refine nF rfl rfl rfl ?_
                  refine nF rfl rfl rfl ?_
                  refine n0 rfl (v_pickF ?_)
                  refine NV.done ?_
                  refine rg_nil ?_
                  exact hK _ ⟨rfl, rfl, rfl, rfl, dn_, trivial⟩
              · refine go_condI (fun h47 => ?_) (fun h47 => ?_)
                · have c47 : ((decide ((k : Int) < (((rlTo l i)).length : Int))) && (lessC (((rlTo l i)).getD k cl0) (l.getD i cl0))) = true := h47
                  try simp only [sC, bne_iff_ne, beq_iff_eq, ne_eq] at c47
                  refine go_skip ?_
                  refine go_block ?_
                  refine go_region ⟨_, Tryz.func82⟩ rfl ?_
                  refine q0 rfl (o_move ?_)
                  refine q0 rfl (o_add ?_)
                  refine q0 rfl (o_assign ?_)
                  refine rg_nil ?_
                  refine go_inBlock ?_
                  refine go_state (fun w hs => ?_) (next2 (k + 1) _ (⟨by omega, succ_inv hk2 c47.2⟩) (by omega) ⟨rfl, rfl, rfl, rfl, trivial⟩)
                  exact (hs.less (by simp +contextual))
                · have c47 : ((decide ((k : Int) < (((rlTo l i)).length : Int))) && (lessC (((rlTo l i)).getD k cl0) (l.getD i cl0))) = false := h47
                  try simp only [sC, bne_iff_ne, beq_iff_eq, ne_eq] at c47
                  have hlast : k < (rlTo l i).length → lessC ((rlTo l i).getD k cl0) (l.getD i cl0) = false := fun hlt => by simpa [hlt] using h47
                  refine go_exit rfl ?_
                  refine go_seq ?_
                  refine go_cutS ([(0, sl a_l (l.length)), (5, sl a (((rlTo l i)).length)), (6, .int .i64 ((i : Int))), (7, .int .i64 ((k : Int))), (64, .bool ((decide ((k : Int) = (((rlTo l i)).length : Int))) || (!decide ((((rlTo l i)).getD k cl0) = (l.getD i cl0)))))]) (fun hK => ?_) (fun base => ?_)
                  · refine go_draw (tn := false) (A := [0, 0, 2, 7, 15, 31, 31, 127, 255, 31, 31, 1567, 3615, 8191, 16383]) (l := [0, 1, 2, 3, 4, 5, 6, 7, 8, 9, 10, 11, 12, 13, 14]) (fin := []) Tab.mixed ⟨_, Tryz.func82⟩ (by rfl) ?_
                    refine n0 rfl (v_move ?_)
                    refine n0 rfl (v_move ?_)
                    refine n0 rfl (v_len ?_)
                    refine n0 rfl (v_eqI ?_)
                    refine n0 rfl (v_move ?_)
                    refine nI rfl rfl rfl wl_ (fun hg54 => ?_) (fun hg54 => ?_)
                    · have g54 : (decide ((k : Int) = (((rlTo l i)).length : Int))) = false := hg54
                      try simp only [sC, bne_iff_ne, beq_iff_eq, ne_eq] at g54
                      refine v_move ?_
                      refine nT rfl rfl rfl (v_move ?_)
                      obtain ⟨bk6, o6, hav6⟩ := hA3 (by omega)
                      refine nT rfl rfl rfl (v_ixN ?_ (j := k))
                      refine nT rfl rfl rfl (v_ldC ?_)
                      refine nT rfl rfl rfl (v_move ?_)
                      refine nT rfl rfl rfl (v_move ?_)
                      refine nT rfl rfl rfl (v_ixN ?_ (j := i))
                      refine nT rfl rfl rfl (v_ldC ?_)
                      refine nT rfl rfl rfl (v_neC ?_ (c := (((rlTo l i)).getD k cl0)) (c' := (l.getD i cl0)))
                      refine n0 rfl (v_pickF ?_)
                      refine NV.done ?_
                      refine rg_nil ?_
                      exact hK _ ⟨rfl, rfl, rfl, rfl, dn_, trivial⟩
                    · have g54 : (decide ((k : Int) = (((rlTo l i)).length : Int))) = true := hg54
                      try simp only [sC, bne_iff_ne, beq_iff_eq, ne_eq] at g54
                      refine nF rfl rfl rfl ?_
                      refine nF rfl rfl rfl ?_
                      refine nF rfl rfl rfl ?_
                      refine nF rfl rfl rfl ?_
                      refine nF rfl rfl rfl ?_
                      refine nF rfl rfl rfl ?_
                      refine nF rfl rfl rfl ?_
                      refine nF rfl rfl rfl ?_
                      refine n0 rfl (v_pickT ?_)
                      refine NV.done ?_
                      refine rg_nil ?_
                      exact hK _ ⟨rfl, rfl, rfl, rfl, dn_, trivial⟩
                  · refine go_condI (fun h64 => ?_) (fun h64 => ?_)
                    · have c64 : ((decide ((k : Int) = (((rlTo l i)).length : Int))) || (!decide ((((rlTo l i)).getD k cl0) = (l.getD i cl0)))) = true := h64
                      try simp only [sC, bne_iff_ne, beq_iff_eq, ne_eq] at c64
                      have hcase : ¬ (k < (rlTo l i).length ∧ (rlTo l i).getD k cl0 = l.getD i cl0) := by rintro ⟨h1, h2⟩; rcases c64 with h3 | h3; omega; exact h3 h2
                      refine go_state (fun w hs => (hs.takeCL (l := rlTo l i) (a := a) k (by simp) (by omega))) ?_
                      refine go_state (fun w hs => (hs.dropCL (l := rlTo l i) (a := a) k (by simp) (by omega))) ?_
                      refine go_know (p := (rlTo l i).length ≤ a.2) (fun w hs => hs.capCL (by simp)) (fun hcap => ?_)
                      have htl : ((rlTo l i).take k).length = k := by simp; omega
                      have hdl : ((rlTo l i).drop k).length = (rlTo l i).length - k := by simp
                      refine go_draw (tn := true) (A := [0, 0, 0, 6, 15, 0, 0, 96, 224, 480, 1023, 0, 0, 6144, 16383, 32767]) (l := [1, 2, 3, 5, 6, 7, 8, 11, 12, 13, 0, 4, 9, 10, 14, 15]) (fin := []) Tab.mixed ⟨_, Tryz.func82⟩ (by rfl) ?_
                      refine n0 rfl (v_move ?_)
                      refine n0 rfl (v_move ?_)
                      refine n0 rfl (v_sliceHi ?_ (k := k))
                      refine n0 rfl (v_move ?_)
                      refine n0 rfl (v_move ?_)
                      refine n0 rfl (v_ixN ?_ (j := i))
                      refine n0 rfl (f_ldC ?_)
                      refine n0 rfl (v_move ?_)
                      refine n0 rfl (v_move ?_)
                      refine n0 rfl (v_sliceLo ?_ (k := k) (a := a))
                      refine n0 rfl (v_lit0 fun b65 => ?_)
                      refine nv_conv [_] [_] (fun _ _ _ hs => hs.boxRow (sz := 2) (m := 0) rfl (by decide)) ?_
                      refine n0 rfl (t_appCL (fun a69 => ?_) (by simp) (a := (some ⟨b65, 0, none⟩, 0)) (n' := 0) (b := a) (ls := ((rlTo l i).take k)) (hy := (by rw [List.length_take, Nat.min_eq_left (by omega)]; rfl)))
                      refine nv_conv [_] [_] (fun _ _ _ hs => hs.appFlatC (l := []) (m := ((rlTo l i).take k))) ?_
                      refine n0 rfl (v_lit1 fun b74 => ?_)
                      refine n0 rfl (t_appS (fun a75 => ?_) (a := a69) (n' := 0 + ((rlTo l i).take k).length))
                      refine nv_conv [_, _] [_] (fun _ _ _ hs => ((hs.perm perm1).drop).snocC (c := (l.getD i cl0))) ?_
                      refine n0 rfl (t_appCL (fun a79 => ?_) (by simp) (a := a75) (n' := 0 + ((rlTo l i).take k).length + 1) (b := (dropSH a 2 k)) (ls := ((rlTo l i).drop k)) (hy := (by rw [List.length_drop]; rfl)))
                      refine nv_conv [_] [_] (fun _ _ _ hs => hs.appFlatC (l := (([] ++ ((rlTo l i).take k)) ++ [(l.getD i cl0)])) (m := ((rlTo l i).drop k))) ?_
                      refine n0 rfl (v_assign ?_)
                      refine NV.done ?_
                      refine rg_nil ?_
                      refine go_inBlock ?_
                      refine go_region ⟨_, Tryz.func82⟩ rfl ?_
                      refine q0 rfl (o_move ?_)
                      refine q0 rfl (o_add ?_)
                      refine q0 rfl (o_assign ?_)
                      refine rg_nil ?_
                      have hnx : rlTo l (i + 1) = (rlTo l i).take k ++ [l.getD i cl0] ++ (rlTo l i).drop k := by rw [rlTo_succ (by omega), if_neg (by simpa using h32), insC_at (k := k) (by omega) hk2 hlast, if_neg hcase]
                      have hnl := rlTo_len l (i + 1)
                      have hll : (rlTo l (i + 1)).length = 0 + ((rlTo l i).take k).length + 1 + ((rlTo l i).drop k).length := by rw [hnx]; simp; omega
                      refine go_state (fun w hs => ?_) (next1 (i + 1, a79) _ (by omega) (by (try simp only); omega) ⟨rfl, (by (conv => lhs; whnf); rw [hll]; rfl), rfl, trivial⟩)
                      refine ((hs.settleCL (l := rlTo l (i + 1)) hB (by rw [hnx]; simp) (by rw [hll]) (by unfold reach at *; omega) (fun c hc => hU1 c (rlTo_in hc))).less (by simp +contextual))
                    · have c64 : ((decide ((k : Int) = (((rlTo l i)).length : Int))) || (!decide ((((rlTo l i)).getD k cl0) = (l.getD i cl0)))) = false := h64
                      try simp only [sC, bne_iff_ne, beq_iff_eq, ne_eq] at c64
                      have hcase : k < (rlTo l i).length ∧ (rlTo l i).getD k cl0 = l.getD i cl0 := by have h9 := h64; simp at h9; exact ⟨by omega, h9.2⟩
                      refine go_skip ?_
                      refine go_inBlock ?_
                      refine go_region ⟨_, Tryz.func82⟩ rfl ?_
                      refine q0 rfl (o_move ?_)
                      refine q0 rfl (o_add ?_)
                      refine q0 rfl (o_assign ?_)
                      refine rg_nil ?_
                      have hnx : rlTo l (i + 1) = rlTo l i := by rw [rlTo_succ (by omega), if_neg (by simpa using h32), insC_at (k := k) (by omega) hk2 hlast, if_pos hcase]
                      refine go_state (fun w hs => ?_) (next1 (i + 1, a) _ (by omega) (by (try simp only); omega) ⟨rfl, (by (conv => lhs; whnf); simp [sl, hnx]), rfl, trivial⟩)
                      rw [hnx]; exact (hs.less (by simp +contextual))
        · have c23 : (decide ((i : Int) < (l.length : Int))) = false := h23
          try simp only [sC, bne_iff_ne, beq_iff_eq, ne_eq] at c23
          have he : i = l.length := by omega
          have hrw : rlTo l i = refLeast l := by rw [he, rlTo_all]
          refine go_exit rfl ?_
          refine go_seq ?_
          refine go_seq ?_
          refine go_region ⟨_, Tryz.func82⟩ rfl ?_
          refine q0 rfl (o_move ?_)
          refine q0 rfl (o_len ?_)
          refine q0 rfl (o_gtr ?_)
          refine rg_nil ?_
          refine go_condI (fun h82 => ?_) (fun h82 => ?_)
          · have c82 : (decide (64 < (((rlTo l i)).length : Int))) = true := h82
            try simp only [sC, bne_iff_ne, beq_iff_eq, ne_eq] at c82
            have hlf : leastF l = (3, []) := by rw [leastF, if_neg (by rw [hall]; decide), if_pos (by rw [← hrw]; omega)]
            refine go_seq ?_
            refine go_region ⟨_, Tryz.func82⟩ rfl ?_
            refine q0 rfl (o_assign ?_)
            refine q0 rfl (o_assign ?_)
            refine rg_nil ?_
            refine ret2 Tryz.func82 Tryz.results82 wn_ wn_ (none, 0) (by rw [hlf]; rfl) (fun w hs => by rw [hlf]; exact (hs.nilCL 0).bare.less (by simp))
          · have c82 : (decide (64 < (((rlTo l i)).length : Int))) = false := h82
            try simp only [sC, bne_iff_ne, beq_iff_eq, ne_eq] at c82
            have hlf : leastF l = (0, refLeast l) := by rw [leastF, if_neg (by rw [hall]; decide), if_neg (by rw [← hrw]; omega)]
            refine go_skip ?_
            refine go_seq ?_
            refine go_region ⟨_, Tryz.func82⟩ rfl ?_
            refine q0 rfl (o_move ?_)
            refine q0 rfl (o_assign ?_)
            refine q0 rfl (o_assign ?_)
            refine rg_nil ?_
            refine ret2 Tryz.func82 Tryz.results82 wn_ wn_ a (by rw [hlf, ← hrw]; rfl) (fun w hs => by rw [hlf, ← hrw]; exact hs.bare.less (by simp))
theorem rfright (l : List Cl) (a_l : SH)  : Spec Tryz.prog 60 #[sl a_l (l.length)] [CL l a_l] [] (fun _ : Unit => .bool ((fRight l))) (fun _ : Unit => []) (fun _ : Unit => []) := by
  refine spec_go (args := [sl a_l (l.length)]) Tryz.func60 Tryz.ntmps60 rfl (by exact Nat.le_of_ble_eq_true rfl) fun B hB => ?_
  refine go_openCL (l := l) (a := a_l) (fun hl1 hA1 hU1 => ?_)
  refine go_seq ?_
  refine go_region ⟨_, Tryz.func60⟩ rfl ?_
  refine q0 rfl (o_assign ?_)
  refine rg_nil ?_
  refine go_seq ?_
  refine go_region ⟨_, Tryz.func60⟩ rfl ?_
  refine q0 rfl (o_move ?_)
  refine q0 rfl (o_call Tryz.call82 (rleast l a_l ) (fun x7 => ?_))
  refine q0 rfl (o_move ?_)
  refine q0 rfl (o_extract ?_)
  refine q0 rfl (o_extract ?_)
  refine q0 rfl (o_assign ?_)
  refine q0 rfl (o_assign ?_)
  refine rg_nil ?_
  refine go_seq ?_
  refine go_cutS ([(2, .bool ((decide (((leastF l).1) = 0)) && (decide (((leastF l).2) = l))))]) (fun hK => ?_) (fun base => ?_)
  · refine go_region ⟨_, Tryz.func60⟩ rfl ?_
    refine q0 rfl (o_move ?_)
    refine q0 rfl (o_eqI ?_)
    refine q0 rfl (o_move ?_)
    refine qI rfl rfl rfl wl_ (fun hg12 => ?_) (fun hg12 => ?_)
    · have g12 : (decide (((leastF l).1) = 0)) = true := hg12
      try simp only [sC, bne_iff_ne, beq_iff_eq, ne_eq] at g12
      refine o_move ?_
      refine qT rfl rfl rfl (o_move ?_)
      refine qT rfl rfl rfl (o_call Tryz.call48 (rsameC ((leastF l).2) x7 l a_l ) (fun x15 => ?_))
      refine q0 rfl (o_pickT ?_)
      refine q0 rfl (o_assign ?_)
      refine rg_nil ?_
      exact hK _ ⟨dn_, trivial⟩
    · have g12 : (decide (((leastF l).1) = 0)) = false := hg12
      try simp only [sC, bne_iff_ne, beq_iff_eq, ne_eq] at g12
      refine qF rfl rfl rfl ?_
      refine qF rfl rfl rfl ?_
      refine q0 rfl (o_pickF ?_)
      refine q0 rfl (o_assign ?_)
      refine rg_nil ?_
      exact hK _ ⟨dn_, trivial⟩
  · refine ret1 Tryz.func60 Tryz.results60 wn_ () (by rw [← leastF_right]) (fun w hs => hs.none)
theorem rfaceright (l : List Cl) (a_l : SH)  : Spec Tryz.prog 61 #[sl a_l (l.length)] [CL l a_l] [] (fun _ : Unit => .bool ((faceRight l))) (fun _ : Unit => []) (fun _ : Unit => []) := by
  refine spec_go (args := [sl a_l (l.length)]) Tryz.func61 Tryz.ntmps61 rfl (by exact Nat.le_of_ble_eq_true rfl) fun B hB => ?_
  refine go_openCL (l := l) (a := a_l) (fun hl1 hA1 hU1 => ?_)
  refine go_seq ?_
  refine go_region ⟨_, Tryz.func61⟩ rfl ?_
  refine q0 rfl (o_assign ?_)
  refine rg_nil ?_
  refine go_seq ?_
  refine go_seq ?_
  refine go_region ⟨_, Tryz.func61⟩ rfl ?_
  refine q0 rfl (o_move ?_)
  refine q0 rfl (o_call Tryz.call60 (rfright l a_l ) (fun x5 => ?_))
  refine q0 rfl (o_not ?_)
  refine rg_nil ?_
  refine go_condI (fun h6 => ?_) (fun h6 => ?_)
  · have c6 : (!(fRight l)) = true := h6
    try simp only [sC, bne_iff_ne, beq_iff_eq, ne_eq] at c6
    refine go_seq ?_
    refine go_region ⟨_, Tryz.func61⟩ rfl ?_
    refine q0 rfl (o_assign ?_)
    refine rg_nil ?_
    refine ret1 Tryz.func61 Tryz.results61 wn_ () (by rw [faceRight, show fRight l = false by simpa using h6]; rfl) (fun w hs => hs.none)
  · have c6 : (!(fRight l)) = false := h6
    try simp only [sC, bne_iff_ne, beq_iff_eq, ne_eq] at c6
    have hfr : fRight l = true := by simpa using h6
    have hal : l.all right24 = true := by unfold fRight at hfr; simp only [Bool.and_eq_true] at hfr; exact hfr.1.1.1
    refine go_skip ?_
    refine go_seq ?_
    refine go_seq ?_
    refine go_region ⟨_, Tryz.func61⟩ rfl ?_
    refine q0 rfl (o_assign ?_)
    refine rg_nil ?_
    refine go_block ?_
    refine go_loopE (X := Nat) (fun s_ => s_ ≤ l.length ∧ ∀ j, j < s_ → clash (l.getD j cl0) = false) (fun s_ => [(0, sl a_l (l.length)), (3, .int .i64 ((s_ : Int)))]) (fun s_ G_ => G_) (fun s_ => []) (fun s_ => l.length - s_) (0) (⟨by omega, fun j hj => by omega⟩) (by exact ⟨rfl, rfl, trivial⟩) ?_ ?_
    · exact fun w hs => hs
    · intro i base0 ⟨hi, hok⟩ next0
      refine go_seq ?_
      refine go_seq ?_
      refine go_region ⟨_, Tryz.func61⟩ rfl ?_
      refine q0 rfl (o_move ?_)
      refine q0 rfl (o_move ?_)
      refine q0 rfl (o_len ?_)
      refine q0 rfl (o_lss ?_)
      refine rg_nil ?_
      refine go_condI (fun h10 => ?_) (fun h10 => ?_)
      · have c10 : (decide ((i : Int) < (l.length : Int))) = true := h10
        try simp only [sC, bne_iff_ne, beq_iff_eq, ne_eq] at c10
        have hu := hU1 _ (getD_mem (d := cl0) (show i < l.length by omega))
        have hu1 := hu.1
        have hu2 := hu.2
        have hr24 : right24 (l.getD i cl0) = true := List.all_eq_true.mp hal _ (getD_mem (by omega))
        refine go_skip ?_
        refine go_seq ?_
        refine go_block ?_
        refine go_seq ?_
        refine go_region ⟨_, Tryz.func61⟩ rfl ?_
        refine q0 rfl (o_move ?_)
        refine q0 rfl (o_move ?_)
        obtain ⟨bk2, o2, hav2⟩ := hA1 (by omega)
        refine q0 rfl (o_ixN ?_ (j := i))
        refine q0 rfl (o_ldC ?_)
        refine q0 rfl (o_call Tryz.call83 (rclash_spec (l.getD i cl0) om_) (fun x17 => ?_))
        refine rg_nil ?_
        refine go_condI (fun h17 => ?_) (fun h17 => ?_)
        · have c17 : ((rclash (l.getD i cl0))) = true := h17
          try simp only [sC, bne_iff_ne, beq_iff_eq, ne_eq] at c17
          refine go_seq ?_
          refine go_region ⟨_, Tryz.func61⟩ rfl ?_
          refine q0 rfl (o_assign ?_)
          refine rg_nil ?_
          have hb : clash (l.getD i cl0) = true := by rw [← rclash_eq hr24]; simpa using h17
          refine ret1 Tryz.func61 Tryz.results61 wn_ () (by rw [faceRight, any_true_at (d := cl0) (i := i) (by omega) hb]; simp) (fun w hs => hs.none)
        · have c17 : ((rclash (l.getD i cl0))) = false := h17
          try simp only [sC, bne_iff_ne, beq_iff_eq, ne_eq] at c17
          refine go_skip ?_
          refine go_inBlock ?_
          refine go_region ⟨_, Tryz.func61⟩ rfl ?_
          refine q0 rfl (o_move ?_)
          refine q0 rfl (o_add ?_)
          refine q0 rfl (o_assign ?_)
          refine rg_nil ?_
          have hb : clash (l.getD i cl0) = false := by rw [← rclash_eq hr24]; simpa using h17
          refine go_state (fun w hs => ?_) (next0 (i + 1) _ (⟨by omega, succ_inv hok hb⟩) (by omega) ⟨rfl, rfl, trivial⟩)
          exact (hs.less (by simp +contextual))
      · have c10 : (decide ((i : Int) < (l.length : Int))) = false := h10
        try simp only [sC, bne_iff_ne, beq_iff_eq, ne_eq] at c10
        refine go_exit rfl ?_
        refine go_seq ?_
        refine go_region ⟨_, Tryz.func61⟩ rfl ?_
        refine q0 rfl (o_assign ?_)
        refine rg_nil ?_
        refine ret1 Tryz.func61 Tryz.results61 wn_ () (by rw [faceRight, hfr, any_false_of (d := cl0) (fun j hj => hok j (by omega))]; rfl) (fun w hs => hs.none)
def dimsB (l : List Cl) (i k : Nat) : Bool := (orUpto l k).testBit i
theorem dimsB_zero (l : List Cl) (i : Nat) : dimsB l i 0 = false := by simp [dimsB, orUpto]
theorem dimsB_succ {l : List Cl} {i k : Nat} (hi : i < 24) (h : k < l.length) : dimsB l i (k + 1) = ((dimsB l i k || hasM (l.getD k cl0).pos (i : Int)) || hasM (l.getD k cl0).neg (i : Int)) := by
  unfold dimsB; rw [orUpto_succ h, Nat.testBit_or, Nat.testBit_or]; simp only [hasM]; rw [decide_eq_true (show (0 : Int) ≤ (i : Int) by omega), decide_eq_true (show (i : Int) < 24 by omega)]; simp [Bool.or_assoc]
theorem rfdims (l : List Cl) (a_l : SH)  : Spec Tryz.prog 77 #[sl a_l (l.length)] [CL l a_l] [] (fun _ : Unit => .int .u32 (((fDims l) : Nat) : Int)) (fun _ : Unit => []) (fun _ : Unit => []) := by
  refine spec_go (args := [sl a_l (l.length)]) Tryz.func77 Tryz.ntmps77 rfl (by exact Nat.le_of_ble_eq_true rfl) fun B hB => ?_
  refine go_openCL (l := l) (a := a_l) (fun hl1 hA1 hU1 => ?_)
  refine go_seq ?_
  refine go_region ⟨_, Tryz.func77⟩ rfl ?_
  refine q0 rfl (o_assign ?_)
  refine rg_nil ?_
  refine go_seq ?_
  refine go_region ⟨_, Tryz.func77⟩ rfl ?_
  refine q0 rfl (o_assign ?_)
  refine rg_nil ?_
  refine go_seq ?_
  refine go_seq ?_
  refine go_region ⟨_, Tryz.func77⟩ rfl ?_
  refine q0 rfl (o_assign ?_)
  refine rg_nil ?_
  refine go_block ?_
  refine go_loopE (X := Nat × SH) (fun s_ => s_.1 ≤ 24) (fun s_ => [(0, sl a_l (l.length)), (3, sl s_.2 ((listTo (orUpto l l.length) s_.1).length)), (4, .int .i64 ((s_.1 : Int)))]) (fun s_ G_ => G_) (fun s_ => [rowS 1 3 s_.2 ((listTo (orUpto l l.length) s_.1).length) (intFlat (listTo (orUpto l l.length) s_.1))]) (fun s_ => 24 - s_.1) (0, (none, 0)) (by omega) (by exact ⟨rfl, rfl, rfl, trivial⟩) ?_ ?_
  · exact fun w hs => (hs.rowS0 1 3)
  · intro ⟨i, a⟩ base0 hi0 next0
    dsimp only at hi0 next0 ⊢
    have hln := listTo_len (orUpto l l.length) i
    refine go_seq ?_
    refine go_seq ?_
    refine go_region ⟨_, Tryz.func77⟩ rfl ?_
    refine q0 rfl (o_move ?_)
    refine q0 rfl (o_lss ?_)
    refine rg_nil ?_
    refine go_condI (fun h8 => ?_) (fun h8 => ?_)
    · have c8 : (decide ((i : Int) < 24)) = true := h8
      try simp only [sC, bne_iff_ne, beq_iff_eq, ne_eq] at c8
      refine go_skip ?_
      refine go_seq ?_
      refine go_block ?_
      refine go_seq ?_
      refine go_region ⟨_, Tryz.func77⟩ rfl ?_
      refine q0 rfl (o_assign ?_)
      refine rg_nil ?_
      refine go_seq ?_
      refine go_seq ?_
      refine go_region ⟨_, Tryz.func77⟩ rfl ?_
      refine q0 rfl (o_assign ?_)
      refine rg_nil ?_
      refine go_block ?_
      refine go_loopE (X := Nat) (fun s_ => s_ ≤ l.length) (fun s_ => [(0, sl a_l (l.length)), (3, sl a ((listTo (orUpto l l.length) i).length)), (4, .int .i64 ((i : Int))), (5, .bool ((dimsB l i s_))), (6, .int .i64 ((s_ : Int)))]) (fun s_ G_ => G_) (fun s_ => [rowS 1 3 a ((listTo (orUpto l l.length) i).length) (intFlat (listTo (orUpto l l.length) i))]) (fun s_ => l.length - s_) (0) (by omega) (by exact ⟨rfl, rfl, rfl, (by rw [dimsB_zero]; rfl), rfl, trivial⟩) ?_ ?_
      · exact fun w hs => hs
      · intro k base1 hi1 next1
        refine go_seq ?_
        refine go_seq ?_
        refine go_region ⟨_, Tryz.func77⟩ rfl ?_
        refine q0 rfl (o_move ?_)
        refine q0 rfl (o_move ?_)
        refine q0 rfl (o_len ?_)
        refine q0 rfl (o_lss ?_)
        refine rg_nil ?_
        refine go_condI (fun h14 => ?_) (fun h14 => ?_)
        · have c14 : (decide ((k : Int) < (l.length : Int))) = true := h14
          try simp only [sC, bne_iff_ne, beq_iff_eq, ne_eq] at c14
          have hu := hU1 _ (getD_mem (d := cl0) (show k < l.length by omega))
          have hu1 := hu.1
          have hu2 := hu.2
          refine go_skip ?_
          refine go_seq ?_
          refine go_block ?_
          refine go_cutS ([(0, sl a_l (l.length)), (3, sl a ((listTo (orUpto l l.length) i).length)), (4, .int .i64 ((i : Int))), (5, .bool (((dimsB l i k) || (hasM ((l.getD k cl0).pos) (i : Int))) || (hasM ((l.getD k cl0).neg) (i : Int)))), (6, .int .i64 ((k : Int)))]) (fun hK => ?_) (fun base => ?_)
          · refine go_region ⟨_, Tryz.func77⟩ rfl ?_
            refine q0 rfl (o_move ?_)
            refine q0 rfl (o_move ?_)
            refine qI rfl rfl rfl wl_ (fun hg18 => ?_) (fun hg18 => ?_)
            · have g18 : ((dimsB l i k)) = false := hg18
              try simp only [sC, bne_iff_ne, beq_iff_eq, ne_eq] at g18
              refine o_move ?_
              refine qT rfl rfl rfl (o_move ?_)
              obtain ⟨bk2, o2, hav2⟩ := hA1 (by omega)
              refine qT rfl rfl rfl (o_ixN ?_ (j := k))
              refine qT rfl rfl rfl (o_fa ?_)
              refine qT rfl rfl rfl (o_ldCf ?_)
              refine qT rfl rfl rfl (o_move ?_)
              refine qT rfl rfl rfl (o_call Tryz.call76 (rhas ((l.getD k cl0).pos) (i : Int) om_) (fun x25 => ?_))
              refine q0 rfl (o_pickF ?_)
              refine q0 rfl (o_move ?_)
              refine qI rfl rfl rfl wl_ (fun hg27 => ?_) (fun hg27 => ?_)
              · have g27 : ((hasM ((l.getD k cl0).pos) (i : Int))) = false := hg27
                try simp only [sC, bne_iff_ne, beq_iff_eq, ne_eq] at g27
                refine o_move ?_
                refine qT rfl rfl rfl (o_move ?_)
                refine qT rfl rfl rfl (o_ixN ?_ (j := k))
                refine qT rfl rfl rfl (o_fa ?_)
                refine qT rfl rfl rfl (o_ldCf ?_)
                refine qT rfl rfl rfl (o_move ?_)
                refine qT rfl rfl rfl (o_call Tryz.call76 (rhas ((l.getD k cl0).neg) (i : Int) om_) (fun x34 => ?_))
                refine q0 rfl (o_pickF ?_)
                refine q0 rfl (o_assign ?_)
                refine rg_nil ?_
                exact hK _ ⟨rfl, rfl, rfl, dn_, rfl, trivial⟩
              · have g27 : ((hasM ((l.getD k cl0).pos) (i : Int))) = true := hg27
                try simp only [sC, bne_iff_ne, beq_iff_eq, ne_eq] at g27
                refine qF rfl rfl rfl ?_
                refine qF rfl rfl rfl ?_
                refine qF rfl rfl rfl ?_
                refine qF rfl rfl rfl ?_
                refine qF rfl rfl rfl ?_
                refine qF rfl rfl rfl ?_
                refine q0 rfl (o_pickT ?_)
                refine q0 rfl (o_assign ?_)
                refine rg_nil ?_
                exact hK _ ⟨rfl, rfl, rfl, dn_, rfl, trivial⟩
            · have g18 : ((dimsB l i k)) = true := hg18
              try simp only [sC, bne_iff_ne, beq_iff_eq, ne_eq] at g18
              refine qF rfl rfl rfl ?_
              refine qF rfl rfl rfl ?_
              refine qF rfl rfl rfl ?_
              refine qF rfl rfl rfl ?_
              refine qF rfl rfl rfl ?_
              refine qF rfl rfl rfl ?_
              refine q0 rfl (o_pickT ?_)
              refine q0 rfl (o_move ?_)
              refine qF rfl rfl rfl ?_
              refine qF rfl rfl rfl ?_
              refine qF rfl rfl rfl ?_
              refine qF rfl rfl rfl ?_
              refine qF rfl rfl rfl ?_
              refine qF rfl rfl rfl ?_
              refine qF rfl rfl rfl ?_
              refine q0 rfl (o_pickT ?_)
              refine q0 rfl (o_assign ?_)
              refine rg_nil ?_
              exact hK _ ⟨rfl, rfl, rfl, dn_, rfl, trivial⟩
          · refine go_inBlock ?_
            refine go_region ⟨_, Tryz.func77⟩ rfl ?_
            refine q0 rfl (o_move ?_)
            refine q0 rfl (o_add ?_)
            refine q0 rfl (o_assign ?_)
            refine rg_nil ?_
            refine go_state (fun w hs => ?_) (next1 (k + 1) _ (by omega) (by omega) ⟨rfl, rfl, rfl, (by (conv => lhs; whnf); rw [dimsB_succ (by omega) (by omega)]), rfl, trivial⟩)
            exact (hs.less (by simp +contextual))
        · have c14 : (decide ((k : Int) < (l.length : Int))) = false := h14
          try simp only [sC, bne_iff_ne, beq_iff_eq, ne_eq] at c14
          have he : k = l.length := by omega
          refine go_exit rfl ?_
          refine go_seq ?_
          refine go_region ⟨_, Tryz.func77⟩ rfl ?_
          refine q0 rfl (o_move ?_)
          refine rg_nil ?_
          refine go_condI (fun h36 => ?_) (fun h36 => ?_)
          · have c36 : ((dimsB l i k)) = true := h36
            try simp only [sC, bne_iff_ne, beq_iff_eq, ne_eq] at c36
            refine go_region ⟨_, Tryz.func77⟩ rfl ?_
            refine q0 rfl (o_move ?_)
            refine q0 rfl (o_move ?_)
            refine q0 rfl (o_lit1 fun b39 => ?_)
            refine q0 rfl (o_appS (fun a40 => ?_) (a := a) (n' := (listTo (orUpto l l.length) i).length))
            refine rg_state (fun w hs => ((hs.perm perm1).drop).snocI) ?_
            refine q0 rfl (o_assign ?_)
            refine rg_nil ?_
            refine go_inBlock ?_
            refine go_region ⟨_, Tryz.func77⟩ rfl ?_
            refine q0 rfl (o_move ?_)
            refine q0 rfl (o_add ?_)
            refine q0 rfl (o_assign ?_)
            refine rg_nil ?_
            have hnx : listTo (orUpto l l.length) (i + 1) = listTo (orUpto l l.length) i ++ [(i : Int)] := by rw [listTo_succ, if_pos (show (orUpto l l.length).testBit i = true by rw [← he]; exact h36)]
            refine go_state (fun w hs => ?_) (next0 (i + 1, a40) _ (by omega) (by (try simp only); omega) ⟨rfl, (by (conv => lhs; whnf); simp [sl, hnx]), rfl, trivial⟩)
            rw [hnx]; simpa using (hs.less (by simp +contextual))
          · have c36 : ((dimsB l i k)) = false := h36
            try simp only [sC, bne_iff_ne, beq_iff_eq, ne_eq] at c36
            refine go_skip ?_
            refine go_inBlock ?_
            refine go_region ⟨_, Tryz.func77⟩ rfl ?_
            refine q0 rfl (o_move ?_)
            refine q0 rfl (o_add ?_)
            refine q0 rfl (o_assign ?_)
            refine rg_nil ?_
            have hnx : listTo (orUpto l l.length) (i + 1) = listTo (orUpto l l.length) i := by rw [listTo_succ, if_neg]; rw [show (orUpto l l.length).testBit i = false by rw [← he]; exact h36]; decide
            refine go_state (fun w hs => ?_) (next0 (i + 1, a) _ (by omega) (by (try simp only); omega) ⟨rfl, (by (conv => lhs; whnf); simp [sl, hnx]), rfl, trivial⟩)
            rw [hnx]; exact (hs.less (by simp +contextual))
    · have c8 : (decide ((i : Int) < 24)) = false := h8
      try simp only [sC, bne_iff_ne, beq_iff_eq, ne_eq] at c8
      have he : i = 24 := by omega
      subst he
      refine go_state (fun w hs => (hs.settleIL hB rfl rfl (by unfold reach; omega) (fun c hc => by have := listTo_in hc; unfold in64; omega))) ?_
      refine go_exit rfl ?_
      refine go_seq ?_
      refine go_region ⟨_, Tryz.func77⟩ rfl ?_
      refine q0 rfl (o_move ?_)
      refine q0 rfl (o_call Tryz.call44 (rset (listTo (orUpto l l.length) 24) a (by omega) (fun x hx => by have := listTo_in hx; omega)) (fun x42 => ?_))
      refine q0 rfl (o_assign ?_)
      refine rg_nil ?_
      refine ret1 Tryz.func77 Tryz.results77 wn_ () (by rw [setM_listM, fDims_eq]) (fun w hs => hs.none)
end Go.Hy
