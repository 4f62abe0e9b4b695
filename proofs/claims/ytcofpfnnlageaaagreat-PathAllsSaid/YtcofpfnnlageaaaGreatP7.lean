/- Contracts of this program's functions and the laws that they need: a separation logic over the machine's rules, one theorem each (partly printed by a program of this repository). -/
import Derived.Test.YtcofpfnnlageaaaGreatP2
import Derived.Test.YtcofpfnnlageaaaGreatP3
import Derived.Test.YtcofpfnnlageaaaGreatP4
import Derived.Test.YtcofpfnnlageaaaGreatP5
import Derived.Test.YtcofpfnnlageaaaGreatP6
namespace Go.Hy
set_option linter.unusedVariables false
set_option linter.unusedSimpArgs false
set_option linter.unusedSectionVars false
open Go.Proofs
set_option linter.unusedVariables false
set_option linter.unusedSimpArgs false
set_option maxRecDepth 100000
theorem rsize_walk (t : T) (vr vk vs : SH) (hsz : size t ≤ 1152921504606846976) (ih : ∀ p, p ∈ parts t → size p.1 ≤ 1152921504606846976 → ∀ vr vk vs, Spec Tryz.prog 56 #[.agg (tc p.1 vr vk vs).toArray] [RT p.1 vr vk vs] [] (fun _ : Unit => .int .i64 (size p.1 : Int)) (fun _ => []) (fun _ => [])) : Spec Tryz.prog 56 #[.agg (tc t vr vk vs).toArray] [RT t vr vk vs] [] (fun _ : Unit => .int .i64 (size t : Int)) (fun _ => []) (fun _ => []) := by
  refine spec_go (args := [.agg (tc t vr vk vs).toArray]) Tryz.func56 Tryz.ntmps56 rfl (by exact Nat.le_of_ble_eq_true rfl) fun B hB => ?_
  refine go_open (fun hk hn hnm => ?_)
  refine go_openTL (ts := t.kids) (fun VR VK VS hl1 hA1 => ?_)
  refine go_openBL (bs := t.sys) (fun VF VK2 hl2 hA2 => ?_)
  have hpl := parts_length t
  refine go_seq ?_
  refine go_region ⟨_, Tryz.func56⟩ rfl ?_
  refine q0 rfl (o_box fun b1 => ?_)
  refine q0 rfl (o_assign ?_)
  refine rg_nil ?_
  refine go_seq ?_
  refine go_region ⟨_, Tryz.func56⟩ rfl ?_
  refine q0 rfl (o_assign ?_)
  refine rg_nil ?_
  refine go_seq ?_
  refine go_seq ?_
  refine go_region ⟨_, Tryz.func56⟩ rfl ?_
  refine q0 rfl (o_assign ?_)
  refine rg_nil ?_
  refine go_block ?_
  refine go_loopI (X := Nat) (fun i => i ≤ t.kids.length) (fun i => [(1, .pointer (some ⟨b1, 0, none⟩)), (3, .int .i64 (sizeUpto t i : Int)), (4, .int .i64 (i : Int))]) (fun i => [TLx t.kids vk VR VK VS, BLx t.sys vs VF VK2]) (fun i => [boxR b1 (tc t vr vk vs) 26]) (fun i => t.kids.length - i) (0) (Nat.zero_le _) (by exact ⟨rfl, (by rw [sizeUpto_zero]; rfl), rfl, trivial⟩) ?_ ?_
  · exact fun w hs => (hs.less (by simp +contextual))
  · intro i base0 hi next0
    refine go_seq ?_
    refine go_seq ?_
    refine go_region ⟨_, Tryz.func56⟩ rfl ?_
    refine q0 rfl (o_move ?_)
    refine q0 rfl (o_fa ?_)
    refine q0 rfl (o_ld ?_)
    refine q0 rfl (o_len ?_)
    refine q0 rfl (o_lss ?_)
    refine rg_nil ?_
    refine go_condI (fun h11 => ?_) (fun h11 => ?_)
    · have hlt : i < t.kids.length := by have := of_decide_eq_true h11; omega
      obtain ⟨bk, o, hav⟩ := hA1 (by omega)
      have hpk := parts_kid t i hlt
      refine go_kid (ts := t.kids) (a := vk) i hlt ?_
      refine go_skip ?_
      refine go_seq ?_
      refine go_block ?_
      refine go_region ⟨_, Tryz.func56⟩ rfl ?_
      refine q0 rfl (o_move ?_)
      refine q0 rfl (o_fa ?_)
      refine q0 rfl (o_ld ?_)
      refine q0 rfl (o_move ?_)
      refine q0 rfl (o_ixN ?_)
      refine q0 rfl (o_ldT ?_)
      refine q0 rfl (o_call Tryz.call56 (ih (t.kids.getD i t0, _, _) (parts_mem hpk) (by have := size_part hpk; simp only at this ⊢; omega) _ _ _) (fun x20 => ?_))
      have hle := size_part hpk
      refine q0 rfl (o_add ?_)
      refine q0 rfl (o_assign ?_)
      refine rg_nil ?_
      refine go_inBlock ?_
      refine go_region ⟨_, Tryz.func56⟩ rfl ?_
      refine q0 rfl (o_move ?_)
      refine q0 rfl (o_add ?_)
      refine q0 rfl (o_assign ?_)
      refine rg_nil ?_
      refine go_state (fun w hs => ?_) (next0 (i + 1) _ hlt (by omega) ⟨rfl, (by rw [sizeUpto_succ hpk]; rfl), rfl, trivial⟩)
      exact (hs.less (by simp +contextual))
    · have hge : i = t.kids.length := by have := of_decide_eq_false h11; omega
      refine go_exit rfl ?_
      refine go_seq ?_
      refine go_seq ?_
      refine go_region ⟨_, Tryz.func56⟩ rfl ?_
      refine q0 rfl (o_assign ?_)
      refine rg_nil ?_
      refine go_block ?_
      refine go_loopI (X := Nat) (fun i2 => i2 ≤ t.sys.length) (fun i2 => [(1, .pointer (some ⟨b1, 0, none⟩)), (3, .int .i64 (sizeUpto t (t.kids.length + sysBefore i2 t.sys) : Int)), (5, .int .i64 (i2 : Int))]) (fun i2 => [TLx t.kids vk VR VK VS, BLx t.sys vs VF VK2]) (fun i2 => [boxR b1 (tc t vr vk vs) 26]) (fun i2 => t.sys.length - i2) (0) (Nat.zero_le _) (by exact ⟨rfl, (by rw [hge]; rfl), rfl, trivial⟩) ?_ ?_
      · exact fun w hs => (hs.less (by simp +contextual))
      · intro i2 base1 hi2 next1
        refine go_seq ?_
        refine go_seq ?_
        refine go_region ⟨_, Tryz.func56⟩ rfl ?_
        refine q0 rfl (o_move ?_)
        refine q0 rfl (o_fa ?_)
        refine q0 rfl (o_ld ?_)
        refine q0 rfl (o_len ?_)
        refine q0 rfl (o_lss ?_)
        refine rg_nil ?_
        refine go_condI (fun h26 => ?_) (fun h26 => ?_)
        · have hlt2 : i2 < t.sys.length := by have := of_decide_eq_true h26; omega
          obtain ⟨bk2, o2, hav2⟩ := hA2 (by omega)
          refine go_branch (bs := t.sys) (a := vs) i2 hlt2 ?_
          refine go_openTL (ts := (t.sys.getD i2 br0).kids) (a := VK2 i2) (fun VR3 VK3 VS3 hl3 hA3 => ?_)
          refine go_skip ?_
          refine go_seq ?_
          refine go_block ?_
          refine go_seq ?_
          refine go_region ⟨_, Tryz.func56⟩ rfl ?_
          refine q0 rfl (o_assign ?_)
          refine rg_nil ?_
          refine go_block ?_
          refine go_loopI (X := Nat) (fun j => j ≤ (t.sys.getD i2 br0).kids.length) (fun j => [(1, .pointer (some ⟨b1, 0, none⟩)), (3, .int .i64 (sizeUpto t (t.kids.length + sysBefore i2 t.sys + j) : Int)), (5, .int .i64 (i2 : Int)), (6, .int .i64 (j : Int))]) (fun j => TLx (t.sys.getD i2 br0).kids (VK2 i2) VR3 VK3 VS3 :: [TLx t.kids vk VR VK VS, BLx t.sys vs VF VK2]) (fun j => [boxR b1 (tc t vr vk vs) 26]) (fun j => (t.sys.getD i2 br0).kids.length - j) (0) (Nat.zero_le _) (by exact ⟨rfl, rfl, rfl, rfl, trivial⟩) ?_ ?_
          · exact fun w hs => (hs.less (by simp +contextual))
          · intro j base2 hj next2
            refine go_seq ?_
            refine go_seq ?_
            refine go_region ⟨_, Tryz.func56⟩ rfl ?_
            refine q0 rfl (o_move ?_)
            refine q0 rfl (o_fa ?_)
            refine q0 rfl (o_ld ?_)
            refine q0 rfl (o_move ?_)
            refine q0 rfl (o_ixN ?_)
            refine q0 rfl (o_fa ?_)
            refine q0 rfl (o_ldBf ?_)
            refine q0 rfl (o_len ?_)
            refine q0 rfl (o_lss ?_)
            refine rg_nil ?_
            refine go_condI (fun h37 => ?_) (fun h37 => ?_)
            · have hlt3 : j < (t.sys.getD i2 br0).kids.length := by have := of_decide_eq_true h37; omega
              obtain ⟨bk3, o3, hav3⟩ := hA3 (by omega)
              have hpk := parts_sys t i2 j hlt2 hlt3
              refine go_kid (ts := (t.sys.getD i2 br0).kids) (a := VK2 i2) j hlt3 ?_
              refine go_skip ?_
              refine go_seq ?_
              refine go_block ?_
              refine go_region ⟨_, Tryz.func56⟩ rfl ?_
              refine q0 rfl (o_move ?_)
              refine q0 rfl (o_fa ?_)
              refine q0 rfl (o_ld ?_)
              refine q0 rfl (o_move ?_)
              refine q0 rfl (o_ixN ?_)
              refine q0 rfl (o_fa ?_)
              refine q0 rfl (o_ldBf ?_)
              refine q0 rfl (o_move ?_)
              refine q0 rfl (o_ixN ?_)
              refine q0 rfl (o_ldT ?_)
              refine q0 rfl (o_call Tryz.call56 (ih ((t.sys.getD i2 br0).kids.getD j t0, _, _) (parts_mem hpk) (by have := size_part hpk; simp only at this ⊢; omega) _ _ _) (fun x50 => ?_))
              have hle := size_part hpk
              refine q0 rfl (o_add ?_)
              refine q0 rfl (o_assign ?_)
              refine rg_nil ?_
              refine go_inBlock ?_
              refine go_region ⟨_, Tryz.func56⟩ rfl ?_
              refine q0 rfl (o_move ?_)
              refine q0 rfl (o_add ?_)
              refine q0 rfl (o_assign ?_)
              refine rg_nil ?_
              refine go_state (fun w hs => ?_) (next2 (j + 1) _ hlt3 (by omega) ⟨rfl, (by rw [← Nat.add_assoc, sizeUpto_succ hpk]; rfl), rfl, rfl, trivial⟩)
              exact (hs.less (by simp +contextual))
            · have hge3 : j = (t.sys.getD i2 br0).kids.length := by have := of_decide_eq_false h37; omega
              refine go_exit rfl ?_
              refine go_inBlock ?_
              refine go_region ⟨_, Tryz.func56⟩ rfl ?_
              refine q0 rfl (o_move ?_)
              refine q0 rfl (o_add ?_)
              refine q0 rfl (o_assign ?_)
              refine rg_nil ?_
              refine go_state (fun w hs => ?_) (next1 (i2 + 1) _ hlt2 (by omega) ⟨rfl, (by rw [sysBefore_succ i2 t.sys hlt2, ← hge3, ← Nat.add_assoc]; rfl), rfl, trivial⟩)
              exact (hs.less (by simp +contextual))
        · have hge2 : i2 = t.sys.length := by have := of_decide_eq_false h26; omega
          refine go_exit rfl ?_
          refine go_seq ?_
          refine go_region ⟨_, Tryz.func56⟩ rfl ?_
          refine q0 rfl (o_move ?_)
          refine q0 rfl (o_assign ?_)
          refine rg_nil ?_
          have he : sizeUpto t (t.kids.length + sysBefore i2 t.sys) = size t := by rw [hge2, ← hpl, sizeUpto_all]
          refine ret1 Tryz.func56 Tryz.results56 (by first | ((conv => lhs; whnf); done) | rfl) () (by rw [he]) (fun w hs => hs.none)
theorem rsize_spec : ∀ (t : T), size t ≤ 1152921504606846976 → ∀ vr vk vs, Spec Tryz.prog 56 #[.agg (tc t vr vk vs).toArray] [RT t vr vk vs] [] (fun _ : Unit => .int .i64 (size t : Int)) (fun _ => []) (fun _ => []) :=
  T.ind fun t ih hsz vr vk vs => rsize_walk t vr vk vs hsz ih
theorem rdepth_walk (t : T) (vr vk vs : SH) (hsz : size t ≤ 1152921504606846976) (ih : ∀ p, p ∈ parts t → size p.1 ≤ 1152921504606846976 → ∀ vr vk vs, Spec Tryz.prog 55 #[.agg (tc p.1 vr vk vs).toArray] [RT p.1 vr vk vs] [] (fun _ : Unit => .int .i64 (depth p.1 : Int)) (fun _ => []) (fun _ => [])) : Spec Tryz.prog 55 #[.agg (tc t vr vk vs).toArray] [RT t vr vk vs] [] (fun _ : Unit => .int .i64 (depth t : Int)) (fun _ => []) (fun _ => []) := by
  refine spec_go (args := [.agg (tc t vr vk vs).toArray]) Tryz.func55 Tryz.ntmps55 rfl (by exact Nat.le_of_ble_eq_true rfl) fun B hB => ?_
  refine go_open (fun hk hn hnm => ?_)
  refine go_openTL (ts := t.kids) (fun VR VK VS hl1 hA1 => ?_)
  refine go_openBL (bs := t.sys) (fun VF VK2 hl2 hA2 => ?_)
  have hpl := parts_length t
  have hds := depth_le_size t
  have hdu := depthUpto_le t (parts t).length
  refine go_seq ?_
  refine go_region ⟨_, Tryz.func55⟩ rfl ?_
  refine q0 rfl (o_box fun b1 => ?_)
  refine q0 rfl (o_assign ?_)
  refine rg_nil ?_
  refine go_seq ?_
  refine go_region ⟨_, Tryz.func55⟩ rfl ?_
  refine q0 rfl (o_assign ?_)
  refine rg_nil ?_
  refine go_seq ?_
  refine go_seq ?_
  refine go_region ⟨_, Tryz.func55⟩ rfl ?_
  refine q0 rfl (o_assign ?_)
  refine rg_nil ?_
  refine go_block ?_
  refine go_loopI (X := Nat) (fun i => i ≤ t.kids.length) (fun i => [(1, .pointer (some ⟨b1, 0, none⟩)), (3, .int .i64 (depthUpto t i : Int)), (4, .int .i64 (i : Int))]) (fun i => [TLx t.kids vk VR VK VS, BLx t.sys vs VF VK2]) (fun i => [boxR b1 (tc t vr vk vs) 26]) (fun i => t.kids.length - i) (0) (Nat.zero_le _) (by exact ⟨rfl, (by rw [depthUpto_zero]; rfl), rfl, trivial⟩) ?_ ?_
  · exact fun w hs => (hs.less (by simp +contextual))
  · intro i base0 hi next0
    refine go_seq ?_
    refine go_seq ?_
    refine go_region ⟨_, Tryz.func55⟩ rfl ?_
    refine q0 rfl (o_move ?_)
    refine q0 rfl (o_fa ?_)
    refine q0 rfl (o_ld ?_)
    refine q0 rfl (o_len ?_)
    refine q0 rfl (o_lss ?_)
    refine rg_nil ?_
    refine go_condI (fun h13 => ?_) (fun h13 => ?_)
    · have hlt : i < t.kids.length := by have := of_decide_eq_true h13; omega
      obtain ⟨bk, o, hav⟩ := hA1 (by omega)
      have hpk := parts_kid t i hlt
      refine go_kid (ts := t.kids) (a := vk) i hlt ?_
      refine go_skip ?_
      refine go_seq ?_
      refine go_block ?_
      refine go_seq ?_
      refine go_region ⟨_, Tryz.func55⟩ rfl ?_
      refine q0 rfl (o_fa ?_)
      refine q0 rfl (o_ld ?_)
      refine q0 rfl (o_move ?_)
      refine q0 rfl (o_ixN ?_)
      refine q0 rfl (o_ldT ?_)
      refine q0 rfl (o_call Tryz.call55 (ih (t.kids.getD i t0, _, _) (parts_mem hpk) (by have := size_part hpk; simp only at this ⊢; omega) _ _ _) (fun x21 => ?_))
      refine q0 rfl (o_assign ?_)
      refine rg_nil ?_
      refine go_seq ?_
      refine go_region ⟨_, Tryz.func55⟩ rfl ?_
      refine q0 rfl (o_move ?_)
      refine q0 rfl (o_move ?_)
      refine q0 rfl (o_gtr ?_)
      refine rg_nil ?_
      refine go_condI (fun h24 => ?_) (fun h24 => ?_)
      · refine go_region ⟨_, Tryz.func55⟩ rfl ?_
        refine q0 rfl (o_move ?_)
        refine q0 rfl (o_assign ?_)
        refine rg_nil ?_
        refine go_inBlock ?_
        refine go_region ⟨_, Tryz.func55⟩ rfl ?_
        refine q0 rfl (o_move ?_)
        refine q0 rfl (o_add ?_)
        refine q0 rfl (o_assign ?_)
        refine rg_nil ?_
        refine go_state (fun w hs => ?_) (next0 (i + 1) _ hlt (by omega) ⟨rfl, (by rw [depthUpto_succ hpk, Int.ofNat_max']; first | (rw [if_pos (of_decide_eq_true h24)]; rfl) | (rw [if_neg (of_decide_eq_false h24)]; rfl)), rfl, trivial⟩)
        exact (hs.less (by simp +contextual))
      · refine go_skip ?_
        refine go_inBlock ?_
        refine go_region ⟨_, Tryz.func55⟩ rfl ?_
        refine q0 rfl (o_move ?_)
        refine q0 rfl (o_add ?_)
        refine q0 rfl (o_assign ?_)
        refine rg_nil ?_
        refine go_state (fun w hs => ?_) (next0 (i + 1) _ hlt (by omega) ⟨rfl, (by rw [depthUpto_succ hpk, Int.ofNat_max']; first | (rw [if_pos (of_decide_eq_true h24)]; rfl) | (rw [if_neg (of_decide_eq_false h24)]; rfl)), rfl, trivial⟩)
        exact (hs.less (by simp +contextual))
    · have hge : i = t.kids.length := by have := of_decide_eq_false h13; omega
      refine go_exit rfl ?_
      refine go_seq ?_
      refine go_seq ?_
      refine go_region ⟨_, Tryz.func55⟩ rfl ?_
      refine q0 rfl (o_assign ?_)
      refine rg_nil ?_
      refine go_block ?_
      refine go_loopI (X := Nat) (fun i2 => i2 ≤ t.sys.length) (fun i2 => [(1, .pointer (some ⟨b1, 0, none⟩)), (3, .int .i64 (depthUpto t (t.kids.length + sysBefore i2 t.sys) : Int)), (6, .int .i64 (i2 : Int))]) (fun i2 => [TLx t.kids vk VR VK VS, BLx t.sys vs VF VK2]) (fun i2 => [boxR b1 (tc t vr vk vs) 26]) (fun i2 => t.sys.length - i2) (0) (Nat.zero_le _) (by exact ⟨rfl, (by rw [hge]; rfl), rfl, trivial⟩) ?_ ?_
      · exact fun w hs => (hs.less (by simp +contextual))
      · intro i2 base1 hi2 next1
        refine go_seq ?_
        refine go_seq ?_
        refine go_region ⟨_, Tryz.func55⟩ rfl ?_
        refine q0 rfl (o_move ?_)
        refine q0 rfl (o_fa ?_)
        refine q0 rfl (o_ld ?_)
        refine q0 rfl (o_len ?_)
        refine q0 rfl (o_lss ?_)
        refine rg_nil ?_
        refine go_condI (fun h30 => ?_) (fun h30 => ?_)
        · have hlt2 : i2 < t.sys.length := by have := of_decide_eq_true h30; omega
          obtain ⟨bk2, o2, hav2⟩ := hA2 (by omega)
          refine go_branch (bs := t.sys) (a := vs) i2 hlt2 ?_
          refine go_openTL (ts := (t.sys.getD i2 br0).kids) (a := VK2 i2) (fun VR3 VK3 VS3 hl3 hA3 => ?_)
          refine go_skip ?_
          refine go_seq ?_
          refine go_block ?_
          refine go_seq ?_
          refine go_region ⟨_, Tryz.func55⟩ rfl ?_
          refine q0 rfl (o_assign ?_)
          refine rg_nil ?_
          refine go_block ?_
          refine go_loopI (X := Nat) (fun j => j ≤ (t.sys.getD i2 br0).kids.length) (fun j => [(1, .pointer (some ⟨b1, 0, none⟩)), (3, .int .i64 (depthUpto t (t.kids.length + sysBefore i2 t.sys + j) : Int)), (6, .int .i64 (i2 : Int)), (7, .int .i64 (j : Int))]) (fun j => TLx (t.sys.getD i2 br0).kids (VK2 i2) VR3 VK3 VS3 :: [TLx t.kids vk VR VK VS, BLx t.sys vs VF VK2]) (fun j => [boxR b1 (tc t vr vk vs) 26]) (fun j => (t.sys.getD i2 br0).kids.length - j) (0) (Nat.zero_le _) (by exact ⟨rfl, rfl, rfl, rfl, trivial⟩) ?_ ?_
          · exact fun w hs => (hs.less (by simp +contextual))
          · intro j base2 hj next2
            refine go_seq ?_
            refine go_seq ?_
            refine go_region ⟨_, Tryz.func55⟩ rfl ?_
            refine q0 rfl (o_move ?_)
            refine q0 rfl (o_fa ?_)
            refine q0 rfl (o_ld ?_)
            refine q0 rfl (o_move ?_)
            refine q0 rfl (o_ixN ?_)
            refine q0 rfl (o_fa ?_)
            refine q0 rfl (o_ldBf ?_)
            refine q0 rfl (o_len ?_)
            refine q0 rfl (o_lss ?_)
            refine rg_nil ?_
            refine go_condI (fun h41 => ?_) (fun h41 => ?_)
            · have hlt3 : j < (t.sys.getD i2 br0).kids.length := by have := of_decide_eq_true h41; omega
              obtain ⟨bk3, o3, hav3⟩ := hA3 (by omega)
              have hpk := parts_sys t i2 j hlt2 hlt3
              refine go_kid (ts := (t.sys.getD i2 br0).kids) (a := VK2 i2) j hlt3 ?_
              refine go_skip ?_
              refine go_seq ?_
              refine go_block ?_
              refine go_seq ?_
              refine go_region ⟨_, Tryz.func55⟩ rfl ?_
              refine q0 rfl (o_fa ?_)
              refine q0 rfl (o_ld ?_)
              refine q0 rfl (o_move ?_)
              refine q0 rfl (o_ixN ?_)
              refine q0 rfl (o_fa ?_)
              refine q0 rfl (o_ldBf ?_)
              refine q0 rfl (o_move ?_)
              refine q0 rfl (o_ixN ?_)
              refine q0 rfl (o_ldT ?_)
              refine q0 rfl (o_call Tryz.call55 (ih ((t.sys.getD i2 br0).kids.getD j t0, _, _) (parts_mem hpk) (by have := size_part hpk; simp only at this ⊢; omega) _ _ _) (fun x53 => ?_))
              refine q0 rfl (o_assign ?_)
              refine rg_nil ?_
              refine go_seq ?_
              refine go_region ⟨_, Tryz.func55⟩ rfl ?_
              refine q0 rfl (o_move ?_)
              refine q0 rfl (o_move ?_)
              refine q0 rfl (o_gtr ?_)
              refine rg_nil ?_
              refine go_condI (fun h56 => ?_) (fun h56 => ?_)
              · refine go_region ⟨_, Tryz.func55⟩ rfl ?_
                refine q0 rfl (o_move ?_)
                refine q0 rfl (o_assign ?_)
                refine rg_nil ?_
                refine go_inBlock ?_
                refine go_region ⟨_, Tryz.func55⟩ rfl ?_
                refine q0 rfl (o_move ?_)
                refine q0 rfl (o_add ?_)
                refine q0 rfl (o_assign ?_)
                refine rg_nil ?_
                refine go_state (fun w hs => ?_) (next2 (j + 1) _ hlt3 (by omega) ⟨rfl, (by rw [← Nat.add_assoc, depthUpto_succ hpk, Int.ofNat_max']; first | (rw [if_pos (of_decide_eq_true h56)]; rfl) | (rw [if_neg (of_decide_eq_false h56)]; rfl)), rfl, rfl, trivial⟩)
                exact (hs.less (by simp +contextual))
              · refine go_skip ?_
                refine go_inBlock ?_
                refine go_region ⟨_, Tryz.func55⟩ rfl ?_
                refine q0 rfl (o_move ?_)
                refine q0 rfl (o_add ?_)
                refine q0 rfl (o_assign ?_)
                refine rg_nil ?_
                refine go_state (fun w hs => ?_) (next2 (j + 1) _ hlt3 (by omega) ⟨rfl, (by rw [← Nat.add_assoc, depthUpto_succ hpk, Int.ofNat_max']; first | (rw [if_pos (of_decide_eq_true h56)]; rfl) | (rw [if_neg (of_decide_eq_false h56)]; rfl)), rfl, rfl, trivial⟩)
                exact (hs.less (by simp +contextual))
            · have hge3 : j = (t.sys.getD i2 br0).kids.length := by have := of_decide_eq_false h41; omega
              refine go_exit rfl ?_
              refine go_inBlock ?_
              refine go_region ⟨_, Tryz.func55⟩ rfl ?_
              refine q0 rfl (o_move ?_)
              refine q0 rfl (o_add ?_)
              refine q0 rfl (o_assign ?_)
              refine rg_nil ?_
              refine go_state (fun w hs => ?_) (next1 (i2 + 1) _ hlt2 (by omega) ⟨rfl, (by rw [sysBefore_succ i2 t.sys hlt2, ← hge3, ← Nat.add_assoc]; rfl), rfl, trivial⟩)
              exact (hs.less (by simp +contextual))
        · have hge2 : i2 = t.sys.length := by have := of_decide_eq_false h30; omega
          refine go_exit rfl ?_
          refine go_seq ?_
          refine go_region ⟨_, Tryz.func55⟩ rfl ?_
          refine q0 rfl (o_move ?_)
          rw [hge2, ← hpl]
          refine q0 rfl (o_add ?_)
          refine q0 rfl (o_assign ?_)
          refine rg_nil ?_
          refine ret1 Tryz.func55 Tryz.results55 (by first | ((conv => lhs; whnf); done) | rfl) () (by rw [← depthUpto_all t]; rfl) (fun w hs => hs.none)
theorem rdepth_spec : ∀ (t : T), size t ≤ 1152921504606846976 → ∀ vr vk vs, Spec Tryz.prog 55 #[.agg (tc t vr vk vs).toArray] [RT t vr vk vs] [] (fun _ : Unit => .int .i64 (depth t : Int)) (fun _ => []) (fun _ => []) :=
  T.ind fun t ih hsz vr vk vs => rdepth_walk t vr vk vs hsz ih
end Go.Hy
namespace Go.Hy
set_option linter.unusedVariables false
set_option linter.unusedSimpArgs false
set_option linter.unusedSectionVars false
open Go.Proofs
set_option linter.unusedVariables false
set_option linter.unusedSimpArgs false
set_option maxRecDepth 100000
theorem equal_spec (l m : List Cl) (a b : SH) : Spec Tryz.prog 66 #[sl a l.length, sl b m.length] [CL l a, CL m b] [] (fun _ : Unit => .bool (decide (l = m))) (fun _ => []) (fun _ => []) := by
  refine spec_go (args := [sl a l.length, sl b m.length]) Tryz.func66 Tryz.ntmps66 rfl (by exact Nat.le_of_ble_eq_true rfl) fun B hB => ?_
  refine go_openCL (l := l) (a := a) (fun hl1 hA1 hU1 => ?_)
  refine go_openCL (l := m) (a := b) (fun hl2 hA2 hU2 => ?_)
  refine go_seq ?_
  refine go_region ⟨_, Tryz.func66⟩ rfl ?_
  refine q0 rfl (o_assign ?_)
  refine rg_nil ?_
  refine go_seq ?_
  refine go_seq ?_
  refine go_region ⟨_, Tryz.func66⟩ rfl ?_
  refine q0 rfl (o_move ?_)
  refine q0 rfl (o_len ?_)
  refine q0 rfl (o_move ?_)
  refine q0 rfl (o_len ?_)
  refine q0 rfl (o_neI ?_)
  refine rg_nil ?_
  refine go_condI (fun h10 => ?_) (fun h10 => ?_)
  · have hne : ¬ l = m := fun e => by subst e; simp at h10
    refine go_seq ?_
    refine go_region ⟨_, Tryz.func66⟩ rfl ?_
    refine q0 rfl (o_assign ?_)
    refine rg_nil ?_
    refine ret1 Tryz.func66 Tryz.results66 (by first | ((conv => lhs; whnf); done) | rfl) () (by rw [decide_eq_false hne]) (fun w hs => hs.none)
  · have hlen : l.length = m.length := by simp at h10; omega
    refine go_skip ?_
    refine go_seq ?_
    refine go_seq ?_
    refine go_region ⟨_, Tryz.func66⟩ rfl ?_
    refine q0 rfl (o_move ?_)
    refine q0 rfl (o_len ?_)
    refine q0 rfl (o_move ?_)
    refine rg_nil ?_
    refine go_block ?_
    refine go_loopI (X := Nat) (fun i => i ≤ l.length ∧ ∀ j, j < i → l.getD j cl0 = m.getD j cl0) (fun i => [(0, sl a l.length), (1, sl b m.length), (12, .int .i64 (l.length : Int)), (13, .int .i64 (i : Int))]) (fun i => [CL l a, CL m b]) (fun i => []) (fun i => l.length - i) (0) (⟨Nat.zero_le _, fun j hj => by omega⟩) (by exact ⟨rfl, rfl, rfl, rfl, trivial⟩) ?_ ?_
    · exact fun w hs => hs.less (by simp +contextual)
    · intro i base0 ⟨hi, hok⟩ next0
      refine go_seq ?_
      refine go_region ⟨_, Tryz.func66⟩ rfl ?_
      refine q0 rfl (o_lss ?_)
      refine rg_nil ?_
      refine go_seq ?_
      refine go_condI (fun h14 => ?_) (fun h14 => ?_)
      · have hlt : i < l.length := by have := of_decide_eq_true h14; omega
        have hlt2 : i < m.length := by omega
        obtain ⟨bk, o, hav⟩ := hA1 (by omega)
        obtain ⟨bk2, o2, hav2⟩ := hA2 (by omega)
        refine go_skip ?_
        refine go_seq ?_
        refine go_block ?_
        refine go_seq ?_
        refine go_region ⟨_, Tryz.func66⟩ rfl ?_
        refine q0 rfl (o_move ?_)
        refine q0 rfl (o_assign ?_)
        refine rg_nil ?_
        refine go_seq ?_
        refine go_draw (tn := false) (A := [0, 0, 3, 7, 0, 0, 48, 112, 255]) (l := [0, 1, 2, 3, 4, 5, 6, 7, 8]) (fin := []) Tab.mixed ⟨_, Tryz.func66⟩ (by rfl) ?_
        refine n0 rfl (v_move ?_)
        refine n0 rfl (v_move ?_)
        refine n0 rfl (v_ixN ?_)
        refine n0 rfl (v_ldC ?_)
        refine n0 rfl (v_move ?_)
        refine n0 rfl (v_move ?_)
        refine n0 rfl (v_ixN ?_)
        refine n0 rfl (v_ldC ?_)
        refine n0 rfl (v_neC ?_)
        refine NV.done ?_
        refine rg_nil ?_
        refine go_condI (fun h24 => ?_) (fun h24 => ?_)
        · refine go_seq ?_
          refine go_region ⟨_, Tryz.func66⟩ rfl ?_
          refine q0 rfl (o_assign ?_)
          refine rg_nil ?_
          refine ret1 Tryz.func66 Tryz.results66 (by first | ((conv => lhs; whnf); done) | rfl) () (by rw [decide_eq_false (fun e => by subst e; simp at h24)]) (fun w hs => hs.none)
        · refine go_skip ?_
          refine go_inBlock ?_
          refine go_region ⟨_, Tryz.func66⟩ rfl ?_
          refine q0 rfl (o_add ?_)
          refine q0 rfl (o_move ?_)
          refine rg_nil ?_
          have hb : l.getD i cl0 = m.getD i cl0 := by simpa using h24
          refine go_state (fun w hs => ?_) (next0 (i + 1) _ ⟨hlt, fun j hj => (by rcases Nat.lt_succ_iff_lt_or_eq.mp hj with h | h; exact hok j h; subst h; exact hb)⟩ (by omega) ⟨rfl, rfl, rfl, rfl, trivial⟩)
          exact hs
      · have hge : i = l.length := by have := of_decide_eq_false h14; omega
        refine go_exit rfl ?_
        refine go_seq ?_
        refine go_region ⟨_, Tryz.func66⟩ rfl ?_
        refine q0 rfl (o_assign ?_)
        refine rg_nil ?_
        refine ret1 Tryz.func66 Tryz.results66 (by first | ((conv => lhs; whnf); done) | rfl) () (by rw [decide_eq_true (list_eq_of hlen (by rw [← hge]; exact hok))]) (fun w hs => hs.none)
end Go.Hy
namespace Go.Hy
set_option linter.unusedVariables false
set_option linter.unusedSimpArgs false
set_option linter.unusedSectionVars false
open Go.Proofs
set_option linter.unusedVariables false
set_option linter.unusedSimpArgs false
set_option maxRecDepth 100000
theorem clone_spec (l : List Cl) (a : SH) : Spec Tryz.prog 70 #[sl a l.length] [CL l a] [] (fun x : SH => sl x l.length) (fun x => [CL l x]) (fun _ => []) := by
  refine spec_go (args := [sl a l.length]) Tryz.func70 Tryz.ntmps70 rfl (by exact Nat.le_of_ble_eq_true rfl) fun B hB => ?_
  refine go_openCL (l := l) (a := a) (fun hl1 hA1 hU1 => ?_)
  refine go_seq ?_
  refine go_region ⟨_, Tryz.func70⟩ rfl ?_
  refine q0 rfl (o_assign ?_)
  refine rg_nil ?_
  refine go_seq ?_
  refine go_seq ?_
  refine go_region ⟨_, Tryz.func70⟩ rfl ?_
  refine q0 rfl (o_move ?_)
  refine q0 rfl (o_eqNil ?_)
  refine rg_nil ?_
  refine go_condI (fun h4 => ?_) (fun h4 => ?_)
  · refine go_seq ?_
    refine go_region ⟨_, Tryz.func70⟩ rfl ?_
    refine q0 rfl (o_assign ?_)
    refine rg_nil ?_
    have hl : l = [] := by (rcases Nat.eq_zero_or_pos l.length with h | h; exact List.eq_nil_of_length_eq_zero h; obtain ⟨bk, o, hav⟩ := hA1 h; rw [hav] at h4; cases h4)
    subst hl
    refine ret1 Tryz.func70 Tryz.results70 (by first | ((conv => lhs; whnf); done) | rfl) (none, 0) rfl (fun w hs => (hs.nilCL 0).less (by simp))
  · refine go_skip ?_
    refine go_seq ?_
    refine go_region ⟨_, Tryz.func70⟩ rfl ?_
    refine q0 rfl (o_lit0 fun b5 => ?_)
    refine q0 rfl (o_move ?_)
    refine rg_state (fun w hs => hs.boxRow (sz := 2) (m := 0) rfl (by decide)) ?_
    refine q0 rfl (o_appCL (fun a7 => ?_) (by exact List.mem_cons_self))
    refine q0 rfl (o_assign ?_)
    refine rg_nil ?_
    have e0 : 0 + l.length = l.length := by omega
    rw [e0]
    refine ret1 Tryz.func70 Tryz.results70 (by first | ((conv => lhs; whnf); done) | rfl) a7 rfl (fun w hs => ((hs.settleCL hB (by simp) (by omega) (by unfold reach at *; omega) hU1).less (by simp)))
abbrev CopyAt (t : T) : Prop := ∀ vr vk vs, Spec Tryz.prog 36 #[.agg (tc t vr vk vs).toArray] [RT t vr vk vs] [] (fun x : SH × SH × SH => .agg (tc t x.1 x.2.1 x.2.2).toArray) (fun x => [RT t x.1 x.2.1 x.2.2]) (fun _ => [])
theorem copied_walk (ts : List T) (a : SH) (ih : ∀ t, t ∈ ts → CopyAt t) : Spec Tryz.prog 71 #[sl a ts.length] [TL ts a] [] (fun x : SH => sl x ts.length) (fun x => [TL ts x]) (fun _ => []) := by
  refine spec_go (args := [sl a ts.length]) Tryz.func71 Tryz.ntmps71 rfl (by exact Nat.le_of_ble_eq_true rfl) fun B hB => ?_
  refine go_openTL (ts := ts) (a := a) (fun VR VK VS hl1 hA1 => ?_)
  refine go_seq ?_
  refine go_region ⟨_, Tryz.func71⟩ rfl ?_
  refine q0 rfl (o_assign ?_)
  refine rg_nil ?_
  refine go_seq ?_
  refine go_region ⟨_, Tryz.func71⟩ rfl ?_
  refine q0 rfl (o_assign ?_)
  refine rg_nil ?_
  refine go_seq ?_
  refine go_seq ?_
  refine go_region ⟨_, Tryz.func71⟩ rfl ?_
  refine q0 rfl (o_move ?_)
  refine q0 rfl (o_len ?_)
  refine q0 rfl (o_move ?_)
  refine rg_nil ?_
  refine go_block ?_
  refine go_loopI (X := Nat × SH × List TP) (fun s => s.1 ≤ ts.length ∧ s.2.2.length = s.1 ∧ s.2.2.map (·.1) = ts.take s.1) (fun s => [(3, sl s.2.1 s.1), (6, sl a ts.length), (7, .int .i64 (ts.length : Int)), (8, .int .i64 (s.1 : Int))]) (fun s => [AP s.2.2, TLx ts a VR VK VS]) (fun s => [rowS 6 26 s.2.1 s.1 (tpFlat s.2.2)]) (fun s => ts.length - s.1) ((0, (none, 0), [])) (⟨Nat.zero_le _, rfl, rfl⟩) (by exact ⟨rfl, rfl, rfl, rfl, trivial⟩) ?_ ?_
  · exact fun w hs => ((hs.rowS0 6 26).apNil).less (by simp +contextual)
  · intro ⟨i, a3, ps⟩ base0 ⟨hi, hpl, hpm⟩ next0
    dsimp only at hi hpl hpm next0 ⊢
    refine go_seq ?_
    refine go_region ⟨_, Tryz.func71⟩ rfl ?_
    refine q0 rfl (o_lss ?_)
    refine rg_nil ?_
    refine go_seq ?_
    refine go_condI (fun h9 => ?_) (fun h9 => ?_)
    · have hlt : i < ts.length := by have := of_decide_eq_true h9; omega
      obtain ⟨bk, o, hav⟩ := hA1 (by omega)
      refine go_kid (ts := ts) (a := a) (VR := VR) (VK := VK) (VS := VS) i hlt ?_
      refine go_skip ?_
      refine go_seq ?_
      refine go_block ?_
      refine go_seq ?_
      refine go_region ⟨_, Tryz.func71⟩ rfl ?_
      refine q0 rfl (o_ixN ?_)
      refine q0 rfl (o_ldT ?_)
      refine q0 rfl (o_new fun b5 => ?_)
      refine q0 rfl (o_st ?_)
      refine rg_nil ?_
      refine go_region ⟨_, Tryz.func71⟩ rfl ?_
      refine q0 rfl (o_move ?_)
      refine q0 rfl (o_lds ?_)
      refine q0 rfl (o_call Tryz.call36 (ih _ (getD_mem hlt) (VR i) (VK i) (VS i)) (fun x14 => ?_))
      refine q0 rfl (o_lit1 fun b15 => ?_)
      refine q0 rfl (o_appS (fun a16 => ?_)  )
      refine q0 rfl (o_assign ?_)
      refine rg_nil ?_
      refine go_inBlock ?_
      refine go_region ⟨_, Tryz.func71⟩ rfl ?_
      refine q0 rfl (o_add ?_)
      refine q0 rfl (o_move ?_)
      refine rg_nil ?_
      refine go_state (fun w hs => ?_) (next0 (i + 1, a16, ps ++ [(ts.getD i t0, x14)]) _ ⟨hlt, by simp [hpl], by simp only [List.map_append, List.map_cons, List.map_nil, hpm]; exact (take_succ_getD hlt).symm⟩ (by simp only; omega) ⟨rfl, rfl, rfl, rfl, trivial⟩)
      have h1 := hs.apAdd (ps := ps) (t := ts.getD i t0) (vr := x14.1) (vk := x14.2.1) (vs := x14.2.2) (by simp) (by simp)
      have e1 : tpFlat (ps ++ [(ts.getD i t0, x14)]) = tpFlat ps ++ tc (ts.getD i t0) x14.1 x14.2.1 x14.2.2 := by simp [tpFlat, tpCells]
      rw [e1]
      exact (h1.less (by simp +contextual)).dropR (A := [_])
    · have hge : i = ts.length := by have := of_decide_eq_false h9; omega
      refine go_exit rfl ?_
      refine go_seq ?_
      refine go_region ⟨_, Tryz.func71⟩ rfl ?_
      refine q0 rfl (o_move ?_)
      refine q0 rfl (o_assign ?_)
      refine rg_nil ?_
      have hm2 : ps.map (·.1) = ts := by rw [hpm, hge, List.take_length]
      rw [hge]
      refine ret1 Tryz.func71 Tryz.results71 (by first | ((conv => lhs; whnf); done) | rfl) a3 rfl (fun w hs => (hs.settleTL hB (by simp) rfl hm2 (by omega) (by unfold reach at *; omega)).less (by simp))
theorem copy_walk (t : T) (ih : ∀ p, p ∈ parts t → CopyAt p.1) (vr vk vs : SH) : Spec Tryz.prog 36 #[.agg (tc t vr vk vs).toArray] [RT t vr vk vs] [] (fun x : SH × SH × SH => .agg (tc t x.1 x.2.1 x.2.2).toArray) (fun x => [RT t x.1 x.2.1 x.2.2]) (fun _ => []) := by
  refine spec_go (args := [.agg (tc t vr vk vs).toArray]) Tryz.func36 Tryz.ntmps36 rfl (by exact Nat.le_of_ble_eq_true rfl) fun B hB => ?_
  refine go_open (t := t) (vr := vr) (vk := vk) (vs := vs) (fun hk hn hnm => ?_)
  refine go_openBL (bs := t.sys) (a := vs) (fun VF VK hl1 hA1 => ?_)
  refine go_seq ?_
  refine go_region ⟨_, Tryz.func36⟩ rfl ?_
  refine q0 rfl (o_box fun b1 => ?_)
  refine q0 rfl (o_new fun b2 => ?_)
  refine rg_nil ?_
  refine go_seq ?_
  refine go_draw (tn := false) (A := [0, 1, 0, 4, 0, 16, 0, 64, 192, 0, 512, 1984, 4095, 0, 16383]) (l := [0, 1, 2, 3, 4, 5, 6, 7, 9, 10, 8, 11, 12, 13]) (fin := [14]) Tab.mixed ⟨_, Tryz.func36⟩ (by rfl) ?_
  refine n0 rfl (v_fa ?_)
  refine n0 rfl (v_ld ?_)
  refine n0 rfl (v_fa ?_)
  refine n0 rfl (v_ld ?_)
  refine n0 rfl (v_fa ?_)
  refine n0 rfl (v_ld ?_)
  refine n0 rfl (v_fa ?_)
  refine n0 rfl (v_ld ?_)
  refine n0 rfl (v_fa ?_)
  refine n0 rfl (v_ld ?_)
  refine n0 rfl (v_call Tryz.call70 (clone_spec t.r vr) (fun x14 => ?_))
  refine n0 rfl (v_call Tryz.call71 (copied_walk t.kids vk (fun k hk => (by obtain ⟨p, hp, e⟩ := kid_mem_parts hk; exact e ▸ ih p hp))) (fun x17 => ?_))
  refine n0 rfl (v_build (cs := [.int .i64 t.kind, .int .i64 t.n, .string t.name, sl x14 t.r.length, sl x17 t.kids.length, .slice none 0 0]) ?_)
  refine n0 rfl (v_new fun b3 => ?_)
  refine NV.done ?_
  refine q0 rfl (o_st ?_)
  refine rg_nil ?_
  refine go_seq ?_
  refine go_seq ?_
  refine go_region ⟨_, Tryz.func36⟩ rfl ?_
  refine q0 rfl (o_fa ?_)
  refine q0 rfl (o_ld ?_)
  refine q0 rfl (o_len ?_)
  refine q0 rfl (o_move ?_)
  refine rg_nil ?_
  refine go_block ?_
  refine go_loopI (X := Nat × SH × List BP) (fun s => s.1 ≤ t.sys.length ∧ s.2.2.length = s.1 ∧ s.2.2.map (·.1) = t.sys.take s.1) (fun s => [(2, .pointer (some ⟨b2, 0, none⟩)), (3, .pointer (some ⟨b3, 0, none⟩)), (20, sl vs t.sys.length), (21, .int .i64 (t.sys.length : Int)), (22, .int .i64 (s.1 : Int))]) (fun s => [BPs s.2.2, BLx t.sys vs VF VK, CL t.r x14, TL t.kids x17]) (fun s => [boxR b3 [.int .i64 t.kind, .int .i64 t.n, .string t.name, sl x14 t.r.length, sl x17 t.kids.length, sl s.2.1 s.1] 26, rowS 2 71 s.2.1 s.1 (bpFlat s.2.2), boxR b2 [.int .i64 0, .int .i64 0, .string ⟨#[]⟩, .slice none 0 0, .slice none 0 0, .slice none 0 0] 26]) (fun s => t.sys.length - s.1) ((0, (none, 0), [])) (⟨Nat.zero_le _, rfl, rfl⟩) (by exact ⟨rfl, rfl, rfl, rfl, rfl, trivial⟩) ?_ ?_
  · exact fun w hs => (((hs.rowS0 2 71).bpNil).less (by simp +contextual)).perm perm1 |>.dropR (A := [_, _, _])
  · intro ⟨i, a3, ps⟩ base0 ⟨hi, hpl, hpm⟩ next0
    dsimp only at hi hpl hpm next0 ⊢
    refine go_seq ?_
    refine go_region ⟨_, Tryz.func36⟩ rfl ?_
    refine q0 rfl (o_lss ?_)
    refine rg_nil ?_
    refine go_seq ?_
    refine go_condI (fun h23 => ?_) (fun h23 => ?_)
    · have hlt : i < t.sys.length := by have := of_decide_eq_true h23; omega
      obtain ⟨bk, o, hav⟩ := hA1 (by omega)
      refine go_skip ?_
      refine go_seq ?_
      refine go_block ?_
      refine go_seq ?_
      refine go_region ⟨_, Tryz.func36⟩ rfl ?_
      refine q0 rfl (o_ixN ?_)
      refine q0 rfl (o_ldB ?_)
      refine q0 rfl (o_new fun b5 => ?_)
      refine q0 rfl (o_st ?_)
      refine rg_nil ?_
      refine go_branch (bs := t.sys) (a := vs) (VF := VF) (VK := VK) i hlt ?_
      refine go_draw (tn := false) (A := [0, 1, 0, 4, 12, 0, 32, 124, 252, 508, 1023, 2047, 4095]) (l := [0, 1, 2, 3, 5, 6, 4, 7, 8, 9]) (fin := [10, 11, 12]) Tab.mixed ⟨_, Tryz.func36⟩ (by rfl) ?_
      refine n0 rfl (v_fa ?_)
      refine n0 rfl (v_ld ?_)
      refine n0 rfl (v_fa ?_)
      refine n0 rfl (v_ld ?_)
      refine n0 rfl (v_fa ?_)
      refine n0 rfl (v_ld ?_)
      refine n0 rfl (v_call Tryz.call70 (clone_spec (t.sys.getD i br0).face (VF i)) (fun x30 => ?_))
      refine n0 rfl (v_call Tryz.call71 (copied_walk (t.sys.getD i br0).kids (VK i) (fun k hk => (by obtain ⟨p, hp, e⟩ := sys_mem_parts (getD_mem hlt) hk; exact e ▸ ih p hp))) (fun x33 => ?_))
      refine n0 rfl (v_build (cs := bc (t.sys.getD i br0) x30 x33) ?_)
      refine n0 rfl (v_lit1 fun b35 => ?_)
      refine NV.done ?_
      refine q0 rfl (o_appS (fun a36 => ?_)  )
      refine q0 rfl (o_fa ?_)
      refine q0 rfl (o_stc ?_)
      refine rg_nil ?_
      refine go_inBlock ?_
      refine go_region ⟨_, Tryz.func36⟩ rfl ?_
      refine q0 rfl (o_add ?_)
      refine q0 rfl (o_move ?_)
      refine rg_nil ?_
      refine go_state (fun w hs => ?_) (next0 (i + 1, a36, ps ++ [(t.sys.getD i br0, x30, x33)]) _ ⟨hlt, by simp [hpl], by simp only [List.map_append, List.map_cons, List.map_nil, hpm]; exact (take_succ_getD hlt).symm⟩ (by simp only; omega) ⟨rfl, rfl, rfl, rfl, rfl, trivial⟩)
      have h1 := hs.bpAdd (ps := ps) (f := (t.sys.getD i br0).face) (ks := (t.sys.getD i br0).kids) (vf := x30) (vk := x33) (by simp) (by simp) (by simp)
      rw [Br.eta] at h1
      have e1 : bpFlat (ps ++ [(t.sys.getD i br0, x30, x33)]) = bpFlat ps ++ bc (t.sys.getD i br0) x30 x33 := by simp [bpFlat, bpCells]
      rw [e1]
      have h2 := h1.less (Γ' := [BPs (ps ++ [(t.sys.getD i br0, x30, x33)]), BLx t.sys vs VF VK, CL t.r x14, TL t.kids x17]) (by simp +contextual)
      exact ((h2.perm (perm4.trans (perm2.trans perm2))).dropR (A := [_, _, _]))
    · have hge : i = t.sys.length := by have := of_decide_eq_false h23; omega
      refine go_exit rfl ?_
      refine go_seq ?_
      refine go_region ⟨_, Tryz.func36⟩ rfl ?_
      refine q0 rfl (o_lds ?_)
      refine q0 rfl (o_st ?_)
      refine rg_nil ?_
      have hm2 : ps.map (·.1) = t.sys := by rw [hpm, hge, List.take_length]
      refine retC Tryz.func36 Tryz.results36 (x14, x17, a3) rfl (by repeat (first | exact List.mem_cons_self | apply List.mem_cons_of_mem)) rfl rfl rfl (by simp only [tc, hge]; rfl) (fun w hs => ?_)
      have h2 := (hs.perm perm2).settleBL hB (by simp) rfl hm2 (by omega) (by unfold reach at *; omega)
      have h3 := h2.mkRT hk hn hnm (r := t.r) (vr := x14) (ks := t.kids) (vk := x17) (ss := t.sys) (vs := a3) (by simp) (by simp) (by simp)
      rw [T.eta] at h3
      exact (h3.bare).less (by simp)
theorem copy_spec : ∀ t : T, CopyAt t := T.ind fun t ih vr vk vs => copy_walk t ih vr vk vs
end Go.Hy
namespace Go.Hy
set_option linter.unusedVariables false
set_option linter.unusedSimpArgs false
set_option linter.unusedSectionVars false
open Go.Proofs
set_option linter.unusedVariables false
set_option linter.unusedSimpArgs false
set_option maxRecDepth 100000
def varT (n : Int) : T := .mk 1 n ⟨#[]⟩ [] [] []
def lamT (t : T) : T := .mk 5 0 ⟨#[]⟩ [] [t] []
theorem in_lit {n : Int} (h : 0 ≤ n) (h2 : n ≤ 1000) : in64 n := by unfold in64; omega
def kidInts : List Int := [-1, 0, 0, 0, 2, 1, 2, 2, 2, 1, 1, 3, 1, 3, 2, 2, 1, 1, 1, 0, 0, 0, 4, 1, 0, 0, 1, 5, 2]
def kidTab : List Value := kidInts.map (fun z => .int .i64 z)
def kidPV : List (Nat × Value) := [(0, .int .i64 (-1)), (1, .int .i64 (0)), (2, .int .i64 (0)), (3, .int .i64 (0)), (4, .int .i64 (2)), (5, .int .i64 (1)), (6, .int .i64 (2)), (7, .int .i64 (2)), (8, .int .i64 (2)), (9, .int .i64 (1)), (10, .int .i64 (1)), (11, .int .i64 (3)), (12, .int .i64 (1)), (13, .int .i64 (3)), (14, .int .i64 (2)), (15, .int .i64 (2)), (16, .int .i64 (1)), (17, .int .i64 (1)), (18, .int .i64 (1)), (19, .int .i64 (0)), (20, .int .i64 (0)), (21, .int .i64 (0)), (22, .int .i64 (4)), (23, .int .i64 (1)), (24, .int .i64 (0)), (25, .int .i64 (0)), (26, .int .i64 (1)), (27, .int .i64 (5)), (28, .int .i64 (2))]
theorem kidFill : Instr.fill (fun i => some (i * 1, 1)) (Value.agg #[.int .i64 0, .int .i64 0, .int .i64 0, .int .i64 0, .int .i64 0, .int .i64 0, .int .i64 0, .int .i64 0, .int .i64 0, .int .i64 0, .int .i64 0, .int .i64 0, .int .i64 0, .int .i64 0, .int .i64 0, .int .i64 0, .int .i64 0, .int .i64 0, .int .i64 0, .int .i64 0, .int .i64 0, .int .i64 0, .int .i64 0, .int .i64 0, .int .i64 0, .int .i64 0, .int .i64 0, .int .i64 0, .int .i64 0]).cells kidPV = some kidTab.toArray := by kernel_rfl
theorem kidInts_get : ∀ n : Fin 29, kidInts[n.1]? = some (kidsN (n.1 : Int)) := by decide
theorem kidTab_get (n : Fin 29) : kidTab[n.1]? = some (.int .i64 (kidsN (n.1 : Int))) := by
  unfold kidTab; rw [List.getElem?_map, kidInts_get n]; rfl
theorem kidTab_at {k : Int} (h0 : 0 ≤ k) (h1 : k < 29) : kidTab[0 + k.toNat * 1]? = some (.int .i64 (kidsN k)) := by
  have := kidTab_get ⟨k.toNat, by omega⟩
  simp only [Int.toNat_of_nonneg h0] at this
  rw [Nat.zero_add, Nat.mul_one]; exact this
theorem kidsN_out {k : Int} (h : k < 0 ∨ 28 < k) : kidsN k = -1 := by
  unfold kidsN; repeat rw [if_neg (by omega)]
theorem rkids_spec (k : Int) : Spec Tryz.prog 57 #[.int .i64 k] [] [] (fun _ : Unit => .int .i64 (kidsN k)) (fun _ => []) (fun _ => []) := by
  refine spec_go (args := [.int .i64 k]) Tryz.func57 Tryz.ntmps57 rfl (by exact Nat.le_of_ble_eq_true rfl) fun B hB => ?_
  refine go_seq ?_
  refine go_region ⟨_, Tryz.func57⟩ rfl ?_
  refine q0 rfl (o_assign ?_)
  refine rg_nil ?_
  refine go_seq ?_
  refine go_region ⟨_, Tryz.func57⟩ rfl ?_
  refine q0 rfl (o_buildA (pv := kidPV) (cs := kidTab) ?_ (hp := by rfl) (hb := kidFill))
  refine q0 rfl (o_new fun b3 => ?_)
  refine q0 rfl (o_st ?_)
  refine rg_nil ?_
  refine go_seq ?_
  refine go_seq ?_
  refine go_cutS ([(0, .int .i64 k), (3, .pointer (some ⟨b3, 0, none⟩)), (10, .bool (decide (k < 0) || decide (28 < k)))]) (fun hK => ?_) (fun base => ?_)
  · refine go_region ⟨_, Tryz.func57⟩ rfl ?_
    refine q0 rfl (o_move ?_)
    refine q0 rfl (o_lss ?_)
    refine q0 rfl (o_move ?_)
    refine qI rfl rfl rfl (by conv => lhs; whnf) (fun hg7 => o_move ?_) (fun hg7 => ?_)
    · refine qT rfl rfl rfl (o_gtr ?_)
      refine q0 rfl (o_pickF ?_)
      refine rg_nil ?_
      exact hK _ ⟨rfl, rfl, (by (conv => lhs; whnf); first | (simp_all; done) | (simp_all; omega)), trivial⟩
    · refine qF rfl rfl rfl ?_
      refine q0 rfl (o_pickT ?_)
      refine rg_nil ?_
      exact hK _ ⟨rfl, rfl, (by (conv => lhs; whnf); first | (simp_all; done) | (simp_all; omega)), trivial⟩
  · refine go_condI (fun h10 => ?_) (fun h10 => ?_)
    · have hb : k < 0 ∨ 28 < k := by simpa using h10
      refine go_seq ?_
      refine go_region ⟨_, Tryz.func57⟩ rfl ?_
      refine q0 rfl (o_assign ?_)
      refine rg_nil ?_
      refine ret1 Tryz.func57 Tryz.results57 (by first | ((conv => lhs; whnf); done) | rfl) () (by rw [kidsN_out hb]) (fun w hs => hs.none)
    · have hb : 0 ≤ k ∧ k ≤ 28 := by simpa using h10
      refine go_skip ?_
      refine go_seq ?_
      refine go_region ⟨_, Tryz.func57⟩ rfl ?_
      refine q0 rfl (o_move ?_)
      refine q0 rfl (o_ixA ?_ (j := k) (m := 29))
      refine q0 rfl (o_ld ?_ (cs := kidTab) (k := 0 + k.toNat * 1) (hk := kidTab_at (by omega) (by omega)))
      refine q0 rfl (o_assign ?_)
      refine rg_nil ?_
      refine ret1 Tryz.func57 Tryz.results57 (by first | ((conv => lhs; whnf); done) | rfl) () rfl (fun w hs => hs.none)
end Go.Hy
namespace Go.Hy
set_option linter.unusedVariables false
set_option linter.unusedSimpArgs false
set_option linter.unusedSectionVars false
open Go.Proofs
set_option linter.unusedVariables false
set_option linter.unusedSimpArgs false
set_option maxRecDepth 100000
theorem rpower (n : Int) (h0 : 0 ≤ n) (hn : n ≤ 40) : Spec Tryz.prog 78 #[.int .i64 (n)] [] [] (fun _ : Unit => .int .i64 (((2 ^ n.toNat : Nat) : Int))) (fun _ : Unit => []) (fun _ : Unit => []) := by
  refine spec_go (args := [.int .i64 (n)]) Tryz.func78 Tryz.ntmps78 rfl (by exact Nat.le_of_ble_eq_true rfl) fun B hB => ?_
  refine go_seq ?_
  refine go_region ⟨_, Tryz.func78⟩ rfl ?_
  refine q0 rfl (o_assign ?_)
  refine rg_nil ?_
  refine go_seq ?_
  refine go_region ⟨_, Tryz.func78⟩ rfl ?_
  refine q0 rfl (o_assign ?_)
  refine rg_nil ?_
  refine go_seq ?_
  refine go_seq ?_
  refine go_region ⟨_, Tryz.func78⟩ rfl ?_
  refine q0 rfl (o_assign ?_)
  refine rg_nil ?_
  refine go_block ?_
  refine go_loopE (X := Nat) (fun s_ => (s_ : Int) ≤ n) (fun s_ => [(0, .int .i64 (n)), (3, .int .i64 (((2 ^ s_ : Nat) : Int))), (4, .int .i64 ((s_ : Int)))]) (fun s_ G_ => G_) (fun s_ => []) (fun s_ => n.toNat - s_) (0) (by simpa using h0) (by exact ⟨rfl, rfl, rfl, trivial⟩) ?_ ?_
  · exact fun w hs => hs
  · intro i base0 hi0 next0
    have hpw : 2 ^ i ≤ 2 ^ 40 := Nat.pow_le_pow_right (by omega) (by omega)
    have hpz : (0 : Int) ≤ ((2 ^ i : Nat) : Int) := Int.natCast_nonneg _
    refine go_seq ?_
    refine go_seq ?_
    refine go_region ⟨_, Tryz.func78⟩ rfl ?_
    refine q0 rfl (o_move ?_)
    refine q0 rfl (o_move ?_)
    refine q0 rfl (o_lss ?_)
    refine rg_nil ?_
    refine go_condI (fun h7 => ?_) (fun h7 => ?_)
    · have c7 : (decide ((i : Int) < n)) = true := h7
      try simp only [decide_eq_true_eq, decide_eq_false_iff_not, Bool.and_eq_true, Bool.or_eq_true, Bool.not_eq_true', Bool.and_eq_false_iff, Bool.or_eq_false_iff, Bool.not_eq_false', bne_iff_ne, beq_iff_eq, ne_eq, not_and, Decidable.not_not, Bool.true_and, Bool.and_true, Bool.false_or, Bool.or_false] at c7
      refine go_skip ?_
      refine go_seq ?_
      refine go_block ?_
      refine go_region ⟨_, Tryz.func78⟩ rfl ?_
      refine q0 rfl (o_move ?_)
      refine q0 rfl (o_mul ?_)
      refine q0 rfl (o_assign ?_)
      refine rg_nil ?_
      refine go_inBlock ?_
      refine go_region ⟨_, Tryz.func78⟩ rfl ?_
      refine q0 rfl (o_move ?_)
      refine q0 rfl (o_add ?_)
      refine q0 rfl (o_assign ?_)
      refine rg_nil ?_
      refine go_state (fun w hs => ?_) (next0 (i + 1) _ (by omega) (by omega) ⟨rfl, (by (conv => lhs; whnf); rw [Nat.pow_succ]; push_cast; rfl), rfl, trivial⟩)
      exact (hs.less (by simp +contextual))
    · have c7 : (decide ((i : Int) < n)) = false := h7
      try simp only [decide_eq_true_eq, decide_eq_false_iff_not, Bool.and_eq_true, Bool.or_eq_true, Bool.not_eq_true', Bool.and_eq_false_iff, Bool.or_eq_false_iff, Bool.not_eq_false', bne_iff_ne, beq_iff_eq, ne_eq, not_and, Decidable.not_not, Bool.true_and, Bool.and_true, Bool.false_or, Bool.or_false] at c7
      have he : n.toNat = i := by omega
      refine go_exit rfl ?_
      refine go_seq ?_
      refine go_region ⟨_, Tryz.func78⟩ rfl ?_
      refine q0 rfl (o_move ?_)
      refine q0 rfl (o_assign ?_)
      refine rg_nil ?_
      -- leaf 0: .int .i64 (((2 ^ i : Nat) : Int))
      refine ret1 Tryz.func78 Tryz.results78 (by first | ((conv => lhs; whnf); done) | rfl) () (by rw [he]) (fun w hs => hs.none)
theorem rhas (s : Nat) (i : Int) (hs : s < 4294967296) : Spec Tryz.prog 76 #[.int .u32 ((s : Nat) : Int), .int .i64 (i)] [] [] (fun _ : Unit => .bool ((hasM s i))) (fun _ : Unit => []) (fun _ : Unit => []) := by
  refine spec_go (args := [.int .u32 ((s : Nat) : Int), .int .i64 (i)]) Tryz.func76 Tryz.ntmps76 rfl (by exact Nat.le_of_ble_eq_true rfl) fun B hB => ?_
  refine go_seq ?_
  refine go_region ⟨_, Tryz.func76⟩ rfl ?_
  refine q0 rfl (o_assign ?_)
  refine rg_nil ?_
  refine go_seq ?_
  refine go_cutS ([(4, .bool (((decide (0 ≤ i)) && (decide (i < 24))) && (decide (((s / 2 ^ i.toNat % 2 : Nat) : Int) = 1))))]) (fun hK => ?_) (fun base => ?_)
  · refine go_region ⟨_, Tryz.func76⟩ rfl ?_
    refine q0 rfl (o_move ?_)
    refine q0 rfl (o_geq ?_)
    refine q0 rfl (o_move ?_)
    refine qI rfl rfl rfl (by conv => lhs; whnf) (fun hg7 => ?_) (fun hg7 => ?_)
    · have g7 : (decide (0 ≤ i)) = true := hg7
      try simp only [decide_eq_true_eq, decide_eq_false_iff_not, Bool.and_eq_true, Bool.or_eq_true, Bool.not_eq_true', Bool.and_eq_false_iff, Bool.or_eq_false_iff, Bool.not_eq_false', bne_iff_ne, beq_iff_eq, ne_eq, not_and, Decidable.not_not, Bool.true_and, Bool.and_true, Bool.false_or, Bool.or_false] at g7
      refine o_move ?_
      refine qT rfl rfl rfl (o_lss ?_)
      refine q0 rfl (o_pickT ?_)
      refine q0 rfl (o_move ?_)
      refine qI rfl rfl rfl (by conv => lhs; whnf) (fun hg11 => ?_) (fun hg11 => ?_)
      · have g11 : (decide (i < 24)) = true := hg11
        try simp only [decide_eq_true_eq, decide_eq_false_iff_not, Bool.and_eq_true, Bool.or_eq_true, Bool.not_eq_true', Bool.and_eq_false_iff, Bool.or_eq_false_iff, Bool.not_eq_false', bne_iff_ne, beq_iff_eq, ne_eq, not_and, Decidable.not_not, Bool.true_and, Bool.and_true, Bool.false_or, Bool.or_false] at g11
        refine o_move ?_
        refine qT rfl rfl rfl (o_convUI ?_)
        refine qT rfl rfl rfl (o_move ?_)
        refine qT rfl rfl rfl (o_call Tryz.call78 (rpower i (by first | assumption | omega | (unfold in64 at *; omega) | (unfold reach at *; omega) | (simp_all; done)) (by first | assumption | omega | (unfold in64 at *; omega) | (unfold reach at *; omega) | (simp_all; done))) (fun x15 => ?_))
        refine qT rfl rfl rfl (o_quoN ?_ (a := s) (b := 2 ^ i.toNat))
        refine qT rfl rfl rfl (o_remN ?_ (a := s / 2 ^ i.toNat) (b := 2))
        refine qT rfl rfl rfl (o_eqI ?_ (a := ((s / 2 ^ i.toNat % 2 : Nat) : Int)) (b := 1))
        refine q0 rfl (o_pickT ?_)
        refine q0 rfl (o_assign ?_)
        refine rg_nil ?_
        exact hK _ ⟨(by first | rfl | ((conv => lhs; whnf); first | (simp_all [hasM_eq]; done) | (simp_all [hasM_eq]; omega))), trivial⟩
      · have g11 : (decide (i < 24)) = false := hg11
        try simp only [decide_eq_true_eq, decide_eq_false_iff_not, Bool.and_eq_true, Bool.or_eq_true, Bool.not_eq_true', Bool.and_eq_false_iff, Bool.or_eq_false_iff, Bool.not_eq_false', bne_iff_ne, beq_iff_eq, ne_eq, not_and, Decidable.not_not, Bool.true_and, Bool.and_true, Bool.false_or, Bool.or_false] at g11
        refine qF rfl rfl rfl ?_
        refine qF rfl rfl rfl ?_
        refine qF rfl rfl rfl ?_
        refine qF rfl rfl rfl ?_
        refine qF rfl rfl rfl ?_
        refine qF rfl rfl rfl ?_
        refine q0 rfl (o_pickF ?_)
        refine q0 rfl (o_assign ?_)
        refine rg_nil ?_
        exact hK _ ⟨(by first | rfl | ((conv => lhs; whnf); first | (simp_all [hasM_eq]; done) | (simp_all [hasM_eq]; omega))), trivial⟩
    · have g7 : (decide (0 ≤ i)) = false := hg7
      try simp only [decide_eq_true_eq, decide_eq_false_iff_not, Bool.and_eq_true, Bool.or_eq_true, Bool.not_eq_true', Bool.and_eq_false_iff, Bool.or_eq_false_iff, Bool.not_eq_false', bne_iff_ne, beq_iff_eq, ne_eq, not_and, Decidable.not_not, Bool.true_and, Bool.and_true, Bool.false_or, Bool.or_false] at g7
      refine qF rfl rfl rfl ?_
      refine q0 rfl (o_pickF ?_)
      refine q0 rfl (o_move ?_)
      refine qF rfl rfl rfl ?_
      refine qF rfl rfl rfl ?_
      refine qF rfl rfl rfl ?_
      refine qF rfl rfl rfl ?_
      refine qF rfl rfl rfl ?_
      refine qF rfl rfl rfl ?_
      refine qF rfl rfl rfl ?_
      refine q0 rfl (o_pickF ?_)
      refine q0 rfl (o_assign ?_)
      refine rg_nil ?_
      exact hK _ ⟨(by first | rfl | ((conv => lhs; whnf); first | (simp_all [hasM_eq]; done) | (simp_all [hasM_eq]; omega))), trivial⟩
  · -- leaf 0: .bool (((decide (0 ≤ i)) && (decide (i < 24))) && (decide (((s / 2 ^ i.toNat % 2 : Nat) : Int) = 1)))
    refine ret1 Tryz.func76 Tryz.results76 (by first | ((conv => lhs; whnf); done) | rfl) () (congrArg Value.bool (by rw [hasM_eq, show decide (((s / 2 ^ i.toNat % 2 : Nat) : Int) = 1) = decide (s / 2 ^ i.toNat % 2 = 1) from decide_eq_decide.mpr (by omega)])) (fun w hs => hs.none)
theorem p24 : (2 ^ (24 : Int).toNat : Nat) = 16777216 := by decide +kernel
theorem rmright (s : Nat) (hs : s < 4294967296) : Spec Tryz.prog 101 #[.int .u32 ((s : Nat) : Int)] [] [] (fun _ : Unit => .bool ((decide (s < 16777216)))) (fun _ : Unit => []) (fun _ : Unit => []) := by
  refine spec_go (args := [.int .u32 ((s : Nat) : Int)]) Tryz.func101 Tryz.ntmps101 rfl (by exact Nat.le_of_ble_eq_true rfl) fun B hB => ?_
  refine go_seq ?_
  refine go_region ⟨_, Tryz.func101⟩ rfl ?_
  refine q0 rfl (o_assign ?_)
  refine rg_nil ?_
  refine go_seq ?_
  refine go_region ⟨_, Tryz.func101⟩ rfl ?_
  refine q0 rfl (o_move ?_)
  refine q0 rfl (o_convUI ?_)
  refine q0 rfl (o_call Tryz.call78 (rpower 24 (by first | assumption | omega | (unfold in64 at *; omega) | (unfold reach at *; omega) | (simp_all; done)) (by first | assumption | omega | (unfold in64 at *; omega) | (unfold reach at *; omega) | (simp_all; done))) (fun x5 => ?_))
  refine q0 rfl (o_lss ?_)
  refine q0 rfl (o_assign ?_)
  refine rg_nil ?_
  -- leaf 0: .bool (decide (((s : Nat) : Int) < ((2 ^ 24.toNat : Nat) : Int)))
  refine ret1 Tryz.func101 Tryz.results101 (by first | ((conv => lhs; whnf); done) | rfl) () (congrArg Value.bool (decide_eq_decide.mpr (by rw [p24]; omega))) (fun w hs => hs.none)
theorem rlist (s : Nat) (hs : s < 4294967296) : Spec Tryz.prog 84 #[.int .u32 ((s : Nat) : Int)] [] [] (fun x : SH => sl x (listM s).length) (fun x : SH => [IL (listM s) x]) (fun x : SH => []) := by
  refine spec_go (args := [.int .u32 ((s : Nat) : Int)]) Tryz.func84 Tryz.ntmps84 rfl (by exact Nat.le_of_ble_eq_true rfl) fun B hB => ?_
  refine go_seq ?_
  refine go_region ⟨_, Tryz.func84⟩ rfl ?_
  refine q0 rfl (o_assign ?_)
  refine rg_nil ?_
  refine go_seq ?_
  refine go_region ⟨_, Tryz.func84⟩ rfl ?_
  refine q0 rfl (o_assign ?_)
  refine rg_nil ?_
  refine go_seq ?_
  refine go_seq ?_
  refine go_region ⟨_, Tryz.func84⟩ rfl ?_
  refine q0 rfl (o_assign ?_)
  refine rg_nil ?_
  refine go_block ?_
  refine go_loopE (X := Nat × SH) (fun s_ => s_.1 ≤ 24) (fun s_ => [(0, .int .u32 ((s : Nat) : Int)), (3, sl s_.2 ((listTo s s_.1).length)), (4, .int .i64 ((s_.1 : Int)))]) (fun s_ G_ => G_) (fun s_ => [rowS 1 3 s_.2 ((listTo s s_.1).length) (intFlat (listTo s s_.1))]) (fun s_ => 24 - s_.1) (0, (none, 0)) (by omega) (by exact ⟨rfl, rfl, rfl, trivial⟩) ?_ ?_
  · exact fun w hs => (hs.rowS0 1 3)
  · intro ⟨i, a⟩ base0 hi0 next0
    dsimp only at hi0 next0 ⊢
    have hln := listTo_len s i
    refine go_seq ?_
    refine go_seq ?_
    refine go_region ⟨_, Tryz.func84⟩ rfl ?_
    refine q0 rfl (o_move ?_)
    refine q0 rfl (o_lss ?_)
    refine rg_nil ?_
    refine go_condI (fun h6 => ?_) (fun h6 => ?_)
    · have c6 : (decide ((i : Int) < 24)) = true := h6
      try simp only [decide_eq_true_eq, decide_eq_false_iff_not, Bool.and_eq_true, Bool.or_eq_true, Bool.not_eq_true', Bool.and_eq_false_iff, Bool.or_eq_false_iff, Bool.not_eq_false', bne_iff_ne, beq_iff_eq, ne_eq, not_and, Decidable.not_not, Bool.true_and, Bool.and_true, Bool.false_or, Bool.or_false] at c6
      refine go_skip ?_
      refine go_seq ?_
      refine go_block ?_
      refine go_seq ?_
      refine go_region ⟨_, Tryz.func84⟩ rfl ?_
      refine q0 rfl (o_move ?_)
      refine q0 rfl (o_move ?_)
      refine q0 rfl (o_call Tryz.call76 (rhas s (i : Int) (by first | assumption | omega | (unfold in64 at *; omega) | (unfold reach at *; omega) | (simp_all; done))) (fun x11 => ?_))
      refine rg_nil ?_
      refine go_condI (fun h11 => ?_) (fun h11 => ?_)
      · have c11 : ((hasM s (i : Int))) = true := h11
        try simp only [decide_eq_true_eq, decide_eq_false_iff_not, Bool.and_eq_true, Bool.or_eq_true, Bool.not_eq_true', Bool.and_eq_false_iff, Bool.or_eq_false_iff, Bool.not_eq_false', bne_iff_ne, beq_iff_eq, ne_eq, not_and, Decidable.not_not, Bool.true_and, Bool.and_true, Bool.false_or, Bool.or_false] at c11
        refine go_region ⟨_, Tryz.func84⟩ rfl ?_
        refine q0 rfl (o_move ?_)
        refine q0 rfl (o_move ?_)
        refine q0 rfl (o_lit1 fun b14 => ?_)
        refine q0 rfl (o_appS (fun a15 => ?_) (a := a) (n' := (listTo s i).length))
        refine rg_state (fun w hs => ((hs.perm perm1).drop).snocI) ?_
        refine q0 rfl (o_assign ?_)
        refine rg_nil ?_
        refine go_inBlock ?_
        refine go_region ⟨_, Tryz.func84⟩ rfl ?_
        refine q0 rfl (o_move ?_)
        refine q0 rfl (o_add ?_)
        refine q0 rfl (o_assign ?_)
        refine rg_nil ?_
        have hnx : listTo s (i + 1) = listTo s i ++ [(i : Int)] := by rw [listTo_succ, if_pos]; simp [hasM] at c11; exact c11.2
        refine go_state (fun w hs => ?_) (next0 (i + 1, a15) _ (by omega) (by (try simp only); omega) ⟨rfl, (by (conv => lhs; whnf); simp [sl, hnx]), rfl, trivial⟩)
        rw [hnx]; simpa using (hs.less (by simp +contextual))
      · have c11 : ((hasM s (i : Int))) = false := h11
        try simp only [decide_eq_true_eq, decide_eq_false_iff_not, Bool.and_eq_true, Bool.or_eq_true, Bool.not_eq_true', Bool.and_eq_false_iff, Bool.or_eq_false_iff, Bool.not_eq_false', bne_iff_ne, beq_iff_eq, ne_eq, not_and, Decidable.not_not, Bool.true_and, Bool.and_true, Bool.false_or, Bool.or_false] at c11
        refine go_skip ?_
        refine go_inBlock ?_
        refine go_region ⟨_, Tryz.func84⟩ rfl ?_
        refine q0 rfl (o_move ?_)
        refine q0 rfl (o_add ?_)
        refine q0 rfl (o_assign ?_)
        refine rg_nil ?_
        have hnx : listTo s (i + 1) = listTo s i := by rw [listTo_succ, if_neg]; simp [hasM] at c11; simp [c11 (by omega)]
        refine go_state (fun w hs => ?_) (next0 (i + 1, a) _ (by omega) (by (try simp only); omega) ⟨rfl, (by (conv => lhs; whnf); simp [sl, hnx]), rfl, trivial⟩)
        rw [hnx]; exact (hs.less (by simp +contextual))
    · have c6 : (decide ((i : Int) < 24)) = false := h6
      try simp only [decide_eq_true_eq, decide_eq_false_iff_not, Bool.and_eq_true, Bool.or_eq_true, Bool.not_eq_true', Bool.and_eq_false_iff, Bool.or_eq_false_iff, Bool.not_eq_false', bne_iff_ne, beq_iff_eq, ne_eq, not_and, Decidable.not_not, Bool.true_and, Bool.and_true, Bool.false_or, Bool.or_false] at c6
      refine go_exit rfl ?_
      refine go_seq ?_
      refine go_region ⟨_, Tryz.func84⟩ rfl ?_
      refine q0 rfl (o_move ?_)
      refine q0 rfl (o_assign ?_)
      refine rg_nil ?_
      -- leaf 0: sl a ((listTo s i).length)
      have he : i = 24 := by omega
      subst he
      refine ret1 Tryz.func84 Tryz.results84 (by first | ((conv => lhs; whnf); done) | rfl) a rfl (fun w hs => (hs.settleIL hB rfl rfl (by unfold reach; omega) (fun c hc => by have := listTo_in hc; unfold in64; omega)).less (by simp))
theorem rset (l : List Int) (a_l : SH) (hl : l.length ≤ 64) (hx : ∀ x, x ∈ l → 0 ≤ x ∧ x < 24) : Spec Tryz.prog 44 #[sl a_l (l.length)] [IL l a_l] [] (fun _ : Unit => .int .u32 (((setM l) : Nat) : Int)) (fun _ : Unit => []) (fun _ : Unit => []) := by
  refine spec_go (args := [sl a_l (l.length)]) Tryz.func44 Tryz.ntmps44 rfl (by exact Nat.le_of_ble_eq_true rfl) fun B hB => ?_
  refine go_openIL (l := l) (a := a_l) (fun hl1 hA1 hU1 => ?_)
  refine go_seq ?_
  refine go_region ⟨_, Tryz.func44⟩ rfl ?_
  refine q0 rfl (o_assign ?_)
  refine rg_nil ?_
  refine go_seq ?_
  refine go_region ⟨_, Tryz.func44⟩ rfl ?_
  refine q0 rfl (o_assign ?_)
  refine rg_nil ?_
  refine go_seq ?_
  refine go_seq ?_
  refine go_region ⟨_, Tryz.func44⟩ rfl ?_
  refine q0 rfl (o_assign ?_)
  refine rg_nil ?_
  refine go_block ?_
  refine go_loopE (X := Nat) (fun s_ => s_ ≤ l.length) (fun s_ => [(0, sl a_l (l.length)), (3, .int .i64 (((setTo l s_ : Nat) : Int))), (4, .int .i64 ((s_ : Int)))]) (fun s_ G_ => G_) (fun s_ => []) (fun s_ => l.length - s_) (0) (by omega) (by exact ⟨rfl, (by rw [setTo_zero]; rfl), rfl, trivial⟩) ?_ ?_
  · exact fun w hs => hs
  · intro i base0 hi0 next0
    have hst := setTo_le hx i
    refine go_seq ?_
    refine go_seq ?_
    refine go_region ⟨_, Tryz.func44⟩ rfl ?_
    refine q0 rfl (o_move ?_)
    refine q0 rfl (o_move ?_)
    refine q0 rfl (o_len ?_)
    refine q0 rfl (o_lss ?_)
    refine rg_nil ?_
    refine go_condI (fun h8 => ?_) (fun h8 => ?_)
    · have c8 : (decide ((i : Int) < (l.length : Int))) = true := h8
      try simp only [decide_eq_true_eq, decide_eq_false_iff_not, Bool.and_eq_true, Bool.or_eq_true, Bool.not_eq_true', Bool.and_eq_false_iff, Bool.or_eq_false_iff, Bool.not_eq_false', bne_iff_ne, beq_iff_eq, ne_eq, not_and, Decidable.not_not, Bool.true_and, Bool.and_true, Bool.false_or, Bool.or_false] at c8
      have hgx := hx _ (getD_mem (d := 0) (show i < l.length by omega))
      have hg2 : 2 ^ (l.getD i 0).toNat ≤ 2 ^ 24 := Nat.pow_le_pow_right (by omega) (by omega)
      have hpz : (0 : Int) ≤ ((2 ^ (l.getD i 0).toNat : Nat) : Int) := Int.natCast_nonneg _
      refine go_skip ?_
      refine go_seq ?_
      refine go_block ?_
      refine go_region ⟨_, Tryz.func44⟩ rfl ?_
      refine q0 rfl (o_move ?_)
      refine q0 rfl (o_move ?_)
      refine q0 rfl (o_move ?_)
      obtain ⟨bk2, o2, hav2⟩ := hA1 (by omega)
      refine q0 rfl (o_ixN ?_ (j := i))
      refine q0 rfl (o_ldI ?_)
      refine q0 rfl (o_call Tryz.call78 (rpower (l.getD i 0) (by first | assumption | omega | (unfold in64 at *; omega) | (unfold reach at *; omega) | (simp_all; done)) (by first | assumption | omega | (unfold in64 at *; omega) | (unfold reach at *; omega) | (simp_all; done))) (fun x16 => ?_))
      refine q0 rfl (o_add ?_)
      refine q0 rfl (o_assign ?_)
      refine rg_nil ?_
      refine go_inBlock ?_
      refine go_region ⟨_, Tryz.func44⟩ rfl ?_
      refine q0 rfl (o_move ?_)
      refine q0 rfl (o_add ?_)
      refine q0 rfl (o_assign ?_)
      refine rg_nil ?_
      refine go_state (fun w hs => ?_) (next0 (i + 1) _ (by omega) (by omega) ⟨rfl, (by (conv => lhs; whnf); rw [setTo_succ (by omega)]; push_cast; rfl), rfl, trivial⟩)
      exact (hs.less (by simp +contextual))
    · have c8 : (decide ((i : Int) < (l.length : Int))) = false := h8
      try simp only [decide_eq_true_eq, decide_eq_false_iff_not, Bool.and_eq_true, Bool.or_eq_true, Bool.not_eq_true', Bool.and_eq_false_iff, Bool.or_eq_false_iff, Bool.not_eq_false', bne_iff_ne, beq_iff_eq, ne_eq, not_and, Decidable.not_not, Bool.true_and, Bool.and_true, Bool.false_or, Bool.or_false] at c8
      have he : i = l.length := by omega
      subst he
      rw [setTo_all] at hst ⊢
      refine go_exit rfl ?_
      refine go_seq ?_
      refine go_region ⟨_, Tryz.func44⟩ rfl ?_
      refine q0 rfl (o_move ?_)
      refine q0 rfl (o_convIU ?_ (a := setM l))
      refine q0 rfl (o_assign ?_)
      refine rg_nil ?_
      -- leaf 0: .int .u32 (((setM l) : Nat) : Int)
      refine ret1 Tryz.func44 Tryz.results44 (by first | ((conv => lhs; whnf); done) | rfl) () (by first | rfl | (simp_all; done) | (simp_all; omega)) (fun w hs => hs.none)
end Go.Hy
