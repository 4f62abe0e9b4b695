/- Contracts of functions of this program, one theorem each (printed by a program of this repository). -/
import Derived.Test.YtcofpfnnlageaaaHyAuto
import Derived.Test.YtcofpfnnlageaaaHyTab
import Derived.Test.YtcofpfnnlageaaaHyTerm
import Derived.Test.YtcofpfnnlageaaaS3
namespace Go.Hy
set_option linter.unusedVariables false
set_option linter.unusedSimpArgs false
set_option linter.unusedSectionVars false
open Go.Proofs
set_option linter.unusedVariables false
set_option linter.unusedSimpArgs false
set_option maxRecDepth 100000
theorem rsize_walk (t : T) (vr vk vs : SH) (hsz : size t ≤ 1152921504606846976) (ih : ∀ p, p ∈ parts t → size p.1 ≤ 1152921504606846976 → ∀ vr vk vs, Spec Try.prog 22 #[.agg (tc p.1 vr vk vs).toArray] [RT p.1 vr vk vs] [] (fun _ : Unit => .int .i64 (size p.1 : Int)) (fun _ => []) (fun _ => [])) : Spec Try.prog 22 #[.agg (tc t vr vk vs).toArray] [RT t vr vk vs] [] (fun _ : Unit => .int .i64 (size t : Int)) (fun _ => []) (fun _ => []) := by
  refine spec_go (args := [.agg (tc t vr vk vs).toArray]) Try.func22 Try.ntmps22 rfl (by exact Nat.le_of_ble_eq_true rfl) fun B hB => ?_
  refine go_open (fun hk hn hnm => ?_)
  refine go_openTL (ts := t.kids) (fun VR VK VS hl1 hA1 => ?_)
  refine go_openBL (bs := t.sys) (fun VF VK2 hl2 hA2 => ?_)
  have hpl := parts_length t
  refine go_seq ?_
  refine go_region ⟨_, Try.func22⟩ rfl ?_
  refine q0 rfl (o_box fun b1 => ?_)
  refine q0 rfl (o_assign ?_)
  refine rg_nil ?_
  refine go_seq ?_
  refine go_region ⟨_, Try.func22⟩ rfl ?_
  refine q0 rfl (o_assign ?_)
  refine rg_nil ?_
  refine go_seq ?_
  refine go_seq ?_
  refine go_region ⟨_, Try.func22⟩ rfl ?_
  refine q0 rfl (o_assign ?_)
  refine rg_nil ?_
  refine go_block ?_
  refine go_loopI (X := Nat) (fun i => i ≤ t.kids.length) (fun i => [(1, .pointer (some ⟨b1, 0, none⟩)), (3, .int .i64 (sizeUpto t i : Int)), (4, .int .i64 (i : Int))]) (fun i => [TLx t.kids vk VR VK VS, BLx t.sys vs VF VK2]) (fun i => [boxR b1 (tc t vr vk vs) 31]) (fun i => t.kids.length - i) (0) (Nat.zero_le _) (by exact ⟨rfl, (by rw [sizeUpto_zero]; rfl), rfl, trivial⟩) ?_ ?_
  · exact fun w hs => (hs.less (by simp +contextual))
  · intro i base0 hi next0
    refine go_seq ?_
    refine go_seq ?_
    refine go_region ⟨_, Try.func22⟩ rfl ?_
    refine q0 rfl (o_move ?_)
    refine q0 rfl (o_fa ?_)
    refine q0 rfl (o_ld ?_)
    refine q0 rfl (o_len ?_)
    refine q0 rfl (o_lss ?_)
    refine rg_nil ?_
    refine go_condI (fun h11 => ?_) (fun h11 => ?_)
    · have hlt : i < t.kids.length := by have := of_decide_eq_true h11; omega
      obtain ⟨bk, o, hav⟩ := hA1 (by omega)
      have hpk := parts_kid t i hlt
      refine go_kid (ts := t.kids) (a := vk) i hlt ?_
      refine go_skip ?_
      refine go_seq ?_
      refine go_block ?_
      refine go_region ⟨_, Try.func22⟩ rfl ?_
      refine q0 rfl (o_move ?_)
      refine q0 rfl (o_fa ?_)
      refine q0 rfl (o_ld ?_)
      refine q0 rfl (o_move ?_)
      refine q0 rfl (o_ixN ?_)
      refine q0 rfl (o_ldT ?_)
      refine q0 rfl (o_call Try.call22 (ih (t.kids.getD i t0, _, _) (parts_mem hpk) (by have := size_part hpk; simp only at this ⊢; omega) _ _ _) (fun x20 => ?_))
      have hle := size_part hpk
      refine q0 rfl (o_add ?_)
      refine q0 rfl (o_assign ?_)
      refine rg_nil ?_
      refine go_inBlock ?_
      refine go_region ⟨_, Try.func22⟩ rfl ?_
      refine q0 rfl (o_move ?_)
      refine q0 rfl (o_add ?_)
      refine q0 rfl (o_assign ?_)
      refine rg_nil ?_
      refine go_state (fun w hs => ?_) (next0 (i + 1) _ hlt (by omega) ⟨rfl, (by rw [sizeUpto_succ hpk]; rfl), rfl, trivial⟩)
      exact (hs.less (by simp +contextual))
    · have hge : i = t.kids.length := by have := of_decide_eq_false h11; omega
      refine go_exit rfl ?_
      refine go_seq ?_
      refine go_seq ?_
      refine go_region ⟨_, Try.func22⟩ rfl ?_
      refine q0 rfl (o_assign ?_)
      refine rg_nil ?_
      refine go_block ?_
      refine go_loopI (X := Nat) (fun i2 => i2 ≤ t.sys.length) (fun i2 => [(1, .pointer (some ⟨b1, 0, none⟩)), (3, .int .i64 (sizeUpto t (t.kids.length + sysBefore i2 t.sys) : Int)), (5, .int .i64 (i2 : Int))]) (fun i2 => [TLx t.kids vk VR VK VS, BLx t.sys vs VF VK2]) (fun i2 => [boxR b1 (tc t vr vk vs) 31]) (fun i2 => t.sys.length - i2) (0) (Nat.zero_le _) (by exact ⟨rfl, (by rw [hge]; rfl), rfl, trivial⟩) ?_ ?_
      · exact fun w hs => (hs.less (by simp +contextual))
      · intro i2 base1 hi2 next1
        refine go_seq ?_
        refine go_seq ?_
        refine go_region ⟨_, Try.func22⟩ rfl ?_
        refine q0 rfl (o_move ?_)
        refine q0 rfl (o_fa ?_)
        refine q0 rfl (o_ld ?_)
        refine q0 rfl (o_len ?_)
        refine q0 rfl (o_lss ?_)
        refine rg_nil ?_
        refine go_condI (fun h26 => ?_) (fun h26 => ?_)
        · have hlt2 : i2 < t.sys.length := by have := of_decide_eq_true h26; omega
          obtain ⟨bk2, o2, hav2⟩ := hA2 (by omega)
          refine go_branch (bs := t.sys) (a := vs) i2 hlt2 ?_
          refine go_openTL (ts := (t.sys.getD i2 br0).kids) (a := VK2 i2) (fun VR3 VK3 VS3 hl3 hA3 => ?_)
          refine go_skip ?_
          refine go_seq ?_
          refine go_block ?_
          refine go_seq ?_
          refine go_region ⟨_, Try.func22⟩ rfl ?_
          refine q0 rfl (o_assign ?_)
          refine rg_nil ?_
          refine go_block ?_
          refine go_loopI (X := Nat) (fun j => j ≤ (t.sys.getD i2 br0).kids.length) (fun j => [(1, .pointer (some ⟨b1, 0, none⟩)), (3, .int .i64 (sizeUpto t (t.kids.length + sysBefore i2 t.sys + j) : Int)), (5, .int .i64 (i2 : Int)), (6, .int .i64 (j : Int))]) (fun j => TLx (t.sys.getD i2 br0).kids (VK2 i2) VR3 VK3 VS3 :: [TLx t.kids vk VR VK VS, BLx t.sys vs VF VK2]) (fun j => [boxR b1 (tc t vr vk vs) 31]) (fun j => (t.sys.getD i2 br0).kids.length - j) (0) (Nat.zero_le _) (by exact ⟨rfl, rfl, rfl, rfl, trivial⟩) ?_ ?_
          · exact fun w hs => (hs.less (by simp +contextual))
          · intro j base2 hj next2
            refine go_seq ?_
            refine go_seq ?_
            refine go_region ⟨_, Try.func22⟩ rfl ?_
            refine q0 rfl (o_move ?_)
            refine q0 rfl (o_fa ?_)
            refine q0 rfl (o_ld ?_)
            refine q0 rfl (o_move ?_)
            refine q0 rfl (o_ixN ?_)
            refine q0 rfl (o_fa ?_)
            refine q0 rfl (o_ldBf ?_)
            refine q0 rfl (o_len ?_)
            refine q0 rfl (o_lss ?_)
            refine rg_nil ?_
            refine go_condI (fun h37 => ?_) (fun h37 => ?_)
            · have hlt3 : j < (t.sys.getD i2 br0).kids.length := by have := of_decide_eq_true h37; omega
              obtain ⟨bk3, o3, hav3⟩ := hA3 (by omega)
              have hpk := parts_sys t i2 j hlt2 hlt3
              refine go_kid (ts := (t.sys.getD i2 br0).kids) (a := VK2 i2) j hlt3 ?_
              refine go_skip ?_
              refine go_seq ?_
              refine go_block ?_
              refine go_region ⟨_, Try.func22⟩ rfl ?_
              refine q0 rfl (o_move ?_)
              refine q0 rfl (o_fa ?_)
              refine q0 rfl (o_ld ?_)
              refine q0 rfl (o_move ?_)
              refine q0 rfl (o_ixN ?_)
              refine q0 rfl (o_fa ?_)
              refine q0 rfl (o_ldBf ?_)
              refine q0 rfl (o_move ?_)
              refine q0 rfl (o_ixN ?_)
              refine q0 rfl (o_ldT ?_)
              refine q0 rfl (o_call Try.call22 (ih ((t.sys.getD i2 br0).kids.getD j t0, _, _) (parts_mem hpk) (by have := size_part hpk; simp only at this ⊢; omega) _ _ _) (fun x50 => ?_))
              have hle := size_part hpk
              refine q0 rfl (o_add ?_)
              refine q0 rfl (o_assign ?_)
              refine rg_nil ?_
              refine go_inBlock ?_
              refine go_region ⟨_, Try.func22⟩ rfl ?_
              refine q0 rfl (o_move ?_)
              refine q0 rfl (o_add ?_)
              refine q0 rfl (o_assign ?_)
              refine rg_nil ?_
              refine go_state (fun w hs => ?_) (next2 (j + 1) _ hlt3 (by omega) ⟨rfl, (by rw [← Nat.add_assoc, sizeUpto_succ hpk]; rfl), rfl, rfl, trivial⟩)
              exact (hs.less (by simp +contextual))
            · have hge3 : j = (t.sys.getD i2 br0).kids.length := by have := of_decide_eq_false h37; omega
              refine go_exit rfl ?_
              refine go_inBlock ?_
              refine go_region ⟨_, Try.func22⟩ rfl ?_
              refine q0 rfl (o_move ?_)
              refine q0 rfl (o_add ?_)
              refine q0 rfl (o_assign ?_)
              refine rg_nil ?_
              refine go_state (fun w hs => ?_) (next1 (i2 + 1) _ hlt2 (by omega) ⟨rfl, (by rw [sysBefore_succ i2 t.sys hlt2, ← hge3, ← Nat.add_assoc]; rfl), rfl, trivial⟩)
              exact (hs.less (by simp +contextual))
        · have hge2 : i2 = t.sys.length := by have := of_decide_eq_false h26; omega
          refine go_exit rfl ?_
          refine go_seq ?_
          refine go_region ⟨_, Try.func22⟩ rfl ?_
          refine q0 rfl (o_move ?_)
          refine q0 rfl (o_assign ?_)
          refine rg_nil ?_
          have he : sizeUpto t (t.kids.length + sysBefore i2 t.sys) = size t := by rw [hge2, ← hpl, sizeUpto_all]
          refine ret1 Try.func22 Try.results22 (by first | ((conv => lhs; whnf); done) | rfl) () (by rw [he]) (fun w hs => hs.none)

theorem rsize_spec : ∀ (t : T), size t ≤ 1152921504606846976 → ∀ vr vk vs, Spec Try.prog 22 #[.agg (tc t vr vk vs).toArray] [RT t vr vk vs] [] (fun _ : Unit => .int .i64 (size t : Int)) (fun _ => []) (fun _ => []) :=
  T.ind fun t ih hsz vr vk vs => rsize_walk t vr vk vs hsz ih

theorem rdepth_walk (t : T) (vr vk vs : SH) (hsz : size t ≤ 1152921504606846976) (ih : ∀ p, p ∈ parts t → size p.1 ≤ 1152921504606846976 → ∀ vr vk vs, Spec Try.prog 24 #[.agg (tc p.1 vr vk vs).toArray] [RT p.1 vr vk vs] [] (fun _ : Unit => .int .i64 (depth p.1 : Int)) (fun _ => []) (fun _ => [])) : Spec Try.prog 24 #[.agg (tc t vr vk vs).toArray] [RT t vr vk vs] [] (fun _ : Unit => .int .i64 (depth t : Int)) (fun _ => []) (fun _ => []) := by
  refine spec_go (args := [.agg (tc t vr vk vs).toArray]) Try.func24 Try.ntmps24 rfl (by exact Nat.le_of_ble_eq_true rfl) fun B hB => ?_
  refine go_open (fun hk hn hnm => ?_)
  refine go_openTL (ts := t.kids) (fun VR VK VS hl1 hA1 => ?_)
  refine go_openBL (bs := t.sys) (fun VF VK2 hl2 hA2 => ?_)
  have hpl := parts_length t
  have hds := depth_le_size t
  have hdu := depthUpto_le t (parts t).length
  refine go_seq ?_
  refine go_region ⟨_, Try.func24⟩ rfl ?_
  refine q0 rfl (o_box fun b1 => ?_)
  refine q0 rfl (o_assign ?_)
  refine rg_nil ?_
  refine go_seq ?_
  refine go_region ⟨_, Try.func24⟩ rfl ?_
  refine q0 rfl (o_assign ?_)
  refine rg_nil ?_
  refine go_seq ?_
  refine go_seq ?_
  refine go_region ⟨_, Try.func24⟩ rfl ?_
  refine q0 rfl (o_assign ?_)
  refine rg_nil ?_
  refine go_block ?_
  refine go_loopI (X := Nat) (fun i => i ≤ t.kids.length) (fun i => [(1, .pointer (some ⟨b1, 0, none⟩)), (3, .int .i64 (depthUpto t i : Int)), (4, .int .i64 (i : Int))]) (fun i => [TLx t.kids vk VR VK VS, BLx t.sys vs VF VK2]) (fun i => [boxR b1 (tc t vr vk vs) 31]) (fun i => t.kids.length - i) (0) (Nat.zero_le _) (by exact ⟨rfl, (by rw [depthUpto_zero]; rfl), rfl, trivial⟩) ?_ ?_
  · exact fun w hs => (hs.less (by simp +contextual))
  · intro i base0 hi next0
    refine go_seq ?_
    refine go_seq ?_
    refine go_region ⟨_, Try.func24⟩ rfl ?_
    refine q0 rfl (o_move ?_)
    refine q0 rfl (o_fa ?_)
    refine q0 rfl (o_ld ?_)
    refine q0 rfl (o_len ?_)
    refine q0 rfl (o_lss ?_)
    refine rg_nil ?_
    refine go_condI (fun h13 => ?_) (fun h13 => ?_)
    · have hlt : i < t.kids.length := by have := of_decide_eq_true h13; omega
      obtain ⟨bk, o, hav⟩ := hA1 (by omega)
      have hpk := parts_kid t i hlt
      refine go_kid (ts := t.kids) (a := vk) i hlt ?_
      refine go_skip ?_
      refine go_seq ?_
      refine go_block ?_
      refine go_seq ?_
      refine go_region ⟨_, Try.func24⟩ rfl ?_
      refine q0 rfl (o_fa ?_)
      refine q0 rfl (o_ld ?_)
      refine q0 rfl (o_move ?_)
      refine q0 rfl (o_ixN ?_)
      refine q0 rfl (o_ldT ?_)
      refine q0 rfl (o_call Try.call24 (ih (t.kids.getD i t0, _, _) (parts_mem hpk) (by have := size_part hpk; simp only at this ⊢; omega) _ _ _) (fun x21 => ?_))
      refine q0 rfl (o_assign ?_)
      refine rg_nil ?_
      refine go_seq ?_
      refine go_region ⟨_, Try.func24⟩ rfl ?_
      refine q0 rfl (o_move ?_)
      refine q0 rfl (o_move ?_)
      refine q0 rfl (o_gtr ?_)
      refine rg_nil ?_
      refine go_condI (fun h24 => ?_) (fun h24 => ?_)
      · refine go_region ⟨_, Try.func24⟩ rfl ?_
        refine q0 rfl (o_move ?_)
        refine q0 rfl (o_assign ?_)
        refine rg_nil ?_
        refine go_inBlock ?_
        refine go_region ⟨_, Try.func24⟩ rfl ?_
        refine q0 rfl (o_move ?_)
        refine q0 rfl (o_add ?_)
        refine q0 rfl (o_assign ?_)
        refine rg_nil ?_
        refine go_state (fun w hs => ?_) (next0 (i + 1) _ hlt (by omega) ⟨rfl, (by rw [depthUpto_succ hpk, Int.ofNat_max']; first | (rw [if_pos (of_decide_eq_true h24)]; rfl) | (rw [if_neg (of_decide_eq_false h24)]; rfl)), rfl, trivial⟩)
        exact (hs.less (by simp +contextual))
      · refine go_skip ?_
        refine go_inBlock ?_
        refine go_region ⟨_, Try.func24⟩ rfl ?_
        refine q0 rfl (o_move ?_)
        refine q0 rfl (o_add ?_)
        refine q0 rfl (o_assign ?_)
        refine rg_nil ?_
        refine go_state (fun w hs => ?_) (next0 (i + 1) _ hlt (by omega) ⟨rfl, (by rw [depthUpto_succ hpk, Int.ofNat_max']; first | (rw [if_pos (of_decide_eq_true h24)]; rfl) | (rw [if_neg (of_decide_eq_false h24)]; rfl)), rfl, trivial⟩)
        exact (hs.less (by simp +contextual))
    · have hge : i = t.kids.length := by have := of_decide_eq_false h13; omega
      refine go_exit rfl ?_
      refine go_seq ?_
      refine go_seq ?_
      refine go_region ⟨_, Try.func24⟩ rfl ?_
      refine q0 rfl (o_assign ?_)
      refine rg_nil ?_
      refine go_block ?_
      refine go_loopI (X := Nat) (fun i2 => i2 ≤ t.sys.length) (fun i2 => [(1, .pointer (some ⟨b1, 0, none⟩)), (3, .int .i64 (depthUpto t (t.kids.length + sysBefore i2 t.sys) : Int)), (6, .int .i64 (i2 : Int))]) (fun i2 => [TLx t.kids vk VR VK VS, BLx t.sys vs VF VK2]) (fun i2 => [boxR b1 (tc t vr vk vs) 31]) (fun i2 => t.sys.length - i2) (0) (Nat.zero_le _) (by exact ⟨rfl, (by rw [hge]; rfl), rfl, trivial⟩) ?_ ?_
      · exact fun w hs => (hs.less (by simp +contextual))
      · intro i2 base1 hi2 next1
        refine go_seq ?_
        refine go_seq ?_
        refine go_region ⟨_, Try.func24⟩ rfl ?_
        refine q0 rfl (o_move ?_)
        refine q0 rfl (o_fa ?_)
        refine q0 rfl (o_ld ?_)
        refine q0 rfl (o_len ?_)
        refine q0 rfl (o_lss ?_)
        refine rg_nil ?_
        refine go_condI (fun h30 => ?_) (fun h30 => ?_)
        · have hlt2 : i2 < t.sys.length := by have := of_decide_eq_true h30; omega
          obtain ⟨bk2, o2, hav2⟩ := hA2 (by omega)
          refine go_branch (bs := t.sys) (a := vs) i2 hlt2 ?_
          refine go_openTL (ts := (t.sys.getD i2 br0).kids) (a := VK2 i2) (fun VR3 VK3 VS3 hl3 hA3 => ?_)
          refine go_skip ?_
          refine go_seq ?_
          refine go_block ?_
          refine go_seq ?_
          refine go_region ⟨_, Try.func24⟩ rfl ?_
          refine q0 rfl (o_assign ?_)
          refine rg_nil ?_
          refine go_block ?_
          refine go_loopI (X := Nat) (fun j => j ≤ (t.sys.getD i2 br0).kids.length) (fun j => [(1, .pointer (some ⟨b1, 0, none⟩)), (3, .int .i64 (depthUpto t (t.kids.length + sysBefore i2 t.sys + j) : Int)), (6, .int .i64 (i2 : Int)), (7, .int .i64 (j : Int))]) (fun j => TLx (t.sys.getD i2 br0).kids (VK2 i2) VR3 VK3 VS3 :: [TLx t.kids vk VR VK VS, BLx t.sys vs VF VK2]) (fun j => [boxR b1 (tc t vr vk vs) 31]) (fun j => (t.sys.getD i2 br0).kids.length - j) (0) (Nat.zero_le _) (by exact ⟨rfl, rfl, rfl, rfl, trivial⟩) ?_ ?_
          · exact fun w hs => (hs.less (by simp +contextual))
          · intro j base2 hj next2
            refine go_seq ?_
            refine go_seq ?_
            refine go_region ⟨_, Try.func24⟩ rfl ?_
            refine q0 rfl (o_move ?_)
            refine q0 rfl (o_fa ?_)
            refine q0 rfl (o_ld ?_)
            refine q0 rfl (o_move ?_)
            refine q0 rfl (o_ixN ?_)
            refine q0 rfl (o_fa ?_)
            refine q0 rfl (o_ldBf ?_)
            refine q0 rfl (o_len ?_)
            refine q0 rfl (o_lss ?_)
            refine rg_nil ?_
            refine go_condI (fun h41 => ?_) (fun h41 => ?_)
            · have hlt3 : j < (t.sys.getD i2 br0).kids.length := by have := of_decide_eq_true h41; omega
              obtain ⟨bk3, o3, hav3⟩ := hA3 (by omega)
              have hpk := parts_sys t i2 j hlt2 hlt3
              refine go_kid (ts := (t.sys.getD i2 br0).kids) (a := VK2 i2) j hlt3 ?_
              refine go_skip ?_
              refine go_seq ?_
              refine go_block ?_
              refine go_seq ?_
              refine go_region ⟨_, Try.func24⟩ rfl ?_
              refine q0 rfl (o_fa ?_)
              refine q0 rfl (o_ld ?_)
              refine q0 rfl (o_move ?_)
              refine q0 rfl (o_ixN ?_)
              refine q0 rfl (o_fa ?_)
              refine q0 rfl (o_ldBf ?_)
              refine q0 rfl (o_move ?_)
              refine q0 rfl (o_ixN ?_)
              refine q0 rfl (o_ldT ?_)
              refine q0 rfl (o_call Try.call24 (ih ((t.sys.getD i2 br0).kids.getD j t0, _, _) (parts_mem hpk) (by have := size_part hpk; simp only at this ⊢; omega) _ _ _) (fun x53 => ?_))
              refine q0 rfl (o_assign ?_)
              refine rg_nil ?_
              refine go_seq ?_
              refine go_region ⟨_, Try.func24⟩ rfl ?_
              refine q0 rfl (o_move ?_)
              refine q0 rfl (o_move ?_)
              refine q0 rfl (o_gtr ?_)
              refine rg_nil ?_
              refine go_condI (fun h56 => ?_) (fun h56 => ?_)
              · refine go_region ⟨_, Try.func24⟩ rfl ?_
                refine q0 rfl (o_move ?_)
                refine q0 rfl (o_assign ?_)
                refine rg_nil ?_
                refine go_inBlock ?_
                refine go_region ⟨_, Try.func24⟩ rfl ?_
                refine q0 rfl (o_move ?_)
                refine q0 rfl (o_add ?_)
                refine q0 rfl (o_assign ?_)
                refine rg_nil ?_
                refine go_state (fun w hs => ?_) (next2 (j + 1) _ hlt3 (by omega) ⟨rfl, (by rw [← Nat.add_assoc, depthUpto_succ hpk, Int.ofNat_max']; first | (rw [if_pos (of_decide_eq_true h56)]; rfl) | (rw [if_neg (of_decide_eq_false h56)]; rfl)), rfl, rfl, trivial⟩)
                exact (hs.less (by simp +contextual))
              · refine go_skip ?_
                refine go_inBlock ?_
                refine go_region ⟨_, Try.func24⟩ rfl ?_
                refine q0 rfl (o_move ?_)
                refine q0 rfl (o_add ?_)
                refine q0 rfl (o_assign ?_)
                refine rg_nil ?_
                refine go_state (fun w hs => ?_) (next2 (j + 1) _ hlt3 (by omega) ⟨rfl, (by rw [← Nat.add_assoc, depthUpto_succ hpk, Int.ofNat_max']; first | (rw [if_pos (of_decide_eq_true h56)]; rfl) | (rw [if_neg (of_decide_eq_false h56)]; rfl)), rfl, rfl, trivial⟩)
                exact (hs.less (by simp +contextual))
            · have hge3 : j = (t.sys.getD i2 br0).kids.length := by have := of_decide_eq_false h41; omega
              refine go_exit rfl ?_
              refine go_inBlock ?_
              refine go_region ⟨_, Try.func24⟩ rfl ?_
              refine q0 rfl (o_move ?_)
              refine q0 rfl (o_add ?_)
              refine q0 rfl (o_assign ?_)
              refine rg_nil ?_
              refine go_state (fun w hs => ?_) (next1 (i2 + 1) _ hlt2 (by omega) ⟨rfl, (by rw [sysBefore_succ i2 t.sys hlt2, ← hge3, ← Nat.add_assoc]; rfl), rfl, trivial⟩)
              exact (hs.less (by simp +contextual))
        · have hge2 : i2 = t.sys.length := by have := of_decide_eq_false h30; omega
          refine go_exit rfl ?_
          refine go_seq ?_
          refine go_region ⟨_, Try.func24⟩ rfl ?_
          refine q0 rfl (o_move ?_)
          rw [hge2, ← hpl]
          refine q0 rfl (o_add ?_)
          refine q0 rfl (o_assign ?_)
          refine rg_nil ?_
          refine ret1 Try.func24 Try.results24 (by first | ((conv => lhs; whnf); done) | rfl) () (by rw [← depthUpto_all t]; rfl) (fun w hs => hs.none)

theorem rdepth_spec : ∀ (t : T), size t ≤ 1152921504606846976 → ∀ vr vk vs, Spec Try.prog 24 #[.agg (tc t vr vk vs).toArray] [RT t vr vk vs] [] (fun _ : Unit => .int .i64 (depth t : Int)) (fun _ => []) (fun _ => []) :=
  T.ind fun t ih hsz vr vk vs => rdepth_walk t vr vk vs hsz ih

end Go.Hy
