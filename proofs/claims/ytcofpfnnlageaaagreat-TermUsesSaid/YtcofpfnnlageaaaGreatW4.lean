/- Contracts of functions of this program, one theorem each (printed by a program of this repository). -/
import Derived.Test.YtcofpfnnlageaaaGreatHyAuto2
import Derived.Test.YtcofpfnnlageaaaGreatHyTab
import Derived.Test.YtcofpfnnlageaaaGreatHyDims
import Derived.Test.YtcofpfnnlageaaaGreatS12
import Derived.Test.YtcofpfnnlageaaaGreatS3
namespace Go.Hy
set_option linter.unusedVariables false
set_option linter.unusedSimpArgs false
set_option linter.unusedSectionVars false
open Go.Proofs
set_option linter.unusedVariables false
set_option linter.unusedSimpArgs false
set_option maxRecDepth 100000
theorem dropHi {q i : Nat} (h : q < 16777216) : q / 2 ^ (i + 1) * 2 ^ i < 16777216 := by
  have h1 : q / 2 ^ (i + 1) * 2 ^ i ≤ q / 2 ^ i * 2 ^ i := Nat.mul_le_mul_right _ (Nat.div_le_div_left (Nat.pow_le_pow_right (by omega) (by omega)) (Nat.pow_pos (by omega)))
  have h2 := Nat.div_mul_le_self q (2 ^ i)
  omega
theorem pow24 {m : Nat} (h : m ≤ 24) : 2 ^ m ≤ 16777216 := Nat.pow_le_pow_right (n := 2) (j := 24) (by omega) h

theorem below24 (i : Int) (h0 : 0 ≤ i) : Spec Tryz.prog 75 #[.int .i64 (i)] [] [] (fun _ : Unit => .int .u32 (((2 ^ (min i.toNat 24) - 1) : Nat) : Int)) (fun _ : Unit => []) (fun _ : Unit => []) := by
  refine spec_go (args := [.int .i64 (i)]) Tryz.func75 Tryz.ntmps75 rfl (by exact Nat.le_of_ble_eq_true rfl) fun B hB => ?_
  have hp := pow24 (m := min i.toNat 24) (by omega)
  have hpos : 0 < 2 ^ (min i.toNat 24) := Nat.pow_pos (by omega)
  refine go_seq ?_
  refine go_region ⟨_, Tryz.func75⟩ rfl ?_
  refine q0 rfl (o_assign ?_)
  refine rg_nil ?_
  refine go_seq ?_
  refine go_region ⟨_, Tryz.func75⟩ rfl ?_
  refine q0 rfl (o_move ?_)
  refine q0 rfl (o_min ?_)
  refine q0 rfl (o_convI6 ?_ (m := min i.toNat 24) (ha := by split <;> omega))
  refine q0 rfl (o_shl6 ?_ (a := 1) (m := min i.toNat 24) (hm := by omega) (hb := by omega))
  refine q0 rfl (o_sub6 ?_ (a := 1 * 2 ^ (min i.toNat 24)) (b := 1) (h := by omega) (ha := by omega))
  refine q0 rfl (o_conv6U ?_ (a := 1 * 2 ^ (min i.toNat 24) - 1) (ha := by omega))
  refine q0 rfl (o_assign ?_)
  refine rg_nil ?_
  -- leaf 0: .int .u32 (((1 * 2 ^ (min i.toNat 24) - 1) : Nat) : Int)
  refine ret1 Tryz.func75 Tryz.results75 (by first | ((conv => lhs; whnf); done) | rfl) () (by rw [Nat.one_mul]) (fun w hs => hs.none)

theorem drop_spec (s : Nat) (i : Int) (hs : s < 4294967296) (hi : in64 i) : Spec Tryz.prog 42 #[.int .u32 ((s : Nat) : Int), .int .i64 (i)] [] [] (fun _ : Unit => .int .u32 (((dropM s i) : Nat) : Int)) (fun _ : Unit => []) (fun _ : Unit => []) := by
  refine spec_go (args := [.int .u32 ((s : Nat) : Int), .int .i64 (i)]) Tryz.func42 Tryz.ntmps42 rfl (by exact Nat.le_of_ble_eq_true rfl) fun B hB => ?_
  have hs24 := and24_lt s
  refine go_seq ?_
  refine go_region ⟨_, Tryz.func42⟩ rfl ?_
  refine q0 rfl (o_assign ?_)
  refine rg_nil ?_
  refine go_seq ?_
  refine go_region ⟨_, Tryz.func42⟩ rfl ?_
  refine q0 rfl (o_move ?_)
  refine q0 rfl (o_andU32 ?_ (a := s) (b := 16777215))
  refine q0 rfl (o_assign ?_)
  refine rg_nil ?_
  refine go_seq ?_
  refine go_seq ?_
  refine go_region ⟨_, Tryz.func42⟩ rfl ?_
  refine q0 rfl (o_move ?_)
  refine q0 rfl (o_call Tryz.call74 (dimension_spec i ) (fun x8 => ?_))
  refine q0 rfl (o_not ?_)
  refine rg_nil ?_
  refine go_condI (fun h9 => ?_) (fun h9 => ?_)
  · have c9 : (!(decide (0 ≤ i) && decide (i < 24))) = true := h9
    try simp only [decide_eq_true_eq, decide_eq_false_iff_not, Bool.and_eq_true, Bool.or_eq_true, Bool.not_eq_true', Bool.and_eq_false_iff, Bool.or_eq_false_iff, Bool.not_eq_false', bne_iff_ne, beq_iff_eq, ne_eq, not_and, Decidable.not_not, Bool.true_and, Bool.and_true, Bool.false_or, Bool.or_false] at c9
    refine go_seq ?_
    refine go_region ⟨_, Tryz.func42⟩ rfl ?_
    refine q0 rfl (o_move ?_)
    refine q0 rfl (o_assign ?_)
    refine rg_nil ?_
    -- leaf 0: .int .u32 ((s &&& 16777215 : Nat) : Int)
    refine ret1 Tryz.func42 Tryz.results42 (by first | ((conv => lhs; whnf); done) | rfl) () (by rw [dropM, if_neg (by simp at h9; omega)]) (fun w hs => hs.none)
  · have c9 : (!(decide (0 ≤ i) && decide (i < 24))) = false := h9
    try simp only [decide_eq_true_eq, decide_eq_false_iff_not, Bool.and_eq_true, Bool.or_eq_true, Bool.not_eq_true', Bool.and_eq_false_iff, Bool.or_eq_false_iff, Bool.not_eq_false', bne_iff_ne, beq_iff_eq, ne_eq, not_and, Decidable.not_not, Bool.true_and, Bool.and_true, Bool.false_or, Bool.or_false] at c9
    have hp := pow24 (m := min i.toNat 24) (by omega)
    have hpos : 0 < 2 ^ (min i.toNat 24) := Nat.pow_pos (by omega)
    have hmn : min i.toNat 24 = i.toNat := by omega
    have hlt32 : (s &&& 16777215) / 2 ^ (i.toNat + 1) * 2 ^ i.toNat < 16777216 := dropHi (i := i.toNat) hs24
    refine go_skip ?_
    refine go_seq ?_
    refine go_region ⟨_, Tryz.func42⟩ rfl ?_
    refine q0 rfl (o_move ?_)
    refine q0 rfl (o_move ?_)
    refine q0 rfl (o_call Tryz.call75 (below24 i (by first | assumption | omega | (unfold in64 at *; omega) | (unfold reach at *; omega) | (simp_all; done))) (fun x13 => ?_))
    refine q0 rfl (o_andU32 ?_ (a := s &&& 16777215) (b := 2 ^ (min i.toNat 24) - 1) (ha := by omega) (hb := by omega))
    refine q0 rfl (o_move ?_)
    refine q0 rfl (o_move ?_)
    refine q0 rfl (o_add ?_)
    refine q0 rfl (o_convI6 ?_ (m := i.toNat + 1) (ha := by omega))
    refine q0 rfl (o_shrU32 ?_ (a := s &&& 16777215) (m := i.toNat + 1))
    refine q0 rfl (o_move ?_)
    refine q0 rfl (o_convI6 ?_ (m := i.toNat) (ha := by omega))
    refine q0 rfl (o_shlU32 ?_ (a := (s &&& 16777215) / 2 ^ (min (i.toNat + 1) 32)) (m := i.toNat))
    refine q0 rfl (o_orU32 ?_ (ha := by exact Nat.lt_of_le_of_lt Nat.and_le_left (by omega)) (hb := by exact Nat.mod_lt _ (by omega)))
    refine q0 rfl (o_assign ?_)
    refine rg_nil ?_
    -- leaf 1: .int .u32 (((((s &&& 16777215) &&& (2 ^ (min i.toNat 24) - 1)) ||| ((s &&& 16777215) / 2 ^ (min (i.toNat + 1) 32) * 2 ^ (min i.toNat 32) % 4294967296)) : Nat) : Int)
    refine ret1 Tryz.func42 Tryz.results42 (by first | ((conv => lhs; whnf); done) | rfl) () (by rw [dropM, if_pos (by omega), hmn, show min (i.toNat + 1) 32 = i.toNat + 1 by omega, show min i.toNat 32 = i.toNat by omega, Nat.mod_eq_of_lt (by omega)]) (fun w hs => hs.none)

theorem dims1_walk (k : T) (vr_k vk_k vs_k : SH) (v : Int) (d : Int) (b : Nat) (a : Nat) (ha : a < 16777216) (ih : ∀ vr vk vs, Spec Tryz.prog 12 #[.agg (tc k vr vk vs).toArray] [RT k vr vk vs] [] (fun _ : Unit => .int .u32 (dimsT k : Int)) (fun _ => []) (fun _ => [])) : Spec Tryz.prog 41 #[.agg (tc k vr_k vk_k vs_k).toArray, .int .i64 (v), .int .i64 (d), .pointer (some ⟨b, 0, none⟩)] [RT k vr_k vk_k vs_k] [boxR b [.int .u32 ((a : Nat) : Int)] 31] (fun _ : Unit => .bool (true)) (fun _ : Unit => []) (fun _ : Unit => [boxR b [.int .u32 ((a ||| dimsPart (k, v, d) : Nat) : Int)] 31]) := by
  refine spec_go (args := [.agg (tc k vr_k vk_k vs_k).toArray, .int .i64 (v), .int .i64 (d), .pointer (some ⟨b, 0, none⟩)]) Tryz.func41 Tryz.ntmps41 rfl (by exact Nat.le_of_ble_eq_true rfl) fun B hB => ?_
  refine go_open (t := k) (vr := vr_k) (vk := vk_k) (vs := vs_k) (fun hk1 hn1 hm1 => ?_)
  refine go_openCL (l := (k).r) (a := vr_k) (fun hl2 hA2 hU2 => ?_)
  refine go_openTL (ts := (k).kids) (a := vk_k) (fun VR3 VK3 VS3 hl3 hA3 => ?_)
  refine go_openBL (bs := (k).sys) (a := vs_k) (fun VF4 VK4 hl4 hA4 => ?_)
  have hdk := dims_lt k
  have hdp := dropM_lt (dimsT k) 0
  have hpp : dimsPart (k, v, d) = (bif decide (d = 1) then dropM (dimsT k) 0 else dimsT k) := by unfold dimsPart dimsPartG; by_cases h : d = 1 <;> simp [h]
  have hpl := dimsPart_lt (k, v, d)
  rw [hpp] at hpl ⊢
  refine go_seq ?_
  refine go_region ⟨_, Tryz.func41⟩ rfl ?_
  refine q0 rfl (o_box fun b4 => ?_)
  refine q0 rfl (o_assign ?_)
  refine rg_nil ?_
  refine go_seq ?_
  refine go_region ⟨_, Tryz.func41⟩ rfl ?_
  refine q0 rfl (o_lds ?_)
  refine q0 rfl (o_call Tryz.call12 (ih vr_k vk_k vs_k) (fun x10 => ?_))
  refine q0 rfl (o_assign ?_)
  refine rg_nil ?_
  refine go_seq ?_
  refine go_seq ?_
  refine go_region ⟨_, Tryz.func41⟩ rfl ?_
  refine q0 rfl (o_move ?_)
  refine q0 rfl (o_eqI ?_)
  refine rg_nil ?_
  refine go_cutS ([(3, .pointer (some ⟨b, 0, none⟩)), (8, .int .u32 (((bif decide (d = 1) then dropM (dimsT k) 0 else dimsT k) : Nat) : Int))]) (fun hK => ?_) (fun base => ?_)
  · refine go_condI (fun h12 => ?_) (fun h12 => ?_)
    · have c12 : (decide (d = 1)) = true := h12
      try simp only [decide_eq_true_eq, decide_eq_false_iff_not, Bool.and_eq_true, Bool.or_eq_true, Bool.not_eq_true', Bool.and_eq_false_iff, Bool.or_eq_false_iff, Bool.not_eq_false', bne_iff_ne, beq_iff_eq, ne_eq, not_and, Decidable.not_not, Bool.true_and, Bool.and_true, Bool.false_or, Bool.or_false] at c12
      refine go_region ⟨_, Tryz.func41⟩ rfl ?_
      refine q0 rfl (o_move ?_)
      refine q0 rfl (o_call Tryz.call42 (drop_spec (dimsT k) 0 (by first | assumption | omega | (unfold in64 at *; omega) | (unfold reach at *; omega) | (simp_all; done)) (by first | assumption | omega | (unfold in64 at *; omega) | (unfold reach at *; omega) | (simp_all; done))) (fun x14 => ?_))
      refine q0 rfl (o_assign ?_)
      refine rg_nil ?_
      exact hK _ ⟨rfl, (by (conv => lhs; whnf); first | rw [h12]; rfl | rw [h12]), trivial⟩
    · have c12 : (decide (d = 1)) = false := h12
      try simp only [decide_eq_true_eq, decide_eq_false_iff_not, Bool.and_eq_true, Bool.or_eq_true, Bool.not_eq_true', Bool.and_eq_false_iff, Bool.or_eq_false_iff, Bool.not_eq_false', bne_iff_ne, beq_iff_eq, ne_eq, not_and, Decidable.not_not, Bool.true_and, Bool.and_true, Bool.false_or, Bool.or_false] at c12
      refine go_skip ?_
      exact hK _ ⟨rfl, (by (conv => lhs; whnf); first | rw [h12]; rfl | rw [h12]), trivial⟩
  · refine go_seq ?_
    refine go_region ⟨_, Tryz.func41⟩ rfl ?_
    refine q0 rfl (o_ld ?_)
    refine q0 rfl (o_move ?_)
    refine q0 rfl (o_orU32 ?_ (a := a) (b := (bif decide (d = 1) then dropM (dimsT k) 0 else dimsT k)))
    refine q0 rfl (o_st ?_)
    refine rg_nil ?_
    refine go_seq ?_
    refine go_region ⟨_, Tryz.func41⟩ rfl ?_
    refine q0 rfl (o_assign ?_)
    refine rg_nil ?_
    -- leaf 0: .bool (true)
    refine ret1 Tryz.func41 Tryz.results41 (by first | ((conv => lhs; whnf); done) | rfl) () (by first | rfl | (simp_all; done) | (simp_all; omega)) (fun w hs => ((hs.less (by simp)).dropR (A := [_])))

def DimsAt (t : T) : Prop := ∀ vr vk vs, Spec Tryz.prog 12 #[.agg (tc t vr vk vs).toArray] [RT t vr vk vs] [] (fun _ : Unit => .int .u32 (dimsT t : Int)) (fun _ => []) (fun _ => [])

theorem dims_walk (t : T) (vr_t vk_t vs_t : SH) (ih : ∀ p, p ∈ parts t → DimsAt p.1) : Spec Tryz.prog 12 #[.agg (tc t vr_t vk_t vs_t).toArray] [RT t vr_t vk_t vs_t] [] (fun _ : Unit => .int .u32 (((dimsT t) : Nat) : Int)) (fun _ : Unit => []) (fun _ : Unit => []) := by
  refine spec_go (args := [.agg (tc t vr_t vk_t vs_t).toArray]) Tryz.func12 Tryz.ntmps12 rfl (by exact Nat.le_of_ble_eq_true rfl) fun B hB => ?_
  refine go_open (t := t) (vr := vr_t) (vk := vk_t) (vs := vs_t) (fun hk1 hn1 hm1 => ?_)
  refine go_openCL (l := (t).r) (a := vr_t) (fun hl2 hA2 hU2 => ?_)
  refine go_openTL (ts := (t).kids) (a := vk_t) (fun VR3 VK3 VS3 hl3 hA3 => ?_)
  refine go_openBL (bs := (t).sys) (a := vs_t) (fun VF4 VK4 hl4 hA4 => ?_)
  refine go_seq ?_
  refine go_region ⟨_, Tryz.func12⟩ rfl ?_
  refine q0 rfl (o_box fun b1 => ?_)
  refine q0 rfl (o_assign ?_)
  refine rg_nil ?_
  refine go_seq ?_
  refine go_region ⟨_, Tryz.func12⟩ rfl ?_
  refine q0 rfl (o_fa ?_)
  refine q0 rfl (o_ld ?_)
  refine q0 rfl (o_call Tryz.call40 (fDims_spec ((t).r) vr_t ) (fun x8 => ?_))
  refine q0 rfl (o_new fun b3 => ?_)
  refine q0 rfl (o_st ?_)
  refine rg_nil ?_
  refine go_seq ?_
  refine go_seq ?_
  refine go_region ⟨_, Tryz.func12⟩ rfl ?_
  refine q0 rfl (o_fa ?_)
  refine q0 rfl (o_ld ?_)
  refine q0 rfl (o_len ?_)
  refine q0 rfl (o_move ?_)
  refine rg_nil ?_
  refine go_block ?_
  refine go_loopE (X := Nat) (fun s_ => s_ ≤ t.sys.length) (fun s_ => [(1, .pointer (some ⟨b1, 0, none⟩)), (3, .pointer (some ⟨b3, 0, none⟩)), (10, sl vs_t ((t).sys.length)), (11, .int .i64 (((t).sys.length : Int))), (12, .int .i64 ((s_ : Int)))]) (fun s_ G_ => G_) (fun s_ => [boxR b3 [.int .u32 (((dimsF t s_) : Nat) : Int)] 31, boxR b1 (tc t vr_t vk_t vs_t) 26]) (fun s_ => t.sys.length - s_) (0) (by omega) (by exact ⟨rfl, rfl, rfl, rfl, rfl, trivial⟩) ?_ ?_
  · exact fun w hs => by rw [dimsF_zero]; exact hs
  · intro i base0 hi0 next0
    have hdl := dimsF_lt t i
    refine go_seq ?_
    refine go_region ⟨_, Tryz.func12⟩ rfl ?_
    refine q0 rfl (o_lss ?_)
    refine rg_nil ?_
    refine go_seq ?_
    refine go_condI (fun h13 => ?_) (fun h13 => ?_)
    · have c13 : (decide ((i : Int) < ((t).sys.length : Int))) = true := h13
      try simp only [decide_eq_true_eq, decide_eq_false_iff_not, Bool.and_eq_true, Bool.or_eq_true, Bool.not_eq_true', Bool.and_eq_false_iff, Bool.or_eq_false_iff, Bool.not_eq_false', bne_iff_ne, beq_iff_eq, ne_eq, not_and, Decidable.not_not, Bool.true_and, Bool.and_true, Bool.false_or, Bool.or_false] at c13
      have hdb := fDims_lt (t.sys.getD i br0).face
      refine go_skip ?_
      refine go_seq ?_
      refine go_block ?_
      refine go_seq ?_
      refine go_branch (bs := (t).sys) (a := vs_t) (VF := VF4) (VK := VK4) i (by omega) ?_
      refine go_openCL (l := (((t).sys).getD i br0).face) (a := VF4 i) (fun hl5 hA5 hU5 => ?_)
      refine go_openTL (ts := (((t).sys).getD i br0).kids) (a := VK4 i) (fun VR6 VK6 VS6 hl6 hA6 => ?_)
      refine go_region ⟨_, Tryz.func12⟩ rfl ?_
      obtain ⟨bk7, o7, hav7⟩ := hA4 (by omega)
      refine q0 rfl (o_ixN ?_ (j := i))
      refine q0 rfl (o_ldB ?_)
      refine q0 rfl (o_new fun b5 => ?_)
      refine q0 rfl (o_st ?_)
      refine rg_nil ?_
      refine go_draw (tn := false) (A := [0, 0, 2, 6, 15, 31]) (l := [0, 1, 2, 3, 4]) (fin := [5]) Tab.mixed ⟨_, Tryz.func12⟩ (by rfl) ?_
      refine n0 rfl (v_ld ?_)
      refine n0 rfl (v_fa ?_)
      refine n0 rfl (v_ld ?_)
      refine n0 rfl (v_call Tryz.call40 (fDims_spec ((((t).sys).getD i br0).face) (VF4 i) ) (fun x19 => ?_))
      refine n0 rfl (v_orU32 ?_ (a := (dimsF t i)) (b := (fDims ((((t).sys).getD i br0).face))))
      refine NV.done ?_
      refine q0 rfl (o_st ?_)
      refine rg_nil ?_
      refine go_inBlock ?_
      refine go_region ⟨_, Tryz.func12⟩ rfl ?_
      refine q0 rfl (o_add ?_)
      refine q0 rfl (o_move ?_)
      refine rg_nil ?_
      refine go_state (fun w hs => ?_) (next0 (i + 1) _ (by omega) (by omega) ⟨rfl, rfl, rfl, rfl, rfl, trivial⟩)
      rw [dimsF_succ (by omega)]; exact ((((hs.less (by simp +contextual)).perm perm2).perm perm1).dropR (A := [_, _]))
    · have c13 : (decide ((i : Int) < ((t).sys.length : Int))) = false := h13
      try simp only [decide_eq_true_eq, decide_eq_false_iff_not, Bool.and_eq_true, Bool.or_eq_true, Bool.not_eq_true', Bool.and_eq_false_iff, Bool.or_eq_false_iff, Bool.not_eq_false', bne_iff_ne, beq_iff_eq, ne_eq, not_and, Decidable.not_not, Bool.true_and, Bool.and_true, Bool.false_or, Bool.or_false] at c13
      have he : i = t.sys.length := by omega
      subst he
      refine go_exit rfl ?_
      refine go_seq ?_
      refine go_region ⟨_, Tryz.func12⟩ rfl ?_
      refine q0 rfl (o_lds ?_)
      refine q0 rfl (o_func ?_)
      have hE := each_all t vr_t vk_t vs_t 41 [.pointer (some ⟨b3, 0, none⟩)] [] (fun m => [boxR b3 [.int .u32 (dimsUpto t m : Int)] 31]) Tryz.call41 (fun m k v d hm vr vk vs => (by have := dims1_walk k vr vk vs v d b3 (dimsUpto t m) (dimsUpto_lt t m) (ih _ (parts_mem hm)); simpa only [dimsUpto_succ hm] using this))
      simp only [dimsUpto_zero] at hE
      refine q0 rfl (o_call Tryz.call37 (hE) (fun x24 => ?_))
      refine rg_nil ?_
      refine go_seq ?_
      refine go_region ⟨_, Tryz.func12⟩ rfl ?_
      refine q0 rfl (o_ld ?_)
      refine q0 rfl (o_assign ?_)
      refine rg_nil ?_
      -- leaf 0: .int .u32 ((dimsUpto t (parts t).length : Nat) : Int)
      refine ret1 Tryz.func12 Tryz.results12 (by first | ((conv => lhs; whnf); done) | rfl) () (by rw [dimsUpto_all]) (fun w hs => hs.none)

theorem dims_spec : ∀ (t : T) vr vk vs, Spec Tryz.prog 12 #[.agg (tc t vr vk vs).toArray] [RT t vr vk vs] [] (fun _ : Unit => .int .u32 (dimsT t : Int)) (fun _ => []) (fun _ => []) := T.ind fun t ih vr vk vs => dims_walk t vr vk vs ih

end Go.Hy
