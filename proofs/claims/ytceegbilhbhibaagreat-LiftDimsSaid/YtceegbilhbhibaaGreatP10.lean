/- Contracts of this program's functions and the laws that they need: a separation logic over the machine's rules, one theorem each (partly printed by a program of this repository). -/
import Derived.Test.YtceegbilhbhibaaGreatP4
import Derived.Test.YtceegbilhbhibaaGreatP5
import Derived.Test.YtceegbilhbhibaaGreatP6
import Derived.Test.YtceegbilhbhibaaGreatP7
import Derived.Test.YtceegbilhbhibaaGreatP9
namespace Go.Hy
set_option linter.unusedVariables false
set_option linter.unusedSimpArgs false
set_option linter.unusedSectionVars false
open Go.Proofs
set_option linter.unusedVariables false
set_option linter.unusedSimpArgs false
set_option maxRecDepth 100000
theorem maskLift_spec (s : Nat) (f : Int) (b : Int) (hs : s < 4294967296) (hi : in64 f) (hib : in64 b) : Spec Tryz.prog 98 #[.int .u32 ((s : Nat) : Int), .int .i64 (f), .int .i64 (b)] [] [] (fun _ : Unit => .tuple #[.int .u32 (((maskLift s f b).2 : Nat) : Int), .int .i64 ((maskLift s f b).1)]) (fun _ : Unit => []) (fun _ : Unit => []) := by
  refine spec_go (args := [.int .u32 ((s : Nat) : Int), .int .i64 (f), .int .i64 (b)]) Tryz.func98 Tryz.ntmps98 rfl (by exact Nat.le_of_ble_eq_true rfl) fun B hB => ?_
  have hs24 := and24_lt s
  have hp := pow24 (m := min f.toNat 24) (by omega)
  have hpos : 0 < 2 ^ (min f.toNat 24) := Nat.pow_pos (by omega)
  have hhi : andNot32 (s &&& 16777215) (2 ^ (min f.toNat 24) - 1) < 16777216 := andNot_lt hs24
  have hlo : (s &&& 16777215) &&& (2 ^ (min f.toNat 24) - 1) < 16777216 := Nat.lt_of_le_of_lt Nat.and_le_left hs24
  refine go_seq ?_
  refine go_region ⟨_, Tryz.func98⟩ rfl ?_
  refine q0 rfl (o_assign ?_)
  refine q0 rfl (o_assign ?_)
  refine rg_nil ?_
  refine go_seq ?_
  refine go_seq ?_
  refine go_cutS ([(0, .int .u32 ((s : Nat) : Int)), (1, .int .i64 (f)), (2, .int .i64 (b)), (15, .bool ((decide (f < 0)) || (decide (b < 0))))]) (fun hK => ?_) (fun base => ?_)
  · refine go_region ⟨_, Tryz.func98⟩ rfl ?_
    refine q0 rfl (o_move ?_)
    refine q0 rfl (o_lss ?_)
    refine q0 rfl (o_move ?_)
    refine qI rfl rfl rfl wl_ (fun hg12 => ?_) (fun hg12 => ?_)
    · have g12 : (decide (f < 0)) = false := hg12
      try simp only [sC, bne_iff_ne, beq_iff_eq, ne_eq] at g12
      refine o_move ?_
      refine qT rfl rfl rfl (o_lss ?_)
      refine q0 rfl (o_pickF ?_)
      refine rg_nil ?_
      exact hK _ ⟨rfl, rfl, rfl, dn_, trivial⟩
    · have g12 : (decide (f < 0)) = true := hg12
      try simp only [sC, bne_iff_ne, beq_iff_eq, ne_eq] at g12
      refine qF rfl rfl rfl ?_
      refine q0 rfl (o_pickT ?_)
      refine rg_nil ?_
      exact hK _ ⟨rfl, rfl, rfl, dn_, trivial⟩
  · refine go_condI (fun h15 => ?_) (fun h15 => ?_)
    · have c15 : ((decide (f < 0)) || (decide (b < 0))) = true := h15
      try simp only [sC, bne_iff_ne, beq_iff_eq, ne_eq] at c15
      have hg : maskLift s f b = (2, 0) := by rw [maskLift, if_pos (by omega)]
      refine go_seq ?_
      refine go_region ⟨_, Tryz.func98⟩ rfl ?_
      refine q0 rfl (o_assign ?_)
      refine q0 rfl (o_assign ?_)
      refine rg_nil ?_
      refine ret2 Tryz.func98 Tryz.results98 wn_ wn_ () (by first | (rw [hg]; done) | (rw [hg]; rfl)) (fun w hs => hs.none)
    · have c15 : ((decide (f < 0)) || (decide (b < 0))) = false := h15
      try simp only [sC, bne_iff_ne, beq_iff_eq, ne_eq] at c15
      have hfb : 0 ≤ f ∧ 0 ≤ b := by omega
      refine go_skip ?_
      refine go_seq ?_
      refine go_region ⟨_, Tryz.func98⟩ rfl ?_
      refine q0 rfl (o_move ?_)
      refine q0 rfl (o_andU32 ?_ (a := s) (b := 16777215))
      refine q0 rfl (o_assign ?_)
      refine rg_nil ?_
      refine go_seq ?_
      refine go_region ⟨_, Tryz.func98⟩ rfl ?_
      refine q0 rfl (o_move ?_)
      refine q0 rfl (o_move ?_)
      refine q0 rfl (o_call Tryz.call115 (below24 f om_) (fun x20 => ?_))
      refine q0 rfl (o_andU32 ?_ (a := s &&& 16777215) (b := 2 ^ (min f.toNat 24) - 1) (ha := by omega) (hb := by omega))
      refine q0 rfl (o_assign ?_)
      refine rg_nil ?_
      refine go_seq ?_
      refine go_region ⟨_, Tryz.func98⟩ rfl ?_
      refine q0 rfl (o_move ?_)
      refine q0 rfl (o_move ?_)
      refine q0 rfl (o_call Tryz.call115 (below24 f om_) (fun x24 => ?_))
      refine q0 rfl (o_andNotU32 ?_ (a := (s &&& 16777215)) (b := (2 ^ (min f.toNat 24) - 1)))
      refine q0 rfl (o_convU6 ?_ (a := andNot32 (s &&& 16777215) (2 ^ (min f.toNat 24) - 1)))
      refine q0 rfl (o_assign ?_)
      refine rg_nil ?_
      refine go_seq ?_
      refine go_seq ?_
      refine go_region ⟨_, Tryz.func98⟩ rfl ?_
      refine q0 rfl (o_move ?_)
      refine q0 rfl (o_eqI ?_ (a := ((andNot32 (s &&& 16777215) (2 ^ (min f.toNat 24) - 1) : Nat) : Int)) (b := 0))
      refine rg_nil ?_
      refine go_condI (fun h28 => ?_) (fun h28 => ?_)
      · have c28 : (decide (((andNot32 (s &&& 16777215) (2 ^ (min f.toNat 24) - 1) : Nat) : Int) = 0)) = true := h28
        try simp only [sC, bne_iff_ne, beq_iff_eq, ne_eq] at c28
        have hz : andNot32 (s &&& 16777215) (2 ^ (min f.toNat 24) - 1) = 0 := by omega
        have hg : maskLift s f b = (0, (s &&& 16777215) &&& (2 ^ (min f.toNat 24) - 1)) := by rw [maskLift, if_neg (by omega), if_pos hz]
        refine go_seq ?_
        refine go_region ⟨_, Tryz.func98⟩ rfl ?_
        refine q0 rfl (o_move ?_)
        refine q0 rfl (o_assign ?_)
        refine q0 rfl (o_assign ?_)
        refine rg_nil ?_
        refine ret2 Tryz.func98 Tryz.results98 wn_ wn_ () (by first | (rw [hg]; done) | (rw [hg]; rfl)) (fun w hs => hs.none)
      · have c28 : (decide (((andNot32 (s &&& 16777215) (2 ^ (min f.toNat 24) - 1) : Nat) : Int) = 0)) = false := h28
        try simp only [sC, bne_iff_ne, beq_iff_eq, ne_eq] at c28
        have hz : ¬ andNot32 (s &&& 16777215) (2 ^ (min f.toNat 24) - 1) = 0 := by omega
        refine go_skip ?_
        refine go_seq ?_
        refine go_seq ?_
        refine go_cutS ([(2, .int .i64 (b)), (8, .int .u32 ((((s &&& 16777215) &&& (2 ^ (min f.toNat 24) - 1)) : Nat) : Int)), (9, .int .u64 (((andNot32 (s &&& 16777215) (2 ^ (min f.toNat 24) - 1) : Nat) : Int))), (38, .bool ((decide (24 ≤ b)) || (decide (16777215 < ((andNot32 (s &&& 16777215) (2 ^ (min f.toNat 24) - 1) * 2 ^ b.toNat : Nat) : Int)))))]) (fun hK => ?_) (fun base => ?_)
        · refine go_region ⟨_, Tryz.func98⟩ rfl ?_
          refine q0 rfl (o_move ?_)
          refine q0 rfl (o_geq ?_)
          refine q0 rfl (o_move ?_)
          refine qI rfl rfl rfl wl_ (fun hg32 => ?_) (fun hg32 => ?_)
          · have g32 : (decide (24 ≤ b)) = false := hg32
            try simp only [sC, bne_iff_ne, beq_iff_eq, ne_eq] at g32
            refine o_move ?_
            refine qT rfl rfl rfl (o_move ?_)
            refine qT rfl rfl rfl (o_convI6 ?_ (m := b.toNat) (ha := by omega))
            refine qT rfl rfl rfl (o_shl6 ?_ (a := andNot32 (s &&& 16777215) (2 ^ (min f.toNat 24) - 1)) (m := b.toNat) (hm := by omega) (hb := by have := pow24 (m := b.toNat) (by omega); have h9 := Nat.mul_le_mul (Nat.le_of_lt hhi) this; omega))
            refine qT rfl rfl rfl (o_gtr ?_ (a := ((andNot32 (s &&& 16777215) (2 ^ (min f.toNat 24) - 1) * 2 ^ b.toNat : Nat) : Int)) (b := 16777215))
            refine q0 rfl (o_pickF ?_)
            refine rg_nil ?_
            exact hK _ ⟨rfl, rfl, rfl, dn_, trivial⟩
          · have g32 : (decide (24 ≤ b)) = true := hg32
            try simp only [sC, bne_iff_ne, beq_iff_eq, ne_eq] at g32
            refine qF rfl rfl rfl ?_
            refine qF rfl rfl rfl ?_
            refine qF rfl rfl rfl ?_
            refine qF rfl rfl rfl ?_
            refine q0 rfl (o_pickT ?_)
            refine rg_nil ?_
            exact hK _ ⟨rfl, rfl, rfl, dn_, trivial⟩
        · refine go_condI (fun h38 => ?_) (fun h38 => ?_)
          · have c38 : ((decide (24 ≤ b)) || (decide (16777215 < ((andNot32 (s &&& 16777215) (2 ^ (min f.toNat 24) - 1) * 2 ^ b.toNat : Nat) : Int)))) = true := h38
            try simp only [sC, bne_iff_ne, beq_iff_eq, ne_eq] at c38
            have hg : maskLift s f b = (10, 0) := by rw [maskLift, if_neg (by omega), if_neg hz, if_pos (by omega)]
            refine go_seq ?_
            refine go_region ⟨_, Tryz.func98⟩ rfl ?_
            refine q0 rfl (o_assign ?_)
            refine q0 rfl (o_assign ?_)
            refine rg_nil ?_
            refine ret2 Tryz.func98 Tryz.results98 wn_ wn_ () (by first | (rw [hg]; done) | (rw [hg]; rfl)) (fun w hs => hs.none)
          · have c38 : ((decide (24 ≤ b)) || (decide (16777215 < ((andNot32 (s &&& 16777215) (2 ^ (min f.toNat 24) - 1) * 2 ^ b.toNat : Nat) : Int)))) = false := h38
            try simp only [sC, bne_iff_ne, beq_iff_eq, ne_eq] at c38
            have hbig : ¬ (24 ≤ b ∨ 16777215 < andNot32 (s &&& 16777215) (2 ^ (min f.toNat 24) - 1) * 2 ^ b.toNat) := by omega
            have hg : maskLift s f b = (0, ((s &&& 16777215) &&& (2 ^ (min f.toNat 24) - 1)) ||| (andNot32 (s &&& 16777215) (2 ^ (min f.toNat 24) - 1) * 2 ^ b.toNat)) := by rw [maskLift, if_neg (by omega), if_neg hz, if_neg hbig]
            refine go_skip ?_
            refine go_seq ?_
            refine go_region ⟨_, Tryz.func98⟩ rfl ?_
            refine q0 rfl (o_move ?_)
            refine q0 rfl (o_move ?_)
            refine q0 rfl (o_move ?_)
            refine q0 rfl (o_convI6 ?_ (m := b.toNat) (ha := by omega))
            refine q0 rfl (o_shl6 ?_ (a := andNot32 (s &&& 16777215) (2 ^ (min f.toNat 24) - 1)) (m := b.toNat) (hm := by omega) (hb := by omega))
            refine q0 rfl (o_conv6U ?_ (a := andNot32 (s &&& 16777215) (2 ^ (min f.toNat 24) - 1) * 2 ^ b.toNat) (ha := by omega))
            refine q0 rfl (o_orU32 ?_ (a := (s &&& 16777215) &&& (2 ^ (min f.toNat 24) - 1)) (b := andNot32 (s &&& 16777215) (2 ^ (min f.toNat 24) - 1) * 2 ^ b.toNat) (ha := by omega) (hb := by omega))
            refine q0 rfl (o_assign ?_)
            refine q0 rfl (o_assign ?_)
            refine rg_nil ?_
            refine ret2 Tryz.func98 Tryz.results98 wn_ wn_ () (by first | (rw [hg]; done) | (rw [hg]; rfl)) (fun w hs => hs.none)
theorem clLift_spec (c : Cl) (f : Int) (b : Int) (hc : u32 c) (hi : in64 f) (hib : in64 b) : Spec Tryz.prog 81 #[keyV c, .int .i64 (f), .int .i64 (b)] [] [] (fun _ : Unit => .tuple #[keyV ((clLift c f b).2), .int .i64 ((clLift c f b).1)]) (fun _ : Unit => []) (fun _ : Unit => []) := by
  refine spec_go (args := [keyV c, .int .i64 (f), .int .i64 (b)]) Tryz.func81 Tryz.ntmps81 rfl (by exact Nat.le_of_ble_eq_true rfl) fun B hB => ?_
  have hcp := hc.1
  have hcn := hc.2
  have hp1 := maskLift_lt c.pos f b
  have hp2 := maskLift_lt c.neg f b
  refine go_seq ?_
  refine go_region ⟨_, Tryz.func81⟩ rfl ?_
  refine q0 rfl (o_box fun b3 => ?_)
  refine q0 rfl (o_new fun b6 => ?_)
  refine q0 rfl (o_assign ?_)
  refine rg_nil ?_
  refine go_seq ?_
  refine go_seq ?_
  refine go_region ⟨_, Tryz.func81⟩ rfl ?_
  refine q0 rfl (o_lds ?_)
  refine q0 rfl (o_call Tryz.call97 (clauseRight_spec c om_) (fun x12 => ?_))
  refine q0 rfl (o_not ?_)
  refine rg_nil ?_
  refine go_condI (fun h13 => ?_) (fun h13 => ?_)
  · have c13 : (!(right24 c)) = true := h13
    try simp only [sC, bne_iff_ne, beq_iff_eq, ne_eq] at c13
    have hg : clLift c f b = (2, cl0) := by rw [clLift, if_pos (by simpa using h13)]
    refine go_seq ?_
    refine go_region ⟨_, Tryz.func81⟩ rfl ?_
    refine q0 rfl (o_build (cs := [.int .u32 ((((⟨0, 0⟩ : Cl)).pos : Nat) : Int), .int .u32 ((((⟨0, 0⟩ : Cl)).neg : Nat) : Int)]) ?_)
    refine q0 rfl (o_st ?_)
    refine q0 rfl (o_assign ?_)
    refine rg_nil ?_
    refine retCT Tryz.func81 Tryz.results81 () rfl mf_ rfl rfl rfl rfl (by rw [hg]; rfl) (fun w hs => hs.none)
  · have c13 : (!(right24 c)) = false := h13
    try simp only [sC, bne_iff_ne, beq_iff_eq, ne_eq] at c13
    have hr : ¬ right24 c = false := by simpa using h13
    refine go_skip ?_
    refine go_seq ?_
    refine go_region ⟨_, Tryz.func81⟩ rfl ?_
    refine q0 rfl (o_fa ?_)
    refine q0 rfl (o_ld ?_)
    refine q0 rfl (o_move ?_)
    refine q0 rfl (o_move ?_)
    refine q0 rfl (o_call Tryz.call98 (maskLift_spec ((c).pos) f b om_ om_ om_) (fun x20 => ?_))
    refine q0 rfl (o_move ?_)
    refine q0 rfl (o_extract ?_)
    refine q0 rfl (o_extract ?_)
    refine q0 rfl (o_assign ?_)
    refine q0 rfl (o_assign ?_)
    refine rg_nil ?_
    refine go_seq ?_
    refine go_seq ?_
    refine go_region ⟨_, Tryz.func81⟩ rfl ?_
    refine q0 rfl (o_move ?_)
    refine q0 rfl (o_neI ?_)
    refine rg_nil ?_
    refine go_condI (fun h24 => ?_) (fun h24 => ?_)
    · have c24 : (decide (((maskLift ((c).pos) f b).1) ≠ 0)) = true := h24
      try simp only [sC, bne_iff_ne, beq_iff_eq, ne_eq] at c24
      have hg : clLift c f b = ((maskLift c.pos f b).1, cl0) := by rw [clLift, if_neg hr, if_pos (by simpa using h24)]
      refine go_seq ?_
      refine go_region ⟨_, Tryz.func81⟩ rfl ?_
      refine q0 rfl (o_build (cs := [.int .u32 ((((⟨0, 0⟩ : Cl)).pos : Nat) : Int), .int .u32 ((((⟨0, 0⟩ : Cl)).neg : Nat) : Int)]) ?_)
      refine q0 rfl (o_move ?_)
      refine q0 rfl (o_st ?_)
      refine q0 rfl (o_assign ?_)
      refine rg_nil ?_
      refine retCT Tryz.func81 Tryz.results81 () rfl mf_ rfl rfl rfl rfl (by rw [hg]; rfl) (fun w hs => hs.none)
    · have c24 : (decide (((maskLift ((c).pos) f b).1) ≠ 0)) = false := h24
      try simp only [sC, bne_iff_ne, beq_iff_eq, ne_eq] at c24
      have hr2 : ¬ (maskLift c.pos f b).1 ≠ 0 := by simpa using h24
      refine go_skip ?_
      refine go_seq ?_
      refine go_region ⟨_, Tryz.func81⟩ rfl ?_
      refine q0 rfl (o_fa ?_)
      refine q0 rfl (o_ld ?_)
      refine q0 rfl (o_move ?_)
      refine q0 rfl (o_move ?_)
      refine q0 rfl (o_call Tryz.call98 (maskLift_spec ((c).neg) f b om_ om_ om_) (fun x32 => ?_))
      refine q0 rfl (o_move ?_)
      refine q0 rfl (o_extract ?_)
      refine q0 rfl (o_extract ?_)
      refine q0 rfl (o_assign ?_)
      refine q0 rfl (o_assign ?_)
      refine rg_nil ?_
      refine go_seq ?_
      refine go_seq ?_
      refine go_region ⟨_, Tryz.func81⟩ rfl ?_
      refine q0 rfl (o_move ?_)
      refine q0 rfl (o_neI ?_)
      refine rg_nil ?_
      refine go_condI (fun h36 => ?_) (fun h36 => ?_)
      · have c36 : (decide (((maskLift ((c).neg) f b).1) ≠ 0)) = true := h36
        try simp only [sC, bne_iff_ne, beq_iff_eq, ne_eq] at c36
        have hg : clLift c f b = ((maskLift c.neg f b).1, cl0) := by rw [clLift, if_neg hr, if_neg hr2, if_pos (by simpa using h36)]
        refine go_seq ?_
        refine go_region ⟨_, Tryz.func81⟩ rfl ?_
        refine q0 rfl (o_build (cs := [.int .u32 ((((⟨0, 0⟩ : Cl)).pos : Nat) : Int), .int .u32 ((((⟨0, 0⟩ : Cl)).neg : Nat) : Int)]) ?_)
        refine q0 rfl (o_move ?_)
        refine q0 rfl (o_st ?_)
        refine q0 rfl (o_assign ?_)
        refine rg_nil ?_
        refine retCT Tryz.func81 Tryz.results81 () rfl mf_ rfl rfl rfl rfl (by rw [hg]; rfl) (fun w hs => hs.none)
      · have c36 : (decide (((maskLift ((c).neg) f b).1) ≠ 0)) = false := h36
        try simp only [sC, bne_iff_ne, beq_iff_eq, ne_eq] at c36
        have hg : clLift c f b = (0, ⟨(maskLift c.pos f b).2, (maskLift c.neg f b).2⟩) := by rw [clLift, if_neg hr, if_neg hr2, if_neg (by simpa using h36)]
        refine go_skip ?_
        refine go_seq ?_
        refine go_region ⟨_, Tryz.func81⟩ rfl ?_
        refine q0 rfl (o_move ?_)
        refine q0 rfl (o_move ?_)
        refine q0 rfl (o_build (cs := [.int .u32 ((((⟨(maskLift ((c).pos) f b).2, (maskLift ((c).neg) f b).2⟩ : Cl)).pos : Nat) : Int), .int .u32 ((((⟨(maskLift ((c).pos) f b).2, (maskLift ((c).neg) f b).2⟩ : Cl)).neg : Nat) : Int)]) ?_)
        refine q0 rfl (o_st ?_)
        refine q0 rfl (o_assign ?_)
        refine rg_nil ?_
        refine retCT Tryz.func81 Tryz.results81 () rfl mf_ rfl rfl rfl rfl (by rw [hg]; rfl) (fun w hs => hs.none)
theorem forms_spec (l : List CP) (a_l : SH)  : Spec Tryz.prog 77 #[sl a_l (l.length)] [CCF l a_l] [] (fun _ : Unit => .int .i64 ((if l.all (fun p => fRight p.1) then 0 else 2))) (fun _ : Unit => []) (fun _ : Unit => []) := by
  refine spec_go (args := [sl a_l (l.length)]) Tryz.func77 Tryz.ntmps77 rfl (by exact Nat.le_of_ble_eq_true rfl) fun B hB => ?_
  refine go_seq ?_
  refine go_region ⟨_, Tryz.func77⟩ rfl ?_
  refine q0 rfl (o_assign ?_)
  refine rg_nil ?_
  refine go_seq ?_
  refine go_seq ?_
  refine go_region ⟨_, Tryz.func77⟩ rfl ?_
  refine q0 rfl (o_move ?_)
  refine q0 rfl (o_len ?_)
  refine q0 rfl (o_move ?_)
  refine rg_nil ?_
  refine go_block ?_
  refine go_loopE (X := Nat) (fun s_ => s_ ≤ l.length ∧ ∀ j, j < s_ → fRight (l.getD j cp0).1 = true) (fun s_ => [(5, sl a_l (l.length)), (6, .int .i64 ((l.length : Int))), (7, .int .i64 ((s_ : Int)))]) (fun s_ G_ => G_) (fun s_ => []) (fun s_ => l.length - s_) (0) (⟨Nat.zero_le _, fun j hj => absurd hj (Nat.not_lt_zero _)⟩) (by exact ⟨rfl, rfl, rfl, trivial⟩) ?_ ?_
  · exact fun w hs => hs
  · intro i base0 ⟨hi, hok⟩ next0
    refine go_seq ?_
    refine go_region ⟨_, Tryz.func77⟩ rfl ?_
    refine q0 rfl (o_lss ?_)
    refine rg_nil ?_
    refine go_seq ?_
    refine go_condI (fun h8 => ?_) (fun h8 => ?_)
    · have c8 : (decide ((i : Int) < (l.length : Int))) = true := h8
      try simp only [sC, bne_iff_ne, beq_iff_eq, ne_eq] at c8
      refine go_skip ?_
      refine go_seq ?_
      refine go_block ?_
      refine go_seq ?_
      refine go_openRow (l := l) (a := a_l) (bt := 24) (F := cpCells) (E := cpE) (d := cp0) mm_ (fun hl1 hA1 => ?_)
      refine go_elem (l := l) (a := a_l) (bt := 24) (F := cpCells) (E := cpE) (d := cp0) mm_ i (by omega) ?_
      refine go_region ⟨_, Tryz.func77⟩ rfl ?_
      obtain ⟨bk2, o2, hav2⟩ := hA1 (by omega)
      refine q0 rfl (o_ixN ?_ (j := i))
      refine q0 rfl (o_ldCC ?_)
      refine q0 rfl (o_assign ?_)
      refine rg_nil ?_
      refine go_seq ?_
      refine go_region ⟨_, Tryz.func77⟩ rfl ?_
      refine q0 rfl (o_move ?_)
      refine q0 rfl (o_call Tryz.call94 (formRight_spec (((l).getD i cp0).1) (((l).getD i cp0).2) ) (fun x12 => ?_))
      refine q0 rfl (o_not ?_)
      refine rg_nil ?_
      refine go_condI (fun h13 => ?_) (fun h13 => ?_)
      · have c13 : (!(fRight (((l).getD i cp0).1))) = true := h13
        try simp only [sC, bne_iff_ne, beq_iff_eq, ne_eq] at c13
        refine go_seq ?_
        refine go_region ⟨_, Tryz.func77⟩ rfl ?_
        refine q0 rfl (o_assign ?_)
        refine rg_nil ?_
        refine ret1 Tryz.func77 Tryz.results77 wn_ () (by rw [if_neg (by rw [all_false_at (d := cp0) (i := i) (by omega) (by simpa using h13)]; decide)]) (fun w hs => hs.none)
      · have c13 : (!(fRight (((l).getD i cp0).1))) = false := h13
        try simp only [sC, bne_iff_ne, beq_iff_eq, ne_eq] at c13
        refine go_skip ?_
        refine go_inBlock ?_
        refine go_region ⟨_, Tryz.func77⟩ rfl ?_
        refine q0 rfl (o_add ?_)
        refine q0 rfl (o_move ?_)
        refine rg_nil ?_
        refine go_state (fun w hs => ?_) (next0 (i + 1) _ (⟨by omega, fun j hj => by rcases Nat.lt_succ_iff_lt_or_eq.mp hj with h | h; exact hok j h; subst h; simpa using h13⟩) (by omega) ⟨rfl, rfl, rfl, trivial⟩)
        exact (hs.less (by simp +contextual))
    · have c8 : (decide ((i : Int) < (l.length : Int))) = false := h8
      try simp only [sC, bne_iff_ne, beq_iff_eq, ne_eq] at c8
      refine go_exit rfl ?_
      refine go_seq ?_
      refine go_region ⟨_, Tryz.func77⟩ rfl ?_
      refine q0 rfl (o_assign ?_)
      refine rg_nil ?_
      refine ret1 Tryz.func77 Tryz.results77 wn_ () (by rw [if_pos (all_true_of (d := cp0) (fun j hj => hok j (by omega)))]) (fun w hs => hs.none)
theorem fZero_spec   : Spec Tryz.prog 79 #[] [] [] (fun _ : Unit => sl (none, 0) 0) (fun _ : Unit => []) (fun _ : Unit => []) := by
  refine spec_go (args := []) Tryz.func79 Tryz.ntmps79 rfl (by exact Nat.le_of_ble_eq_true rfl) fun B hB => ?_
  refine go_seq ?_
  refine go_region ⟨_, Tryz.func79⟩ rfl ?_
  refine q0 rfl (o_assign ?_)
  refine rg_nil ?_
  refine go_seq ?_
  refine go_region ⟨_, Tryz.func79⟩ rfl ?_
  refine q0 rfl (o_assign ?_)
  refine rg_nil ?_
  refine ret1 Tryz.func79 Tryz.results79 wn_ () (by first | rfl | (simp_all; done) | (simp_all; omega)) (fun w hs => hs.none)
theorem formLift1_spec (l : List Cl) (a : SH) (c : Cl) (g4 : Nat) (f : Int) (g5 : Nat) (b : Int) (hc : u32 c) (hi : in64 f) (hib : in64 b) (hl : l.length * 8 ≤ reach) : Spec Tryz.prog 80 #[sl a (l.length), keyV c, .pointer (some ⟨g4, 0, none⟩), .pointer (some ⟨g5, 0, none⟩)] [At g4 0 [.int .i64 (f)], At g5 0 [.int .i64 (b)]] [rowS 2 55 a (l.length) (clFlat l)] (fun x : SH => .tuple #[sl x (l.length + 1), .int .i64 (clLift c f b).1]) (fun x : SH => []) (fun x : SH => [rowS 2 55 x (l.length + 1) (clFlat (l ++ [(clLift c f b).2]))]) := by
  refine spec_go (args := [sl a (l.length), keyV c, .pointer (some ⟨g4, 0, none⟩), .pointer (some ⟨g5, 0, none⟩)]) Tryz.func80 Tryz.ntmps80 rfl (by exact Nat.le_of_ble_eq_true rfl) fun B hB => ?_
  have hu9 := clLift_u32 c f b
  refine go_seq ?_
  refine go_region ⟨_, Tryz.func80⟩ rfl ?_
  refine q0 rfl (o_box fun b5 => ?_)
  refine q0 rfl (o_assign ?_)
  refine q0 rfl (o_assign ?_)
  refine rg_nil ?_
  refine go_seq ?_
  refine go_region ⟨_, Tryz.func80⟩ rfl ?_
  refine q0 rfl (o_lds ?_)
  refine q0 rfl (o_ldg ?_)
  refine q0 rfl (o_ldg ?_)
  refine q0 rfl (o_call Tryz.call81 (clLift_spec c f b om_ om_ om_) (fun x14 => ?_))
  refine q0 rfl (o_move ?_)
  refine q0 rfl (o_extract ?_)
  refine q0 rfl (o_extract ?_)
  refine q0 rfl (o_new fun b8 => ?_)
  refine q0 rfl (o_st ?_)
  refine q0 rfl (o_assign ?_)
  refine rg_nil ?_
  refine go_seq ?_
  refine go_region ⟨_, Tryz.func80⟩ rfl ?_
  refine q0 rfl (o_move ?_)
  refine q0 rfl (o_lds ?_)
  refine q0 rfl (o_lit1 fun b19 => ?_)
  refine q0 rfl (o_appS (fun a20 => ?_) (a := a) (n' := l.length))
  refine rg_state (fun w hs => ((hs.perm perm1).drop).snocC (c := ((clLift c f b).2))) ?_
  refine q0 rfl (o_move ?_)
  refine q0 rfl (o_assign ?_)
  refine q0 rfl (o_assign ?_)
  refine rg_nil ?_
  refine ret2 Tryz.func80 Tryz.results80 wn_ wn_ a20 rfl (fun w hs => ((hs.less (by simp)).dropR (A := [_])))
set_option maxHeartbeats 4000000 in
theorem foldLift_spec (l : List Cl) (a_l : SH) (f b : Int) (g4 g5 : Nat) (hi : in64 f) (hib : in64 b) : Spec Tryz.prog 78 #[sl a_l (l.length), sl (none, 0) (0), .func (.func 80) #[] [.pointer (some ⟨g4, 0, none⟩), .pointer (some ⟨g5, 0, none⟩)].toArray] [CL l a_l, At g4 0 [.int .i64 f], At g5 0 [.int .i64 b]] [rowS 2 55 (none, 0) (0) (clFlat ([]))] (fun x : SH => .tuple #[sl x (foldC (fun c => clLift c f b) l).2.length, .int .i64 (foldC (fun c => clLift c f b) l).1]) (fun x : SH => []) (fun x : SH => [rowS 2 55 x (foldC (fun c => clLift c f b) l).2.length (clFlat (foldC (fun c => clLift c f b) l).2)]) := by
  rw [show (#[sl a_l (l.length), sl (none, 0) (0), .func (.func 80) #[] [.pointer (some ⟨g4, 0, none⟩), .pointer (some ⟨g5, 0, none⟩)].toArray] : Array Value) = ([sl a_l (l.length), sl (none, 0) (0), .func (.func 80) #[] [.pointer (some ⟨g4, 0, none⟩), .pointer (some ⟨g5, 0, none⟩)].toArray] : List Value).toArray from rfl]
  refine spec_go Tryz.func78 Tryz.ntmps78 rfl (by exact Nat.le_of_ble_eq_true rfl) fun B hB => ?_
  refine go_openCL (l := l) (a := a_l) (fun hl1 hA1 hU1 => ?_)
  refine go_seq ?_
  refine go_region ⟨_, Tryz.func78⟩ rfl ?_
  refine q0 rfl (o_assign ?_)
  refine q0 rfl (o_assign ?_)
  refine rg_nil ?_
  refine go_seq ?_
  refine go_seq ?_
  refine go_region ⟨_, Tryz.func78⟩ rfl ?_
  refine q0 rfl (o_move ?_)
  refine q0 rfl (o_len ?_)
  refine q0 rfl (o_move ?_)
  refine rg_nil ?_
  refine go_block ?_
  refine go_loopE (X := Nat × SH) (fun s_ => s_.1 ≤ l.length ∧ ∀ j, j < s_.1 → (clLift (l.getD j cl0) f b).1 = 0) (fun s_ => [(1, sl s_.2 (s_.1)), (2, .func (.func 80) #[] [.pointer (some ⟨g4, 0, none⟩), .pointer (some ⟨g5, 0, none⟩)].toArray), (13, sl a_l (l.length)), (14, .int .i64 ((l.length : Int))), (15, .int .i64 ((s_.1 : Int)))]) (fun s_ G_ => G_) (fun s_ => [rowS 2 55 s_.2 (s_.1) (clFlat ((l.take s_.1).map fun c => (clLift c f b).2))]) (fun s_ => l.length - s_.1) (0, (none, 0)) (⟨Nat.zero_le _, fun j hj => absurd hj (Nat.not_lt_zero _)⟩) (by exact ⟨rfl, rfl, rfl, rfl, rfl, trivial⟩) ?_ ?_
  · exact fun w hs => hs
  · intro ⟨i, a⟩ base0 ⟨hi9, hok⟩ next0
    dsimp only at  hi9  hok  next0 ⊢
    refine go_seq ?_
    refine go_region ⟨_, Tryz.func78⟩ rfl ?_
    refine q0 rfl (o_lss ?_)
    refine rg_nil ?_
    refine go_seq ?_
    refine go_condI (fun h16 => ?_) (fun h16 => ?_)
    · have c16 : (decide ((i : Int) < (l.length : Int))) = true := h16
      try simp only [sC, bne_iff_ne, beq_iff_eq, ne_eq] at c16
      have hlt9 : ((l.take i).map fun c => (clLift c f b).2).length = i := by rw [List.length_map, List.length_take]; omega
      refine go_skip ?_
      refine go_seq ?_
      refine go_block ?_
      refine go_seq ?_
      refine go_region ⟨_, Tryz.func78⟩ rfl ?_
      obtain ⟨bk2, o2, hav2⟩ := hA1 (by omega)
      refine q0 rfl (o_ixN ?_ (j := i))
      refine q0 rfl (o_ldC ?_)
      refine q0 rfl (o_new fun b9 => ?_)
      refine q0 rfl (o_st ?_)
      refine rg_nil ?_
      refine go_seq ?_
      refine go_region ⟨_, Tryz.func78⟩ rfl ?_
      refine q0 rfl (o_move ?_)
      refine q0 rfl (o_move ?_)
      refine q0 rfl (o_lds ?_)
      refine q0 rfl (o_callC Tryz.call80 ((by have h := formLift1_spec ((l.take i).map fun c => (clLift c f b).2) a (l.getD i cl0) g4 f g5 b (hU1 _ (getD_mem (by omega))) hi hib (by rw [hlt9]; unfold reach at *; omega); rw [hlt9] at h; exact h)) (cap := [.pointer (some ⟨g4, 0, none⟩), .pointer (some ⟨g5, 0, none⟩)]) (fun x23 => ?_))
      refine q0 rfl (o_move ?_)
      refine q0 rfl (o_extract ?_)
      refine q0 rfl (o_extract ?_)
      refine q0 rfl (o_assign ?_)
      refine q0 rfl (o_assign ?_)
      refine rg_nil ?_
      refine go_seq ?_
      refine go_seq ?_
      refine go_region ⟨_, Tryz.func78⟩ rfl ?_
      refine q0 rfl (o_move ?_)
      refine q0 rfl (o_neI ?_)
      refine rg_nil ?_
      refine go_condI (fun h27 => ?_) (fun h27 => ?_)
      · have c27 : (decide (((clLift (l.getD i cl0) f b).1) ≠ 0)) = true := h27
        try simp only [sC, bne_iff_ne, beq_iff_eq, ne_eq] at c27
        refine go_seq ?_
        refine go_region ⟨_, Tryz.func78⟩ rfl ?_
        refine q0 rfl (o_assign ?_)
        refine rg_nil ?_
        refine go_seq ?_
        refine go_region ⟨_, Tryz.func78⟩ rfl ?_
        refine q0 rfl (o_move ?_)
        refine q0 rfl (o_move ?_)
        refine q0 rfl (o_assign ?_)
        refine q0 rfl (o_assign ?_)
        refine rg_nil ?_
        have hg : (foldC (fun c => clLift c f b) l) = ((clLift (l.getD i cl0) f b).1, []) := foldC_bad (by omega) hok (by simpa using h27)
        refine ret2 Tryz.func78 Tryz.results78 wn_ wn_ (none, 0) (by rw [hg]; rfl) (fun w hs => by rw [hg]; exact ((hs.less (Γ' := []) (by simp)).bare.rowS0 2 55))
      · have c27 : (decide (((clLift (l.getD i cl0) f b).1) ≠ 0)) = false := h27
        try simp only [sC, bne_iff_ne, beq_iff_eq, ne_eq] at c27
        refine go_skip ?_
        refine go_region ⟨_, Tryz.func78⟩ rfl ?_
        refine q0 rfl (o_move ?_)
        refine q0 rfl (o_assign ?_)
        refine rg_nil ?_
        refine go_inBlock ?_
        refine go_region ⟨_, Tryz.func78⟩ rfl ?_
        refine q0 rfl (o_add ?_)
        refine q0 rfl (o_move ?_)
        refine rg_nil ?_
        have hst : (l.take (i + 1)).map (fun c => (clLift c f b).2) = (l.take i).map (fun c => (clLift c f b).2) ++ [(clLift (l.getD i cl0) f b).2] := by rw [take_succ_getD (d := cl0) (by omega), List.map_append]; rfl
        refine go_state (fun w hs => ?_) (next0 (i + 1, x23) _ (⟨by omega, fun j hj => by rcases Nat.lt_succ_iff_lt_or_eq.mp hj with h | h; exact hok j h; subst h; simpa using h27⟩) (by omega) ⟨rfl, rfl, rfl, rfl, rfl, trivial⟩)
        rw [hst]
        exact ((hs.less (by simp +contextual)).dropR (A := [_]))
    · have c16 : (decide ((i : Int) < (l.length : Int))) = false := h16
      try simp only [sC, bne_iff_ne, beq_iff_eq, ne_eq] at c16
      refine go_exit rfl ?_
      refine go_seq ?_
      refine go_region ⟨_, Tryz.func78⟩ rfl ?_
      refine q0 rfl (o_move ?_)
      refine q0 rfl (o_assign ?_)
      refine q0 rfl (o_assign ?_)
      refine rg_nil ?_
      have he : i = l.length := by omega
      have hg : (foldC (fun c => clLift c f b) l) = (0, l.map fun c => (clLift c f b).2) := foldC_ok (fun j hj => hok j (by omega))
      refine ret2 Tryz.func78 Tryz.results78 wn_ wn_ a (by rw [hg, List.length_map, ← he]; rfl) (fun w hs => by rw [hg]; have h := (hs.less (Γ' := []) (by simp)); rw [he, List.take_length] at h; dsimp only; rw [List.length_map]; exact h)
theorem leastRow (l : List Cl) (a : SH) : Spec Tryz.prog 82 #[sl a l.length] [CL l a] [] (fun x : SH => .tuple #[sl x (leastF l).2.length, .int .i64 (leastF l).1]) (fun _ => []) (fun x => [rowS 2 55 x (leastF l).2.length (clFlat (leastF l).2)]) := fun ok w hok hs => (least_own l a ok w hok hs).mono fun e w' h => by
  obtain ⟨x, he, hs'⟩ := h
  have hx := leastIs_eq x.2
  exact ⟨x.1.1, by rw [he]; show Ending.returned (.tuple #[sl x.1.1 x.1.2.2.length, .int .i64 x.1.2.1]) = Ending.returned (.tuple #[sl x.1.1 (leastF l).2.length, .int .i64 (leastF l).1]); rw [hx], by rw [← hx]; exact hs'⟩
theorem formLift_spec (l : List Cl) (a_l : SH) (f : Int) (b : Int) (hi : in64 f) (hib : in64 b) : Spec Tryz.prog 60 #[sl a_l (l.length), .int .i64 (f), .int .i64 (b)] [CL l a_l] [] (fun x : SH => .tuple #[sl x (formLift l f b).2.length, .int .i64 (formLift l f b).1]) (fun x : SH => []) (fun x : SH => [rowS 2 55 x (formLift l f b).2.length (clFlat (formLift l f b).2)]) := by
  refine spec_go (args := [sl a_l (l.length), .int .i64 (f), .int .i64 (b)]) Tryz.func60 Tryz.ntmps60 rfl (by exact Nat.le_of_ble_eq_true rfl) fun B hB => ?_
  refine go_openCL (l := l) (a := a_l) (fun hl1 hA1 hU1 => ?_)
  refine go_seq ?_
  refine go_region ⟨_, Tryz.func60⟩ rfl ?_
  refine q0 rfl (o_box fun b4 => ?_)
  refine q0 rfl (o_box fun b5 => ?_)
  refine q0 rfl (o_assign ?_)
  refine q0 rfl (o_assign ?_)
  refine rg_nil ?_
  refine go_seq ?_
  refine go_seq ?_
  refine go_region ⟨_, Tryz.func60⟩ rfl ?_
  refine q0 rfl (o_move ?_)
  refine q0 rfl (o_lit1 fun b12 => ?_)
  refine rg_state (fun w hs => ((((hs.perm perm2).perm perm2).perm perm2).litCC hB mf_)) ?_
  refine q0 rfl (o_call Tryz.call77 (forms_spec [(l, a_l)] (some ⟨b12, 0, none⟩, 1)) (fun x13 => ?_))
  refine q0 rfl (o_assign ?_)
  refine rg_nil ?_
  refine go_seq ?_
  refine go_region ⟨_, Tryz.func60⟩ rfl ?_
  refine q0 rfl (o_move ?_)
  refine q0 rfl (o_neI ?_)
  refine rg_nil ?_
  refine go_condI (fun h15 => ?_) (fun h15 => ?_)
  · have c15 : (decide ((if [(l, a_l)].all (fun p => fRight p.1) then (0 : Int) else 2) ≠ 0)) = true := h15
    try simp only [sC, bne_iff_ne, beq_iff_eq, ne_eq] at c15
    have hg : formLift l f b = (2, []) := by rw [formLift, if_pos (by simpa using h15)]
    have h9 : (if [(l, a_l)].all (fun p => fRight p.1) then (0 : Int) else 2) = 2 := by simpa using h15
    refine go_seq ?_
    refine go_region ⟨_, Tryz.func60⟩ rfl ?_
    refine q0 rfl (o_move ?_)
    refine q0 rfl (o_assign ?_)
    refine q0 rfl (o_assign ?_)
    refine rg_nil ?_
    refine ret2 Tryz.func60 Tryz.results60 wn_ wn_ (none, 0) (by rw [hg]; (conv => lhs; whnf; rw [h9]); rfl) (fun w hs => by rw [hg]; exact ((hs.less (Γ' := []) (by simp)).bare.rowS0 2 55))
  · have c15 : (decide ((if [(l, a_l)].all (fun p => fRight p.1) then (0 : Int) else 2) ≠ 0)) = false := h15
    try simp only [sC, bne_iff_ne, beq_iff_eq, ne_eq] at c15
    have hr : ¬ fRight l = false := by simpa using h15
    refine go_skip ?_
    refine go_seq ?_
    refine go_ms (Ms' := [boxR b5 [.int .i64 (b)] 3, boxR b4 [.int .i64 (f)] 3]) (by rfl) ?_
    refine go_state (fun w hs => ((hs.perm perm1).settleBox hB)) ?_
    refine go_state (fun w hs => (hs.settleBox hB)) ?_
    refine go_state (fun w hs => hs.rowS0 2 55) ?_
    refine go_region ⟨_, Tryz.func60⟩ rfl ?_
    refine q0 rfl (o_move ?_)
    refine q0 rfl (o_call Tryz.call79 (fZero_spec ) (fun x19 => ?_))
    refine q0 rfl (o_func ?_)
    refine q0 rfl (o_call Tryz.call78 (foldLift_spec l a_l f b b4 b5 hi hib) (fun x21 => ?_))
    refine q0 rfl (o_move ?_)
    refine q0 rfl (o_extract ?_)
    refine q0 rfl (o_extract ?_)
    refine q0 rfl (o_assign ?_)
    refine q0 rfl (o_assign ?_)
    refine rg_nil ?_
    refine go_seq ?_
    refine go_seq ?_
    refine go_region ⟨_, Tryz.func60⟩ rfl ?_
    refine q0 rfl (o_move ?_)
    refine q0 rfl (o_neI ?_)
    refine rg_nil ?_
    refine go_condI (fun h25 => ?_) (fun h25 => ?_)
    · have c25 : (decide (((foldC (fun c => clLift c f b) l).1) ≠ 0)) = true := h25
      try simp only [sC, bne_iff_ne, beq_iff_eq, ne_eq] at c25
      have hg : formLift l f b = ((foldC (fun c => clLift c f b) l).1, []) := by rw [formLift, if_neg hr, if_pos (by simpa using h25)]
      refine go_seq ?_
      refine go_region ⟨_, Tryz.func60⟩ rfl ?_
      refine q0 rfl (o_move ?_)
      refine q0 rfl (o_assign ?_)
      refine q0 rfl (o_assign ?_)
      refine rg_nil ?_
      refine ret2 Tryz.func60 Tryz.results60 wn_ wn_ (none, 0) (by rw [hg]; rfl) (fun w hs => by rw [hg]; exact ((hs.less (Γ' := []) (by simp)).bare.rowS0 2 55))
    · have c25 : (decide (((foldC (fun c => clLift c f b) l).1) ≠ 0)) = false := h25
      try simp only [sC, bne_iff_ne, beq_iff_eq, ne_eq] at c25
      have hg : formLift l f b = leastF (foldC (fun c => clLift c f b) l).2 := by rw [formLift, if_neg hr, if_neg (by simpa using h25)]
      refine go_skip ?_
      refine go_seq ?_
      refine go_state (fun w hs => (hs.settleCL hB rfl rfl (by have := foldC_len (g := fun c => clLift c f b) (l := l); omega) (foldC_u32 (fun c => clLift_u32 c f b)))) ?_
      refine go_region ⟨_, Tryz.func60⟩ rfl ?_
      refine q0 rfl (o_move ?_)
      refine q0 rfl (o_call Tryz.call82 (leastRow (foldC (fun c => clLift c f b) l).2 x21) (fun x28 => ?_))
      refine q0 rfl (o_extract ?_)
      refine q0 rfl (o_extract ?_)
      refine q0 rfl (o_assign ?_)
      refine q0 rfl (o_assign ?_)
      refine rg_nil ?_
      refine ret2 Tryz.func60 Tryz.results60 wn_ wn_ x28 (by rw [hg]; rfl) (fun w hs => by rw [hg]; exact (hs.less (by simp)))
end Go.Hy
namespace Go.Hy
set_option linter.unusedVariables false
set_option linter.unusedSimpArgs false
set_option linter.unusedSectionVars false
open Go.Proofs
set_option linter.unusedVariables false
set_option linter.unusedSimpArgs false
set_option maxRecDepth 100000
def tys : Tys := ⟨55, 26, 58⟩
end Go.Hy
namespace Go.Hy
set_option linter.unusedVariables false
set_option linter.unusedSimpArgs false
set_option linter.unusedSectionVars false
open Go.Proofs
set_option linter.unusedVariables false
set_option linter.unusedSimpArgs false
set_option maxRecDepth 100000
theorem liftRow_spec (vb db : Int) (l : List Cl) (a_l : SH) (f : Int) (hb : in64 db) (hi : in64 f) : SpecR Tryz.prog 30 49 #[.agg ([.int .i64 (vb), .int .i64 (db)] : List Value).toArray, sl a_l (l.length), .int .i64 (f)] [CL l a_l] (rowLift db l f) (fun (g : List Cl) => fun x : SH => sl x g.length) (fun (g : List Cl) => fun x : SH => []) (fun (g : List Cl) => fun x : SH => [rowS 2 55 x g.length (clFlat g)]) := by
  refine specR_go (args := [.agg ([.int .i64 (vb), .int .i64 (db)] : List Value).toArray, sl a_l (l.length), .int .i64 (f)]) Tryz.func49 Tryz.ntmps49 rfl (by exact Nat.le_of_ble_eq_true rfl) fun B hB => ?_
  refine go_openCL (l := l) (a := a_l) (fun hl1 hA1 hU1 => ?_)
  refine go_seq ?_
  refine go_region ⟨_, Tryz.func49⟩ rfl ?_
  refine q0 rfl (o_box fun b3 => ?_)
  refine q0 rfl (o_assign ?_)
  refine rg_nil ?_
  refine go_seq ?_
  refine go_seq ?_
  refine go_cutS ([(1, sl a_l (l.length)), (2, .int .i64 (f)), (3, .pointer (some ⟨b3, 0, none⟩)), (15, .bool ((decide (db = 0)) || (decide (24 ≤ f))))]) (fun hK => ?_) (fun base => ?_)
  · refine go_region ⟨_, Tryz.func49⟩ rfl ?_
    refine q0 rfl (o_fa ?_)
    refine q0 rfl (o_ld ?_)
    refine q0 rfl (o_eqI ?_)
    refine q0 rfl (o_move ?_)
    refine qI rfl rfl rfl wl_ (fun hg12 => ?_) (fun hg12 => ?_)
    · have g12 : (decide (db = 0)) = false := hg12
      try simp only [sC, bne_iff_ne, beq_iff_eq, ne_eq] at g12
      refine o_move ?_
      refine qT rfl rfl rfl (o_geq ?_)
      refine q0 rfl (o_pickF ?_)
      refine rg_nil ?_
      exact hK _ ⟨rfl, rfl, rfl, dn_, trivial⟩
    · have g12 : (decide (db = 0)) = true := hg12
      try simp only [sC, bne_iff_ne, beq_iff_eq, ne_eq] at g12
      refine qF rfl rfl rfl ?_
      refine q0 rfl (o_pickT ?_)
      refine rg_nil ?_
      exact hK _ ⟨rfl, rfl, rfl, dn_, trivial⟩
  · refine go_condI (fun h15 => ?_) (fun h15 => ?_)
    · have c15 : ((decide (db = 0)) || (decide (24 ≤ f))) = true := h15
      try simp only [sC, bne_iff_ne, beq_iff_eq, ne_eq] at c15
      have hg : rowLift db l f = .ok l := by rw [rowLift, if_pos (by simp at h15; exact h15)]
      refine go_seq ?_
      refine go_region ⟨_, Tryz.func49⟩ rfl ?_
      refine q0 rfl (o_move ?_)
      refine rg_state (fun w hs => hs.rowS0 2 55) ?_
      refine q0 rfl (o_appCL (fun a17 => ?_) (by simp) (a := (none, 0)) (n' := 0) (b := a_l) (ls := l))
      refine rg_state (fun w hs => hs.appFlatC (l := []) (m := l)) ?_
      refine q0 rfl (o_assign ?_)
      refine rg_nil ?_
      refine go_ok (a := l) (hg) ?_
      refine ret1 Tryz.func49 Tryz.results49 wn_ a17 (by (conv => lhs; whnf); first | rfl | (rw [Nat.zero_add]; rfl)) (fun w hs => by have h := ((hs.less (Γ' := []) (by simp)).dropR (A := [_])); simpa only [Nat.zero_add, List.nil_append] using h)
    · have c15 : ((decide (db = 0)) || (decide (24 ≤ f))) = false := h15
      try simp only [sC, bne_iff_ne, beq_iff_eq, ne_eq] at c15
      have hn : ¬ (db = 0 ∨ 24 ≤ f) := by simp at h15; omega
      refine go_skip ?_
      refine go_seq ?_
      refine go_region ⟨_, Tryz.func49⟩ rfl ?_
      refine q0 rfl (o_move ?_)
      refine q0 rfl (o_move ?_)
      refine q0 rfl (o_fa ?_)
      refine q0 rfl (o_ld ?_)
      refine q0 rfl (o_call Tryz.call60 (formLift_spec l a_l f db om_ om_) (fun x23 => ?_))
      refine q0 rfl (o_move ?_)
      refine q0 rfl (o_extract ?_)
      refine q0 rfl (o_extract ?_)
      refine q0 rfl (o_assign ?_)
      refine q0 rfl (o_assign ?_)
      refine rg_nil ?_
      refine go_seq ?_
      refine go_seq ?_
      refine go_region ⟨_, Tryz.func49⟩ rfl ?_
      refine q0 rfl (o_move ?_)
      refine q0 rfl (o_neI ?_)
      refine rg_nil ?_
      refine go_condI (fun h27 => ?_) (fun h27 => ?_)
      · have c27 : (decide (((formLift l f db).1) ≠ 0)) = true := h27
        try simp only [sC, bne_iff_ne, beq_iff_eq, ne_eq] at c27
        have hg : rowLift db l f = .bad (formLift l f db).1 := by rw [rowLift, if_neg hn, if_neg (by simpa using h27)]
        refine go_region ⟨_, Tryz.func49⟩ rfl ?_
        refine q0 rfl (o_move ?_)
        refine q0 rfl (o_makeI ?_)
        refine q0 rfl (o_panic (endsR_bad (hg)))
      · have c27 : (decide (((formLift l f db).1) ≠ 0)) = false := h27
        try simp only [sC, bne_iff_ne, beq_iff_eq, ne_eq] at c27
        have hg : rowLift db l f = .ok (formLift l f db).2 := by rw [rowLift, if_neg hn, if_pos (by simpa using h27)]
        refine go_skip ?_
        refine go_seq ?_
        refine go_region ⟨_, Tryz.func49⟩ rfl ?_
        refine q0 rfl (o_move ?_)
        refine q0 rfl (o_assign ?_)
        refine rg_nil ?_
        refine go_ok (a := (formLift l f db).2) (hg) ?_
        refine ret1 Tryz.func49 Tryz.results49 wn_ x23 rfl (fun w hs => ((hs.less (by simp)).dropR (A := [_])))
abbrev LiftO (vb db : Int) (t : T) : Prop := ∀ (vr vk vs : SH) (v d : Int), (0 ≤ vb ∧ vb ≤ 1000000) → in64 db → (-1000000000000 ≤ v ∧ v + size t ≤ 4000000000000000000) → (0 ≤ d ∧ d + size t ≤ 4000000000000000000) → SpecR Tryz.prog 30 29 #[.agg ([.int .i64 vb, .int .i64 db] : List Value).toArray, .agg (tc t vr vk vs).toArray, .int .i64 v, .int .i64 d] [RT t vr vk vs] (trav (liftTr vb db) t (v, d)) (fun (u : T) => fun x : {h : HT // h.er = u} => .agg (tc u x.1.vr x.1.vk x.1.vs).toArray) (fun _ _ => []) (fun (u : T) => fun x : {h : HT // h.er = u} => [bigR (treeR tys x.1)])
set_option maxHeartbeats 4000000 in
theorem liftT_walk (vb db : Int) (t : T) (vr_t vk_t vs_t : SH) (v : Int) (d : Int) (ihk : ∀ k, k ∈ t.kids → LiftO vb db k) (ihs : ∀ b, b ∈ t.sys → ∀ k, k ∈ b.kids → LiftO vb db k) (hvb : 0 ≤ vb ∧ vb ≤ 1000000) (hdb : in64 db) (hv : -1000000000000 ≤ v ∧ v + size t ≤ 4000000000000000000) (hd : 0 ≤ d ∧ d + size t ≤ 4000000000000000000) : SpecR Tryz.prog 30 29 #[.agg ([.int .i64 (vb), .int .i64 (db)] : List Value).toArray, .agg (tc t vr_t vk_t vs_t).toArray, .int .i64 (v), .int .i64 (d)] [RT t vr_t vk_t vs_t] (trav (liftTr vb db) t (v, d)) (fun (u : T) => fun x : {h : HT // h.er = u} => .agg (tc u x.1.vr x.1.vk x.1.vs).toArray) (fun (u : T) => fun x : {h : HT // h.er = u} => []) (fun (u : T) => fun x : {h : HT // h.er = u} => [bigR (treeR tys x.1)]) := by
  refine specR_go (args := [.agg ([.int .i64 (vb), .int .i64 (db)] : List Value).toArray, .agg (tc t vr_t vk_t vs_t).toArray, .int .i64 (v), .int .i64 (d)]) Tryz.func29 Tryz.ntmps29 rfl (by exact Nat.le_of_ble_eq_true rfl) fun B hB => ?_
  refine go_open (t := t) (vr := vr_t) (vk := vk_t) (vs := vs_t) (fun hk1 hn1 hm1 => ?_)
  refine go_openCL (l := (t).r) (a := vr_t) (fun hl2 hA2 hU2 => ?_)
  refine go_openTL (ts := (t).kids) (a := vk_t) (fun VR3 VK3 VS3 hl3 hA3 => ?_)
  refine go_openBL (bs := (t).sys) (a := vs_t) (fun VF4 VK4 hl4 hA4 => ?_)
  have hpz := size_pos' t
  refine go_seq ?_
  refine go_region ⟨_, Tryz.func29⟩ rfl ?_
  refine q0 rfl (o_box fun b4 => ?_)
  refine q0 rfl (o_box fun b5 => ?_)
  refine q0 rfl (o_new fun b8 => ?_)
  refine rg_nil ?_
  refine go_seq ?_
  refine go_res (rowLift db t.r d) (fun g1_10 hg1_10 => ?_) (fun e1_10 he1_10 => ?_)
  · refine go_draw (pn := 1000000) (tn := false) (A := [0, 1, 0, 4, 0, 16, 0, 0, 128, 0, 960, 2047, 0, 8191]) (l := [0, 1, 2, 3, 4, 5, 6, 7, 8, 9, 10, 11, 12]) (fin := [13]) Tab.mixed ⟨_, Tryz.func29⟩ (by rfl) ?_
    refine n0 rfl (v_fa ?_)
    refine n0 rfl (v_ld ?_)
    refine n0 rfl (v_fa ?_)
    refine n0 rfl (v_ld ?_)
    refine n0 rfl (v_fa ?_)
    refine n0 rfl (v_ld ?_)
    refine n0 rfl (v_lds ?_)
    refine n0 rfl (v_fa ?_)
    refine n0 rfl (v_ld ?_)
    refine n0 rfl (v_move ?_)
    refine n0 rfl (v_call Tryz.call49 ((liftRow_spec vb db ((t).r) vr_t d om_ om_).1 g1_10 hg1_10) (fun x30 => ?_))
    refine n0 rfl (v_build (cs := [.int .i64 ((t).kind), .int .i64 ((t).n), .string ((t).name), sl x30 (g1_10.length), sl (none, 0) (0), sl (none, 0) (0)]) ?_)
    refine n0 rfl (v_new fun b9 => ?_)
    refine NV.done ?_
    refine q0 rfl (o_st ?_)
    refine rg_nil ?_
    refine go_seq ?_
    refine go_seq ?_
    refine go_cutS ([(2, .int .i64 (v)), (3, .int .i64 (d)), (4, .pointer (some ⟨b4, 0, none⟩)), (5, .pointer (some ⟨b5, 0, none⟩)), (8, .pointer (some ⟨b8, 0, none⟩)), (9, .pointer (some ⟨b9, 0, none⟩)), (40, .bool ((decide (((t).kind) = 1)) && (decide (v ≤ ((t).n)))))]) (fun hK => ?_) (fun base => ?_)
    · refine go_region ⟨_, Tryz.func29⟩ rfl ?_
      refine q0 rfl (o_fa ?_)
      refine q0 rfl (o_ld ?_)
      refine q0 rfl (o_eqI ?_)
      refine q0 rfl (o_move ?_)
      refine qI rfl rfl rfl wl_ (fun hg35 => ?_) (fun hg35 => ?_)
      · have g35 : (decide (((t).kind) = 1)) = true := hg35
        try simp only [sC, bne_iff_ne, beq_iff_eq, ne_eq] at g35
        refine o_fa ?_
        refine qT rfl rfl rfl (o_ld ?_)
        refine qT rfl rfl rfl (o_move ?_)
        refine qT rfl rfl rfl (o_geq ?_)
        refine q0 rfl (o_pickT ?_)
        refine rg_nil ?_
        exact hK _ ⟨rfl, rfl, rfl, rfl, rfl, rfl, dn_, trivial⟩
      · have g35 : (decide (((t).kind) = 1)) = false := hg35
        try simp only [sC, bne_iff_ne, beq_iff_eq, ne_eq] at g35
        refine qF rfl rfl rfl ?_
        refine qF rfl rfl rfl ?_
        refine qF rfl rfl rfl ?_
        refine q0 rfl (o_pickF ?_)
        refine rg_nil ?_
        exact hK _ ⟨rfl, rfl, rfl, rfl, rfl, rfl, dn_, trivial⟩
    · refine go_cutR (Ms' := [boxR b9 [.int .i64 ((t).kind), .int .i64 (liftN vb v t.kind t.n), .string ((t).name), sl x30 (g1_10.length), sl (none, 0) (0), sl (none, 0) (0)] 26, rowS 2 55 x30 (g1_10.length) (clFlat g1_10), boxR b8 [.int .i64 (0), .int .i64 (0), .string ((ByteArray.mk #[])), sl (none, 0) (0), sl (none, 0) (0), sl (none, 0) (0)] 26, boxR b5 (tc t vr_t vk_t vs_t) 26, boxR b4 [.int .i64 (vb), .int .i64 (db)] 62]) (¬ (t.kind = 1 ∧ v ≤ t.n ∧ 1000000000 - vb < t.n)) ([(2, .int .i64 (v)), (3, .int .i64 (d)), (4, .pointer (some ⟨b4, 0, none⟩)), (5, .pointer (some ⟨b5, 0, none⟩)), (8, .pointer (some ⟨b8, 0, none⟩)), (9, .pointer (some ⟨b9, 0, none⟩))]) (fun hK => ?_) (fun hfar base => ?_)
      · refine go_condI (fun h40 => ?_) (fun h40 => ?_)
        · have c40 : ((decide (((t).kind) = 1)) && (decide (v ≤ ((t).n)))) = true := h40
          try simp only [sC, bne_iff_ne, beq_iff_eq, ne_eq] at c40
          refine go_seq ?_
          refine go_seq ?_
          refine go_region ⟨_, Tryz.func29⟩ rfl ?_
          refine q0 rfl (o_fa ?_)
          refine q0 rfl (o_ld ?_)
          refine q0 rfl (o_fa ?_)
          refine q0 rfl (o_ld ?_)
          refine q0 rfl (o_sub ?_)
          refine q0 rfl (o_gtr ?_)
          refine rg_nil ?_
          refine go_condI (fun h46 => ?_) (fun h46 => ?_)
          · have c46 : (decide ((1000000000 - vb) < ((t).n))) = true := h46
            try simp only [sC, bne_iff_ne, beq_iff_eq, ne_eq] at c46
            refine go_region ⟨_, Tryz.func29⟩ rfl ?_
            refine q0 rfl (o_makeI ?_)
            refine q0 rfl (o_panic (endsR_bad (trav_own_bad (lift_own_far hg1_10 (by omega)))))
          · have c46 : (decide ((1000000000 - vb) < ((t).n))) = false := h46
            try simp only [sC, bne_iff_ne, beq_iff_eq, ne_eq] at c46
            refine go_skip ?_
            refine go_region ⟨_, Tryz.func29⟩ rfl ?_
            refine q0 rfl (o_fa ?_)
            refine q0 rfl (o_ld ?_)
            refine q0 rfl (o_fa ?_)
            refine q0 rfl (o_ld ?_)
            refine q0 rfl (o_add ?_)
            refine q0 rfl (o_fa ?_)
            refine q0 rfl (o_stc ?_)
            refine rg_nil ?_
            refine go_ms (Ms' := [boxR b9 [.int .i64 ((t).kind), .int .i64 (liftN vb v t.kind t.n), .string ((t).name), sl x30 (g1_10.length), sl (none, 0) (0), sl (none, 0) (0)] 26, rowS 2 55 x30 (g1_10.length) (clFlat g1_10), boxR b8 [.int .i64 (0), .int .i64 (0), .string ((ByteArray.mk #[])), sl (none, 0) (0), sl (none, 0) (0), sl (none, 0) (0)] 26, boxR b5 (tc t vr_t vk_t vs_t) 26, boxR b4 [.int .i64 (vb), .int .i64 (db)] 62]) (by rw [show liftN vb v t.kind t.n = t.n + vb from if_pos (by omega)]; rfl) ?_
            refine go_state (fun w hs => (((((hs.perm perm4).perm perm4).perm perm4).perm perm4).perm perm4)) ?_
            exact hK (by omega) _ ⟨rfl, rfl, rfl, rfl, rfl, rfl, trivial⟩
        · have c40 : ((decide (((t).kind) = 1)) && (decide (v ≤ ((t).n)))) = false := h40
          try simp only [sC, bne_iff_ne, beq_iff_eq, ne_eq] at c40
          refine go_skip ?_
          refine go_ms (Ms' := [boxR b9 [.int .i64 ((t).kind), .int .i64 (liftN vb v t.kind t.n), .string ((t).name), sl x30 (g1_10.length), sl (none, 0) (0), sl (none, 0) (0)] 26, rowS 2 55 x30 (g1_10.length) (clFlat g1_10), boxR b8 [.int .i64 (0), .int .i64 (0), .string ((ByteArray.mk #[])), sl (none, 0) (0), sl (none, 0) (0), sl (none, 0) (0)] 26, boxR b5 (tc t vr_t vk_t vs_t) 26, boxR b4 [.int .i64 (vb), .int .i64 (db)] 62]) (by rw [show liftN vb v t.kind t.n = t.n from if_neg (by omega)]; rfl) ?_
          refine go_state (fun w hs => (((((hs.perm perm4).perm perm4).perm perm4).perm perm4).perm perm4)) ?_
          exact hK (by omega) _ ⟨rfl, rfl, rfl, rfl, rfl, rfl, trivial⟩
      · have hown := lift_own (vb := vb) (v := v) hg1_10 hfar
        refine go_seq ?_
        refine go_seq ?_
        refine go_region ⟨_, Tryz.func29⟩ rfl ?_
        refine q0 rfl (o_fa ?_)
        refine q0 rfl (o_ld ?_)
        refine q0 rfl (o_len ?_)
        refine q0 rfl (o_move ?_)
        refine rg_nil ?_
        refine go_block ?_
        refine go_loopE (X := Nat × SH × List HT) (fun s_ => s_.1 ≤ t.kids.length ∧ travL (liftTr vb db) t.kind 0 (t.kids.take s_.1) (v, d) = .ok (s_.2.2.map HT.er)) (fun s_ => [(2, .int .i64 (v)), (3, .int .i64 (d)), (4, .pointer (some ⟨b4, 0, none⟩)), (5, .pointer (some ⟨b5, 0, none⟩)), (8, .pointer (some ⟨b8, 0, none⟩)), (9, .pointer (some ⟨b9, 0, none⟩)), (55, sl vk_t ((t).kids.length)), (56, .int .i64 (((t).kids.length : Int))), (57, .int .i64 ((s_.1 : Int)))]) (fun s_ G_ => G_) (fun s_ => [bigR (kidsR tys s_.2.2), rowS 6 26 s_.2.1 (s_.1) (tpFlat (s_.2.2.map HT.tp)), boxR b9 [.int .i64 (t.kind), .int .i64 ((liftN vb v t.kind t.n)), .string (t.name), sl x30 (g1_10.length), sl s_.2.1 (s_.1), sl (none, 0) (0)] 26, rowS 2 55 x30 (g1_10.length) (clFlat g1_10), boxR b8 [.int .i64 (0), .int .i64 (0), .string ((ByteArray.mk #[])), sl (none, 0) (0), sl (none, 0) (0), sl (none, 0) (0)] 26, boxR b5 (tc t vr_t vk_t vs_t) 26, boxR b4 [.int .i64 (vb), .int .i64 (db)] 62]) (fun s_ => t.kids.length - s_.1) (0, (none, 0), []) (⟨by omega, by rw [List.take_zero, travL_nil]; rfl⟩) (by exact ⟨rfl, rfl, rfl, rfl, rfl, rfl, rfl, rfl, rfl, trivial⟩) ?_ ?_
        · exact fun w hs => ((hs.rowS0 6 26).bigNil)
        · intro ⟨i, a, ks⟩ base0 ⟨hi, hks⟩ next0
          dsimp only at  hi  hks  next0 ⊢
          refine go_seq ?_
          refine go_region ⟨_, Tryz.func29⟩ rfl ?_
          refine q0 rfl (o_lss ?_)
          refine rg_nil ?_
          refine go_seq ?_
          refine go_condI (fun h58 => ?_) (fun h58 => ?_)
          · have c58 : (decide ((i : Int) < ((t).kids.length : Int))) = true := h58
            try simp only [sC, bne_iff_ne, beq_iff_eq, ne_eq] at c58
            have hbi := binds_01 t.kind i
            have hsk := size_kid_lt (t := t) (i := i) (by omega)
            refine go_skip ?_
            refine go_seq ?_
            refine go_block ?_
            refine go_seq ?_
            refine go_kid (ts := (t).kids) (a := vk_t) (VR := VR3) (VK := VK3) (VS := VS3) i (by omega) ?_
            refine go_region ⟨_, Tryz.func29⟩ rfl ?_
            refine q0 rfl (o_move ?_)
            obtain ⟨bk5, o5, hav5⟩ := hA3 (by omega)
            refine q0 rfl (o_ixN ?_ (j := i))
            refine q0 rfl (o_ldT ?_)
            refine q0 rfl (o_new fun b11 => ?_)
            refine q0 rfl (o_assign ?_)
            refine q0 rfl (o_st ?_)
            refine rg_nil ?_
            refine go_seq ?_
            refine go_region ⟨_, Tryz.func29⟩ rfl ?_
            refine q0 rfl (o_fa ?_)
            refine q0 rfl (o_ld ?_)
            refine q0 rfl (o_move ?_)
            refine q0 rfl (o_call Tryz.call50 (binds_spec ((t).kind) (i : Int) ) (fun x66 => ?_))
            refine q0 rfl (o_move ?_)
            refine q0 rfl (o_extract ?_)
            refine q0 rfl (o_extract ?_)
            refine q0 rfl (o_assign ?_)
            refine q0 rfl (o_assign ?_)
            refine rg_nil ?_
            refine go_res (trav (liftTr vb db) (t.kids.getD i t0) ((v + (binds t.kind i).1), (d + (binds t.kind i).2))) (fun g10_10 hg10_10 => ?_) (fun e10_10 he10_10 => ?_)
            · refine go_draw (pn := 1000000) (tn := false) (A := [0, 1, 0, 0, 0, 0, 48, 0, 0, 384, 1020, 2044, 4095, 8191, 16383]) (l := [0, 1, 2, 3, 4, 5, 6, 7, 8, 9, 10, 11]) (fin := [12, 13, 14]) Tab.mixed ⟨_, Tryz.func29⟩ (by rfl) ?_
              refine n0 rfl (v_fa ?_)
              refine n0 rfl (v_ld ?_)
              refine n0 rfl (v_lds ?_)
              refine n0 rfl (v_lds ?_)
              refine n0 rfl (v_move ?_)
              refine n0 rfl (v_move ?_)
              refine n0 rfl (v_add ?_)
              refine n0 rfl (v_move ?_)
              refine n0 rfl (v_move ?_)
              refine n0 rfl (v_add ?_)
              refine n0 rfl (v_call Tryz.call29 (((ihk _ (getD_mem (show i < t.kids.length by omega))) (VR3 i) (VK3 i) (VS3 i) (v + ((binds ((t).kind) (i : Int)).1)) (d + ((binds ((t).kind) (i : Int)).2)) hvb hdb (by omega) (by omega)).1 g10_10 hg10_10) (fun x79 => ?_))
              refine n0 rfl (v_lit1 fun b80 => ?_)
              refine NV.done ?_
              refine q0 rfl (o_appS (fun a81 => ?_) (a := a) (n' := i))
              refine rg_state (fun w hs => ((hs.perm perm1).drop).snocT) ?_
              refine q0 rfl (o_fa ?_)
              refine q0 rfl (o_stc ?_)
              refine rg_nil ?_
              refine go_inBlock ?_
              refine go_region ⟨_, Tryz.func29⟩ rfl ?_
              refine q0 rfl (o_add ?_)
              refine q0 rfl (o_move ?_)
              refine rg_nil ?_
              refine go_state (fun w hs => ?_) (next0 (i + 1, a81, ks ++ [x79.1]) _ (⟨by omega, by rw [List.map_append, List.map_cons, List.map_nil, x79.2]; exact trav_kid_ok (by omega) hks rfl hg10_10⟩) (by (try simp only); omega) ⟨rfl, rfl, rfl, rfl, rfl, rfl, rfl, rfl, rfl, trivial⟩)
              have e1 : (ks ++ [x79.1]).map HT.tp = ks.map HT.tp ++ [(g10_10, x79.1.vr, x79.1.vk, x79.1.vs)] := by simp only [List.map_append, List.map_cons, List.map_nil, HT.tp, x79.2]
              rw [e1]; exact (((((((((((((((((((hs.less (by simp +contextual)).perm perm8).perm perm8).perm perm8).perm perm8).perm perm7).perm perm6).perm perm6).perm perm8).perm perm8).joinK).perm perm7).perm perm7).perm perm7).perm perm7).perm perm5).perm perm6).perm perm6).dropR (A := [_, _, _, _, _, _, _]))
            · refine go_draw (pn := 10) (tn := false) (A := [0, 1, 0, 0, 0, 0, 48, 0, 0, 384, 1020, 2044, 4095, 8191, 16383]) (l := [0, 1, 2, 3, 4, 5, 6, 7, 8, 9, 10, 11]) (fin := [12, 13, 14]) Tab.mixed ⟨_, Tryz.func29⟩ (by rfl) ?_
              refine n0 rfl (v_fa ?_)
              refine n0 rfl (v_ld ?_)
              refine n0 rfl (v_lds ?_)
              refine n0 rfl (v_lds ?_)
              refine n0 rfl (v_move ?_)
              refine n0 rfl (v_move ?_)
              refine n0 rfl (v_add ?_)
              refine n0 rfl (v_move ?_)
              refine n0 rfl (v_move ?_)
              refine n0 rfl (v_add ?_)
              refine n_pan rfl Tryz.call29 (((ihk _ (getD_mem (show i < t.kids.length by omega))) (VR3 i) (VK3 i) (VS3 i) (v + ((binds ((t).kind) (i : Int)).1)) (d + ((binds ((t).kind) (i : Int)).2)) hvb hdb (by omega) (by omega)).2 e10_10 he10_10) (endsR_bad (trav_kid_bad hown (by omega) hks rfl he10_10))
          · have c58 : (decide ((i : Int) < ((t).kids.length : Int))) = false := h58
            try simp only [sC, bne_iff_ne, beq_iff_eq, ne_eq] at c58
            have hei : i = t.kids.length := by omega
            rw [hei, List.take_length] at hks
            have hkl : i = ks.length := by have h9 := travL_len hks; rw [List.length_map] at h9; omega
            have hmo := more_01 t.kind
            refine go_exit rfl ?_
            refine go_seq ?_
            refine go_region ⟨_, Tryz.func29⟩ rfl ?_
            refine q0 rfl (o_assign ?_)
            refine rg_nil ?_
            refine go_seq ?_
            refine go_seq ?_
            refine go_region ⟨_, Tryz.func29⟩ rfl ?_
            refine q0 rfl (o_fa ?_)
            refine q0 rfl (o_ld ?_)
            refine q0 rfl (o_eqI ?_)
            refine rg_nil ?_
            refine go_cutS ([(2, .int .i64 (v)), (3, .int .i64 (d)), (4, .pointer (some ⟨b4, 0, none⟩)), (5, .pointer (some ⟨b5, 0, none⟩)), (8, .pointer (some ⟨b8, 0, none⟩)), (9, .pointer (some ⟨b9, 0, none⟩)), (14, .int .i64 ((more t.kind)))]) (fun hK => ?_) (fun base => ?_)
            · refine go_condI (fun h86 => ?_) (fun h86 => ?_)
              · have c86 : (decide (((t).kind) = 15)) = true := h86
                try simp only [sC, bne_iff_ne, beq_iff_eq, ne_eq] at c86
                refine go_region ⟨_, Tryz.func29⟩ rfl ?_
                refine q0 rfl (o_assign ?_)
                refine rg_nil ?_
                exact hK _ ⟨rfl, rfl, rfl, rfl, rfl, rfl, (by (conv => lhs; whnf); first | (rw [show more t.kind = 1 from if_pos (by simpa using h86)]; done) | (rw [show more t.kind = 0 from if_neg (by simpa using h86)]; done)), trivial⟩
              · have c86 : (decide (((t).kind) = 15)) = false := h86
                try simp only [sC, bne_iff_ne, beq_iff_eq, ne_eq] at c86
                refine go_skip ?_
                exact hK _ ⟨rfl, rfl, rfl, rfl, rfl, rfl, (by (conv => lhs; whnf); first | (rw [show more t.kind = 1 from if_pos (by simpa using h86)]; done) | (rw [show more t.kind = 0 from if_neg (by simpa using h86)]; done)), trivial⟩
            · refine go_seq ?_
              refine go_seq ?_
              refine go_region ⟨_, Tryz.func29⟩ rfl ?_
              refine q0 rfl (o_fa ?_)
              refine q0 rfl (o_ld ?_)
              refine q0 rfl (o_len ?_)
              refine q0 rfl (o_move ?_)
              refine rg_nil ?_
              refine go_block ?_
              refine go_loopE (X := Nat × SH × List HB) (fun s_ => s_.1 ≤ t.sys.length ∧ travB (liftTr vb db) t.kind (t.sys.take s_.1) (v, d) = .ok (s_.2.2.map HB.er)) (fun s_ => [(2, .int .i64 (v)), (3, .int .i64 (d)), (4, .pointer (some ⟨b4, 0, none⟩)), (8, .pointer (some ⟨b8, 0, none⟩)), (9, .pointer (some ⟨b9, 0, none⟩)), (14, .int .i64 ((more t.kind))), (88, sl vs_t ((t).sys.length)), (89, .int .i64 (((t).sys.length : Int))), (90, .int .i64 ((s_.1 : Int)))]) (fun s_ G_ => G_) (fun s_ => [bigR (brsR tys s_.2.2), rowS 2 58 s_.2.1 (s_.1) (bpFlat (s_.2.2.map HB.bp)), bigR (kidsR tys ks), rowS 6 26 a (i) (tpFlat (ks.map HT.tp)), boxR b9 [.int .i64 (t.kind), .int .i64 ((liftN vb v t.kind t.n)), .string (t.name), sl x30 (g1_10.length), sl a (i), sl s_.2.1 (s_.1)] 26, rowS 2 55 x30 (g1_10.length) (clFlat g1_10), boxR b8 [.int .i64 (0), .int .i64 (0), .string ((ByteArray.mk #[])), sl (none, 0) (0), sl (none, 0) (0), sl (none, 0) (0)] 26, boxR b5 (tc t vr_t vk_t vs_t) 26, boxR b4 [.int .i64 (vb), .int .i64 (db)] 62]) (fun s_ => t.sys.length - s_.1) (0, (none, 0), []) (⟨by omega, by rw [List.take_zero, travB_nil]; rfl⟩) (by exact ⟨rfl, rfl, rfl, rfl, rfl, rfl, rfl, rfl, rfl, trivial⟩) ?_ ?_
              · exact fun w hs => ((hs.rowS0 2 58).bigNil)
              · intro ⟨s, a2, bs⟩ base1 ⟨hs1, hbs⟩ next1
                dsimp only at  hs1  hbs  next1 ⊢
                refine go_seq ?_
                refine go_region ⟨_, Tryz.func29⟩ rfl ?_
                refine q0 rfl (o_lss ?_)
                refine rg_nil ?_
                refine go_seq ?_
                refine go_condI (fun h91 => ?_) (fun h91 => ?_)
                · have c91 : (decide ((s : Int) < ((t).sys.length : Int))) = true := h91
                  try simp only [sC, bne_iff_ne, beq_iff_eq, ne_eq] at c91
                  have hslt : s < t.sys.length := by omega
                  refine go_skip ?_
                  refine go_seq ?_
                  refine go_block ?_
                  refine go_seq ?_
                  refine go_branch (bs := (t).sys) (a := vs_t) (VF := VF4) (VK := VK4) s (by omega) ?_
                  refine go_openCL (l := (((t).sys).getD s br0).face) (a := VF4 s) (fun hl6 hA6 hU6 => ?_)
                  refine go_openTL (ts := (((t).sys).getD s br0).kids) (a := VK4 s) (fun VR7 VK7 VS7 hl7 hA7 => ?_)
                  refine go_region ⟨_, Tryz.func29⟩ rfl ?_
                  obtain ⟨bk8, o8, hav8⟩ := hA4 (by omega)
                  refine q0 rfl (o_ixN ?_ (j := s))
                  refine q0 rfl (o_ldB ?_)
                  refine q0 rfl (o_new fun b16 => ?_)
                  refine q0 rfl (o_st ?_)
                  refine rg_nil ?_
                  refine go_seq ?_
                  refine go_res (rowLift db (t.sys.getD s br0).face d) (fun g18_4 hg18_4 => ?_) (fun e18_4 he18_4 => ?_)
                  · refine go_region ⟨_, Tryz.func29⟩ rfl ?_
                    refine q0 rfl (o_lds ?_)
                    refine q0 rfl (o_fa ?_)
                    refine q0 rfl (o_ld ?_)
                    refine q0 rfl (o_move ?_)
                    refine q0 rfl (o_call Tryz.call49 ((liftRow_spec vb db ((((t).sys).getD s br0).face) (VF4 s) d om_ om_).1 g18_4 hg18_4) (fun x98 => ?_))
                    refine q0 rfl (o_build (cs := [sl x98 (g18_4.length), sl (none, 0) (0)]) ?_)
                    refine q0 rfl (o_new fun b17 => ?_)
                    refine q0 rfl (o_st ?_)
                    refine rg_nil ?_
                    refine go_seq ?_
                    refine go_seq ?_
                    refine go_region ⟨_, Tryz.func29⟩ rfl ?_
                    refine q0 rfl (o_fa ?_)
                    refine q0 rfl (o_ld ?_)
                    refine q0 rfl (o_len ?_)
                    refine q0 rfl (o_move ?_)
                    refine rg_nil ?_
                    refine go_block ?_
                    refine go_loopE (X := Nat × SH × List HT) (fun s_ => s_.1 ≤ (t.sys.getD s br0).kids.length ∧ travS (liftTr vb db) t.kind ((t.sys.getD s br0).kids.take s_.1) (v, d) = .ok (s_.2.2.map HT.er)) (fun s_ => [(2, .int .i64 (v)), (3, .int .i64 (d)), (4, .pointer (some ⟨b4, 0, none⟩)), (8, .pointer (some ⟨b8, 0, none⟩)), (9, .pointer (some ⟨b9, 0, none⟩)), (14, .int .i64 ((more t.kind))), (17, .pointer (some ⟨b17, 0, none⟩)), (88, sl vs_t ((t).sys.length)), (89, .int .i64 (((t).sys.length : Int))), (90, .int .i64 ((s : Int))), (101, sl (VK4 s) ((((t).sys).getD s br0).kids.length)), (102, .int .i64 (((((t).sys).getD s br0).kids.length : Int))), (103, .int .i64 ((s_.1 : Int)))]) (fun s_ G_ => G_) (fun s_ => [bigR (kidsR tys s_.2.2), rowS 6 26 s_.2.1 (s_.1) (tpFlat (s_.2.2.map HT.tp)), boxR b17 [sl x98 (g18_4.length), sl s_.2.1 (s_.1)] 58, rowS 2 55 x98 (g18_4.length) (clFlat g18_4), boxR b16 (bc (((t).sys).getD s br0) (VF4 s) (VK4 s)) 58, bigR (brsR tys bs), rowS 2 58 a2 (s) (bpFlat (bs.map HB.bp)), bigR (kidsR tys ks), rowS 6 26 a (i) (tpFlat (ks.map HT.tp)), boxR b9 [.int .i64 (t.kind), .int .i64 ((liftN vb v t.kind t.n)), .string (t.name), sl x30 (g1_10.length), sl a (i), sl a2 (s)] 26, rowS 2 55 x30 (g1_10.length) (clFlat g1_10), boxR b8 [.int .i64 (0), .int .i64 (0), .string ((ByteArray.mk #[])), sl (none, 0) (0), sl (none, 0) (0), sl (none, 0) (0)] 26, boxR b5 (tc t vr_t vk_t vs_t) 26, boxR b4 [.int .i64 (vb), .int .i64 (db)] 62]) (fun s_ => (t.sys.getD s br0).kids.length - s_.1) (0, (none, 0), []) (⟨by omega, by rw [List.take_zero, travS_nil]; rfl⟩) (by exact ⟨rfl, rfl, rfl, rfl, rfl, rfl, rfl, rfl, rfl, rfl, rfl, rfl, rfl, trivial⟩) ?_ ?_
                    · exact fun w hs => ((hs.rowS0 6 26).bigNil)
                    · intro ⟨k, a3, cs⟩ base2 ⟨hk1, hcs⟩ next2
                      dsimp only at  hk1  hcs  next2 ⊢
                      refine go_seq ?_
                      refine go_region ⟨_, Tryz.func29⟩ rfl ?_
                      refine q0 rfl (o_lss ?_)
                      refine rg_nil ?_
                      refine go_seq ?_
                      refine go_condI (fun h104 => ?_) (fun h104 => ?_)
                      · have c104 : (decide ((k : Int) < ((((t).sys).getD s br0).kids.length : Int))) = true := h104
                        try simp only [sC, bne_iff_ne, beq_iff_eq, ne_eq] at c104
                        have hsk := size_sys_lt (t := t) hslt (k := k) (by omega)
                        refine go_skip ?_
                        refine go_seq ?_
                        refine go_block ?_
                        refine go_seq ?_
                        refine go_kid (ts := (((t).sys).getD s br0).kids) (a := VK4 s) (VR := VR7) (VK := VK7) (VS := VS7) k (by omega) ?_
                        refine go_region ⟨_, Tryz.func29⟩ rfl ?_
                        obtain ⟨bk9, o9, hav9⟩ := hA7 (by omega)
                        refine q0 rfl (o_ixN ?_ (j := k))
                        refine q0 rfl (o_ldT ?_)
                        refine q0 rfl (o_new fun b19 => ?_)
                        refine q0 rfl (o_st ?_)
                        refine rg_nil ?_
                        refine go_res (trav (liftTr vb db) ((t.sys.getD s br0).kids.getD k t0) (v, (d + more t.kind))) (fun g22_8 hg22_8 => ?_) (fun e22_8 he22_8 => ?_)
                        · refine go_draw (pn := 1000000) (tn := false) (A := [0, 1, 0, 0, 0, 0, 0, 96, 252, 508, 1023, 2047, 4095]) (l := [0, 1, 2, 3, 4, 5, 6, 7, 8, 9]) (fin := [10, 11, 12]) Tab.mixed ⟨_, Tryz.func29⟩ (by rfl) ?_
                          refine n0 rfl (v_fa ?_)
                          refine n0 rfl (v_ld ?_)
                          refine n0 rfl (v_lds ?_)
                          refine n0 rfl (v_lds ?_)
                          refine n0 rfl (v_move ?_)
                          refine n0 rfl (v_move ?_)
                          refine n0 rfl (v_move ?_)
                          refine n0 rfl (v_add ?_)
                          refine n0 rfl (v_call Tryz.call29 (((ihs _ (getD_mem hslt) _ (getD_mem (show k < (t.sys.getD s br0).kids.length by omega))) (VR7 k) (VK7 k) (VS7 k) v (d + (more t.kind)) hvb hdb (by omega) (by omega)).1 g22_8 hg22_8) (fun x115 => ?_))
                          refine n0 rfl (v_lit1 fun b116 => ?_)
                          refine NV.done ?_
                          refine q0 rfl (o_appS (fun a117 => ?_) (a := a3) (n' := k))
                          refine rg_state (fun w hs => ((hs.perm perm1).drop).snocT) ?_
                          refine q0 rfl (o_fa ?_)
                          refine q0 rfl (o_stc ?_)
                          refine rg_nil ?_
                          refine go_inBlock ?_
                          refine go_region ⟨_, Tryz.func29⟩ rfl ?_
                          refine q0 rfl (o_add ?_)
                          refine q0 rfl (o_move ?_)
                          refine rg_nil ?_
                          refine go_state (fun w hs => ?_) (next2 (k + 1, a117, cs ++ [x115.1]) _ (⟨by omega, by rw [List.map_append, List.map_cons, List.map_nil, x115.2]; exact travS_at_ok (by omega) hcs rfl (by rw [Int.add_zero]; exact hg22_8)⟩) (by (try simp only); omega) ⟨rfl, rfl, rfl, rfl, rfl, rfl, rfl, rfl, rfl, rfl, rfl, rfl, rfl, trivial⟩)
                          have e1 : (cs ++ [x115.1]).map HT.tp = cs.map HT.tp ++ [(g22_8, x115.1.vr, x115.1.vk, x115.1.vs)] := by simp only [List.map_append, List.map_cons, List.map_nil, HT.tp, x115.2]
                          rw [e1]; exact (((((((((((((((((((((((((((((((((hs.less (by simp +contextual)).perm perm15).perm perm15).perm perm15).perm perm15).perm perm15).perm perm15).perm perm15).perm perm15).perm perm15).perm perm15).perm perm15).perm perm14).perm perm13).perm perm13).perm perm15).perm perm15).joinK).perm perm14).perm perm14).perm perm14).perm perm14).perm perm14).perm perm14).perm perm14).perm perm14).perm perm14).perm perm14).perm perm14).perm perm12).perm perm13).perm perm13).dropR (A := [_, _, _, _, _, _, _, _, _, _, _, _, _, _]))
                        · refine go_draw (pn := 8) (tn := false) (A := [0, 1, 0, 0, 0, 0, 0, 96, 252, 508, 1023, 2047, 4095]) (l := [0, 1, 2, 3, 4, 5, 6, 7, 8, 9]) (fin := [10, 11, 12]) Tab.mixed ⟨_, Tryz.func29⟩ (by rfl) ?_
                          refine n0 rfl (v_fa ?_)
                          refine n0 rfl (v_ld ?_)
                          refine n0 rfl (v_lds ?_)
                          refine n0 rfl (v_lds ?_)
                          refine n0 rfl (v_move ?_)
                          refine n0 rfl (v_move ?_)
                          refine n0 rfl (v_move ?_)
                          refine n0 rfl (v_add ?_)
                          refine n_pan rfl Tryz.call29 (((ihs _ (getD_mem hslt) _ (getD_mem (show k < (t.sys.getD s br0).kids.length by omega))) (VR7 k) (VK7 k) (VS7 k) v (d + (more t.kind)) hvb hdb (by omega) (by omega)).2 e22_8 he22_8) (endsR_bad (trav_sys_bad hown hks hslt hbs (.inr ⟨_, lift_face_ok hg18_4, travS_at_bad (by omega) hcs rfl (by rw [Int.add_zero]; exact he22_8)⟩)))
                      · have c104 : (decide ((k : Int) < ((((t).sys).getD s br0).kids.length : Int))) = false := h104
                        try simp only [sC, bne_iff_ne, beq_iff_eq, ne_eq] at c104
                        have hek9 : k = (t.sys.getD s br0).kids.length := by omega
                        have hcs2 := hcs
                        rw [hek9, List.take_length] at hcs2
                        have hek : k = (cs.map HT.er).length := by rw [travS_len hcs2]; exact hek9
                        refine go_ms (Ms' := [bigR (kidsR tys cs), rowS 6 26 a3 ((cs.map HT.er).length) (tpFlat (cs.map HT.tp)), boxR b17 [sl x98 (g18_4.length), sl a3 ((cs.map HT.er).length)] 58, rowS 2 55 x98 (g18_4.length) (clFlat g18_4), boxR b16 (bc (((t).sys).getD s br0) (VF4 s) (VK4 s)) 58, bigR (brsR tys bs), rowS 2 58 a2 (s) (bpFlat (bs.map HB.bp)), bigR (kidsR tys ks), rowS 6 26 a (i) (tpFlat (ks.map HT.tp)), boxR b9 [.int .i64 (t.kind), .int .i64 ((liftN vb v t.kind t.n)), .string (t.name), sl x30 (g1_10.length), sl a (i), sl a2 (s)] 26, rowS 2 55 x30 (g1_10.length) (clFlat g1_10), boxR b8 [.int .i64 (0), .int .i64 (0), .string ((ByteArray.mk #[])), sl (none, 0) (0), sl (none, 0) (0), sl (none, 0) (0)] 26, boxR b5 (tc t vr_t vk_t vs_t) 26, boxR b4 [.int .i64 (vb), .int .i64 (db)] 62]) (by rw [hek]) ?_
                        refine go_exit rfl ?_
                        refine go_region ⟨_, Tryz.func29⟩ rfl ?_
                        refine q0 rfl (o_fa ?_)
                        refine q0 rfl (o_ld ?_)
                        refine q0 rfl (o_lds ?_)
                        refine q0 rfl (o_lit1 fun b123 => ?_)
                        refine rg_state (fun w hs => hs.perm perm7) ?_
                        refine q0 rfl (o_appS (fun a124 => ?_) (a := a2) (n' := s))
                        refine rg_state (fun w hs => ((hs.perm perm1).drop).snocB (b := (Br.mk g18_4 (cs.map HT.er))) (vf := x98) (vk := a3)) ?_
                        refine q0 rfl (o_fa ?_)
                        refine rg_state (fun w hs => hs.perm perm9) ?_
                        refine q0 rfl (o_stc ?_)
                        refine rg_nil ?_
                        refine go_inBlock ?_
                        refine go_region ⟨_, Tryz.func29⟩ rfl ?_
                        refine q0 rfl (o_add ?_)
                        refine q0 rfl (o_move ?_)
                        refine rg_nil ?_
                        refine go_state (fun w hs => ?_) (next1 (s + 1, a124, bs ++ [HB.mk g18_4 x98 cs a3]) _ (⟨by omega, by rw [List.map_append, List.map_cons, List.map_nil]; simp only [HB.er, HT.erL_eq]; exact travB_at_ok hslt hbs (lift_face_ok hg18_4) hcs2⟩) (by (try simp only); omega) ⟨rfl, rfl, rfl, rfl, rfl, rfl, rfl, rfl, rfl, trivial⟩)
                        have e1 : (bs ++ [HB.mk g18_4 x98 cs a3]).map HB.bp = bs.map HB.bp ++ [(Br.mk g18_4 (cs.map HT.er), x98, a3)] := by simp only [List.map_append, List.map_cons, List.map_nil, HB.bp, HB.er, HB.vf, HB.vk, HT.erL_eq]
                        rw [e1]; exact ((((((((((((((((((((((((((hs.less (by simp +contextual)).perm perm13).perm perm13).perm perm13).perm perm13).perm perm13).perm perm13).perm perm12).perm perm11).perm perm9).perm perm9).perm perm13).perm perm11).perm perm12).perm perm13).joinB (ks := cs) rfl (by simp) rfl rfl).perm perm10).perm perm10).perm perm10).perm perm10).perm perm5).perm perm10).perm perm10).perm perm8).perm perm8).dropR (A := [_, _, _, _, _, _, _, _, _]))
                  · refine go_region ⟨_, Tryz.func29⟩ rfl ?_
                    refine q0 rfl (o_lds ?_)
                    refine q0 rfl (o_fa ?_)
                    refine q0 rfl (o_ld ?_)
                    refine q0 rfl (o_move ?_)
                    refine q0 rfl (o_pan Tryz.call49 ((liftRow_spec vb db ((((t).sys).getD s br0).face) (VF4 s) d om_ om_).2 e18_4 he18_4) (endsR_bad (trav_sys_bad hown hks hslt hbs (.inl (lift_face_bad he18_4)))))
                · have c91 : (decide ((s : Int) < ((t).sys.length : Int))) = false := h91
                  try simp only [sC, bne_iff_ne, beq_iff_eq, ne_eq] at c91
                  have hes : s = t.sys.length := by omega
                  rw [hes, List.take_length] at hbs
                  have hbl : s = bs.length := by have h9 := travB_all hbs; rw [List.length_map] at h9; omega
                  refine go_exit rfl ?_
                  refine go_seq ?_
                  refine go_region ⟨_, Tryz.func29⟩ rfl ?_
                  refine q0 rfl (o_lds ?_)
                  refine q0 rfl (o_st ?_)
                  refine rg_nil ?_
                  refine go_ok (a := (T.mk t.kind (liftN vb v t.kind t.n) t.name g1_10 (ks.map HT.er) (bs.map HB.er))) (trav_ok_of hown hks hbs) ?_
                  refine retC Tryz.func29 Tryz.results29 ⟨(HT.mk t.kind (liftN vb v t.kind t.n) t.name g1_10 x30 ks a bs a2), by simp only [HT.er, HT.erL_eq, HT.erB_eq]⟩ rfl mm_ rfl rfl rfl (by simp only [tc, HT.vr, HT.vk, HT.vs, T.kind, T.n, T.name, T.r, T.kids, T.sys, List.length_map, hkl, hbl]; rfl) (fun w hs => ?_)
                  exact ((((((((((((hs.less (by simp)).perm perm8).perm perm8).perm perm7).perm perm3).perm perm4).perm perm6).perm perm6).perm perm7).perm perm8).joinT (y := tys) (k := t.kind) (n := liftN vb v t.kind t.n) (nm := t.name) rfl hkl hbl rfl rfl rfl).dropR (A := [_]))
  · refine go_draw (pn := 10) (tn := false) (A := [0, 1, 0, 4, 0, 16, 0, 0, 128, 0, 960, 2047, 0, 8191]) (l := [0, 1, 2, 3, 4, 5, 6, 7, 8, 9, 12, 10, 11]) (fin := [13]) Tab.mixed ⟨_, Tryz.func29⟩ (by rfl) ?_
    refine n0 rfl (v_fa ?_)
    refine n0 rfl (v_ld ?_)
    refine n0 rfl (v_fa ?_)
    refine n0 rfl (v_ld ?_)
    refine n0 rfl (v_fa ?_)
    refine n0 rfl (v_ld ?_)
    refine n0 rfl (v_lds ?_)
    refine n0 rfl (v_fa ?_)
    refine n0 rfl (v_ld ?_)
    refine n0 rfl (v_move ?_)
    refine n0 rfl (v_new fun b9 => ?_)
    refine n_pan rfl Tryz.call49 ((liftRow_spec vb db ((t).r) vr_t d om_ om_).2 e1_10 he1_10) (endsR_bad (trav_own_bad (lift_own_row he1_10)))
theorem liftO {vb db : Int} : ∀ t : T, LiftO vb db t := T.ind' fun t ihk ihs vr vk vs v d h1 h2 h3 h4 => liftT_walk vb db t vr vk vs v d ihk ihs h1 h2 h3 h4
theorem guardN  (b6 b7 : Nat) : SpecD Tryz.prog 48 #[.pointer (some ⟨b6, 0, none⟩), .pointer (some ⟨b7, 0, none⟩)] [] [] .returning .returning [] [] := by
  refine specD_goN (args := [.pointer (some ⟨b6, 0, none⟩), .pointer (some ⟨b7, 0, none⟩)]) Tryz.func48 rfl Tryz.ntmps48 (by exact Nat.le_of_ble_eq_true rfl) (fun _ _ => rfl) rfl rfl (fun _ => rfl) rfl rfl rfl rfl fun B hB => ?_
  refine go_seq ?_
  refine go_region ⟨_, Tryz.func48⟩ rfl ?_
  refine q0 rfl (o_move ?_)
  refine q0 rfl (o_neNil ?_)
  refine rg_nil ?_
  refine go_condF ?_
  refine go_skip ?_
  refine end0 Tryz.func48 Tryz.results48 () rfl (fun w hs => hs.less (by simp))
theorem guardP  (b6 b7 : Nat) (e : Int) (older : List PanicEntry) : SpecD Tryz.prog 48 #[.pointer (some ⟨b6, 0, none⟩), .pointer (some ⟨b7, 0, none⟩)] [] [boxR b6 [.int .i64 (0), .int .i64 (0), .string ((ByteArray.mk #[])), sl (none, 0) (0), sl (none, 0) (0), sl (none, 0) (0)] 26, boxR b7 [.int .i64 (0)] 30] (.panicking ({ v := .iface 30 (.int .i64 (e)), recovered := false } :: older)) (.panicking ({ v := .iface 30 (.int .i64 (e)), recovered := true } :: older)) [] [boxR b6 [.int .i64 (0), .int .i64 (0), .string ((ByteArray.mk #[])), sl (none, 0) (0), sl (none, 0) (0), sl (none, 0) (0)] 26, boxR b7 [.int .i64 e] 30] := by
  refine specD_go (args := [.pointer (some ⟨b6, 0, none⟩), .pointer (some ⟨b7, 0, none⟩)]) Tryz.func48 rfl Tryz.ntmps48 (by exact Nat.le_of_ble_eq_true rfl) (fun _ _ => rfl) rfl rfl (fun _ => rfl) rfl rfl rfl rfl fun B hB => ?_
  refine go_seq ?_
  refine go_region ⟨_, Tryz.func48⟩ rfl ?_
  refine q0 rfl (o_move ?_)
  refine q0 rfl (o_neIface ?_)
  refine rg_nil ?_
  refine go_condT ?_
  refine go_seq ?_
  refine go_region ⟨_, Tryz.func48⟩ rfl ?_
  refine q0 rfl (o_build (cs := [.int .i64 (0), .int .i64 (0), .string ((ByteArray.mk #[])), sl (none, 0) (0), sl (none, 0) (0), sl (none, 0) (0)]) ?_)
  refine q0 rfl (o_st ?_)
  refine q0 rfl (o_st ?_)
  refine rg_nil ?_
  refine go_seq ?_
  refine go_region ⟨_, Tryz.func48⟩ rfl ?_
  refine q0 rfl (o_move ?_)
  refine q0 rfl (o_tassert ?_)
  refine q0 rfl (o_move ?_)
  refine q0 rfl (o_extract ?_)
  refine q0 rfl (o_extract ?_)
  refine q0 rfl (o_assign ?_)
  refine q0 rfl (o_assign ?_)
  refine rg_nil ?_
  refine go_seq ?_
  refine go_region ⟨_, Tryz.func48⟩ rfl ?_
  refine q0 rfl (o_move ?_)
  refine rg_nil ?_
  refine go_condT ?_
  refine go_region ⟨_, Tryz.func48⟩ rfl ?_
  refine q0 rfl (o_move ?_)
  refine q0 rfl (o_st ?_)
  refine rg_nil ?_
  refine end0 Tryz.func48 Tryz.results48 () rfl (fun w hs => ((hs.less (by simp)).perm perm1))
theorem guarded_spec (t : T) (vr_t vk_t vs_t : SH) (ns : List Int) (a_ns : SH) (c : FuncId) (cap : List Value) (FΓ : List Fact) (r : Res1 T) (hcall : ∀ (args : Array Value) (w : World), (callFunc c args).run Tryz.prog w = .ok (.enter c args) w) (hdo : formedP t = 0 → ns.all (fun n => decide (0 ≤ n)) = true → SpecR Tryz.prog 30 c cap.toArray FΓ r (fun (u : T) => fun x : {h : HT // h.er = u} => .agg (tc u x.1.vr x.1.vk x.1.vs).toArray) (fun _ _ => []) (fun (u : T) => fun x : {h : HT // h.er = u} => [bigR (treeR tys x.1)])) (hz : size t ≤ 1152921504606846) : Spec Tryz.prog 27 #[.agg (tc t vr_t vk_t vs_t).toArray, sl a_ns (ns.length), .func (.func c) #[] cap.toArray] [RT t vr_t vk_t vs_t, IL ns a_ns, AllFs FΓ] [] (fun x : {h : HT // h.er = (guardRes t ns r).2} => .tuple #[.agg (tc (guardRes t ns r).2 x.1.vr x.1.vk x.1.vs).toArray, .int .i64 (guardRes t ns r).1]) (fun x : {h : HT // h.er = (guardRes t ns r).2} => []) (fun x : {h : HT // h.er = (guardRes t ns r).2} => [bigR (treeR tys x.1)]) := by
  rw [show (#[.agg (tc t vr_t vk_t vs_t).toArray, sl a_ns (ns.length), .func (.func c) #[] cap.toArray] : Array Value) = ([.agg (tc t vr_t vk_t vs_t).toArray, sl a_ns (ns.length), .func (.func c) #[] cap.toArray] : List Value).toArray from rfl]
  refine spec_go Tryz.func27 Tryz.ntmps27 rfl (by exact Nat.le_of_ble_eq_true rfl) fun B hB => ?_
  refine go_open (t := t) (vr := vr_t) (vk := vk_t) (vs := vs_t) (fun hk1 hn1 hm1 => ?_)
  refine go_openCL (l := (t).r) (a := vr_t) (fun hl2 hA2 hU2 => ?_)
  refine go_openTL (ts := (t).kids) (a := vk_t) (fun VR3 VK3 VS3 hl3 hA3 => ?_)
  refine go_openBL (bs := (t).sys) (a := vs_t) (fun VF4 VK4 hl4 hA4 => ?_)
  refine go_openIL (l := ns) (a := a_ns) (fun hl5 hA5 hU5 => ?_)
  refine go_seq ?_
  refine go_region ⟨_, Tryz.func27⟩ rfl ?_
  refine q0 rfl (o_box fun b3 => ?_)
  refine q0 rfl (o_new fun b6 => ?_)
  refine q0 rfl (o_new fun b7 => ?_)
  refine rg_nil ?_
  refine go_seq ?_
  refine go_seq ?_
  refine go_region ⟨_, Tryz.func27⟩ rfl ?_
  refine q0 rfl (o_lds ?_)
  refine q0 rfl (o_call Tryz.call47 (formed_spec t (.inr form_spec) vr_t vk_t vs_t om_) (fun x12 => ?_))
  refine q0 rfl (o_assign ?_)
  refine rg_nil ?_
  refine go_seq ?_
  refine go_region ⟨_, Tryz.func27⟩ rfl ?_
  refine q0 rfl (o_move ?_)
  refine q0 rfl (o_neI ?_)
  refine rg_nil ?_
  refine go_condI (fun h14 => ?_) (fun h14 => ?_)
  · have c14 : (decide ((formedP t) ≠ 0)) = true := h14
    try simp only [sC, bne_iff_ne, beq_iff_eq, ne_eq] at c14
    have hg : guardRes t ns r = (formedP t, t0) := guard_form (by simpa using h14)
    refine go_seq ?_
    refine go_region ⟨_, Tryz.func27⟩ rfl ?_
    refine q0 rfl (o_build (cs := [.int .i64 (0), .int .i64 (0), .string ((ByteArray.mk #[])), sl (none, 0) (0), sl (none, 0) (0), sl (none, 0) (0)]) ?_)
    refine q0 rfl (o_move ?_)
    refine q0 rfl (o_st ?_)
    refine q0 rfl (o_st ?_)
    refine rg_nil ?_
    refine retCC Tryz.func27 Tryz.results27 (⟨h0, by rw [hg]; exact h0_er⟩) rfl rfl mm_ mm_ rfl rfl rfl rfl rfl (by show _ = Value.tuple #[.agg (tc (guardRes t ns r).2 h0.vr h0.vk h0.vs).toArray, .int .i64 (guardRes t ns r).1]; rw [hg]; rfl) (fun w hs => ?_)
    exact ((hs.less (Γ' := []) (by simp)).bare.h0R tys)
  · have c14 : (decide ((formedP t) ≠ 0)) = false := h14
    try simp only [sC, bne_iff_ne, beq_iff_eq, ne_eq] at c14
    have hf0 : formedP t = 0 := by simpa using h14
    refine go_skip ?_
    refine go_seq ?_
    refine go_seq ?_
    refine go_region ⟨_, Tryz.func27⟩ rfl ?_
    refine q0 rfl (o_move ?_)
    refine q0 rfl (o_len ?_)
    refine q0 rfl (o_move ?_)
    refine rg_nil ?_
    refine go_block ?_
    refine go_loopE (X := Nat) (fun s_ => s_ ≤ ns.length ∧ ∀ j, j < s_ → 0 ≤ ns.getD j 0) (fun s_ => [(2, .func (.func c) #[] cap.toArray), (6, .pointer (some ⟨b6, 0, none⟩)), (7, .pointer (some ⟨b7, 0, none⟩)), (17, sl a_ns (ns.length)), (18, .int .i64 ((ns.length : Int))), (19, .int .i64 ((s_ : Int)))]) (fun s_ G_ => G_) (fun s_ => [boxR b7 [.int .i64 (0)] 30, boxR b6 [.int .i64 (0), .int .i64 (0), .string ((ByteArray.mk #[])), sl (none, 0) (0), sl (none, 0) (0), sl (none, 0) (0)] 26, boxR b3 (tc t vr_t vk_t vs_t) 26]) (fun s_ => ns.length - s_) (0) (⟨Nat.zero_le _, fun j hj => absurd hj (Nat.not_lt_zero _)⟩) (by exact ⟨rfl, rfl, rfl, rfl, rfl, rfl, trivial⟩) ?_ ?_
    · exact fun w hs => hs
    · intro i base0 ⟨hi, hok⟩ next0
      refine go_seq ?_
      refine go_region ⟨_, Tryz.func27⟩ rfl ?_
      refine q0 rfl (o_lss ?_)
      refine rg_nil ?_
      refine go_seq ?_
      refine go_condI (fun h20 => ?_) (fun h20 => ?_)
      · have c20 : (decide ((i : Int) < (ns.length : Int))) = true := h20
        try simp only [sC, bne_iff_ne, beq_iff_eq, ne_eq] at c20
        refine go_skip ?_
        refine go_seq ?_
        refine go_block ?_
        refine go_seq ?_
        refine go_region ⟨_, Tryz.func27⟩ rfl ?_
        obtain ⟨bk6, o6, hav6⟩ := hA5 (by omega)
        refine q0 rfl (o_ixN ?_ (j := i))
        refine q0 rfl (o_ldI ?_)
        refine q0 rfl (o_assign ?_)
        refine rg_nil ?_
        refine go_seq ?_
        refine go_region ⟨_, Tryz.func27⟩ rfl ?_
        refine q0 rfl (o_move ?_)
        refine q0 rfl (o_lss ?_)
        refine rg_nil ?_
        refine go_condI (fun h24 => ?_) (fun h24 => ?_)
        · have c24 : (decide ((ns.getD i 0) < 0)) = true := h24
          try simp only [sC, bne_iff_ne, beq_iff_eq, ne_eq] at c24
          have hg : guardRes t ns r = (2, t0) := guard_neg hf0 (all_false_at (d := 0) (i := i) (by omega) (by simpa using c24))
          refine go_seq ?_
          refine go_region ⟨_, Tryz.func27⟩ rfl ?_
          refine q0 rfl (o_build (cs := [.int .i64 (0), .int .i64 (0), .string ((ByteArray.mk #[])), sl (none, 0) (0), sl (none, 0) (0), sl (none, 0) (0)]) ?_)
          refine q0 rfl (o_st ?_)
          refine q0 rfl (o_st ?_)
          refine rg_nil ?_
          refine retCC Tryz.func27 Tryz.results27 (⟨h0, by rw [hg]; exact h0_er⟩) rfl rfl mm_ mm_ rfl rfl rfl rfl rfl (by show _ = Value.tuple #[.agg (tc (guardRes t ns r).2 h0.vr h0.vk h0.vs).toArray, .int .i64 (guardRes t ns r).1]; rw [hg]; rfl) (fun w hs => ?_)
          exact ((hs.less (Γ' := []) (by simp)).bare.h0R tys)
        · have c24 : (decide ((ns.getD i 0) < 0)) = false := h24
          try simp only [sC, bne_iff_ne, beq_iff_eq, ne_eq] at c24
          refine go_skip ?_
          refine go_inBlock ?_
          refine go_region ⟨_, Tryz.func27⟩ rfl ?_
          refine q0 rfl (o_add ?_)
          refine q0 rfl (o_move ?_)
          refine rg_nil ?_
          refine go_state (fun w hs => ?_) (next0 (i + 1) _ (⟨by omega, fun j hj => by rcases Nat.lt_succ_iff_lt_or_eq.mp hj with h | h; exact hok j h; subst h; omega⟩) (by omega) ⟨rfl, rfl, rfl, rfl, rfl, rfl, trivial⟩)
          exact ((((hs.less (by simp +contextual)).perm perm2).perm perm2).perm perm2)
      · have c20 : (decide ((i : Int) < (ns.length : Int))) = false := h20
        try simp only [sC, bne_iff_ne, beq_iff_eq, ne_eq] at c20
        have hall : ns.all (fun n => decide (0 ≤ n)) = true := all_true_of (d := 0) (fun j hj => by simpa using hok j (by omega))
        have hdo9 := hdo hf0 hall
        refine go_exit rfl ?_
        refine go_seq ?_
        refine go_region ⟨_, Tryz.func27⟩ rfl ?_
        refine q0 rfl (o_func ?_)
        refine q0 rfl (o_defer ?_)
        refine rg_nil ?_
        refine go_seq ?_
        refine go_res (r) (fun g11_1 hg11_1 => ?_) (fun e11_1 he11_1 => ?_)
        · have hg := guard_ok hf0 hall hg11_1
          refine go_region ⟨_, Tryz.func27⟩ rfl ?_
          refine q0 rfl (o_move ?_)
          refine q0 rfl (o_callC hcall ((hdo9.conj).1 g11_1 hg11_1) (cap := cap) (fun x29 => ?_))
          refine q0 rfl (o_st ?_)
          refine q0 rfl (o_st ?_)
          refine rg_nil ?_
          refine retDCC Tryz.func27 Tryz.results27 Tryz.call48 (guardN b6 b7) (⟨x29.1, by rw [hg]; exact x29.2⟩) rfl rfl mm_ mm_ rfl rfl rfl rfl rfl (by show _ = Value.tuple #[.agg (tc (guardRes t ns r).2 x29.1.vr x29.1.vk x29.1.vs).toArray, .int .i64 (guardRes t ns r).1]; rw [hg]; rfl) (fun w hs => ?_)
          exact (((hs.less (by simp)).perm perm2).dropR (A := [_]))
        · have hg := guard_bad hf0 hall he11_1
          refine go_region ⟨_, Tryz.func27⟩ rfl ?_
          refine q0 rfl (o_move ?_)
          refine q0 rfl (panDCC (Ms2 := [boxR b3 (tc t vr_t vk_t vs_t) 26]) (enterC (args := []) wn_ rfl hcall) ((hdo9.conj).2 e11_1 he11_1) (by simp) Tryz.func27 Tryz.results27 Tryz.call48 (guardP b6 b7 e11_1 []) rfl (by exact perm1) ⟨h0, by rw [hg]; exact h0_er⟩ rfl rfl rfl rfl rfl rfl rfl (by show _ = Value.tuple #[.agg (tc (guardRes t ns r).2 h0.vr h0.vk h0.vs).toArray, .int .i64 (guardRes t ns r).1]; rw [hg]; rfl) (fun w hs => (hs.less (Γ' := []) (by simp)).h0R tys))
theorem liftVars1_spec (g0 : Nat) (b : Int) (g1 : Nat) (t : T) (vr_t vk_t vs_t : SH) (g2 : Nat) (f : Int) (hb : 0 ≤ b ∧ b ≤ 1000000) (hf : 0 ≤ f) (hz : size t ≤ 20000) : SpecR Tryz.prog 30 46 #[.pointer (some ⟨g0, 0, none⟩), .pointer (some ⟨g1, 0, none⟩), .pointer (some ⟨g2, 0, none⟩)] [At g0 0 [.int .i64 (b)], At g1 0 (tc t vr_t vk_t vs_t), RT t vr_t vk_t vs_t, At g2 0 [.int .i64 (f)]] (varsR t f b) (fun (u : T) => fun x : {h : HT // h.er = u} => .agg (tc u x.1.vr x.1.vk x.1.vs).toArray) (fun (u : T) => fun x : {h : HT // h.er = u} => []) (fun (u : T) => fun x : {h : HT // h.er = u} => [bigR (treeR tys x.1)]) := by
  refine specR_go (args := [.pointer (some ⟨g0, 0, none⟩), .pointer (some ⟨g1, 0, none⟩), .pointer (some ⟨g2, 0, none⟩)]) Tryz.func46 Tryz.ntmps46 rfl (by exact Nat.le_of_ble_eq_true rfl) fun B hB => ?_
  have hmn : 0 ≤ (if 2000000000 < f then 2000000000 else f) ∧ (if 2000000000 < f then 2000000000 else f) ≤ 2000000000 := by split <;> omega
  refine go_seq ?_
  refine go_region ⟨_, Tryz.func46⟩ rfl ?_
  refine q0 rfl (o_new fun b3 => ?_)
  refine rg_nil ?_
  refine go_seq ?_
  refine go_res (varsR t f b) (fun g1_5 hg1_5 => ?_) (fun e1_5 he1_5 => ?_)
  · refine go_region ⟨_, Tryz.func46⟩ rfl ?_
    refine q0 rfl (o_ldg ?_)
    refine q0 rfl (o_build (cs := [.int .i64 (b), .int .i64 (0)]) ?_)
    refine q0 rfl (o_ldgs ?_)
    refine q0 rfl (o_ldg ?_)
    refine q0 rfl (o_min ?_)
    refine q0 rfl (o_call Tryz.call29 ((liftO t vr_t vk_t vs_t (if 2000000000 < f then 2000000000 else f) 0 hb (by unfold in64; omega) (by omega) (by omega)).1 g1_5 hg1_5) (fun x9 => ?_))
    refine q0 rfl (o_st ?_)
    refine rg_nil ?_
    refine go_ok (a := g1_5) (hg1_5) ?_
    refine retC Tryz.func46 Tryz.results46 x9 rfl mm_ rfl rfl rfl rfl (fun w hs => (((hs.less (by simp)).perm perm1).dropR (A := [_])))
  · refine go_region ⟨_, Tryz.func46⟩ rfl ?_
    refine q0 rfl (o_ldg ?_)
    refine q0 rfl (o_build (cs := [.int .i64 (b), .int .i64 (0)]) ?_)
    refine q0 rfl (o_ldgs ?_)
    refine q0 rfl (o_ldg ?_)
    refine q0 rfl (o_min ?_)
    refine q0 rfl (o_pan Tryz.call29 ((liftO t vr_t vk_t vs_t (if 2000000000 < f then 2000000000 else f) 0 hb (by unfold in64; omega) (by omega) (by omega)).2 e1_5 he1_5) (endsR_bad (he1_5)))
theorem liftDims1_spec (g0 : Nat) (b : Int) (g1 : Nat) (t : T) (vr_t vk_t vs_t : SH) (g2 : Nat) (f : Int) (hb : in64 b) (hf : 0 ≤ f) (hz : size t ≤ 20000) : SpecR Tryz.prog 30 28 #[.pointer (some ⟨g0, 0, none⟩), .pointer (some ⟨g1, 0, none⟩), .pointer (some ⟨g2, 0, none⟩)] [At g0 0 [.int .i64 (b)], At g1 0 (tc t vr_t vk_t vs_t), RT t vr_t vk_t vs_t, At g2 0 [.int .i64 (f)]] (dimsR t f b) (fun (u : T) => fun x : {h : HT // h.er = u} => .agg (tc u x.1.vr x.1.vk x.1.vs).toArray) (fun (u : T) => fun x : {h : HT // h.er = u} => []) (fun (u : T) => fun x : {h : HT // h.er = u} => [bigR (treeR tys x.1)]) := by
  refine specR_go (args := [.pointer (some ⟨g0, 0, none⟩), .pointer (some ⟨g1, 0, none⟩), .pointer (some ⟨g2, 0, none⟩)]) Tryz.func28 Tryz.ntmps28 rfl (by exact Nat.le_of_ble_eq_true rfl) fun B hB => ?_
  have hmn : 0 ≤ (if 24 < f then 24 else f) ∧ (if 24 < f then 24 else f) ≤ 24 := by split <;> omega
  refine go_seq ?_
  refine go_region ⟨_, Tryz.func28⟩ rfl ?_
  refine q0 rfl (o_new fun b3 => ?_)
  refine rg_nil ?_
  refine go_seq ?_
  refine go_res (dimsR t f b) (fun g1_5 hg1_5 => ?_) (fun e1_5 he1_5 => ?_)
  · refine go_region ⟨_, Tryz.func28⟩ rfl ?_
    refine q0 rfl (o_ldg ?_)
    refine q0 rfl (o_build (cs := [.int .i64 (0), .int .i64 (b)]) ?_)
    refine q0 rfl (o_ldgs ?_)
    refine q0 rfl (o_ldg ?_)
    refine q0 rfl (o_min ?_)
    refine q0 rfl (o_call Tryz.call29 ((liftO t vr_t vk_t vs_t 0 (if 24 < f then 24 else f) (by omega) hb (by omega) (by omega)).1 g1_5 hg1_5) (fun x9 => ?_))
    refine q0 rfl (o_st ?_)
    refine rg_nil ?_
    refine go_ok (a := g1_5) (hg1_5) ?_
    refine retC Tryz.func28 Tryz.results28 x9 rfl mm_ rfl rfl rfl rfl (fun w hs => (((hs.less (by simp)).perm perm1).dropR (A := [_])))
  · refine go_region ⟨_, Tryz.func28⟩ rfl ?_
    refine q0 rfl (o_ldg ?_)
    refine q0 rfl (o_build (cs := [.int .i64 (0), .int .i64 (b)]) ?_)
    refine q0 rfl (o_ldgs ?_)
    refine q0 rfl (o_ldg ?_)
    refine q0 rfl (o_min ?_)
    refine q0 rfl (o_pan Tryz.call29 ((liftO t vr_t vk_t vs_t 0 (if 24 < f then 24 else f) (by omega) hb (by omega) (by omega)).2 e1_5 he1_5) (endsR_bad (he1_5)))
theorem liftF {vb db : Int} (t : T) (vr vk vs : SH) (v d : Int) (h1 : 0 ≤ vb ∧ vb ≤ 1000000) (h2 : in64 db) (h3 : -1000000000000 ≤ v ∧ v + size t ≤ 4000000000000000000) (h4 : 0 ≤ d ∧ d + size t ≤ 4000000000000000000) : SpecR Tryz.prog 30 29 #[.agg ([.int .i64 vb, .int .i64 db] : List Value).toArray, .agg (tc t vr vk vs).toArray, .int .i64 v, .int .i64 d] [RT t vr vk vs] (trav (liftTr vb db) t (v, d)) (fun (u : T) => fun x : SH × SH × SH => .agg (tc u x.1 x.2.1 x.2.2).toArray) (fun u x => [RT u x.1 x.2.1 x.2.2]) (fun _ _ => []) :=
  SpecR.settleT tys (liftO t vr vk vs v d h1 h2 h3 h4) (fun u hu ok w hs => lift_okT h1 (ok_of (hs.facts _ List.mem_cons_self)) hu)
theorem liftBoth1_spec (g0 : Nat) (d : Int) (g1 : Nat) (v : Int) (g2 : Nat) (t : T) (vr_t vk_t vs_t : SH) (hv : 0 ≤ v ∧ v ≤ 1000000) (hd : in64 d) (hz : size t ≤ 20000) : SpecR Tryz.prog 30 33 #[.pointer (some ⟨g0, 0, none⟩), .pointer (some ⟨g1, 0, none⟩), .pointer (some ⟨g2, 0, none⟩)] [At g0 0 [.int .i64 (d)], At g1 0 [.int .i64 (v)], At g2 0 (tc t vr_t vk_t vs_t), RT t vr_t vk_t vs_t] (bothR t v d) (fun (u : T) => fun x : {h : HT // h.er = u} => .agg (tc u x.1.vr x.1.vk x.1.vs).toArray) (fun (u : T) => fun x : {h : HT // h.er = u} => []) (fun (u : T) => fun x : {h : HT // h.er = u} => [bigR (treeR tys x.1)]) := by
  refine specR_go (args := [.pointer (some ⟨g0, 0, none⟩), .pointer (some ⟨g1, 0, none⟩), .pointer (some ⟨g2, 0, none⟩)]) Tryz.func33 Tryz.ntmps33 rfl (by exact Nat.le_of_ble_eq_true rfl) fun B hB => ?_
  refine go_seq ?_
  refine go_region ⟨_, Tryz.func33⟩ rfl ?_
  refine q0 rfl (o_new fun b3 => ?_)
  refine rg_nil ?_
  refine go_seq ?_
  refine go_res (trav (liftTr v 0) t (0, 0)) (fun g1_5 hg1_5 => ?_) (fun e1_5 he1_5 => ?_)
  · have hzu : size g1_5 = size t := lift_size hg1_5
    refine go_res (trav (liftTr 0 d) g1_5 (0, 0)) (fun g1_6 hg1_6 => ?_) (fun e1_6 he1_6 => ?_)
    · refine go_draw (pn := 1000000) (tn := false) (A := [0, 1, 0, 4, 0, 28, 63, 127]) (l := [0, 1, 2, 3, 4, 5, 6]) (fin := [7]) Tab.mixed ⟨_, Tryz.func33⟩ (by rfl) ?_
      refine n0 rfl (f_ldg ?_)
      refine n0 rfl (v_build (cs := [.int .i64 (0), .int .i64 (d)]) ?_)
      refine n0 rfl (f_ldg ?_)
      refine n0 rfl (v_build (cs := [.int .i64 (v), .int .i64 (0)]) ?_)
      refine n0 rfl (f_ldgs ?_)
      refine n0 rfl (v_call Tryz.call29 ((liftF t vr_t vk_t vs_t 0 0 hv (by unfold in64; omega) (by omega) (by omega)).1 g1_5 hg1_5) (fun x9 => ?_))
      refine n0 rfl (v_call Tryz.call29 ((liftO g1_5 x9.1 x9.2.1 x9.2.2 0 0 (by omega) hd (by omega) (by omega)).1 g1_6 hg1_6) (fun x10 => ?_))
      refine NV.done ?_
      refine q0 rfl (o_st ?_)
      refine rg_nil ?_
      refine go_ok (a := g1_6) (Res1.bind_of hg1_5 hg1_6) ?_
      refine retC Tryz.func33 Tryz.results33 x10 rfl mm_ rfl rfl rfl rfl (fun w hs => (((hs.less (by simp)).perm perm1).dropR (A := [_])))
    · refine go_draw (pn := 6) (tn := false) (A := [0, 1, 0, 4, 0, 28, 63, 127]) (l := [0, 1, 2, 3, 4, 5, 6]) (fin := [7]) Tab.mixed ⟨_, Tryz.func33⟩ (by rfl) ?_
      refine n0 rfl (f_ldg ?_)
      refine n0 rfl (v_build (cs := [.int .i64 (0), .int .i64 (d)]) ?_)
      refine n0 rfl (f_ldg ?_)
      refine n0 rfl (v_build (cs := [.int .i64 (v), .int .i64 (0)]) ?_)
      refine n0 rfl (f_ldgs ?_)
      refine n0 rfl (v_call Tryz.call29 ((liftF t vr_t vk_t vs_t 0 0 hv (by unfold in64; omega) (by omega) (by omega)).1 g1_5 hg1_5) (fun x9 => ?_))
      refine n_pan rfl Tryz.call29 ((liftO g1_5 x9.1 x9.2.1 x9.2.2 0 0 (by omega) hd (by omega) (by omega)).2 e1_6 he1_6) (endsR_bad (Res1.bind_of hg1_5 he1_6))
  · refine go_draw (pn := 5) (tn := false) (A := [0, 1, 0, 4, 0, 28, 63, 127]) (l := [0, 1, 2, 3, 4, 5, 6]) (fin := [7]) Tab.mixed ⟨_, Tryz.func33⟩ (by rfl) ?_
    refine n0 rfl (f_ldg ?_)
    refine n0 rfl (v_build (cs := [.int .i64 (0), .int .i64 (d)]) ?_)
    refine n0 rfl (f_ldg ?_)
    refine n0 rfl (v_build (cs := [.int .i64 (v), .int .i64 (0)]) ?_)
    refine n0 rfl (f_ldgs ?_)
    refine n_pan rfl Tryz.call29 ((liftF t vr_t vk_t vs_t 0 0 hv (by unfold in64; omega) (by omega) (by omega)).2 e1_5 he1_5) (endsR_bad (Res1.bind_bad he1_5))
theorem vars_spec (t : T) (vr_t vk_t vs_t : SH) (f : Int) (b : Int) (ha : in64 f) (hb : in64 b) (hz : size t ≤ 1152921504606846) : Spec Tryz.prog 25 #[.agg (tc t vr_t vk_t vs_t).toArray, .int .i64 (f), .int .i64 (b)] [RT t vr_t vk_t vs_t] [] (fun x : {h : HT // h.er = (varsRes t f b).2} => .tuple #[.agg (tc (varsRes t f b).2 x.1.vr x.1.vk x.1.vs).toArray, .int .i64 (varsRes t f b).1]) (fun x : {h : HT // h.er = (varsRes t f b).2} => []) (fun x : {h : HT // h.er = (varsRes t f b).2} => [bigR (treeR tys x.1)]) := by
  refine spec_go (args := [.agg (tc t vr_t vk_t vs_t).toArray, .int .i64 (f), .int .i64 (b)]) Tryz.func25 Tryz.ntmps25 rfl (by exact Nat.le_of_ble_eq_true rfl) fun B hB => ?_
  have hz2 := hz
  refine go_seq ?_
  refine go_region ⟨_, Tryz.func25⟩ rfl ?_
  refine q0 rfl (o_box fun b3 => ?_)
  refine q0 rfl (o_box fun b4 => ?_)
  refine q0 rfl (o_box fun b5 => ?_)
  refine q0 rfl (o_new fun b6 => ?_)
  refine q0 rfl (o_assign ?_)
  refine rg_nil ?_
  refine go_seq ?_
  refine go_ms (Ms' := [boxR b6 [.int .i64 (0), .int .i64 (0), .string ((ByteArray.mk #[])), sl (none, 0) (0), sl (none, 0) (0), sl (none, 0) (0)] 26, boxR b5 [.int .i64 (b)] 3, boxR b4 [.int .i64 (f)] 3, boxR b3 (tc t vr_t vk_t vs_t) 26]) (by rfl) ?_
  refine go_state (fun w hs => (((((hs.perm perm2).perm perm2).perm perm2).perm perm3).settleBox hB)) ?_
  refine go_state (fun w hs => ((((hs.perm perm1).perm perm1).perm perm2).settleBox hB)) ?_
  refine go_state (fun w hs => ((hs.perm perm1).settleBox hB)) ?_
  refine go_state (fun w hs => hs.conj (L := [At b5 0 [.int .i64 b], At b3 0 (tc t vr_t vk_t vs_t), RT t vr_t vk_t vs_t, At b4 0 [.int .i64 f]]) (by simp)) ?_
  refine go_region ⟨_, Tryz.func25⟩ rfl ?_
  refine q0 rfl (o_ldgs ?_)
  refine q0 rfl (o_ldg ?_)
  refine q0 rfl (o_ldg ?_)
  refine q0 rfl (o_ldg ?_)
  refine q0 rfl (o_subW ?_ (a := 1000000) (b := b))
  refine q0 rfl (o_lit fun b13 => ?_)
  refine q0 rfl (o_func ?_)
  refine rg_state (fun w hs => (((hs.perm perm1).perm perm1).litI [f, b, most b] hB rfl (by simp) (by intro c hc; simp at hc; rcases hc with rfl | rfl | rfl <;> first | assumption | exact most_in _))) ?_
  refine q0 rfl (o_call Tryz.call27 (guarded_spec t vr_t vk_t vs_t [f, b, most b] (some ⟨b13, 0, none⟩, 3) 46 [.pointer (some ⟨b5, 0, none⟩), .pointer (some ⟨b3, 0, none⟩), .pointer (some ⟨b4, 0, none⟩)] [At b5 0 [.int .i64 b], At b3 0 (tc t vr_t vk_t vs_t), RT t vr_t vk_t vs_t, At b4 0 [.int .i64 f]] (varsR t f b) Tryz.call46 (fun hf9 ha9 => by have hfz := formed_size hf9; simp only [List.all_cons, List.all_nil, Bool.and_true, Bool.and_eq_true, decide_eq_true_eq] at ha9; exact liftVars1_spec b5 b b3 t vr_t vk_t vs_t b4 f ⟨ha9.2.1, most_le hb ha9.2.1 ha9.2.2⟩ ha9.1 hfz) hz) (fun x15 => ?_))
  refine q0 rfl (o_extract ?_)
  refine q0 rfl (o_extract ?_)
  refine q0 rfl (o_st ?_)
  refine q0 rfl (o_assign ?_)
  refine rg_nil ?_
  refine retCT Tryz.func25 Tryz.results25 ⟨x15.1, x15.2⟩ rfl mm_ rfl rfl rfl rfl rfl (fun w hs => (((hs.less (by simp)).perm perm1).dropR (A := [_])))
theorem dims_spec2 (t : T) (vr_t vk_t vs_t : SH) (f : Int) (b : Int) (ha : in64 f) (hb : in64 b) (hz : size t ≤ 1152921504606846) : Spec Tryz.prog 8 #[.agg (tc t vr_t vk_t vs_t).toArray, .int .i64 (f), .int .i64 (b)] [RT t vr_t vk_t vs_t] [] (fun x : {h : HT // h.er = (dimsRes t f b).2} => .tuple #[.agg (tc (dimsRes t f b).2 x.1.vr x.1.vk x.1.vs).toArray, .int .i64 (dimsRes t f b).1]) (fun x : {h : HT // h.er = (dimsRes t f b).2} => []) (fun x : {h : HT // h.er = (dimsRes t f b).2} => [bigR (treeR tys x.1)]) := by
  refine spec_go (args := [.agg (tc t vr_t vk_t vs_t).toArray, .int .i64 (f), .int .i64 (b)]) Tryz.func8 Tryz.ntmps8 rfl (by exact Nat.le_of_ble_eq_true rfl) fun B hB => ?_
  have hz2 := hz
  refine go_seq ?_
  refine go_region ⟨_, Tryz.func8⟩ rfl ?_
  refine q0 rfl (o_box fun b3 => ?_)
  refine q0 rfl (o_box fun b4 => ?_)
  refine q0 rfl (o_box fun b5 => ?_)
  refine q0 rfl (o_new fun b6 => ?_)
  refine q0 rfl (o_assign ?_)
  refine rg_nil ?_
  refine go_seq ?_
  refine go_ms (Ms' := [boxR b6 [.int .i64 (0), .int .i64 (0), .string ((ByteArray.mk #[])), sl (none, 0) (0), sl (none, 0) (0), sl (none, 0) (0)] 26, boxR b5 [.int .i64 (b)] 3, boxR b4 [.int .i64 (f)] 3, boxR b3 (tc t vr_t vk_t vs_t) 26]) (by rfl) ?_
  refine go_state (fun w hs => (((((hs.perm perm2).perm perm2).perm perm2).perm perm3).settleBox hB)) ?_
  refine go_state (fun w hs => ((((hs.perm perm1).perm perm1).perm perm2).settleBox hB)) ?_
  refine go_state (fun w hs => ((hs.perm perm1).settleBox hB)) ?_
  refine go_state (fun w hs => hs.conj (L := [At b5 0 [.int .i64 b], At b3 0 (tc t vr_t vk_t vs_t), RT t vr_t vk_t vs_t, At b4 0 [.int .i64 f]]) (by simp)) ?_
  refine go_region ⟨_, Tryz.func8⟩ rfl ?_
  refine q0 rfl (o_ldgs ?_)
  refine q0 rfl (o_ldg ?_)
  refine q0 rfl (o_ldg ?_)
  refine q0 rfl (o_lit2 fun b11 => ?_)
  refine q0 rfl (o_func ?_)
  refine rg_state (fun w hs => (((hs.perm perm1).perm perm1).litI [f, b] hB rfl (by simp) (by intro c hc; simp at hc; rcases hc with rfl | rfl <;> first | assumption | exact most_in _))) ?_
  refine q0 rfl (o_call Tryz.call27 (guarded_spec t vr_t vk_t vs_t [f, b] (some ⟨b11, 0, none⟩, 2) 28 [.pointer (some ⟨b5, 0, none⟩), .pointer (some ⟨b3, 0, none⟩), .pointer (some ⟨b4, 0, none⟩)] [At b5 0 [.int .i64 b], At b3 0 (tc t vr_t vk_t vs_t), RT t vr_t vk_t vs_t, At b4 0 [.int .i64 f]] (dimsR t f b) Tryz.call28 (fun hf9 ha9 => by have hfz := formed_size hf9; simp only [List.all_cons, List.all_nil, Bool.and_true, Bool.and_eq_true, decide_eq_true_eq] at ha9; exact liftDims1_spec b5 b b3 t vr_t vk_t vs_t b4 f hb ha9.1 hfz) hz) (fun x13 => ?_))
  refine q0 rfl (o_extract ?_)
  refine q0 rfl (o_extract ?_)
  refine q0 rfl (o_st ?_)
  refine q0 rfl (o_assign ?_)
  refine rg_nil ?_
  refine retCT Tryz.func8 Tryz.results8 ⟨x13.1, x13.2⟩ rfl mm_ rfl rfl rfl rfl rfl (fun w hs => (((hs.less (by simp)).perm perm1).dropR (A := [_])))
theorem both_spec (t : T) (vr_t vk_t vs_t : SH) (v : Int) (d : Int) (ha : in64 v) (hb : in64 d) (hz : size t ≤ 1152921504606846) : Spec Tryz.prog 10 #[.agg (tc t vr_t vk_t vs_t).toArray, .int .i64 (v), .int .i64 (d)] [RT t vr_t vk_t vs_t] [] (fun x : {h : HT // h.er = (bothRes t v d).2} => .tuple #[.agg (tc (bothRes t v d).2 x.1.vr x.1.vk x.1.vs).toArray, .int .i64 (bothRes t v d).1]) (fun x : {h : HT // h.er = (bothRes t v d).2} => []) (fun x : {h : HT // h.er = (bothRes t v d).2} => [bigR (treeR tys x.1)]) := by
  refine spec_go (args := [.agg (tc t vr_t vk_t vs_t).toArray, .int .i64 (v), .int .i64 (d)]) Tryz.func10 Tryz.ntmps10 rfl (by exact Nat.le_of_ble_eq_true rfl) fun B hB => ?_
  have hz2 := hz
  refine go_seq ?_
  refine go_region ⟨_, Tryz.func10⟩ rfl ?_
  refine q0 rfl (o_box fun b3 => ?_)
  refine q0 rfl (o_box fun b4 => ?_)
  refine q0 rfl (o_box fun b5 => ?_)
  refine q0 rfl (o_new fun b6 => ?_)
  refine q0 rfl (o_assign ?_)
  refine rg_nil ?_
  refine go_seq ?_
  refine go_ms (Ms' := [boxR b6 [.int .i64 (0), .int .i64 (0), .string ((ByteArray.mk #[])), sl (none, 0) (0), sl (none, 0) (0), sl (none, 0) (0)] 26, boxR b5 [.int .i64 (d)] 3, boxR b4 [.int .i64 (v)] 3, boxR b3 (tc t vr_t vk_t vs_t) 26]) (by rfl) ?_
  refine go_state (fun w hs => (((((hs.perm perm2).perm perm2).perm perm2).perm perm3).settleBox hB)) ?_
  refine go_state (fun w hs => ((((hs.perm perm1).perm perm1).perm perm2).settleBox hB)) ?_
  refine go_state (fun w hs => ((hs.perm perm1).settleBox hB)) ?_
  refine go_state (fun w hs => hs.conj (L := [At b5 0 [.int .i64 d], At b4 0 [.int .i64 v], At b3 0 (tc t vr_t vk_t vs_t), RT t vr_t vk_t vs_t]) (by simp)) ?_
  refine go_region ⟨_, Tryz.func10⟩ rfl ?_
  refine q0 rfl (o_ldgs ?_)
  refine q0 rfl (o_ldg ?_)
  refine q0 rfl (o_ldg ?_)
  refine q0 rfl (o_ldg ?_)
  refine q0 rfl (o_subW ?_ (a := 1000000) (b := v))
  refine q0 rfl (o_lit fun b13 => ?_)
  refine q0 rfl (o_func ?_)
  refine rg_state (fun w hs => (((hs.perm perm1).perm perm1).litI [v, d, most v] hB rfl (by simp) (by intro c hc; simp at hc; rcases hc with rfl | rfl | rfl <;> first | assumption | exact most_in _))) ?_
  refine q0 rfl (o_call Tryz.call27 (guarded_spec t vr_t vk_t vs_t [v, d, most v] (some ⟨b13, 0, none⟩, 3) 33 [.pointer (some ⟨b5, 0, none⟩), .pointer (some ⟨b4, 0, none⟩), .pointer (some ⟨b3, 0, none⟩)] [At b5 0 [.int .i64 d], At b4 0 [.int .i64 v], At b3 0 (tc t vr_t vk_t vs_t), RT t vr_t vk_t vs_t] (bothR t v d) Tryz.call33 (fun hf9 ha9 => by have hfz := formed_size hf9; simp only [List.all_cons, List.all_nil, Bool.and_true, Bool.and_eq_true, decide_eq_true_eq] at ha9; exact liftBoth1_spec b5 d b4 v b3 t vr_t vk_t vs_t ⟨ha9.1, most_le ha ha9.1 ha9.2.2⟩ hb hfz) hz) (fun x15 => ?_))
  refine q0 rfl (o_extract ?_)
  refine q0 rfl (o_extract ?_)
  refine q0 rfl (o_st ?_)
  refine q0 rfl (o_assign ?_)
  refine rg_nil ?_
  refine retCT Tryz.func10 Tryz.results10 ⟨x15.1, x15.2⟩ rfl mm_ rfl rfl rfl rfl rfl (fun w hs => (((hs.less (by simp)).perm perm1).dropR (A := [_])))
end Go.Hy
namespace Go.Hy
set_option linter.unusedVariables false
set_option linter.unusedSimpArgs false
set_option linter.unusedSectionVars false
open Go.Proofs
set_option linter.unusedVariables false
set_option linter.unusedSimpArgs false
set_option maxRecDepth 100000
abbrev SameR (t : T) : Prop := ∀ u vr vk vs vr' vk' vs', Spec Tryz.prog 13 #[.agg (tc t vr vk vs).toArray, .agg (tc u vr' vk' vs').toArray] [RT t vr vk vs, RT u vr' vk' vs'] [] (fun _ : Unit => .bool (decide (t = u))) (fun _ => []) (fun _ => [])
theorem rlists (ts : List T) (a_ts : SH) (us : List T) (a_us : SH) (ih : ∀ t, t ∈ ts → SameR t) : Spec Tryz.prog 36 #[sl a_ts (ts.length), sl a_us (us.length)] [TL ts a_ts, TL us a_us] [] (fun _ : Unit => .bool ((decide (ts = us)))) (fun _ : Unit => []) (fun _ : Unit => []) := by
  refine spec_go (args := [sl a_ts (ts.length), sl a_us (us.length)]) Tryz.func36 Tryz.ntmps36 rfl (by exact Nat.le_of_ble_eq_true rfl) fun B hB => ?_
  refine go_openTL (ts := ts) (a := a_ts) (fun VR1 VK1 VS1 hl1 hA1 => ?_)
  refine go_openTL (ts := us) (a := a_us) (fun VR2 VK2 VS2 hl2 hA2 => ?_)
  refine go_seq ?_
  refine go_region ⟨_, Tryz.func36⟩ rfl ?_
  refine q0 rfl (o_assign ?_)
  refine rg_nil ?_
  refine go_seq ?_
  refine go_seq ?_
  refine go_region ⟨_, Tryz.func36⟩ rfl ?_
  refine q0 rfl (o_move ?_)
  refine q0 rfl (o_len ?_)
  refine q0 rfl (o_move ?_)
  refine q0 rfl (o_len ?_)
  refine q0 rfl (o_neI ?_)
  refine rg_nil ?_
  refine go_condI (fun h10 => ?_) (fun h10 => ?_)
  · have c10 : (decide ((ts.length : Int) ≠ (us.length : Int))) = true := h10
    try simp only [sC, bne_iff_ne, beq_iff_eq, ne_eq] at c10
    refine go_seq ?_
    refine go_region ⟨_, Tryz.func36⟩ rfl ?_
    refine q0 rfl (o_assign ?_)
    refine rg_nil ?_
    refine ret1 Tryz.func36 Tryz.results36 wn_ () (by simp only [decide_eq_false (fun h : ts = us => by subst h; simp at c10)]) (fun w hs => hs.none)
  · have c10 : (decide ((ts.length : Int) ≠ (us.length : Int))) = false := h10
    try simp only [sC, bne_iff_ne, beq_iff_eq, ne_eq] at c10
    have hlen : ts.length = us.length := by simp at h10; omega
    refine go_skip ?_
    refine go_seq ?_
    refine go_seq ?_
    refine go_region ⟨_, Tryz.func36⟩ rfl ?_
    refine q0 rfl (o_assign ?_)
    refine rg_nil ?_
    refine go_block ?_
    refine go_loopE (X := Nat) (fun s_ => s_ ≤ ts.length ∧ ∀ j, j < s_ → ts.getD j t0 = us.getD j t0) (fun s_ => [(0, sl a_ts (ts.length)), (1, sl a_us (us.length)), (5, .int .i64 ((s_ : Int)))]) (fun s_ G_ => G_) (fun s_ => []) (fun s_ => ts.length - s_) (0) (⟨by omega, fun j h => absurd h (Nat.not_lt_zero j)⟩) (by exact ⟨rfl, rfl, rfl, trivial⟩) ?_ ?_
    · exact fun w hs => hs
    · intro i base0 ⟨hi, hsm⟩ next0
      refine go_seq ?_
      refine go_seq ?_
      refine go_region ⟨_, Tryz.func36⟩ rfl ?_
      refine q0 rfl (o_move ?_)
      refine q0 rfl (o_move ?_)
      refine q0 rfl (o_len ?_)
      refine q0 rfl (o_lss ?_)
      refine rg_nil ?_
      refine go_condI (fun h14 => ?_) (fun h14 => ?_)
      · have c14 : (decide ((i : Int) < (ts.length : Int))) = true := h14
        try simp only [sC, bne_iff_ne, beq_iff_eq, ne_eq] at c14
        refine go_skip ?_
        refine go_seq ?_
        refine go_block ?_
        refine go_seq ?_
        refine go_kid (ts := ts) (a := a_ts) (VR := VR1) (VK := VK1) (VS := VS1) i (by omega) ?_
        refine go_kid (ts := us) (a := a_us) (VR := VR2) (VK := VK2) (VS := VS2) i (by omega) ?_
        refine go_draw (pn := 1000000) (tn := false) (A := [0, 0, 3, 7, 0, 0, 48, 112, 255, 511]) (l := [0, 1, 2, 3, 4, 5, 6, 7, 8, 9]) (fin := []) Tab.mixed ⟨_, Tryz.func36⟩ (by rfl) ?_
        refine n0 rfl (v_move ?_)
        refine n0 rfl (v_move ?_)
        obtain ⟨bk3, o3, hav3⟩ := hA1 (by omega)
        refine n0 rfl (v_ixN ?_ (j := i))
        refine n0 rfl (v_ldT ?_)
        refine n0 rfl (v_move ?_)
        refine n0 rfl (v_move ?_)
        obtain ⟨bk4, o4, hav4⟩ := hA2 (by omega)
        refine n0 rfl (v_ixN ?_ (j := i))
        refine n0 rfl (v_ldT ?_)
        refine n0 rfl (v_call Tryz.call13 (ih _ (getD_mem (show i < ts.length by omega)) (us.getD i t0) (VR1 i) (VK1 i) (VS1 i) (VR2 i) (VK2 i) (VS2 i)) (fun x25 => ?_))
        refine n0 rfl (v_not ?_)
        refine NV.done ?_
        refine rg_nil ?_
        refine go_condI (fun h26 => ?_) (fun h26 => ?_)
        · have c26 : (!(decide ((ts.getD i t0) = (us.getD i t0)))) = true := h26
          try simp only [sC, bne_iff_ne, beq_iff_eq, ne_eq] at c26
          refine go_seq ?_
          refine go_region ⟨_, Tryz.func36⟩ rfl ?_
          refine q0 rfl (o_assign ?_)
          refine rg_nil ?_
          refine ret1 Tryz.func36 Tryz.results36 wn_ () (by simp only [decide_eq_false (fun h : ts = us => by subst h; simp at c26)]) (fun w hs => hs.none)
        · have c26 : (!(decide ((ts.getD i t0) = (us.getD i t0)))) = false := h26
          try simp only [sC, bne_iff_ne, beq_iff_eq, ne_eq] at c26
          refine go_skip ?_
          refine go_inBlock ?_
          refine go_region ⟨_, Tryz.func36⟩ rfl ?_
          refine q0 rfl (o_move ?_)
          refine q0 rfl (o_add ?_)
          refine q0 rfl (o_assign ?_)
          refine rg_nil ?_
          refine go_state (fun w hs => ?_) (next0 (i + 1) _ (⟨by omega, fun j hj => by rcases Nat.lt_succ_iff_lt_or_eq.mp hj with h | h; exact hsm j h; subst h; simpa using c26⟩) (by omega) ⟨rfl, rfl, rfl, trivial⟩)
          exact (hs.less (by simp +contextual))
      · have c14 : (decide ((i : Int) < (ts.length : Int))) = false := h14
        try simp only [sC, bne_iff_ne, beq_iff_eq, ne_eq] at c14
        refine go_exit rfl ?_
        refine go_seq ?_
        refine go_region ⟨_, Tryz.func36⟩ rfl ?_
        refine q0 rfl (o_assign ?_)
        refine rg_nil ?_
        refine ret1 Tryz.func36 Tryz.results36 wn_ () (by simp only [decide_eq_true (list_eq_of (d := t0) hlen (fun j hj => hsm j (by omega)) : ts = us)]) (fun w hs => hs.none)
theorem rsame_walk (t : T) (vr_t vk_t vs_t : SH) (u : T) (vr_u vk_u vs_u : SH) (ih : ∀ p, p ∈ parts t → SameR p.1) : Spec Tryz.prog 13 #[.agg (tc t vr_t vk_t vs_t).toArray, .agg (tc u vr_u vk_u vs_u).toArray] [RT t vr_t vk_t vs_t, RT u vr_u vk_u vs_u] [] (fun _ : Unit => .bool ((decide (t = u)))) (fun _ : Unit => []) (fun _ : Unit => []) := by
  refine spec_go (args := [.agg (tc t vr_t vk_t vs_t).toArray, .agg (tc u vr_u vk_u vs_u).toArray]) Tryz.func13 Tryz.ntmps13 rfl (by exact Nat.le_of_ble_eq_true rfl) fun B hB => ?_
  refine go_open (t := t) (vr := vr_t) (vk := vk_t) (vs := vs_t) (fun hk1 hn1 hm1 => ?_)
  refine go_openCL (l := (t).r) (a := vr_t) (fun hl2 hA2 hU2 => ?_)
  refine go_openTL (ts := (t).kids) (a := vk_t) (fun VR3 VK3 VS3 hl3 hA3 => ?_)
  refine go_openBL (bs := (t).sys) (a := vs_t) (fun VF4 VK4 hl4 hA4 => ?_)
  refine go_open (t := u) (vr := vr_u) (vk := vk_u) (vs := vs_u) (fun hk5 hn5 hm5 => ?_)
  refine go_openCL (l := (u).r) (a := vr_u) (fun hl6 hA6 hU6 => ?_)
  refine go_openTL (ts := (u).kids) (a := vk_u) (fun VR7 VK7 VS7 hl7 hA7 => ?_)
  refine go_openBL (bs := (u).sys) (a := vs_u) (fun VF8 VK8 hl8 hA8 => ?_)
  refine go_seq ?_
  refine go_region ⟨_, Tryz.func13⟩ rfl ?_
  refine q0 rfl (o_box fun b2 => ?_)
  refine q0 rfl (o_box fun b3 => ?_)
  refine q0 rfl (o_assign ?_)
  refine rg_nil ?_
  refine go_seq ?_
  refine go_seq ?_
  refine go_cutS ([(2, .pointer (some ⟨b2, 0, none⟩)), (3, .pointer (some ⟨b3, 0, none⟩)), (49, .bool ((((((decide (((t).kind) ≠ ((u).kind))) || (decide (((t).n) ≠ ((u).n)))) || (!(((t).name).toList == ((u).name).toList))) || (!(decide (((t).r) = ((u).r))))) || (!(decide (((t).kids) = ((u).kids))))) || (decide (((t).sys.length : Int) ≠ ((u).sys.length : Int)))))]) (fun hK => ?_) (fun base => ?_)
  · refine go_region ⟨_, Tryz.func13⟩ rfl ?_
    refine q0 rfl (o_fa ?_)
    refine q0 rfl (o_ld ?_)
    refine q0 rfl (o_fa ?_)
    refine q0 rfl (o_ld ?_)
    refine q0 rfl (o_neI ?_)
    refine q0 rfl (o_move ?_)
    refine qI rfl rfl rfl wl_ (fun hg11 => ?_) (fun hg11 => ?_)
    · have g11 : (decide (((t).kind) ≠ ((u).kind))) = false := hg11
      try simp only [sC, bne_iff_ne, beq_iff_eq, ne_eq] at g11
      refine o_fa ?_
      refine qT rfl rfl rfl (o_ld ?_)
      refine qT rfl rfl rfl (o_fa ?_)
      refine qT rfl rfl rfl (o_ld ?_)
      refine qT rfl rfl rfl (o_neI ?_)
      refine q0 rfl (o_pickF ?_)
      refine q0 rfl (o_move ?_)
      refine qI rfl rfl rfl wl_ (fun hg18 => ?_) (fun hg18 => ?_)
      · have g18 : (decide (((t).n) ≠ ((u).n))) = false := hg18
        try simp only [sC, bne_iff_ne, beq_iff_eq, ne_eq] at g18
        refine o_fa ?_
        refine qT rfl rfl rfl (o_ld ?_)
        refine qT rfl rfl rfl (o_fa ?_)
        refine qT rfl rfl rfl (o_ld ?_)
        refine qT rfl rfl rfl (o_neS ?_)
        refine q0 rfl (o_pickF ?_)
        refine q0 rfl (o_move ?_)
        refine qI rfl rfl rfl wl_ (fun hg25 => ?_) (fun hg25 => ?_)
        · have g25 : (!(((t).name).toList == ((u).name).toList)) = false := hg25
          try simp only [sC, bne_iff_ne, beq_iff_eq, ne_eq] at g25
          refine o_fa ?_
          refine qT rfl rfl rfl (o_ld ?_)
          refine qT rfl rfl rfl (o_fa ?_)
          refine qT rfl rfl rfl (o_ld ?_)
          refine qT rfl rfl rfl (o_call Tryz.call26 (rsameC ((t).r) vr_t ((u).r) vr_u ) (fun x30 => ?_))
          refine qT rfl rfl rfl (o_not ?_)
          refine q0 rfl (o_pickF ?_)
          refine q0 rfl (o_move ?_)
          refine qI rfl rfl rfl wl_ (fun hg33 => ?_) (fun hg33 => ?_)
          · have g33 : (!(decide (((t).r) = ((u).r)))) = false := hg33
            try simp only [sC, bne_iff_ne, beq_iff_eq, ne_eq] at g33
            refine o_fa ?_
            refine qT rfl rfl rfl (o_ld ?_)
            refine qT rfl rfl rfl (o_fa ?_)
            refine qT rfl rfl rfl (o_ld ?_)
            refine qT rfl rfl rfl (o_call Tryz.call36 (rlists ((t).kids) vk_t ((u).kids) vk_u (fun k hk => (by obtain ⟨p, hp, e⟩ := kid_mem_parts hk; exact e ▸ ih p hp))) (fun x38 => ?_))
            refine qT rfl rfl rfl (o_not ?_)
            refine q0 rfl (o_pickF ?_)
            refine q0 rfl (o_move ?_)
            refine qI rfl rfl rfl wl_ (fun hg41 => ?_) (fun hg41 => ?_)
            · have g41 : (!(decide (((t).kids) = ((u).kids)))) = false := hg41
              try simp only [sC, bne_iff_ne, beq_iff_eq, ne_eq] at g41
              refine o_fa ?_
              refine qT rfl rfl rfl (o_ld ?_)
              refine qT rfl rfl rfl (o_len ?_)
              refine qT rfl rfl rfl (o_fa ?_)
              refine qT rfl rfl rfl (o_ld ?_)
              refine qT rfl rfl rfl (o_len ?_)
              refine qT rfl rfl rfl (o_neI ?_)
              refine q0 rfl (o_pickF ?_)
              refine rg_nil ?_
              exact hK _ ⟨rfl, rfl, dn_, trivial⟩
            · have g41 : (!(decide (((t).kids) = ((u).kids)))) = true := hg41
              try simp only [sC, bne_iff_ne, beq_iff_eq, ne_eq] at g41
              refine qF rfl rfl rfl ?_
              refine qF rfl rfl rfl ?_
              refine qF rfl rfl rfl ?_
              refine qF rfl rfl rfl ?_
              refine qF rfl rfl rfl ?_
              refine qF rfl rfl rfl ?_
              refine q0 rfl (o_pickT ?_)
              refine rg_nil ?_
              exact hK _ ⟨rfl, rfl, dn_, trivial⟩
          · have g33 : (!(decide (((t).r) = ((u).r)))) = true := hg33
            try simp only [sC, bne_iff_ne, beq_iff_eq, ne_eq] at g33
            refine qF rfl rfl rfl ?_
            refine qF rfl rfl rfl ?_
            refine qF rfl rfl rfl ?_
            refine qF rfl rfl rfl ?_
            refine qF rfl rfl rfl ?_
            refine q0 rfl (o_pickT ?_)
            refine q0 rfl (o_move ?_)
            refine qF rfl rfl rfl ?_
            refine qF rfl rfl rfl ?_
            refine qF rfl rfl rfl ?_
            refine qF rfl rfl rfl ?_
            refine qF rfl rfl rfl ?_
            refine qF rfl rfl rfl ?_
            refine qF rfl rfl rfl ?_
            refine q0 rfl (o_pickT ?_)
            refine rg_nil ?_
            exact hK _ ⟨rfl, rfl, dn_, trivial⟩
        · have g25 : (!(((t).name).toList == ((u).name).toList)) = true := hg25
          try simp only [sC, bne_iff_ne, beq_iff_eq, ne_eq] at g25
          refine qF rfl rfl rfl ?_
          refine qF rfl rfl rfl ?_
          refine qF rfl rfl rfl ?_
          refine qF rfl rfl rfl ?_
          refine qF rfl rfl rfl ?_
          refine q0 rfl (o_pickT ?_)
          refine q0 rfl (o_move ?_)
          refine qF rfl rfl rfl ?_
          refine qF rfl rfl rfl ?_
          refine qF rfl rfl rfl ?_
          refine qF rfl rfl rfl ?_
          refine qF rfl rfl rfl ?_
          refine qF rfl rfl rfl ?_
          refine q0 rfl (o_pickT ?_)
          refine q0 rfl (o_move ?_)
          refine qF rfl rfl rfl ?_
          refine qF rfl rfl rfl ?_
          refine qF rfl rfl rfl ?_
          refine qF rfl rfl rfl ?_
          refine qF rfl rfl rfl ?_
          refine qF rfl rfl rfl ?_
          refine qF rfl rfl rfl ?_
          refine q0 rfl (o_pickT ?_)
          refine rg_nil ?_
          exact hK _ ⟨rfl, rfl, dn_, trivial⟩
      · have g18 : (decide (((t).n) ≠ ((u).n))) = true := hg18
        try simp only [sC, bne_iff_ne, beq_iff_eq, ne_eq] at g18
        refine qF rfl rfl rfl ?_
        refine qF rfl rfl rfl ?_
        refine qF rfl rfl rfl ?_
        refine qF rfl rfl rfl ?_
        refine q0 rfl (o_pickT ?_)
        refine q0 rfl (o_move ?_)
        refine qF rfl rfl rfl ?_
        refine qF rfl rfl rfl ?_
        refine qF rfl rfl rfl ?_
        refine qF rfl rfl rfl ?_
        refine qF rfl rfl rfl ?_
        refine qF rfl rfl rfl ?_
        refine q0 rfl (o_pickT ?_)
        refine q0 rfl (o_move ?_)
        refine qF rfl rfl rfl ?_
        refine qF rfl rfl rfl ?_
        refine qF rfl rfl rfl ?_
        refine qF rfl rfl rfl ?_
        refine qF rfl rfl rfl ?_
        refine qF rfl rfl rfl ?_
        refine q0 rfl (o_pickT ?_)
        refine q0 rfl (o_move ?_)
        refine qF rfl rfl rfl ?_
        refine qF rfl rfl rfl ?_
        refine qF rfl rfl rfl ?_
        refine qF rfl rfl rfl ?_
        refine qF rfl rfl rfl ?_
        refine qF rfl rfl rfl ?_
        refine qF rfl rfl rfl ?_
        refine q0 rfl (o_pickT ?_)
        refine rg_nil ?_
        exact hK _ ⟨rfl, rfl, dn_, trivial⟩
    · have g11 : (decide (((t).kind) ≠ ((u).kind))) = true := hg11
      try simp only [sC, bne_iff_ne, beq_iff_eq, ne_eq] at g11
      refine qF rfl rfl rfl ?_
      refine qF rfl rfl rfl ?_
      refine qF rfl rfl rfl ?_
      refine qF rfl rfl rfl ?_
      refine q0 rfl (o_pickT ?_)
      refine q0 rfl (o_move ?_)
      refine qF rfl rfl rfl ?_
      refine qF rfl rfl rfl ?_
      refine qF rfl rfl rfl ?_
      refine qF rfl rfl rfl ?_
      refine qF rfl rfl rfl ?_
      refine q0 rfl (o_pickT ?_)
      refine q0 rfl (o_move ?_)
      refine qF rfl rfl rfl ?_
      refine qF rfl rfl rfl ?_
      refine qF rfl rfl rfl ?_
      refine qF rfl rfl rfl ?_
      refine qF rfl rfl rfl ?_
      refine qF rfl rfl rfl ?_
      refine q0 rfl (o_pickT ?_)
      refine q0 rfl (o_move ?_)
      refine qF rfl rfl rfl ?_
      refine qF rfl rfl rfl ?_
      refine qF rfl rfl rfl ?_
      refine qF rfl rfl rfl ?_
      refine qF rfl rfl rfl ?_
      refine qF rfl rfl rfl ?_
      refine q0 rfl (o_pickT ?_)
      refine q0 rfl (o_move ?_)
      refine qF rfl rfl rfl ?_
      refine qF rfl rfl rfl ?_
      refine qF rfl rfl rfl ?_
      refine qF rfl rfl rfl ?_
      refine qF rfl rfl rfl ?_
      refine qF rfl rfl rfl ?_
      refine qF rfl rfl rfl ?_
      refine q0 rfl (o_pickT ?_)
      refine rg_nil ?_
      exact hK _ ⟨rfl, rfl, dn_, trivial⟩
  · refine go_condI (fun h49 => ?_) (fun h49 => ?_)
    · have c49 : ((((((decide (((t).kind) ≠ ((u).kind))) || (decide (((t).n) ≠ ((u).n)))) || (!(((t).name).toList == ((u).name).toList))) || (!(decide (((t).r) = ((u).r))))) || (!(decide (((t).kids) = ((u).kids))))) || (decide (((t).sys.length : Int) ≠ ((u).sys.length : Int)))) = true := h49
      try simp only [sC, bne_iff_ne, beq_iff_eq, ne_eq] at c49
      refine go_seq ?_
      refine go_region ⟨_, Tryz.func13⟩ rfl ?_
      refine q0 rfl (o_assign ?_)
      refine rg_nil ?_
      refine ret1 Tryz.func13 Tryz.results13 wn_ () (by simp only [decide_eq_false (fun h : t = u => by subst h; simp at h49)]) (fun w hs => hs.none)
    · have c49 : ((((((decide (((t).kind) ≠ ((u).kind))) || (decide (((t).n) ≠ ((u).n)))) || (!(((t).name).toList == ((u).name).toList))) || (!(decide (((t).r) = ((u).r))))) || (!(decide (((t).kids) = ((u).kids))))) || (decide (((t).sys.length : Int) ≠ ((u).sys.length : Int)))) = false := h49
      try simp only [sC, bne_iff_ne, beq_iff_eq, ne_eq] at c49
      obtain ⟨hq1, hq2, hq3, hq4, hq5, hq6⟩ : t.kind = u.kind ∧ t.n = u.n ∧ t.name = u.name ∧ t.r = u.r ∧ t.kids = u.kids ∧ t.sys.length = u.sys.length := by have h := h49; simp only [Bool.or_eq_false_iff, Bool.not_eq_false', decide_eq_false_iff_not, ne_eq, Decidable.not_not, bytes_eq, decide_eq_true_eq, and_assoc] at h; obtain ⟨h1, h2, h3, h4, h5, h6⟩ := h; exact ⟨h1, h2, h3, h4, h5, by omega⟩
      refine go_skip ?_
      refine go_seq ?_
      refine go_seq ?_
      refine go_region ⟨_, Tryz.func13⟩ rfl ?_
      refine q0 rfl (o_assign ?_)
      refine rg_nil ?_
      refine go_block ?_
      refine go_loopE (X := Nat) (fun s_ => s_ ≤ t.sys.length ∧ ∀ j, j < s_ → t.sys.getD j br0 = u.sys.getD j br0) (fun s_ => [(2, .pointer (some ⟨b2, 0, none⟩)), (3, .pointer (some ⟨b3, 0, none⟩)), (5, .int .i64 ((s_ : Int)))]) (fun s_ G_ => G_) (fun s_ => [boxR b3 (tc u vr_u vk_u vs_u) 26, boxR b2 (tc t vr_t vk_t vs_t) 26]) (fun s_ => t.sys.length - s_) (0) (⟨by omega, fun j h => absurd h (Nat.not_lt_zero j)⟩) (by exact ⟨rfl, rfl, rfl, trivial⟩) ?_ ?_
      · exact fun w hs => hs
      · intro i base0 ⟨hi, hsm⟩ next0
        refine go_seq ?_
        refine go_seq ?_
        refine go_region ⟨_, Tryz.func13⟩ rfl ?_
        refine q0 rfl (o_move ?_)
        refine q0 rfl (o_fa ?_)
        refine q0 rfl (o_ld ?_)
        refine q0 rfl (o_len ?_)
        refine q0 rfl (o_lss ?_)
        refine rg_nil ?_
        refine go_condI (fun h54 => ?_) (fun h54 => ?_)
        · have c54 : (decide ((i : Int) < ((t).sys.length : Int))) = true := h54
          try simp only [sC, bne_iff_ne, beq_iff_eq, ne_eq] at c54
          refine go_skip ?_
          refine go_seq ?_
          refine go_block ?_
          refine go_seq ?_
          refine go_branch (bs := (t).sys) (a := vs_t) (VF := VF4) (VK := VK4) i (by omega) ?_
          refine go_openCL (l := (((t).sys).getD i br0).face) (a := VF4 i) (fun hl9 hA9 hU9 => ?_)
          refine go_openTL (ts := (((t).sys).getD i br0).kids) (a := VK4 i) (fun VR10 VK10 VS10 hl10 hA10 => ?_)
          refine go_branch (bs := (u).sys) (a := vs_u) (VF := VF8) (VK := VK8) i (by omega) ?_
          refine go_openCL (l := (((u).sys).getD i br0).face) (a := VF8 i) (fun hl11 hA11 hU11 => ?_)
          refine go_openTL (ts := (((u).sys).getD i br0).kids) (a := VK8 i) (fun VR12 VK12 VS12 hl12 hA12 => ?_)
          refine go_cutS ([(2, .pointer (some ⟨b2, 0, none⟩)), (3, .pointer (some ⟨b3, 0, none⟩)), (5, .int .i64 ((i : Int))), (86, .bool ((!(decide (((((t).sys).getD i br0).face) = ((((u).sys).getD i br0).face)))) || (!(decide (((((t).sys).getD i br0).kids) = ((((u).sys).getD i br0).kids))))))]) (fun hK => ?_) (fun base => ?_)
          · refine go_draw (pn := 1000000) (tn := false) (A := [0, 1, 0, 7, 15, 31, 0, 64, 0, 448, 960, 1984, 4095, 8191, 16383, 32767, 65535, 32767, 262143, 524287, 1048575, 32767, 2129919, 32767, 14712831, 31490047, 65044479, 134217727, 268435455, 536870911]) (l := [0, 1, 2, 3, 4, 5, 6, 7, 8, 9, 10, 11, 12, 13, 14, 15, 16, 17, 18, 19, 20, 21, 22, 23, 24, 25, 26, 27, 28, 29]) (fin := []) Tab.mixed ⟨_, Tryz.func13⟩ (by decide +kernel) ?_
            refine n0 rfl (v_fa ?_)
            refine n0 rfl (v_ld ?_)
            refine n0 rfl (v_move ?_)
            obtain ⟨bk13, o13, hav13⟩ := hA4 (by omega)
            refine n0 rfl (v_ixN ?_ (j := i))
            refine n0 rfl (v_fa ?_)
            refine n0 rfl (v_ldBf ?_)
            refine n0 rfl (v_fa ?_)
            refine n0 rfl (v_ld ?_)
            refine n0 rfl (v_move ?_)
            obtain ⟨bk14, o14, hav14⟩ := hA8 (by omega)
            refine n0 rfl (v_ixN ?_ (j := i))
            refine n0 rfl (v_fa ?_)
            refine n0 rfl (v_ldBf ?_)
            refine n0 rfl (v_call Tryz.call26 (rsameC ((((t).sys).getD i br0).face) (VF4 i) ((((u).sys).getD i br0).face) (VF8 i) ) (fun x69 => ?_))
            refine n0 rfl (v_not ?_)
            refine n0 rfl (v_move ?_)
            refine nI rfl rfl rfl wl_ (fun hg71 => ?_) (fun hg71 => ?_)
            · have g71 : (!(decide (((((t).sys).getD i br0).face) = ((((u).sys).getD i br0).face)))) = false := hg71
              try simp only [sC, bne_iff_ne, beq_iff_eq, ne_eq] at g71
              refine v_fa ?_
              refine nT rfl rfl rfl (v_ld ?_)
              refine nT rfl rfl rfl (v_move ?_)
              refine nT rfl rfl rfl (v_ixN ?_ (j := i))
              refine nT rfl rfl rfl (v_fa ?_)
              refine nT rfl rfl rfl (v_ldBf ?_)
              refine nT rfl rfl rfl (v_fa ?_)
              refine nT rfl rfl rfl (v_ld ?_)
              refine nT rfl rfl rfl (v_move ?_)
              refine nT rfl rfl rfl (v_ixN ?_ (j := i))
              refine nT rfl rfl rfl (v_fa ?_)
              refine nT rfl rfl rfl (v_ldBf ?_)
              refine nT rfl rfl rfl (v_call Tryz.call36 (rlists ((((t).sys).getD i br0).kids) (VK4 i) ((((u).sys).getD i br0).kids) (VK8 i) (fun k hk => (by obtain ⟨p, hp, e⟩ := sys_mem_parts (getD_mem (show i < t.sys.length by omega)) hk; exact e ▸ ih p hp))) (fun x84 => ?_))
              refine nT rfl rfl rfl (v_not ?_)
              refine n0 rfl (v_pickF ?_)
              refine NV.done ?_
              refine rg_nil ?_
              exact hK _ ⟨rfl, rfl, rfl, dn_, trivial⟩
            · have g71 : (!(decide (((((t).sys).getD i br0).face) = ((((u).sys).getD i br0).face)))) = true := hg71
              try simp only [sC, bne_iff_ne, beq_iff_eq, ne_eq] at g71
              refine nF rfl rfl rfl ?_
              refine nF rfl rfl rfl ?_
              refine nF rfl rfl rfl ?_
              refine nF rfl rfl rfl ?_
              refine nF rfl rfl rfl ?_
              refine nF rfl rfl rfl ?_
              refine nF rfl rfl rfl ?_
              refine nF rfl rfl rfl ?_
              refine nF rfl rfl rfl ?_
              refine nF rfl rfl rfl ?_
              refine nF rfl rfl rfl ?_
              refine nF rfl rfl rfl ?_
              refine nF rfl rfl rfl ?_
              refine n0 rfl (v_pickT ?_)
              refine NV.done ?_
              refine rg_nil ?_
              exact hK _ ⟨rfl, rfl, rfl, dn_, trivial⟩
          · refine go_condI (fun h86 => ?_) (fun h86 => ?_)
            · have c86 : ((!(decide (((((t).sys).getD i br0).face) = ((((u).sys).getD i br0).face)))) || (!(decide (((((t).sys).getD i br0).kids) = ((((u).sys).getD i br0).kids))))) = true := h86
              try simp only [sC, bne_iff_ne, beq_iff_eq, ne_eq] at c86
              refine go_seq ?_
              refine go_region ⟨_, Tryz.func13⟩ rfl ?_
              refine q0 rfl (o_assign ?_)
              refine rg_nil ?_
              refine ret1 Tryz.func13 Tryz.results13 wn_ () (by simp only [decide_eq_false (fun h : t = u => by subst h; simp at h86)]) (fun w hs => hs.none)
            · have c86 : ((!(decide (((((t).sys).getD i br0).face) = ((((u).sys).getD i br0).face)))) || (!(decide (((((t).sys).getD i br0).kids) = ((((u).sys).getD i br0).kids))))) = false := h86
              try simp only [sC, bne_iff_ne, beq_iff_eq, ne_eq] at c86
              refine go_skip ?_
              refine go_inBlock ?_
              refine go_region ⟨_, Tryz.func13⟩ rfl ?_
              refine q0 rfl (o_move ?_)
              refine q0 rfl (o_add ?_)
              refine q0 rfl (o_assign ?_)
              refine rg_nil ?_
              refine go_state (fun w hs => ?_) (next0 (i + 1) _ (⟨by omega, fun j hj => by rcases Nat.lt_succ_iff_lt_or_eq.mp hj with h | h; exact hsm j h; subst h; exact Br.ext'.mpr (by simpa using h86)⟩) (by omega) ⟨rfl, rfl, rfl, trivial⟩)
              exact (((hs.less (by simp +contextual)).perm perm1).perm perm1)
        · have c54 : (decide ((i : Int) < ((t).sys.length : Int))) = false := h54
          try simp only [sC, bne_iff_ne, beq_iff_eq, ne_eq] at c54
          refine go_exit rfl ?_
          refine go_seq ?_
          refine go_region ⟨_, Tryz.func13⟩ rfl ?_
          refine q0 rfl (o_assign ?_)
          refine rg_nil ?_
          refine ret1 Tryz.func13 Tryz.results13 wn_ () (by simp only [decide_eq_true (T.ext'.mpr ⟨hq1, hq2, hq3, hq4, hq5, list_eq_of (d := br0) hq6 (fun j hj => hsm j (by omega))⟩ : t = u)]) (fun w hs => hs.none)
theorem rsame : ∀ (t u : T) vr vk vs vr' vk' vs', Spec Tryz.prog 13 #[.agg (tc t vr vk vs).toArray, .agg (tc u vr' vk' vs').toArray] [RT t vr vk vs, RT u vr' vk' vs'] [] (fun _ : Unit => .bool (decide (t = u))) (fun _ => []) (fun _ => []) := fun t => (T.ind fun t ih u vr vk vs vr' vk' vs' => rsame_walk t vr vk vs u vr' vk' vs' ih : ∀ t : T, SameR t) t
end Go.Hy
