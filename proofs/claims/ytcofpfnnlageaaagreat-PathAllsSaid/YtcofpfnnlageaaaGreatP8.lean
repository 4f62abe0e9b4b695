/- Contracts of this program's functions and the laws that they need: a separation logic over the machine's rules, one theorem each (partly printed by a program of this repository). -/
import Derived.Test.YtcofpfnnlageaaaGreatP4
import Derived.Test.YtcofpfnnlageaaaGreatP5
import Derived.Test.YtcofpfnnlageaaaGreatP7
namespace Go.Hy
set_option linter.unusedVariables false
set_option linter.unusedSimpArgs false
set_option linter.unusedSectionVars false
open Go.Proofs
set_option linter.unusedVariables false
set_option linter.unusedSimpArgs false
set_option maxRecDepth 100000
theorem rcright (c : Cl) (hc : u32 c) : Spec Tryz.prog 89 #[keyV c] [] [] (fun _ : Unit => .bool ((right24 c))) (fun _ : Unit => []) (fun _ : Unit => []) := by
  refine spec_go (args := [keyV c]) Tryz.func89 Tryz.ntmps89 rfl (by exact Nat.le_of_ble_eq_true rfl) fun B hB => ?_
  have hc1 := hc.1
  have hc2 := hc.2
  refine go_seq ?_
  refine go_region ⟨_, Tryz.func89⟩ rfl ?_
  refine q0 rfl (o_box fun b1 => ?_)
  refine q0 rfl (o_assign ?_)
  refine rg_nil ?_
  refine go_seq ?_
  refine go_cutS ([(2, .bool ((decide (((c).pos) < 16777216)) && (decide (((c).neg) < 16777216))))]) (fun hK => ?_) (fun base => ?_)
  · refine go_region ⟨_, Tryz.func89⟩ rfl ?_
    refine q0 rfl (o_fa ?_)
    refine q0 rfl (o_ld ?_)
    refine q0 rfl (o_call Tryz.call101 (rmright ((c).pos) (by first | assumption | omega | (unfold in64 at *; omega) | (unfold reach at *; omega) | (simp_all; done))) (fun x5 => ?_))
    refine q0 rfl (o_move ?_)
    refine qI rfl rfl rfl (by conv => lhs; whnf) (fun hg6 => ?_) (fun hg6 => ?_)
    · have g6 : ((decide (((c).pos) < 16777216))) = true := hg6
      try simp only [decide_eq_true_eq, decide_eq_false_iff_not, Bool.and_eq_true, Bool.or_eq_true, Bool.not_eq_true', Bool.and_eq_false_iff, Bool.or_eq_false_iff, Bool.not_eq_false', bne_iff_ne, beq_iff_eq, ne_eq, not_and, Decidable.not_not, Bool.true_and, Bool.and_true, Bool.false_or, Bool.or_false] at g6
      refine o_fa ?_
      refine qT rfl rfl rfl (o_ld ?_)
      refine qT rfl rfl rfl (o_call Tryz.call101 (rmright ((c).neg) (by first | assumption | omega | (unfold in64 at *; omega) | (unfold reach at *; omega) | (simp_all; done))) (fun x9 => ?_))
      refine q0 rfl (o_pickT ?_)
      refine q0 rfl (o_assign ?_)
      refine rg_nil ?_
      exact hK _ ⟨(by first | rfl | ((conv => lhs; whnf); first | (simp_all [right24]; done) | (simp_all [right24]; omega))), trivial⟩
    · have g6 : ((decide (((c).pos) < 16777216))) = false := hg6
      try simp only [decide_eq_true_eq, decide_eq_false_iff_not, Bool.and_eq_true, Bool.or_eq_true, Bool.not_eq_true', Bool.and_eq_false_iff, Bool.or_eq_false_iff, Bool.not_eq_false', bne_iff_ne, beq_iff_eq, ne_eq, not_and, Decidable.not_not, Bool.true_and, Bool.and_true, Bool.false_or, Bool.or_false] at g6
      refine qF rfl rfl rfl ?_
      refine qF rfl rfl rfl ?_
      refine q0 rfl (o_pickF ?_)
      refine q0 rfl (o_assign ?_)
      refine rg_nil ?_
      exact hK _ ⟨(by first | rfl | ((conv => lhs; whnf); first | (simp_all [right24]; done) | (simp_all [right24]; omega))), trivial⟩
  · -- leaf 0: .bool ((decide (((c).pos) < 16777216)) && (decide (((c).neg) < 16777216)))
    refine ret1 Tryz.func89 Tryz.results89 (by first | ((conv => lhs; whnf); done) | rfl) () (by first | rfl | (simp_all [right24]; done) | (simp_all [right24]; omega)) (fun w hs => hs.none)
theorem rbelow (c : Cl) (d : Cl) (hc : u32 c) (hd : u32 d) : Spec Tryz.prog 102 #[keyV c, keyV d] [] [] (fun _ : Unit => .bool ((below c d))) (fun _ : Unit => []) (fun _ : Unit => []) := by
  refine spec_go (args := [keyV c, keyV d]) Tryz.func102 Tryz.ntmps102 rfl (by exact Nat.le_of_ble_eq_true rfl) fun B hB => ?_
  have hc1 := hc.1
  have hc2 := hc.2
  have hd1 := hd.1
  have hd2 := hd.2
  refine go_seq ?_
  refine go_region ⟨_, Tryz.func102⟩ rfl ?_
  refine q0 rfl (o_box fun b2 => ?_)
  refine q0 rfl (o_box fun b3 => ?_)
  refine q0 rfl (o_assign ?_)
  refine rg_nil ?_
  refine go_seq ?_
  refine go_cutS ([(4, .bool ((decide ((((c).pos) ||| ((d).pos)) = ((c).pos))) && (decide ((((c).neg) ||| ((d).neg)) = ((c).neg)))))]) (fun hK => ?_) (fun base => ?_)
  · refine go_region ⟨_, Tryz.func102⟩ rfl ?_
    refine q0 rfl (o_fa ?_)
    refine q0 rfl (o_ld ?_)
    refine q0 rfl (o_fa ?_)
    refine q0 rfl (o_ld ?_)
    refine q0 rfl (o_orU32 ?_ (a := ((c).pos)) (b := ((d).pos)))
    refine q0 rfl (o_fa ?_)
    refine q0 rfl (o_ld ?_)
    refine q0 rfl (o_eqU ?_ (a := (((c).pos) ||| ((d).pos))) (b := ((c).pos)))
    refine q0 rfl (o_move ?_)
    refine qI rfl rfl rfl (by conv => lhs; whnf) (fun hg13 => ?_) (fun hg13 => ?_)
    · have g13 : (decide ((((c).pos) ||| ((d).pos)) = ((c).pos))) = true := hg13
      try simp only [decide_eq_true_eq, decide_eq_false_iff_not, Bool.and_eq_true, Bool.or_eq_true, Bool.not_eq_true', Bool.and_eq_false_iff, Bool.or_eq_false_iff, Bool.not_eq_false', bne_iff_ne, beq_iff_eq, ne_eq, not_and, Decidable.not_not, Bool.true_and, Bool.and_true, Bool.false_or, Bool.or_false] at g13
      refine o_fa ?_
      refine qT rfl rfl rfl (o_ld ?_)
      refine qT rfl rfl rfl (o_fa ?_)
      refine qT rfl rfl rfl (o_ld ?_)
      refine qT rfl rfl rfl (o_orU32 ?_ (a := ((c).neg)) (b := ((d).neg)))
      refine qT rfl rfl rfl (o_fa ?_)
      refine qT rfl rfl rfl (o_ld ?_)
      refine qT rfl rfl rfl (o_eqU ?_ (a := (((c).neg) ||| ((d).neg))) (b := ((c).neg)))
      refine q0 rfl (o_pickT ?_)
      refine q0 rfl (o_assign ?_)
      refine rg_nil ?_
      exact hK _ ⟨(by first | rfl | ((conv => lhs; whnf); first | (simp_all [below]; done) | (simp_all [below]; omega))), trivial⟩
    · have g13 : (decide ((((c).pos) ||| ((d).pos)) = ((c).pos))) = false := hg13
      try simp only [decide_eq_true_eq, decide_eq_false_iff_not, Bool.and_eq_true, Bool.or_eq_true, Bool.not_eq_true', Bool.and_eq_false_iff, Bool.or_eq_false_iff, Bool.not_eq_false', bne_iff_ne, beq_iff_eq, ne_eq, not_and, Decidable.not_not, Bool.true_and, Bool.and_true, Bool.false_or, Bool.or_false] at g13
      refine qF rfl rfl rfl ?_
      refine qF rfl rfl rfl ?_
      refine qF rfl rfl rfl ?_
      refine qF rfl rfl rfl ?_
      refine qF rfl rfl rfl ?_
      refine qF rfl rfl rfl ?_
      refine qF rfl rfl rfl ?_
      refine q0 rfl (o_pickF ?_)
      refine q0 rfl (o_assign ?_)
      refine rg_nil ?_
      exact hK _ ⟨(by first | rfl | ((conv => lhs; whnf); first | (simp_all [below]; done) | (simp_all [below]; omega))), trivial⟩
  · -- leaf 0: .bool ((decide ((((c).pos) ||| ((d).pos)) = ((c).pos))) && (decide ((((c).neg) ||| ((d).neg)) = ((c).neg))))
    refine ret1 Tryz.func102 Tryz.results102 (by first | ((conv => lhs; whnf); done) | rfl) () (by first | rfl | (simp_all [below]; done) | (simp_all [below]; omega)) (fun w hs => hs.none)
theorem rless (c : Cl) (d : Cl) (hc : u32 c) (hd : u32 d) : Spec Tryz.prog 91 #[keyV c, keyV d] [] [] (fun _ : Unit => .bool ((lessC c d))) (fun _ : Unit => []) (fun _ : Unit => []) := by
  refine spec_go (args := [keyV c, keyV d]) Tryz.func91 Tryz.ntmps91 rfl (by exact Nat.le_of_ble_eq_true rfl) fun B hB => ?_
  have hc1 := hc.1
  have hc2 := hc.2
  have hd1 := hd.1
  have hd2 := hd.2
  refine go_seq ?_
  refine go_region ⟨_, Tryz.func91⟩ rfl ?_
  refine q0 rfl (o_box fun b2 => ?_)
  refine q0 rfl (o_box fun b3 => ?_)
  refine q0 rfl (o_assign ?_)
  refine rg_nil ?_
  refine go_seq ?_
  refine go_cutS ([(4, .bool ((decide (((c).pos) < ((d).pos))) || ((decide (((c).pos) = ((d).pos))) && (decide (((c).neg) < ((d).neg))))))]) (fun hK => ?_) (fun base => ?_)
  · refine go_region ⟨_, Tryz.func91⟩ rfl ?_
    refine q0 rfl (o_fa ?_)
    refine q0 rfl (o_ld ?_)
    refine q0 rfl (o_fa ?_)
    refine q0 rfl (o_ld ?_)
    refine q0 rfl (o_lssU ?_ (a := ((c).pos)) (b := ((d).pos)))
    refine q0 rfl (o_move ?_)
    refine qI rfl rfl rfl (by conv => lhs; whnf) (fun hg10 => ?_) (fun hg10 => ?_)
    · have g10 : (decide (((c).pos) < ((d).pos))) = false := hg10
      try simp only [decide_eq_true_eq, decide_eq_false_iff_not, Bool.and_eq_true, Bool.or_eq_true, Bool.not_eq_true', Bool.and_eq_false_iff, Bool.or_eq_false_iff, Bool.not_eq_false', bne_iff_ne, beq_iff_eq, ne_eq, not_and, Decidable.not_not, Bool.true_and, Bool.and_true, Bool.false_or, Bool.or_false] at g10
      refine o_fa ?_
      refine qT rfl rfl rfl (o_ld ?_)
      refine qT rfl rfl rfl (o_fa ?_)
      refine qT rfl rfl rfl (o_ld ?_)
      refine qT rfl rfl rfl (o_eqU ?_ (a := ((c).pos)) (b := ((d).pos)))
      refine qT rfl rfl rfl (o_move ?_)
      refine qI rfl rfl rfl (by conv => lhs; whnf) (fun hg16 => ?_) (fun hg16 => ?_)
      · have g16 : (decide (((c).pos) = ((d).pos))) = true := hg16
        try simp only [decide_eq_true_eq, decide_eq_false_iff_not, Bool.and_eq_true, Bool.or_eq_true, Bool.not_eq_true', Bool.and_eq_false_iff, Bool.or_eq_false_iff, Bool.not_eq_false', bne_iff_ne, beq_iff_eq, ne_eq, not_and, Decidable.not_not, Bool.true_and, Bool.and_true, Bool.false_or, Bool.or_false] at g16
        refine o_fa ?_
        refine qT rfl rfl rfl (o_ld ?_)
        refine qT rfl rfl rfl (o_fa ?_)
        refine qT rfl rfl rfl (o_ld ?_)
        refine qT rfl rfl rfl (o_lssU ?_ (a := ((c).neg)) (b := ((d).neg)))
        refine qT rfl rfl rfl (o_pickT ?_)
        refine q0 rfl (o_pickF ?_)
        refine q0 rfl (o_assign ?_)
        refine rg_nil ?_
        exact hK _ ⟨(by first | rfl | ((conv => lhs; whnf); first | (simp_all [lessC]; done) | (simp_all [lessC]; omega))), trivial⟩
      · have g16 : (decide (((c).pos) = ((d).pos))) = false := hg16
        try simp only [decide_eq_true_eq, decide_eq_false_iff_not, Bool.and_eq_true, Bool.or_eq_true, Bool.not_eq_true', Bool.and_eq_false_iff, Bool.or_eq_false_iff, Bool.not_eq_false', bne_iff_ne, beq_iff_eq, ne_eq, not_and, Decidable.not_not, Bool.true_and, Bool.and_true, Bool.false_or, Bool.or_false] at g16
        refine qF rfl rfl rfl ?_
        refine qF rfl rfl rfl ?_
        refine qF rfl rfl rfl ?_
        refine qF rfl rfl rfl ?_
        refine qT rfl rfl rfl (o_pickF ?_)
        refine q0 rfl (o_pickF ?_)
        refine q0 rfl (o_assign ?_)
        refine rg_nil ?_
        exact hK _ ⟨(by first | rfl | ((conv => lhs; whnf); first | (simp_all [lessC]; done) | (simp_all [lessC]; omega))), trivial⟩
    · have g10 : (decide (((c).pos) < ((d).pos))) = true := hg10
      try simp only [decide_eq_true_eq, decide_eq_false_iff_not, Bool.and_eq_true, Bool.or_eq_true, Bool.not_eq_true', Bool.and_eq_false_iff, Bool.or_eq_false_iff, Bool.not_eq_false', bne_iff_ne, beq_iff_eq, ne_eq, not_and, Decidable.not_not, Bool.true_and, Bool.and_true, Bool.false_or, Bool.or_false] at g10
      refine qF rfl rfl rfl ?_
      refine qF rfl rfl rfl ?_
      refine qF rfl rfl rfl ?_
      refine qF rfl rfl rfl ?_
      refine qF rfl rfl rfl ?_
      refine qU rfl rfl rfl ?_
      refine qU rfl rfl rfl ?_
      refine qU rfl rfl rfl ?_
      refine qU rfl rfl rfl ?_
      refine qU rfl rfl rfl ?_
      refine qF rfl rfl rfl ?_
      refine q0 rfl (o_pickT ?_)
      refine q0 rfl (o_assign ?_)
      refine rg_nil ?_
      exact hK _ ⟨(by first | rfl | ((conv => lhs; whnf); first | (simp_all [lessC]; done) | (simp_all [lessC]; omega))), trivial⟩
  · -- leaf 0: .bool ((decide (((c).pos) < ((d).pos))) || ((decide (((c).pos) = ((d).pos))) && (decide (((c).neg) < ((d).neg)))))
    refine ret1 Tryz.func91 Tryz.results91 (by first | ((conv => lhs; whnf); done) | rfl) () (by first | rfl | (simp_all [lessC]; done) | (simp_all [lessC]; omega)) (fun w hs => hs.none)
theorem rclash_spec (c : Cl) (hc : u32 c) : Spec Tryz.prog 83 #[keyV c] [] [] (fun _ : Unit => .bool ((rclash c))) (fun _ : Unit => []) (fun _ : Unit => []) := by
  refine spec_go (args := [keyV c]) Tryz.func83 Tryz.ntmps83 rfl (by exact Nat.le_of_ble_eq_true rfl) fun B hB => ?_
  have hc1 := hc.1
  have hc2 := hc.2
  refine go_seq ?_
  refine go_region ⟨_, Tryz.func83⟩ rfl ?_
  refine q0 rfl (o_box fun b1 => ?_)
  refine q0 rfl (o_assign ?_)
  refine rg_nil ?_
  refine go_seq ?_
  refine go_seq ?_
  refine go_region ⟨_, Tryz.func83⟩ rfl ?_
  refine q0 rfl (o_assign ?_)
  refine rg_nil ?_
  refine go_block ?_
  refine go_loopE (X := Nat) (fun s_ => s_ ≤ 24 ∧ ∀ j, j < s_ → (hasM c.pos (j : Int) && hasM c.neg (j : Int)) = false) (fun s_ => [(1, .pointer (some ⟨b1, 0, none⟩)), (3, .int .i64 ((s_ : Int)))]) (fun s_ G_ => G_) (fun s_ => [boxR b1 (clCells c) 89]) (fun s_ => 24 - s_) (0) (⟨by omega, fun j hj => by omega⟩) (by exact ⟨rfl, rfl, trivial⟩) ?_ ?_
  · exact fun w hs => hs
  · intro i base0 ⟨hi, hok⟩ next0
    refine go_seq ?_
    refine go_seq ?_
    refine go_region ⟨_, Tryz.func83⟩ rfl ?_
    refine q0 rfl (o_move ?_)
    refine q0 rfl (o_lss ?_)
    refine rg_nil ?_
    refine go_condI (fun h5 => ?_) (fun h5 => ?_)
    · have c5 : (decide ((i : Int) < 24)) = true := h5
      try simp only [decide_eq_true_eq, decide_eq_false_iff_not, Bool.and_eq_true, Bool.or_eq_true, Bool.not_eq_true', Bool.and_eq_false_iff, Bool.or_eq_false_iff, Bool.not_eq_false', bne_iff_ne, beq_iff_eq, ne_eq, not_and, Decidable.not_not, Bool.true_and, Bool.and_true, Bool.false_or, Bool.or_false] at c5
      refine go_skip ?_
      refine go_seq ?_
      refine go_block ?_
      refine go_seq ?_
      refine go_cutS ([(1, .pointer (some ⟨b1, 0, none⟩)), (3, .int .i64 ((i : Int))), (17, .bool ((hasM ((c).pos) (i : Int)) && (hasM ((c).neg) (i : Int))))]) (fun hK => ?_) (fun base => ?_)
      · refine go_region ⟨_, Tryz.func83⟩ rfl ?_
        refine q0 rfl (o_fa ?_)
        refine q0 rfl (o_ld ?_)
        refine q0 rfl (o_move ?_)
        refine q0 rfl (o_call Tryz.call76 (rhas ((c).pos) (i : Int) (by first | assumption | omega | (unfold in64 at *; omega) | (unfold reach at *; omega) | (simp_all; done))) (fun x11 => ?_))
        refine q0 rfl (o_move ?_)
        refine qI rfl rfl rfl (by conv => lhs; whnf) (fun hg12 => ?_) (fun hg12 => ?_)
        · have g12 : ((hasM ((c).pos) (i : Int))) = true := hg12
          try simp only [decide_eq_true_eq, decide_eq_false_iff_not, Bool.and_eq_true, Bool.or_eq_true, Bool.not_eq_true', Bool.and_eq_false_iff, Bool.or_eq_false_iff, Bool.not_eq_false', bne_iff_ne, beq_iff_eq, ne_eq, not_and, Decidable.not_not, Bool.true_and, Bool.and_true, Bool.false_or, Bool.or_false] at g12
          refine o_fa ?_
          refine qT rfl rfl rfl (o_ld ?_)
          refine qT rfl rfl rfl (o_move ?_)
          refine qT rfl rfl rfl (o_call Tryz.call76 (rhas ((c).neg) (i : Int) (by first | assumption | omega | (unfold in64 at *; omega) | (unfold reach at *; omega) | (simp_all; done))) (fun x16 => ?_))
          refine q0 rfl (o_pickT ?_)
          refine rg_nil ?_
          exact hK _ ⟨rfl, rfl, (by first | rfl | ((conv => lhs; whnf); first | (simp_all; done) | (simp_all; omega))), trivial⟩
        · have g12 : ((hasM ((c).pos) (i : Int))) = false := hg12
          try simp only [decide_eq_true_eq, decide_eq_false_iff_not, Bool.and_eq_true, Bool.or_eq_true, Bool.not_eq_true', Bool.and_eq_false_iff, Bool.or_eq_false_iff, Bool.not_eq_false', bne_iff_ne, beq_iff_eq, ne_eq, not_and, Decidable.not_not, Bool.true_and, Bool.and_true, Bool.false_or, Bool.or_false] at g12
          refine qF rfl rfl rfl ?_
          refine qF rfl rfl rfl ?_
          refine qF rfl rfl rfl ?_
          refine q0 rfl (o_pickF ?_)
          refine rg_nil ?_
          exact hK _ ⟨rfl, rfl, (by first | rfl | ((conv => lhs; whnf); first | (simp_all; done) | (simp_all; omega))), trivial⟩
      · refine go_condI (fun h17 => ?_) (fun h17 => ?_)
        · have c17 : ((hasM ((c).pos) (i : Int)) && (hasM ((c).neg) (i : Int))) = true := h17
          try simp only [decide_eq_true_eq, decide_eq_false_iff_not, Bool.and_eq_true, Bool.or_eq_true, Bool.not_eq_true', Bool.and_eq_false_iff, Bool.or_eq_false_iff, Bool.not_eq_false', bne_iff_ne, beq_iff_eq, ne_eq, not_and, Decidable.not_not, Bool.true_and, Bool.and_true, Bool.false_or, Bool.or_false] at c17
          refine go_seq ?_
          refine go_region ⟨_, Tryz.func83⟩ rfl ?_
          refine q0 rfl (o_assign ?_)
          refine rg_nil ?_
          -- leaf 0: .bool (true)
          have hb : (hasM c.pos (i : Int) && hasM c.neg (i : Int)) = true := by simpa using h17
          refine ret1 Tryz.func83 Tryz.results83 (by first | ((conv => lhs; whnf); done) | rfl) () (by rw [rclash, List.any_eq_true.mpr ⟨i, List.mem_range.mpr (by omega), hb⟩]) (fun w hs => hs.none)
        · have c17 : ((hasM ((c).pos) (i : Int)) && (hasM ((c).neg) (i : Int))) = false := h17
          try simp only [decide_eq_true_eq, decide_eq_false_iff_not, Bool.and_eq_true, Bool.or_eq_true, Bool.not_eq_true', Bool.and_eq_false_iff, Bool.or_eq_false_iff, Bool.not_eq_false', bne_iff_ne, beq_iff_eq, ne_eq, not_and, Decidable.not_not, Bool.true_and, Bool.and_true, Bool.false_or, Bool.or_false] at c17
          refine go_skip ?_
          refine go_inBlock ?_
          refine go_region ⟨_, Tryz.func83⟩ rfl ?_
          refine q0 rfl (o_move ?_)
          refine q0 rfl (o_add ?_)
          refine q0 rfl (o_assign ?_)
          refine rg_nil ?_
          have hb : (hasM c.pos (i : Int) && hasM c.neg (i : Int)) = false := by simpa using h17
          refine go_state (fun w hs => ?_) (next0 (i + 1) _ (⟨by omega, succ_inv hok hb⟩) (by omega) ⟨rfl, rfl, trivial⟩)
          exact (hs.less (by simp +contextual))
    · have c5 : (decide ((i : Int) < 24)) = false := h5
      try simp only [decide_eq_true_eq, decide_eq_false_iff_not, Bool.and_eq_true, Bool.or_eq_true, Bool.not_eq_true', Bool.and_eq_false_iff, Bool.or_eq_false_iff, Bool.not_eq_false', bne_iff_ne, beq_iff_eq, ne_eq, not_and, Decidable.not_not, Bool.true_and, Bool.and_true, Bool.false_or, Bool.or_false] at c5
      refine go_exit rfl ?_
      refine go_seq ?_
      refine go_region ⟨_, Tryz.func83⟩ rfl ?_
      refine q0 rfl (o_assign ?_)
      refine rg_nil ?_
      -- leaf 1: .bool (false)
      refine ret1 Tryz.func83 Tryz.results83 (by first | ((conv => lhs; whnf); done) | rfl) () (by rw [rclash, List.any_eq_false.mpr (fun j hj => by rw [hok j (by have := List.mem_range.mp hj; omega)]; decide)]) (fun w hs => hs.none)
theorem needless_eq (l : List Cl) (c : Cl) : needless l c = l.any fun d => !decide (d = c) && below c d := by
  unfold needless; congr 1; funext d; rw [show (decide (c = d)) = decide (d = c) from decide_eq_decide.mpr eq_comm]
theorem rneeded (l : List Cl) (a_l : SH) (c : Cl) (hc : u32 c) : Spec Tryz.prog 90 #[sl a_l (l.length), keyV c] [CL l a_l] [] (fun _ : Unit => .bool ((!needless l c))) (fun _ : Unit => []) (fun _ : Unit => []) := by
  refine spec_go (args := [sl a_l (l.length), keyV c]) Tryz.func90 Tryz.ntmps90 rfl (by exact Nat.le_of_ble_eq_true rfl) fun B hB => ?_
  refine go_openCL (l := l) (a := a_l) (fun hl1 hA1 hU1 => ?_)
  have hc1 := hc.1
  have hc2 := hc.2
  refine go_seq ?_
  refine go_region ⟨_, Tryz.func90⟩ rfl ?_
  refine q0 rfl (o_box fun b3 => ?_)
  refine q0 rfl (o_assign ?_)
  refine rg_nil ?_
  refine go_seq ?_
  refine go_seq ?_
  refine go_region ⟨_, Tryz.func90⟩ rfl ?_
  refine q0 rfl (o_assign ?_)
  refine rg_nil ?_
  refine go_block ?_
  refine go_loopE (X := Nat) (fun s_ => s_ ≤ l.length ∧ ∀ j, j < s_ → (!decide (l.getD j cl0 = c) && below c (l.getD j cl0)) = false) (fun s_ => [(0, sl a_l (l.length)), (3, .pointer (some ⟨b3, 0, none⟩)), (5, .int .i64 ((s_ : Int)))]) (fun s_ G_ => G_) (fun s_ => [boxR b3 (clCells c) 89]) (fun s_ => l.length - s_) (0) (⟨by omega, fun j hj => by omega⟩) (by exact ⟨rfl, rfl, rfl, trivial⟩) ?_ ?_
  · exact fun w hs => hs
  · intro i base0 ⟨hi, hok⟩ next0
    refine go_seq ?_
    refine go_seq ?_
    refine go_region ⟨_, Tryz.func90⟩ rfl ?_
    refine q0 rfl (o_move ?_)
    refine q0 rfl (o_move ?_)
    refine q0 rfl (o_len ?_)
    refine q0 rfl (o_lss ?_)
    refine rg_nil ?_
    refine go_condI (fun h9 => ?_) (fun h9 => ?_)
    · have c9 : (decide ((i : Int) < (l.length : Int))) = true := h9
      try simp only [decide_eq_true_eq, decide_eq_false_iff_not, Bool.and_eq_true, Bool.or_eq_true, Bool.not_eq_true', Bool.and_eq_false_iff, Bool.or_eq_false_iff, Bool.not_eq_false', bne_iff_ne, beq_iff_eq, ne_eq, not_and, Decidable.not_not, Bool.true_and, Bool.and_true, Bool.false_or, Bool.or_false] at c9
      have hu := hU1 _ (getD_mem (d := cl0) (show i < l.length by omega))
      have hu1 := hu.1
      have hu2 := hu.2
      refine go_skip ?_
      refine go_seq ?_
      refine go_block ?_
      refine go_seq ?_
      refine go_cutS ([(0, sl a_l (l.length)), (3, .pointer (some ⟨b3, 0, none⟩)), (5, .int .i64 ((i : Int))), (25, .bool ((!decide ((l.getD i cl0) = c)) && (below c (l.getD i cl0))))]) (fun hK => ?_) (fun base => ?_)
      · refine go_draw (tn := false) (A := [0, 0, 3, 7, 0, 31, 63, 127, 127, 127, 895, 1919, 4095, 8191]) (l := [0, 1, 2, 3, 4, 5, 6, 7, 8, 9, 10, 11, 12, 13]) (fin := []) Tab.mixed ⟨_, Tryz.func90⟩ (by rfl) ?_
        refine n0 rfl (v_move ?_)
        refine n0 rfl (v_move ?_)
        obtain ⟨bk2, o2, hav2⟩ := hA1 (by omega)
        refine n0 rfl (v_ixN ?_ (j := i))
        refine n0 rfl (v_ldC ?_)
        refine n0 rfl (v_lds ?_)
        refine n0 rfl (v_neC ?_ (c := (l.getD i cl0)) (c' := c))
        refine n0 rfl (v_move ?_)
        refine nI rfl rfl rfl (by conv => lhs; whnf) (fun hg18 => ?_) (fun hg18 => ?_)
        · have g18 : (!decide ((l.getD i cl0) = c)) = true := hg18
          try simp only [decide_eq_true_eq, decide_eq_false_iff_not, Bool.and_eq_true, Bool.or_eq_true, Bool.not_eq_true', Bool.and_eq_false_iff, Bool.or_eq_false_iff, Bool.not_eq_false', bne_iff_ne, beq_iff_eq, ne_eq, not_and, Decidable.not_not, Bool.true_and, Bool.and_true, Bool.false_or, Bool.or_false] at g18
          refine v_lds ?_
          refine nT rfl rfl rfl (v_move ?_)
          refine nT rfl rfl rfl (v_move ?_)
          refine nT rfl rfl rfl (v_ixN ?_ (j := i))
          refine nT rfl rfl rfl (v_ldC ?_)
          refine nT rfl rfl rfl (v_call Tryz.call102 (rbelow c (l.getD i cl0) (by first | assumption | omega | (unfold in64 at *; omega) | (unfold reach at *; omega) | (simp_all; done)) (by first | assumption | omega | (unfold in64 at *; omega) | (unfold reach at *; omega) | (simp_all; done))) (fun x24 => ?_))
          refine n0 rfl (v_pickT ?_)
          refine NV.done ?_
          refine rg_nil ?_
          exact hK _ ⟨rfl, rfl, rfl, (by first | rfl | ((conv => lhs; whnf); first | (simp_all; done) | (simp_all; omega))), trivial⟩
        · have g18 : (!decide ((l.getD i cl0) = c)) = false := hg18
          try simp only [decide_eq_true_eq, decide_eq_false_iff_not, Bool.and_eq_true, Bool.or_eq_true, Bool.not_eq_true', Bool.and_eq_false_iff, Bool.or_eq_false_iff, Bool.not_eq_false', bne_iff_ne, beq_iff_eq, ne_eq, not_and, Decidable.not_not, Bool.true_and, Bool.and_true, Bool.false_or, Bool.or_false] at g18
          refine nF rfl rfl rfl ?_
          refine nF rfl rfl rfl ?_
          refine nF rfl rfl rfl ?_
          refine nF rfl rfl rfl ?_
          refine nF rfl rfl rfl ?_
          refine n0 rfl (v_pickF ?_)
          refine NV.done ?_
          refine rg_nil ?_
          exact hK _ ⟨rfl, rfl, rfl, (by first | rfl | ((conv => lhs; whnf); first | (simp_all; done) | (simp_all; omega))), trivial⟩
      · refine go_condI (fun h25 => ?_) (fun h25 => ?_)
        · have c25 : ((!decide ((l.getD i cl0) = c)) && (below c (l.getD i cl0))) = true := h25
          try simp only [decide_eq_true_eq, decide_eq_false_iff_not, Bool.and_eq_true, Bool.or_eq_true, Bool.not_eq_true', Bool.and_eq_false_iff, Bool.or_eq_false_iff, Bool.not_eq_false', bne_iff_ne, beq_iff_eq, ne_eq, not_and, Decidable.not_not, Bool.true_and, Bool.and_true, Bool.false_or, Bool.or_false] at c25
          refine go_seq ?_
          refine go_region ⟨_, Tryz.func90⟩ rfl ?_
          refine q0 rfl (o_assign ?_)
          refine rg_nil ?_
          -- leaf 0: .bool (false)
          have hb : (!decide (l.getD i cl0 = c) && below c (l.getD i cl0)) = true := by simpa using h25
          refine ret1 Tryz.func90 Tryz.results90 (by first | ((conv => lhs; whnf); done) | rfl) () (by rw [needless_eq, any_true_at (d := cl0) (i := i) (by omega) hb]; rfl) (fun w hs => hs.none)
        · have c25 : ((!decide ((l.getD i cl0) = c)) && (below c (l.getD i cl0))) = false := h25
          try simp only [decide_eq_true_eq, decide_eq_false_iff_not, Bool.and_eq_true, Bool.or_eq_true, Bool.not_eq_true', Bool.and_eq_false_iff, Bool.or_eq_false_iff, Bool.not_eq_false', bne_iff_ne, beq_iff_eq, ne_eq, not_and, Decidable.not_not, Bool.true_and, Bool.and_true, Bool.false_or, Bool.or_false] at c25
          refine go_skip ?_
          refine go_inBlock ?_
          refine go_region ⟨_, Tryz.func90⟩ rfl ?_
          refine q0 rfl (o_move ?_)
          refine q0 rfl (o_add ?_)
          refine q0 rfl (o_assign ?_)
          refine rg_nil ?_
          have hb : (!decide (l.getD i cl0 = c) && below c (l.getD i cl0)) = false := by simpa using h25
          refine go_state (fun w hs => ?_) (next0 (i + 1) _ (⟨by omega, succ_inv hok hb⟩) (by omega) ⟨rfl, rfl, rfl, trivial⟩)
          exact (hs.less (by simp +contextual))
    · have c9 : (decide ((i : Int) < (l.length : Int))) = false := h9
      try simp only [decide_eq_true_eq, decide_eq_false_iff_not, Bool.and_eq_true, Bool.or_eq_true, Bool.not_eq_true', Bool.and_eq_false_iff, Bool.or_eq_false_iff, Bool.not_eq_false', bne_iff_ne, beq_iff_eq, ne_eq, not_and, Decidable.not_not, Bool.true_and, Bool.and_true, Bool.false_or, Bool.or_false] at c9
      refine go_exit rfl ?_
      refine go_seq ?_
      refine go_region ⟨_, Tryz.func90⟩ rfl ?_
      refine q0 rfl (o_assign ?_)
      refine rg_nil ?_
      -- leaf 1: .bool (true)
      refine ret1 Tryz.func90 Tryz.results90 (by first | ((conv => lhs; whnf); done) | rfl) () (by rw [needless_eq, any_false_of (d := cl0) (fun j hj => hok j (by omega))]; rfl) (fun w hs => hs.none)
theorem rsameC (l : List Cl) (a_l : SH) (m : List Cl) (a_m : SH)  : Spec Tryz.prog 48 #[sl a_l (l.length), sl a_m (m.length)] [CL l a_l, CL m a_m] [] (fun _ : Unit => .bool ((decide (l = m)))) (fun _ : Unit => []) (fun _ : Unit => []) := by
  refine spec_go (args := [sl a_l (l.length), sl a_m (m.length)]) Tryz.func48 Tryz.ntmps48 rfl (by exact Nat.le_of_ble_eq_true rfl) fun B hB => ?_
  refine go_openCL (l := l) (a := a_l) (fun hl1 hA1 hU1 => ?_)
  refine go_openCL (l := m) (a := a_m) (fun hl2 hA2 hU2 => ?_)
  refine go_seq ?_
  refine go_region ⟨_, Tryz.func48⟩ rfl ?_
  refine q0 rfl (o_assign ?_)
  refine rg_nil ?_
  refine go_seq ?_
  refine go_seq ?_
  refine go_region ⟨_, Tryz.func48⟩ rfl ?_
  refine q0 rfl (o_move ?_)
  refine q0 rfl (o_len ?_)
  refine q0 rfl (o_move ?_)
  refine q0 rfl (o_len ?_)
  refine q0 rfl (o_neI ?_)
  refine rg_nil ?_
  refine go_condI (fun h10 => ?_) (fun h10 => ?_)
  · have c10 : (decide ((l.length : Int) ≠ (m.length : Int))) = true := h10
    try simp only [decide_eq_true_eq, decide_eq_false_iff_not, Bool.and_eq_true, Bool.or_eq_true, Bool.not_eq_true', Bool.and_eq_false_iff, Bool.or_eq_false_iff, Bool.not_eq_false', bne_iff_ne, beq_iff_eq, ne_eq, not_and, Decidable.not_not, Bool.true_and, Bool.and_true, Bool.false_or, Bool.or_false] at c10
    have hne : ¬ l = m := fun e => by subst e; simp at h10
    refine go_seq ?_
    refine go_region ⟨_, Tryz.func48⟩ rfl ?_
    refine q0 rfl (o_assign ?_)
    refine rg_nil ?_
    -- leaf 0: .bool (false)
    refine ret1 Tryz.func48 Tryz.results48 (by first | ((conv => lhs; whnf); done) | rfl) () (by rw [decide_eq_false hne]) (fun w hs => hs.none)
  · have c10 : (decide ((l.length : Int) ≠ (m.length : Int))) = false := h10
    try simp only [decide_eq_true_eq, decide_eq_false_iff_not, Bool.and_eq_true, Bool.or_eq_true, Bool.not_eq_true', Bool.and_eq_false_iff, Bool.or_eq_false_iff, Bool.not_eq_false', bne_iff_ne, beq_iff_eq, ne_eq, not_and, Decidable.not_not, Bool.true_and, Bool.and_true, Bool.false_or, Bool.or_false] at c10
    have hlen : l.length = m.length := by simp at h10; omega
    refine go_skip ?_
    refine go_seq ?_
    refine go_seq ?_
    refine go_region ⟨_, Tryz.func48⟩ rfl ?_
    refine q0 rfl (o_assign ?_)
    refine rg_nil ?_
    refine go_block ?_
    refine go_loopE (X := Nat) (fun s_ => s_ ≤ l.length ∧ ∀ j, j < s_ → l.getD j cl0 = m.getD j cl0) (fun s_ => [(0, sl a_l (l.length)), (1, sl a_m (m.length)), (5, .int .i64 ((s_ : Int)))]) (fun s_ G_ => G_) (fun s_ => []) (fun s_ => l.length - s_) (0) (⟨by omega, fun j hj => by omega⟩) (by exact ⟨rfl, rfl, rfl, trivial⟩) ?_ ?_
    · exact fun w hs => hs
    · intro i base0 ⟨hi, hok⟩ next0
      refine go_seq ?_
      refine go_seq ?_
      refine go_region ⟨_, Tryz.func48⟩ rfl ?_
      refine q0 rfl (o_move ?_)
      refine q0 rfl (o_move ?_)
      refine q0 rfl (o_len ?_)
      refine q0 rfl (o_lss ?_)
      refine rg_nil ?_
      refine go_condI (fun h14 => ?_) (fun h14 => ?_)
      · have c14 : (decide ((i : Int) < (l.length : Int))) = true := h14
        try simp only [decide_eq_true_eq, decide_eq_false_iff_not, Bool.and_eq_true, Bool.or_eq_true, Bool.not_eq_true', Bool.and_eq_false_iff, Bool.or_eq_false_iff, Bool.not_eq_false', bne_iff_ne, beq_iff_eq, ne_eq, not_and, Decidable.not_not, Bool.true_and, Bool.and_true, Bool.false_or, Bool.or_false] at c14
        refine go_skip ?_
        refine go_seq ?_
        refine go_block ?_
        refine go_seq ?_
        refine go_draw (tn := false) (A := [0, 0, 3, 7, 0, 0, 48, 112, 255]) (l := [0, 1, 2, 3, 4, 5, 6, 7, 8]) (fin := []) Tab.mixed ⟨_, Tryz.func48⟩ (by rfl) ?_
        refine n0 rfl (v_move ?_)
        refine n0 rfl (v_move ?_)
        obtain ⟨bk3, o3, hav3⟩ := hA1 (by omega)
        refine n0 rfl (v_ixN ?_ (j := i))
        refine n0 rfl (v_ldC ?_)
        refine n0 rfl (v_move ?_)
        refine n0 rfl (v_move ?_)
        obtain ⟨bk4, o4, hav4⟩ := hA2 (by omega)
        refine n0 rfl (v_ixN ?_ (j := i))
        refine n0 rfl (v_ldC ?_)
        refine n0 rfl (v_neC ?_ (c := (l.getD i cl0)) (c' := (m.getD i cl0)))
        refine NV.done ?_
        refine rg_nil ?_
        refine go_condI (fun h25 => ?_) (fun h25 => ?_)
        · have c25 : (!decide ((l.getD i cl0) = (m.getD i cl0))) = true := h25
          try simp only [decide_eq_true_eq, decide_eq_false_iff_not, Bool.and_eq_true, Bool.or_eq_true, Bool.not_eq_true', Bool.and_eq_false_iff, Bool.or_eq_false_iff, Bool.not_eq_false', bne_iff_ne, beq_iff_eq, ne_eq, not_and, Decidable.not_not, Bool.true_and, Bool.and_true, Bool.false_or, Bool.or_false] at c25
          refine go_seq ?_
          refine go_region ⟨_, Tryz.func48⟩ rfl ?_
          refine q0 rfl (o_assign ?_)
          refine rg_nil ?_
          -- leaf 1: .bool (false)
          refine ret1 Tryz.func48 Tryz.results48 (by first | ((conv => lhs; whnf); done) | rfl) () (by rw [decide_eq_false (fun e => by subst e; simp at h25)]) (fun w hs => hs.none)
        · have c25 : (!decide ((l.getD i cl0) = (m.getD i cl0))) = false := h25
          try simp only [decide_eq_true_eq, decide_eq_false_iff_not, Bool.and_eq_true, Bool.or_eq_true, Bool.not_eq_true', Bool.and_eq_false_iff, Bool.or_eq_false_iff, Bool.not_eq_false', bne_iff_ne, beq_iff_eq, ne_eq, not_and, Decidable.not_not, Bool.true_and, Bool.and_true, Bool.false_or, Bool.or_false] at c25
          refine go_skip ?_
          refine go_inBlock ?_
          refine go_region ⟨_, Tryz.func48⟩ rfl ?_
          refine q0 rfl (o_move ?_)
          refine q0 rfl (o_add ?_)
          refine q0 rfl (o_assign ?_)
          refine rg_nil ?_
          have hb : l.getD i cl0 = m.getD i cl0 := by simpa using h25
          refine go_state (fun w hs => ?_) (next0 (i + 1) _ (⟨by omega, succ_inv hok hb⟩) (by omega) ⟨rfl, rfl, rfl, trivial⟩)
          exact (hs.less (by simp +contextual))
      · have c14 : (decide ((i : Int) < (l.length : Int))) = false := h14
        try simp only [decide_eq_true_eq, decide_eq_false_iff_not, Bool.and_eq_true, Bool.or_eq_true, Bool.not_eq_true', Bool.and_eq_false_iff, Bool.or_eq_false_iff, Bool.not_eq_false', bne_iff_ne, beq_iff_eq, ne_eq, not_and, Decidable.not_not, Bool.true_and, Bool.and_true, Bool.false_or, Bool.or_false] at c14
        refine go_exit rfl ?_
        refine go_seq ?_
        refine go_region ⟨_, Tryz.func48⟩ rfl ?_
        refine q0 rfl (o_assign ?_)
        refine rg_nil ?_
        -- leaf 2: .bool (true)
        refine ret1 Tryz.func48 Tryz.results48 (by first | ((conv => lhs; whnf); done) | rfl) () (by rw [decide_eq_true (list_eq_of hlen (fun j hj => hok j (by omega)))]) (fun w hs => hs.none)
theorem rleast (l : List Cl) (a_l : SH)  : Spec Tryz.prog 82 #[sl a_l (l.length)] [CL l a_l] [] (fun x : SH => .tuple #[sl x (leastF l).2.length, .int .i64 (leastF l).1]) (fun x : SH => [CL (leastF l).2 x]) (fun x : SH => []) := by
  refine spec_go (args := [sl a_l (l.length)]) Tryz.func82 Tryz.ntmps82 rfl (by exact Nat.le_of_ble_eq_true rfl) fun B hB => ?_
  refine go_openCL (l := l) (a := a_l) (fun hl1 hA1 hU1 => ?_)
  refine go_seq ?_
  refine go_region ⟨_, Tryz.func82⟩ rfl ?_
  refine q0 rfl (o_assign ?_)
  refine q0 rfl (o_assign ?_)
  refine rg_nil ?_
  refine go_seq ?_
  refine go_seq ?_
  refine go_region ⟨_, Tryz.func82⟩ rfl ?_
  refine q0 rfl (o_assign ?_)
  refine rg_nil ?_
  refine go_block ?_
  refine go_loopE (X := Nat) (fun s_ => s_ ≤ l.length ∧ ∀ j, j < s_ → right24 (l.getD j cl0) = true) (fun s_ => [(0, sl a_l (l.length)), (4, .int .i64 ((s_ : Int)))]) (fun s_ G_ => G_) (fun s_ => []) (fun s_ => l.length - s_) (0) (⟨by omega, fun j hj => by omega⟩) (by exact ⟨rfl, rfl, trivial⟩) ?_ ?_
  · exact fun w hs => hs
  · intro i base0 ⟨hi, hok⟩ next0
    refine go_seq ?_
    refine go_seq ?_
    refine go_region ⟨_, Tryz.func82⟩ rfl ?_
    refine q0 rfl (o_move ?_)
    refine q0 rfl (o_move ?_)
    refine q0 rfl (o_len ?_)
    refine q0 rfl (o_lss ?_)
    refine rg_nil ?_
    refine go_condI (fun h11 => ?_) (fun h11 => ?_)
    · have c11 : (decide ((i : Int) < (l.length : Int))) = true := h11
      try simp only [decide_eq_true_eq, decide_eq_false_iff_not, Bool.and_eq_true, Bool.or_eq_true, Bool.not_eq_true', Bool.and_eq_false_iff, Bool.or_eq_false_iff, Bool.not_eq_false', bne_iff_ne, beq_iff_eq, ne_eq, not_and, Decidable.not_not, Bool.true_and, Bool.and_true, Bool.false_or, Bool.or_false] at c11
      have hu := hU1 _ (getD_mem (d := cl0) (show i < l.length by omega))
      have hu1 := hu.1
      have hu2 := hu.2
      refine go_skip ?_
      refine go_seq ?_
      refine go_block ?_
      refine go_seq ?_
      refine go_region ⟨_, Tryz.func82⟩ rfl ?_
      refine q0 rfl (o_move ?_)
      refine q0 rfl (o_move ?_)
      obtain ⟨bk2, o2, hav2⟩ := hA1 (by omega)
      refine q0 rfl (o_ixN ?_ (j := i))
      refine q0 rfl (o_ldC ?_)
      refine q0 rfl (o_call Tryz.call89 (rcright (l.getD i cl0) (by first | assumption | omega | (unfold in64 at *; omega) | (unfold reach at *; omega) | (simp_all; done))) (fun x18 => ?_))
      refine q0 rfl (o_not ?_)
      refine rg_nil ?_
      refine go_condI (fun h19 => ?_) (fun h19 => ?_)
      · have c19 : (!(right24 (l.getD i cl0))) = true := h19
        try simp only [decide_eq_true_eq, decide_eq_false_iff_not, Bool.and_eq_true, Bool.or_eq_true, Bool.not_eq_true', Bool.and_eq_false_iff, Bool.or_eq_false_iff, Bool.not_eq_false', bne_iff_ne, beq_iff_eq, ne_eq, not_and, Decidable.not_not, Bool.true_and, Bool.and_true, Bool.false_or, Bool.or_false] at c19
        have hlf : leastF l = (2, []) := by rw [leastF, if_pos (all_false_at (d := cl0) (i := i) (by omega) (by simpa using h19))]
        refine go_seq ?_
        refine go_region ⟨_, Tryz.func82⟩ rfl ?_
        refine q0 rfl (o_assign ?_)
        refine q0 rfl (o_assign ?_)
        refine rg_nil ?_
        -- leaf 0: sl (none, 0) (0); .int .i64 (2)
        refine ret2 Tryz.func82 Tryz.results82 (by first | ((conv => lhs; whnf); done) | rfl) (by first | ((conv => lhs; whnf); done) | rfl) (none, 0) (by rw [hlf]; rfl) (fun w hs => by rw [hlf]; exact (hs.nilCL 0).bare.less (by simp))
      · have c19 : (!(right24 (l.getD i cl0))) = false := h19
        try simp only [decide_eq_true_eq, decide_eq_false_iff_not, Bool.and_eq_true, Bool.or_eq_true, Bool.not_eq_true', Bool.and_eq_false_iff, Bool.or_eq_false_iff, Bool.not_eq_false', bne_iff_ne, beq_iff_eq, ne_eq, not_and, Decidable.not_not, Bool.true_and, Bool.and_true, Bool.false_or, Bool.or_false] at c19
        refine go_skip ?_
        refine go_inBlock ?_
        refine go_region ⟨_, Tryz.func82⟩ rfl ?_
        refine q0 rfl (o_move ?_)
        refine q0 rfl (o_add ?_)
        refine q0 rfl (o_assign ?_)
        refine rg_nil ?_
        have hb : right24 (l.getD i cl0) = true := by simpa using h19
        refine go_state (fun w hs => ?_) (next0 (i + 1) _ (⟨by omega, succ_inv hok hb⟩) (by omega) ⟨rfl, rfl, trivial⟩)
        exact (hs.less (by simp +contextual))
    · have c11 : (decide ((i : Int) < (l.length : Int))) = false := h11
      try simp only [decide_eq_true_eq, decide_eq_false_iff_not, Bool.and_eq_true, Bool.or_eq_true, Bool.not_eq_true', Bool.and_eq_false_iff, Bool.or_eq_false_iff, Bool.not_eq_false', bne_iff_ne, beq_iff_eq, ne_eq, not_and, Decidable.not_not, Bool.true_and, Bool.and_true, Bool.false_or, Bool.or_false] at c11
      have hall : l.all right24 = true := all_true_of (d := cl0) (fun j hj => hok j (by omega))
      refine go_exit rfl ?_
      refine go_seq ?_
      refine go_region ⟨_, Tryz.func82⟩ rfl ?_
      refine q0 rfl (o_assign ?_)
      refine rg_nil ?_
      refine go_seq ?_
      refine go_seq ?_
      refine go_region ⟨_, Tryz.func82⟩ rfl ?_
      refine q0 rfl (o_assign ?_)
      refine rg_nil ?_
      refine go_block ?_
      refine go_loopE (X := Nat × SH) (fun s_ => s_.1 ≤ l.length) (fun s_ => [(0, sl a_l (l.length)), (5, sl s_.2 (((rlTo l s_.1)).length)), (6, .int .i64 ((s_.1 : Int)))]) (fun s_ G_ => CL (rlTo l s_.1) s_.2 :: G_) (fun s_ => []) (fun s_ => l.length - s_.1) (0, (none, 0)) (by omega) (by exact ⟨rfl, (by rw [rlTo_zero]; rfl), rfl, trivial⟩) ?_ ?_
      · exact fun w hs => by rw [rlTo_zero]; exact hs.nilCL 0
      · intro ⟨i, a⟩ base1 hi1 next1
        dsimp only at hi1 next1 ⊢
        refine go_openCL (l := (rlTo l i)) (a := a) (fun hl3 hA3 hU3 => ?_)
        have hrl := rlTo_len l i
        refine go_seq ?_
        refine go_seq ?_
        refine go_region ⟨_, Tryz.func82⟩ rfl ?_
        refine q0 rfl (o_move ?_)
        refine q0 rfl (o_move ?_)
        refine q0 rfl (o_len ?_)
        refine q0 rfl (o_lss ?_)
        refine rg_nil ?_
        refine go_condI (fun h23 => ?_) (fun h23 => ?_)
        · have c23 : (decide ((i : Int) < (l.length : Int))) = true := h23
          try simp only [decide_eq_true_eq, decide_eq_false_iff_not, Bool.and_eq_true, Bool.or_eq_true, Bool.not_eq_true', Bool.and_eq_false_iff, Bool.or_eq_false_iff, Bool.not_eq_false', bne_iff_ne, beq_iff_eq, ne_eq, not_and, Decidable.not_not, Bool.true_and, Bool.and_true, Bool.false_or, Bool.or_false] at c23
          have hu := hU1 _ (getD_mem (d := cl0) (show i < l.length by omega))
          have hu1 := hu.1
          have hu2 := hu.2
          refine go_skip ?_
          refine go_seq ?_
          refine go_block ?_
          refine go_seq ?_
          refine go_seq ?_
          refine go_region ⟨_, Tryz.func82⟩ rfl ?_
          refine q0 rfl (o_move ?_)
          refine q0 rfl (o_move ?_)
          refine q0 rfl (o_move ?_)
          obtain ⟨bk4, o4, hav4⟩ := hA1 (by omega)
          refine q0 rfl (o_ixN ?_ (j := i))
          refine q0 rfl (o_ldC ?_)
          refine q0 rfl (o_call Tryz.call90 (rneeded l a_l (l.getD i cl0) (by first | assumption | omega | (unfold in64 at *; omega) | (unfold reach at *; omega) | (simp_all; done))) (fun x31 => ?_))
          refine q0 rfl (o_not ?_)
          refine rg_nil ?_
          refine go_condI (fun h32 => ?_) (fun h32 => ?_)
          · have c32 : (!(!needless l (l.getD i cl0))) = true := h32
            try simp only [decide_eq_true_eq, decide_eq_false_iff_not, Bool.and_eq_true, Bool.or_eq_true, Bool.not_eq_true', Bool.and_eq_false_iff, Bool.or_eq_false_iff, Bool.not_eq_false', bne_iff_ne, beq_iff_eq, ne_eq, not_and, Decidable.not_not, Bool.true_and, Bool.and_true, Bool.false_or, Bool.or_false] at c32
            refine go_exit rfl ?_
            refine go_region ⟨_, Tryz.func82⟩ rfl ?_
            refine q0 rfl (o_move ?_)
            refine q0 rfl (o_add ?_)
            refine q0 rfl (o_assign ?_)
            refine rg_nil ?_
            have hnx : rlTo l (i + 1) = rlTo l i := by rw [rlTo_succ (by omega), if_pos (by simpa using h32)]
            refine go_state (fun w hs => ?_) (next1 (i + 1, a) _ (by omega) (by (try simp only); omega) ⟨rfl, (by (conv => lhs; whnf); simp [sl, hnx]), rfl, trivial⟩)
            rw [hnx]; exact (hs.less (by simp +contextual))
          · have c32 : (!(!needless l (l.getD i cl0))) = false := h32
            try simp only [decide_eq_true_eq, decide_eq_false_iff_not, Bool.and_eq_true, Bool.or_eq_true, Bool.not_eq_true', Bool.and_eq_false_iff, Bool.or_eq_false_iff, Bool.not_eq_false', bne_iff_ne, beq_iff_eq, ne_eq, not_and, Decidable.not_not, Bool.true_and, Bool.and_true, Bool.false_or, Bool.or_false] at c32
            refine go_skip ?_
            refine go_seq ?_
            refine go_region ⟨_, Tryz.func82⟩ rfl ?_
            refine q0 rfl (o_assign ?_)
            refine rg_nil ?_
            refine go_seq ?_
            refine go_block ?_
            refine go_loopE (X := Nat) (fun s_ => s_ ≤ (rlTo l i).length ∧ ∀ j, j < s_ → lessC ((rlTo l i).getD j cl0) (l.getD i cl0) = true) (fun s_ => [(0, sl a_l (l.length)), (5, sl a (((rlTo l i)).length)), (6, .int .i64 ((i : Int))), (7, .int .i64 ((s_ : Int)))]) (fun s_ G_ => G_) (fun s_ => []) (fun s_ => (rlTo l i).length - s_) (0) (⟨by omega, fun j hj => by omega⟩) (by exact ⟨rfl, rfl, rfl, rfl, trivial⟩) ?_ ?_
            · exact fun w hs => hs
            · intro k base2 ⟨hk, hk2⟩ next2
              have hvo : k < (rlTo l i).length → u32 ((rlTo l i).getD k cl0) := fun h => hU1 _ (rlTo_in (getD_mem h))
              refine go_seq ?_
              refine go_seq ?_
              refine go_cutS ([(0, sl a_l (l.length)), (5, sl a (((rlTo l i)).length)), (6, .int .i64 ((i : Int))), (7, .int .i64 ((k : Int))), (47, .bool ((decide ((k : Int) < (((rlTo l i)).length : Int))) && (lessC (((rlTo l i)).getD k cl0) (l.getD i cl0))))]) (fun hK => ?_) (fun base => ?_)
              · refine go_draw (tn := false) (A := [0, 0, 2, 7, 15, 31, 31, 127, 255, 31, 31, 1567, 3615, 8191, 16383]) (l := [0, 1, 2, 3, 4, 5, 6, 7, 8, 9, 10, 11, 12, 13, 14]) (fin := []) Tab.mixed ⟨_, Tryz.func82⟩ (by rfl) ?_
                refine n0 rfl (v_move ?_)
                refine n0 rfl (v_move ?_)
                refine n0 rfl (v_len ?_)
                refine n0 rfl (v_lss ?_)
                refine n0 rfl (v_move ?_)
                refine nI rfl rfl rfl (by conv => lhs; whnf) (fun hg37 => ?_) (fun hg37 => ?_)
                · have g37 : (decide ((k : Int) < (((rlTo l i)).length : Int))) = true := hg37
                  try simp only [decide_eq_true_eq, decide_eq_false_iff_not, Bool.and_eq_true, Bool.or_eq_true, Bool.not_eq_true', Bool.and_eq_false_iff, Bool.or_eq_false_iff, Bool.not_eq_false', bne_iff_ne, beq_iff_eq, ne_eq, not_and, Decidable.not_not, Bool.true_and, Bool.and_true, Bool.false_or, Bool.or_false] at g37
                  refine v_move ?_
                  refine nT rfl rfl rfl (v_move ?_)
                  obtain ⟨bk5, o5, hav5⟩ := hA3 (by omega)
                  refine nT rfl rfl rfl (v_ixN ?_ (j := k))
                  refine nT rfl rfl rfl (v_ldC ?_)
                  refine nT rfl rfl rfl (v_move ?_)
                  refine nT rfl rfl rfl (v_move ?_)
                  refine nT rfl rfl rfl (v_ixN ?_ (j := i))
                  refine nT rfl rfl rfl (v_ldC ?_)
                  refine nT rfl rfl rfl (v_call Tryz.call91 (rless (((rlTo l i)).getD k cl0) (l.getD i cl0) (by first | assumption | omega | (unfold in64 at *; omega) | (unfold reach at *; omega) | (simp_all; done)) (by first | assumption | omega | (unfold in64 at *; omega) | (unfold reach at *; omega) | (simp_all; done))) (fun x46 => ?_))
                  refine n0 rfl (v_pickT ?_)
                  refine NV.done ?_
                  refine rg_nil ?_
                  exact hK _ ⟨rfl, rfl, rfl, rfl, (by first | rfl | ((conv => lhs; whnf); first | (simp_all; done) | (simp_all; omega))), trivial⟩
                · have g37 : (decide ((k : Int) < (((rlTo l i)).length : Int))) = false := hg37
                  try simp only [decide_eq_true_eq, decide_eq_false_iff_not, Bool.and_eq_true, Bool.or_eq_true, Bool.not_eq_true', Bool.and_eq_false_iff, Bool.or_eq_false_iff, Bool.not_eq_false', bne_iff_ne, beq_iff_eq, ne_eq, not_and, Decidable.not_not, Bool.true_and, Bool.and_true, Bool.false_or, Bool.or_false] at g37
                  refine nF rfl rfl rfl ?_
                  refine nF rfl rfl rfl ?_
                  refine nF rfl rfl rfl ?_
                  refine nF rfl rfl rfl ?_
                  refine nF rfl rfl rfl ?_
                  refine nF rfl rfl rfl ?_
                  refine nF rfl rfl rfl ?_
                  refine nF rfl rfl rfl ?_
                  refine n0 rfl (v_pickF ?_)
                  refine NV.done ?_
                  refine rg_nil ?_
                  exact hK _ ⟨rfl, rfl, rfl, rfl, (by first | rfl | ((conv => lhs; whnf); first | (simp_all; done) | (simp_all; omega))), trivial⟩
              · refine go_condI (fun h47 => ?_) (fun h47 => ?_)
                · have c47 : ((decide ((k : Int) < (((rlTo l i)).length : Int))) && (lessC (((rlTo l i)).getD k cl0) (l.getD i cl0))) = true := h47
                  try simp only [decide_eq_true_eq, decide_eq_false_iff_not, Bool.and_eq_true, Bool.or_eq_true, Bool.not_eq_true', Bool.and_eq_false_iff, Bool.or_eq_false_iff, Bool.not_eq_false', bne_iff_ne, beq_iff_eq, ne_eq, not_and, Decidable.not_not, Bool.true_and, Bool.and_true, Bool.false_or, Bool.or_false] at c47
                  refine go_skip ?_
                  refine go_block ?_
                  refine go_region ⟨_, Tryz.func82⟩ rfl ?_
                  refine q0 rfl (o_move ?_)
                  refine q0 rfl (o_add ?_)
                  refine q0 rfl (o_assign ?_)
                  refine rg_nil ?_
                  refine go_inBlock ?_
                  refine go_state (fun w hs => ?_) (next2 (k + 1) _ (⟨by omega, succ_inv hk2 c47.2⟩) (by omega) ⟨rfl, rfl, rfl, rfl, trivial⟩)
                  exact (hs.less (by simp +contextual))
                · have c47 : ((decide ((k : Int) < (((rlTo l i)).length : Int))) && (lessC (((rlTo l i)).getD k cl0) (l.getD i cl0))) = false := h47
                  try simp only [decide_eq_true_eq, decide_eq_false_iff_not, Bool.and_eq_true, Bool.or_eq_true, Bool.not_eq_true', Bool.and_eq_false_iff, Bool.or_eq_false_iff, Bool.not_eq_false', bne_iff_ne, beq_iff_eq, ne_eq, not_and, Decidable.not_not, Bool.true_and, Bool.and_true, Bool.false_or, Bool.or_false] at c47
                  have hlast : k < (rlTo l i).length → lessC ((rlTo l i).getD k cl0) (l.getD i cl0) = false := fun hlt => by simpa [hlt] using h47
                  refine go_exit rfl ?_
                  refine go_seq ?_
                  refine go_cutS ([(0, sl a_l (l.length)), (5, sl a (((rlTo l i)).length)), (6, .int .i64 ((i : Int))), (7, .int .i64 ((k : Int))), (64, .bool ((decide ((k : Int) = (((rlTo l i)).length : Int))) || (!decide ((((rlTo l i)).getD k cl0) = (l.getD i cl0)))))]) (fun hK => ?_) (fun base => ?_)
                  · refine go_draw (tn := false) (A := [0, 0, 2, 7, 15, 31, 31, 127, 255, 31, 31, 1567, 3615, 8191, 16383]) (l := [0, 1, 2, 3, 4, 5, 6, 7, 8, 9, 10, 11, 12, 13, 14]) (fin := []) Tab.mixed ⟨_, Tryz.func82⟩ (by rfl) ?_
                    refine n0 rfl (v_move ?_)
                    refine n0 rfl (v_move ?_)
                    refine n0 rfl (v_len ?_)
                    refine n0 rfl (v_eqI ?_)
                    refine n0 rfl (v_move ?_)
                    refine nI rfl rfl rfl (by conv => lhs; whnf) (fun hg54 => ?_) (fun hg54 => ?_)
                    · have g54 : (decide ((k : Int) = (((rlTo l i)).length : Int))) = false := hg54
                      try simp only [decide_eq_true_eq, decide_eq_false_iff_not, Bool.and_eq_true, Bool.or_eq_true, Bool.not_eq_true', Bool.and_eq_false_iff, Bool.or_eq_false_iff, Bool.not_eq_false', bne_iff_ne, beq_iff_eq, ne_eq, not_and, Decidable.not_not, Bool.true_and, Bool.and_true, Bool.false_or, Bool.or_false] at g54
                      refine v_move ?_
                      refine nT rfl rfl rfl (v_move ?_)
                      obtain ⟨bk6, o6, hav6⟩ := hA3 (by omega)
                      refine nT rfl rfl rfl (v_ixN ?_ (j := k))
                      refine nT rfl rfl rfl (v_ldC ?_)
                      refine nT rfl rfl rfl (v_move ?_)
                      refine nT rfl rfl rfl (v_move ?_)
                      refine nT rfl rfl rfl (v_ixN ?_ (j := i))
                      refine nT rfl rfl rfl (v_ldC ?_)
                      refine nT rfl rfl rfl (v_neC ?_ (c := (((rlTo l i)).getD k cl0)) (c' := (l.getD i cl0)))
                      refine n0 rfl (v_pickF ?_)
                      refine NV.done ?_
                      refine rg_nil ?_
                      exact hK _ ⟨rfl, rfl, rfl, rfl, (by first | rfl | ((conv => lhs; whnf); first | (simp_all; done) | (simp_all; omega))), trivial⟩
                    · have g54 : (decide ((k : Int) = (((rlTo l i)).length : Int))) = true := hg54
                      try simp only [decide_eq_true_eq, decide_eq_false_iff_not, Bool.and_eq_true, Bool.or_eq_true, Bool.not_eq_true', Bool.and_eq_false_iff, Bool.or_eq_false_iff, Bool.not_eq_false', bne_iff_ne, beq_iff_eq, ne_eq, not_and, Decidable.not_not, Bool.true_and, Bool.and_true, Bool.false_or, Bool.or_false] at g54
                      refine nF rfl rfl rfl ?_
                      refine nF rfl rfl rfl ?_
                      refine nF rfl rfl rfl ?_
                      refine nF rfl rfl rfl ?_
                      refine nF rfl rfl rfl ?_
                      refine nF rfl rfl rfl ?_
                      refine nF rfl rfl rfl ?_
                      refine nF rfl rfl rfl ?_
                      refine n0 rfl (v_pickT ?_)
                      refine NV.done ?_
                      refine rg_nil ?_
                      exact hK _ ⟨rfl, rfl, rfl, rfl, (by first | rfl | ((conv => lhs; whnf); first | (simp_all; done) | (simp_all; omega))), trivial⟩
                  · refine go_condI (fun h64 => ?_) (fun h64 => ?_)
                    · have c64 : ((decide ((k : Int) = (((rlTo l i)).length : Int))) || (!decide ((((rlTo l i)).getD k cl0) = (l.getD i cl0)))) = true := h64
                      try simp only [decide_eq_true_eq, decide_eq_false_iff_not, Bool.and_eq_true, Bool.or_eq_true, Bool.not_eq_true', Bool.and_eq_false_iff, Bool.or_eq_false_iff, Bool.not_eq_false', bne_iff_ne, beq_iff_eq, ne_eq, not_and, Decidable.not_not, Bool.true_and, Bool.and_true, Bool.false_or, Bool.or_false] at c64
                      have hcase : ¬ (k < (rlTo l i).length ∧ (rlTo l i).getD k cl0 = l.getD i cl0) := by rintro ⟨h1, h2⟩; rcases c64 with h3 | h3; omega; exact h3 h2
                      refine go_state (fun w hs => (hs.takeCL (l := rlTo l i) (a := a) k (by simp) (by omega))) ?_
                      refine go_state (fun w hs => (hs.dropCL (l := rlTo l i) (a := a) k (by simp) (by omega))) ?_
                      refine go_know (p := (rlTo l i).length ≤ a.2) (fun w hs => hs.capCL (by simp)) (fun hcap => ?_)
                      have htl : ((rlTo l i).take k).length = k := by simp; omega
                      have hdl : ((rlTo l i).drop k).length = (rlTo l i).length - k := by simp
                      refine go_draw (tn := true) (A := [0, 0, 0, 6, 15, 0, 0, 96, 224, 480, 1023, 0, 0, 6144, 16383, 32767]) (l := [1, 2, 3, 5, 6, 7, 8, 11, 12, 13, 0, 4, 9, 10, 14, 15]) (fin := []) Tab.mixed ⟨_, Tryz.func82⟩ (by rfl) ?_
                      refine n0 rfl (v_move ?_)
                      refine n0 rfl (v_move ?_)
                      refine n0 rfl (v_sliceHi ?_ (k := k))
                      refine n0 rfl (v_move ?_)
                      refine n0 rfl (v_move ?_)
                      refine n0 rfl (v_ixN ?_ (j := i))
                      refine n0 rfl (f_ldC ?_)
                      refine n0 rfl (v_move ?_)
                      refine n0 rfl (v_move ?_)
                      refine n0 rfl (v_sliceLo ?_ (k := k) (a := a))
                      refine n0 rfl (v_lit0 fun b65 => ?_)
                      refine nv_conv [_] [_] (fun _ _ _ hs => hs.boxRow (sz := 2) (m := 0) rfl (by decide)) ?_
                      refine n0 rfl (t_appCL (fun a69 => ?_) (by simp) (a := (some ⟨b65, 0, none⟩, 0)) (n' := 0) (b := a) (ls := ((rlTo l i).take k)) (hy := (by rw [List.length_take, Nat.min_eq_left (by omega)]; rfl)))
                      refine nv_conv [_] [_] (fun _ _ _ hs => hs.appFlatC (l := []) (m := ((rlTo l i).take k))) ?_
                      refine n0 rfl (v_lit1 fun b74 => ?_)
                      refine n0 rfl (t_appS (fun a75 => ?_) (a := a69) (n' := 0 + ((rlTo l i).take k).length))
                      refine nv_conv [_, _] [_] (fun _ _ _ hs => ((hs.perm perm1).drop).snocC (c := (l.getD i cl0))) ?_
                      refine n0 rfl (t_appCL (fun a79 => ?_) (by simp) (a := a75) (n' := 0 + ((rlTo l i).take k).length + 1) (b := (dropSH a 2 k)) (ls := ((rlTo l i).drop k)) (hy := (by rw [List.length_drop]; rfl)))
                      refine nv_conv [_] [_] (fun _ _ _ hs => hs.appFlatC (l := (([] ++ ((rlTo l i).take k)) ++ [(l.getD i cl0)])) (m := ((rlTo l i).drop k))) ?_
                      refine n0 rfl (v_assign ?_)
                      refine NV.done ?_
                      refine rg_nil ?_
                      refine go_inBlock ?_
                      refine go_region ⟨_, Tryz.func82⟩ rfl ?_
                      refine q0 rfl (o_move ?_)
                      refine q0 rfl (o_add ?_)
                      refine q0 rfl (o_assign ?_)
                      refine rg_nil ?_
                      have hnx : rlTo l (i + 1) = (rlTo l i).take k ++ [l.getD i cl0] ++ (rlTo l i).drop k := by rw [rlTo_succ (by omega), if_neg (by simpa using h32), insC_at (k := k) (by omega) hk2 hlast, if_neg hcase]
                      have hnl := rlTo_len l (i + 1)
                      have hll : (rlTo l (i + 1)).length = 0 + ((rlTo l i).take k).length + 1 + ((rlTo l i).drop k).length := by rw [hnx]; simp; omega
                      refine go_state (fun w hs => ?_) (next1 (i + 1, a79) _ (by omega) (by (try simp only); omega) ⟨rfl, (by (conv => lhs; whnf); rw [hll]; rfl), rfl, trivial⟩)
                      refine ((hs.settleCL (l := rlTo l (i + 1)) hB (by rw [hnx]; simp) (by rw [hll]) (by unfold reach at *; omega) (fun c hc => hU1 c (rlTo_in hc))).less (by simp +contextual))
                    · have c64 : ((decide ((k : Int) = (((rlTo l i)).length : Int))) || (!decide ((((rlTo l i)).getD k cl0) = (l.getD i cl0)))) = false := h64
                      try simp only [decide_eq_true_eq, decide_eq_false_iff_not, Bool.and_eq_true, Bool.or_eq_true, Bool.not_eq_true', Bool.and_eq_false_iff, Bool.or_eq_false_iff, Bool.not_eq_false', bne_iff_ne, beq_iff_eq, ne_eq, not_and, Decidable.not_not, Bool.true_and, Bool.and_true, Bool.false_or, Bool.or_false] at c64
                      have hcase : k < (rlTo l i).length ∧ (rlTo l i).getD k cl0 = l.getD i cl0 := by have h9 := h64; simp at h9; exact ⟨by omega, h9.2⟩
                      refine go_skip ?_
                      refine go_inBlock ?_
                      refine go_region ⟨_, Tryz.func82⟩ rfl ?_
                      refine q0 rfl (o_move ?_)
                      refine q0 rfl (o_add ?_)
                      refine q0 rfl (o_assign ?_)
                      refine rg_nil ?_
                      have hnx : rlTo l (i + 1) = rlTo l i := by rw [rlTo_succ (by omega), if_neg (by simpa using h32), insC_at (k := k) (by omega) hk2 hlast, if_pos hcase]
                      refine go_state (fun w hs => ?_) (next1 (i + 1, a) _ (by omega) (by (try simp only); omega) ⟨rfl, (by (conv => lhs; whnf); simp [sl, hnx]), rfl, trivial⟩)
                      rw [hnx]; exact (hs.less (by simp +contextual))
        · have c23 : (decide ((i : Int) < (l.length : Int))) = false := h23
          try simp only [decide_eq_true_eq, decide_eq_false_iff_not, Bool.and_eq_true, Bool.or_eq_true, Bool.not_eq_true', Bool.and_eq_false_iff, Bool.or_eq_false_iff, Bool.not_eq_false', bne_iff_ne, beq_iff_eq, ne_eq, not_and, Decidable.not_not, Bool.true_and, Bool.and_true, Bool.false_or, Bool.or_false] at c23
          have he : i = l.length := by omega
          have hrw : rlTo l i = refLeast l := by rw [he, rlTo_all]
          refine go_exit rfl ?_
          refine go_seq ?_
          refine go_seq ?_
          refine go_region ⟨_, Tryz.func82⟩ rfl ?_
          refine q0 rfl (o_move ?_)
          refine q0 rfl (o_len ?_)
          refine q0 rfl (o_gtr ?_)
          refine rg_nil ?_
          refine go_condI (fun h82 => ?_) (fun h82 => ?_)
          · have c82 : (decide (64 < (((rlTo l i)).length : Int))) = true := h82
            try simp only [decide_eq_true_eq, decide_eq_false_iff_not, Bool.and_eq_true, Bool.or_eq_true, Bool.not_eq_true', Bool.and_eq_false_iff, Bool.or_eq_false_iff, Bool.not_eq_false', bne_iff_ne, beq_iff_eq, ne_eq, not_and, Decidable.not_not, Bool.true_and, Bool.and_true, Bool.false_or, Bool.or_false] at c82
            have hlf : leastF l = (3, []) := by rw [leastF, if_neg (by rw [hall]; decide), if_pos (by rw [← hrw]; omega)]
            refine go_seq ?_
            refine go_region ⟨_, Tryz.func82⟩ rfl ?_
            refine q0 rfl (o_assign ?_)
            refine q0 rfl (o_assign ?_)
            refine rg_nil ?_
            -- leaf 1: sl (none, 0) (0); .int .i64 (3)
            refine ret2 Tryz.func82 Tryz.results82 (by first | ((conv => lhs; whnf); done) | rfl) (by first | ((conv => lhs; whnf); done) | rfl) (none, 0) (by rw [hlf]; rfl) (fun w hs => by rw [hlf]; exact (hs.nilCL 0).bare.less (by simp))
          · have c82 : (decide (64 < (((rlTo l i)).length : Int))) = false := h82
            try simp only [decide_eq_true_eq, decide_eq_false_iff_not, Bool.and_eq_true, Bool.or_eq_true, Bool.not_eq_true', Bool.and_eq_false_iff, Bool.or_eq_false_iff, Bool.not_eq_false', bne_iff_ne, beq_iff_eq, ne_eq, not_and, Decidable.not_not, Bool.true_and, Bool.and_true, Bool.false_or, Bool.or_false] at c82
            have hlf : leastF l = (0, refLeast l) := by rw [leastF, if_neg (by rw [hall]; decide), if_neg (by rw [← hrw]; omega)]
            refine go_skip ?_
            refine go_seq ?_
            refine go_region ⟨_, Tryz.func82⟩ rfl ?_
            refine q0 rfl (o_move ?_)
            refine q0 rfl (o_assign ?_)
            refine q0 rfl (o_assign ?_)
            refine rg_nil ?_
            -- leaf 2: sl a (((rlTo l i)).length); .int .i64 (0)
            refine ret2 Tryz.func82 Tryz.results82 (by first | ((conv => lhs; whnf); done) | rfl) (by first | ((conv => lhs; whnf); done) | rfl) a (by rw [hlf, ← hrw]; rfl) (fun w hs => by rw [hlf, ← hrw]; exact hs.bare.less (by simp))
theorem rfright (l : List Cl) (a_l : SH)  : Spec Tryz.prog 60 #[sl a_l (l.length)] [CL l a_l] [] (fun _ : Unit => .bool ((fRight l))) (fun _ : Unit => []) (fun _ : Unit => []) := by
  refine spec_go (args := [sl a_l (l.length)]) Tryz.func60 Tryz.ntmps60 rfl (by exact Nat.le_of_ble_eq_true rfl) fun B hB => ?_
  refine go_openCL (l := l) (a := a_l) (fun hl1 hA1 hU1 => ?_)
  refine go_seq ?_
  refine go_region ⟨_, Tryz.func60⟩ rfl ?_
  refine q0 rfl (o_assign ?_)
  refine rg_nil ?_
  refine go_seq ?_
  refine go_region ⟨_, Tryz.func60⟩ rfl ?_
  refine q0 rfl (o_move ?_)
  refine q0 rfl (o_call Tryz.call82 (rleast l a_l ) (fun x7 => ?_))
  refine q0 rfl (o_move ?_)
  refine q0 rfl (o_extract ?_)
  refine q0 rfl (o_extract ?_)
  refine q0 rfl (o_assign ?_)
  refine q0 rfl (o_assign ?_)
  refine rg_nil ?_
  refine go_seq ?_
  refine go_cutS ([(2, .bool ((decide (((leastF l).1) = 0)) && (decide (((leastF l).2) = l))))]) (fun hK => ?_) (fun base => ?_)
  · refine go_region ⟨_, Tryz.func60⟩ rfl ?_
    refine q0 rfl (o_move ?_)
    refine q0 rfl (o_eqI ?_)
    refine q0 rfl (o_move ?_)
    refine qI rfl rfl rfl (by conv => lhs; whnf) (fun hg12 => ?_) (fun hg12 => ?_)
    · have g12 : (decide (((leastF l).1) = 0)) = true := hg12
      try simp only [decide_eq_true_eq, decide_eq_false_iff_not, Bool.and_eq_true, Bool.or_eq_true, Bool.not_eq_true', Bool.and_eq_false_iff, Bool.or_eq_false_iff, Bool.not_eq_false', bne_iff_ne, beq_iff_eq, ne_eq, not_and, Decidable.not_not, Bool.true_and, Bool.and_true, Bool.false_or, Bool.or_false] at g12
      refine o_move ?_
      refine qT rfl rfl rfl (o_move ?_)
      refine qT rfl rfl rfl (o_call Tryz.call48 (rsameC ((leastF l).2) x7 l a_l ) (fun x15 => ?_))
      refine q0 rfl (o_pickT ?_)
      refine q0 rfl (o_assign ?_)
      refine rg_nil ?_
      exact hK _ ⟨(by first | rfl | ((conv => lhs; whnf); first | (simp_all; done) | (simp_all; omega))), trivial⟩
    · have g12 : (decide (((leastF l).1) = 0)) = false := hg12
      try simp only [decide_eq_true_eq, decide_eq_false_iff_not, Bool.and_eq_true, Bool.or_eq_true, Bool.not_eq_true', Bool.and_eq_false_iff, Bool.or_eq_false_iff, Bool.not_eq_false', bne_iff_ne, beq_iff_eq, ne_eq, not_and, Decidable.not_not, Bool.true_and, Bool.and_true, Bool.false_or, Bool.or_false] at g12
      refine qF rfl rfl rfl ?_
      refine qF rfl rfl rfl ?_
      refine q0 rfl (o_pickF ?_)
      refine q0 rfl (o_assign ?_)
      refine rg_nil ?_
      exact hK _ ⟨(by first | rfl | ((conv => lhs; whnf); first | (simp_all; done) | (simp_all; omega))), trivial⟩
  · -- leaf 0: .bool ((decide (((leastF l).1) = 0)) && (decide (((leastF l).2) = l)))
    refine ret1 Tryz.func60 Tryz.results60 (by first | ((conv => lhs; whnf); done) | rfl) () (by rw [← leastF_right]) (fun w hs => hs.none)
theorem rfaceright (l : List Cl) (a_l : SH)  : Spec Tryz.prog 61 #[sl a_l (l.length)] [CL l a_l] [] (fun _ : Unit => .bool ((faceRight l))) (fun _ : Unit => []) (fun _ : Unit => []) := by
  refine spec_go (args := [sl a_l (l.length)]) Tryz.func61 Tryz.ntmps61 rfl (by exact Nat.le_of_ble_eq_true rfl) fun B hB => ?_
  refine go_openCL (l := l) (a := a_l) (fun hl1 hA1 hU1 => ?_)
  refine go_seq ?_
  refine go_region ⟨_, Tryz.func61⟩ rfl ?_
  refine q0 rfl (o_assign ?_)
  refine rg_nil ?_
  refine go_seq ?_
  refine go_seq ?_
  refine go_region ⟨_, Tryz.func61⟩ rfl ?_
  refine q0 rfl (o_move ?_)
  refine q0 rfl (o_call Tryz.call60 (rfright l a_l ) (fun x5 => ?_))
  refine q0 rfl (o_not ?_)
  refine rg_nil ?_
  refine go_condI (fun h6 => ?_) (fun h6 => ?_)
  · have c6 : (!(fRight l)) = true := h6
    try simp only [decide_eq_true_eq, decide_eq_false_iff_not, Bool.and_eq_true, Bool.or_eq_true, Bool.not_eq_true', Bool.and_eq_false_iff, Bool.or_eq_false_iff, Bool.not_eq_false', bne_iff_ne, beq_iff_eq, ne_eq, not_and, Decidable.not_not, Bool.true_and, Bool.and_true, Bool.false_or, Bool.or_false] at c6
    refine go_seq ?_
    refine go_region ⟨_, Tryz.func61⟩ rfl ?_
    refine q0 rfl (o_assign ?_)
    refine rg_nil ?_
    -- leaf 0: .bool (false)
    refine ret1 Tryz.func61 Tryz.results61 (by first | ((conv => lhs; whnf); done) | rfl) () (by rw [faceRight, show fRight l = false by simpa using h6]; rfl) (fun w hs => hs.none)
  · have c6 : (!(fRight l)) = false := h6
    try simp only [decide_eq_true_eq, decide_eq_false_iff_not, Bool.and_eq_true, Bool.or_eq_true, Bool.not_eq_true', Bool.and_eq_false_iff, Bool.or_eq_false_iff, Bool.not_eq_false', bne_iff_ne, beq_iff_eq, ne_eq, not_and, Decidable.not_not, Bool.true_and, Bool.and_true, Bool.false_or, Bool.or_false] at c6
    have hfr : fRight l = true := by simpa using h6
    have hal : l.all right24 = true := by unfold fRight at hfr; simp only [Bool.and_eq_true] at hfr; exact hfr.1.1.1
    refine go_skip ?_
    refine go_seq ?_
    refine go_seq ?_
    refine go_region ⟨_, Tryz.func61⟩ rfl ?_
    refine q0 rfl (o_assign ?_)
    refine rg_nil ?_
    refine go_block ?_
    refine go_loopE (X := Nat) (fun s_ => s_ ≤ l.length ∧ ∀ j, j < s_ → clash (l.getD j cl0) = false) (fun s_ => [(0, sl a_l (l.length)), (3, .int .i64 ((s_ : Int)))]) (fun s_ G_ => G_) (fun s_ => []) (fun s_ => l.length - s_) (0) (⟨by omega, fun j hj => by omega⟩) (by exact ⟨rfl, rfl, trivial⟩) ?_ ?_
    · exact fun w hs => hs
    · intro i base0 ⟨hi, hok⟩ next0
      refine go_seq ?_
      refine go_seq ?_
      refine go_region ⟨_, Tryz.func61⟩ rfl ?_
      refine q0 rfl (o_move ?_)
      refine q0 rfl (o_move ?_)
      refine q0 rfl (o_len ?_)
      refine q0 rfl (o_lss ?_)
      refine rg_nil ?_
      refine go_condI (fun h10 => ?_) (fun h10 => ?_)
      · have c10 : (decide ((i : Int) < (l.length : Int))) = true := h10
        try simp only [decide_eq_true_eq, decide_eq_false_iff_not, Bool.and_eq_true, Bool.or_eq_true, Bool.not_eq_true', Bool.and_eq_false_iff, Bool.or_eq_false_iff, Bool.not_eq_false', bne_iff_ne, beq_iff_eq, ne_eq, not_and, Decidable.not_not, Bool.true_and, Bool.and_true, Bool.false_or, Bool.or_false] at c10
        have hu := hU1 _ (getD_mem (d := cl0) (show i < l.length by omega))
        have hu1 := hu.1
        have hu2 := hu.2
        have hr24 : right24 (l.getD i cl0) = true := List.all_eq_true.mp hal _ (getD_mem (by omega))
        refine go_skip ?_
        refine go_seq ?_
        refine go_block ?_
        refine go_seq ?_
        refine go_region ⟨_, Tryz.func61⟩ rfl ?_
        refine q0 rfl (o_move ?_)
        refine q0 rfl (o_move ?_)
        obtain ⟨bk2, o2, hav2⟩ := hA1 (by omega)
        refine q0 rfl (o_ixN ?_ (j := i))
        refine q0 rfl (o_ldC ?_)
        refine q0 rfl (o_call Tryz.call83 (rclash_spec (l.getD i cl0) (by first | assumption | omega | (unfold in64 at *; omega) | (unfold reach at *; omega) | (simp_all; done))) (fun x17 => ?_))
        refine rg_nil ?_
        refine go_condI (fun h17 => ?_) (fun h17 => ?_)
        · have c17 : ((rclash (l.getD i cl0))) = true := h17
          try simp only [decide_eq_true_eq, decide_eq_false_iff_not, Bool.and_eq_true, Bool.or_eq_true, Bool.not_eq_true', Bool.and_eq_false_iff, Bool.or_eq_false_iff, Bool.not_eq_false', bne_iff_ne, beq_iff_eq, ne_eq, not_and, Decidable.not_not, Bool.true_and, Bool.and_true, Bool.false_or, Bool.or_false] at c17
          refine go_seq ?_
          refine go_region ⟨_, Tryz.func61⟩ rfl ?_
          refine q0 rfl (o_assign ?_)
          refine rg_nil ?_
          -- leaf 1: .bool (false)
          have hb : clash (l.getD i cl0) = true := by rw [← rclash_eq hr24]; simpa using h17
          refine ret1 Tryz.func61 Tryz.results61 (by first | ((conv => lhs; whnf); done) | rfl) () (by rw [faceRight, any_true_at (d := cl0) (i := i) (by omega) hb]; simp) (fun w hs => hs.none)
        · have c17 : ((rclash (l.getD i cl0))) = false := h17
          try simp only [decide_eq_true_eq, decide_eq_false_iff_not, Bool.and_eq_true, Bool.or_eq_true, Bool.not_eq_true', Bool.and_eq_false_iff, Bool.or_eq_false_iff, Bool.not_eq_false', bne_iff_ne, beq_iff_eq, ne_eq, not_and, Decidable.not_not, Bool.true_and, Bool.and_true, Bool.false_or, Bool.or_false] at c17
          refine go_skip ?_
          refine go_inBlock ?_
          refine go_region ⟨_, Tryz.func61⟩ rfl ?_
          refine q0 rfl (o_move ?_)
          refine q0 rfl (o_add ?_)
          refine q0 rfl (o_assign ?_)
          refine rg_nil ?_
          have hb : clash (l.getD i cl0) = false := by rw [← rclash_eq hr24]; simpa using h17
          refine go_state (fun w hs => ?_) (next0 (i + 1) _ (⟨by omega, succ_inv hok hb⟩) (by omega) ⟨rfl, rfl, trivial⟩)
          exact (hs.less (by simp +contextual))
      · have c10 : (decide ((i : Int) < (l.length : Int))) = false := h10
        try simp only [decide_eq_true_eq, decide_eq_false_iff_not, Bool.and_eq_true, Bool.or_eq_true, Bool.not_eq_true', Bool.and_eq_false_iff, Bool.or_eq_false_iff, Bool.not_eq_false', bne_iff_ne, beq_iff_eq, ne_eq, not_and, Decidable.not_not, Bool.true_and, Bool.and_true, Bool.false_or, Bool.or_false] at c10
        refine go_exit rfl ?_
        refine go_seq ?_
        refine go_region ⟨_, Tryz.func61⟩ rfl ?_
        refine q0 rfl (o_assign ?_)
        refine rg_nil ?_
        -- leaf 2: .bool (true)
        refine ret1 Tryz.func61 Tryz.results61 (by first | ((conv => lhs; whnf); done) | rfl) () (by rw [faceRight, hfr, any_false_of (d := cl0) (fun j hj => hok j (by omega))]; rfl) (fun w hs => hs.none)
def dimsB (l : List Cl) (i k : Nat) : Bool := (orUpto l k).testBit i
theorem dimsB_zero (l : List Cl) (i : Nat) : dimsB l i 0 = false := by simp [dimsB, orUpto]
theorem dimsB_succ {l : List Cl} {i k : Nat} (hi : i < 24) (h : k < l.length) : dimsB l i (k + 1) = ((dimsB l i k || hasM (l.getD k cl0).pos (i : Int)) || hasM (l.getD k cl0).neg (i : Int)) := by
  unfold dimsB; rw [orUpto_succ h, Nat.testBit_or, Nat.testBit_or]; simp only [hasM]; rw [decide_eq_true (show (0 : Int) ≤ (i : Int) by omega), decide_eq_true (show (i : Int) < 24 by omega)]; simp [Bool.or_assoc]
theorem rfdims (l : List Cl) (a_l : SH)  : Spec Tryz.prog 77 #[sl a_l (l.length)] [CL l a_l] [] (fun _ : Unit => .int .u32 (((fDims l) : Nat) : Int)) (fun _ : Unit => []) (fun _ : Unit => []) := by
  refine spec_go (args := [sl a_l (l.length)]) Tryz.func77 Tryz.ntmps77 rfl (by exact Nat.le_of_ble_eq_true rfl) fun B hB => ?_
  refine go_openCL (l := l) (a := a_l) (fun hl1 hA1 hU1 => ?_)
  refine go_seq ?_
  refine go_region ⟨_, Tryz.func77⟩ rfl ?_
  refine q0 rfl (o_assign ?_)
  refine rg_nil ?_
  refine go_seq ?_
  refine go_region ⟨_, Tryz.func77⟩ rfl ?_
  refine q0 rfl (o_assign ?_)
  refine rg_nil ?_
  refine go_seq ?_
  refine go_seq ?_
  refine go_region ⟨_, Tryz.func77⟩ rfl ?_
  refine q0 rfl (o_assign ?_)
  refine rg_nil ?_
  refine go_block ?_
  refine go_loopE (X := Nat × SH) (fun s_ => s_.1 ≤ 24) (fun s_ => [(0, sl a_l (l.length)), (3, sl s_.2 ((listTo (orUpto l l.length) s_.1).length)), (4, .int .i64 ((s_.1 : Int)))]) (fun s_ G_ => G_) (fun s_ => [rowS 1 3 s_.2 ((listTo (orUpto l l.length) s_.1).length) (intFlat (listTo (orUpto l l.length) s_.1))]) (fun s_ => 24 - s_.1) (0, (none, 0)) (by omega) (by exact ⟨rfl, rfl, rfl, trivial⟩) ?_ ?_
  · exact fun w hs => (hs.rowS0 1 3)
  · intro ⟨i, a⟩ base0 hi0 next0
    dsimp only at hi0 next0 ⊢
    have hln := listTo_len (orUpto l l.length) i
    refine go_seq ?_
    refine go_seq ?_
    refine go_region ⟨_, Tryz.func77⟩ rfl ?_
    refine q0 rfl (o_move ?_)
    refine q0 rfl (o_lss ?_)
    refine rg_nil ?_
    refine go_condI (fun h8 => ?_) (fun h8 => ?_)
    · have c8 : (decide ((i : Int) < 24)) = true := h8
      try simp only [decide_eq_true_eq, decide_eq_false_iff_not, Bool.and_eq_true, Bool.or_eq_true, Bool.not_eq_true', Bool.and_eq_false_iff, Bool.or_eq_false_iff, Bool.not_eq_false', bne_iff_ne, beq_iff_eq, ne_eq, not_and, Decidable.not_not, Bool.true_and, Bool.and_true, Bool.false_or, Bool.or_false] at c8
      refine go_skip ?_
      refine go_seq ?_
      refine go_block ?_
      refine go_seq ?_
      refine go_region ⟨_, Tryz.func77⟩ rfl ?_
      refine q0 rfl (o_assign ?_)
      refine rg_nil ?_
      refine go_seq ?_
      refine go_seq ?_
      refine go_region ⟨_, Tryz.func77⟩ rfl ?_
      refine q0 rfl (o_assign ?_)
      refine rg_nil ?_
      refine go_block ?_
      refine go_loopE (X := Nat) (fun s_ => s_ ≤ l.length) (fun s_ => [(0, sl a_l (l.length)), (3, sl a ((listTo (orUpto l l.length) i).length)), (4, .int .i64 ((i : Int))), (5, .bool ((dimsB l i s_))), (6, .int .i64 ((s_ : Int)))]) (fun s_ G_ => G_) (fun s_ => [rowS 1 3 a ((listTo (orUpto l l.length) i).length) (intFlat (listTo (orUpto l l.length) i))]) (fun s_ => l.length - s_) (0) (by omega) (by exact ⟨rfl, rfl, rfl, (by rw [dimsB_zero]; rfl), rfl, trivial⟩) ?_ ?_
      · exact fun w hs => hs
      · intro k base1 hi1 next1
        refine go_seq ?_
        refine go_seq ?_
        refine go_region ⟨_, Tryz.func77⟩ rfl ?_
        refine q0 rfl (o_move ?_)
        refine q0 rfl (o_move ?_)
        refine q0 rfl (o_len ?_)
        refine q0 rfl (o_lss ?_)
        refine rg_nil ?_
        refine go_condI (fun h14 => ?_) (fun h14 => ?_)
        · have c14 : (decide ((k : Int) < (l.length : Int))) = true := h14
          try simp only [decide_eq_true_eq, decide_eq_false_iff_not, Bool.and_eq_true, Bool.or_eq_true, Bool.not_eq_true', Bool.and_eq_false_iff, Bool.or_eq_false_iff, Bool.not_eq_false', bne_iff_ne, beq_iff_eq, ne_eq, not_and, Decidable.not_not, Bool.true_and, Bool.and_true, Bool.false_or, Bool.or_false] at c14
          have hu := hU1 _ (getD_mem (d := cl0) (show k < l.length by omega))
          have hu1 := hu.1
          have hu2 := hu.2
          refine go_skip ?_
          refine go_seq ?_
          refine go_block ?_
          refine go_cutS ([(0, sl a_l (l.length)), (3, sl a ((listTo (orUpto l l.length) i).length)), (4, .int .i64 ((i : Int))), (5, .bool (((dimsB l i k) || (hasM ((l.getD k cl0).pos) (i : Int))) || (hasM ((l.getD k cl0).neg) (i : Int)))), (6, .int .i64 ((k : Int)))]) (fun hK => ?_) (fun base => ?_)
          · refine go_region ⟨_, Tryz.func77⟩ rfl ?_
            refine q0 rfl (o_move ?_)
            refine q0 rfl (o_move ?_)
            refine qI rfl rfl rfl (by conv => lhs; whnf) (fun hg18 => ?_) (fun hg18 => ?_)
            · have g18 : ((dimsB l i k)) = false := hg18
              try simp only [decide_eq_true_eq, decide_eq_false_iff_not, Bool.and_eq_true, Bool.or_eq_true, Bool.not_eq_true', Bool.and_eq_false_iff, Bool.or_eq_false_iff, Bool.not_eq_false', bne_iff_ne, beq_iff_eq, ne_eq, not_and, Decidable.not_not, Bool.true_and, Bool.and_true, Bool.false_or, Bool.or_false] at g18
              refine o_move ?_
              refine qT rfl rfl rfl (o_move ?_)
              obtain ⟨bk2, o2, hav2⟩ := hA1 (by omega)
              refine qT rfl rfl rfl (o_ixN ?_ (j := k))
              refine qT rfl rfl rfl (o_fa ?_)
              refine qT rfl rfl rfl (o_ldCf ?_)
              refine qT rfl rfl rfl (o_move ?_)
              refine qT rfl rfl rfl (o_call Tryz.call76 (rhas ((l.getD k cl0).pos) (i : Int) (by first | assumption | omega | (unfold in64 at *; omega) | (unfold reach at *; omega) | (simp_all; done))) (fun x25 => ?_))
              refine q0 rfl (o_pickF ?_)
              refine q0 rfl (o_move ?_)
              refine qI rfl rfl rfl (by conv => lhs; whnf) (fun hg27 => ?_) (fun hg27 => ?_)
              · have g27 : ((hasM ((l.getD k cl0).pos) (i : Int))) = false := hg27
                try simp only [decide_eq_true_eq, decide_eq_false_iff_not, Bool.and_eq_true, Bool.or_eq_true, Bool.not_eq_true', Bool.and_eq_false_iff, Bool.or_eq_false_iff, Bool.not_eq_false', bne_iff_ne, beq_iff_eq, ne_eq, not_and, Decidable.not_not, Bool.true_and, Bool.and_true, Bool.false_or, Bool.or_false] at g27
                refine o_move ?_
                refine qT rfl rfl rfl (o_move ?_)
                refine qT rfl rfl rfl (o_ixN ?_ (j := k))
                refine qT rfl rfl rfl (o_fa ?_)
                refine qT rfl rfl rfl (o_ldCf ?_)
                refine qT rfl rfl rfl (o_move ?_)
                refine qT rfl rfl rfl (o_call Tryz.call76 (rhas ((l.getD k cl0).neg) (i : Int) (by first | assumption | omega | (unfold in64 at *; omega) | (unfold reach at *; omega) | (simp_all; done))) (fun x34 => ?_))
                refine q0 rfl (o_pickF ?_)
                refine q0 rfl (o_assign ?_)
                refine rg_nil ?_
                exact hK _ ⟨rfl, rfl, rfl, (by first | rfl | ((conv => lhs; whnf); first | (simp_all; done) | (simp_all; omega))), rfl, trivial⟩
              · have g27 : ((hasM ((l.getD k cl0).pos) (i : Int))) = true := hg27
                try simp only [decide_eq_true_eq, decide_eq_false_iff_not, Bool.and_eq_true, Bool.or_eq_true, Bool.not_eq_true', Bool.and_eq_false_iff, Bool.or_eq_false_iff, Bool.not_eq_false', bne_iff_ne, beq_iff_eq, ne_eq, not_and, Decidable.not_not, Bool.true_and, Bool.and_true, Bool.false_or, Bool.or_false] at g27
                refine qF rfl rfl rfl ?_
                refine qF rfl rfl rfl ?_
                refine qF rfl rfl rfl ?_
                refine qF rfl rfl rfl ?_
                refine qF rfl rfl rfl ?_
                refine qF rfl rfl rfl ?_
                refine q0 rfl (o_pickT ?_)
                refine q0 rfl (o_assign ?_)
                refine rg_nil ?_
                exact hK _ ⟨rfl, rfl, rfl, (by first | rfl | ((conv => lhs; whnf); first | (simp_all; done) | (simp_all; omega))), rfl, trivial⟩
            · have g18 : ((dimsB l i k)) = true := hg18
              try simp only [decide_eq_true_eq, decide_eq_false_iff_not, Bool.and_eq_true, Bool.or_eq_true, Bool.not_eq_true', Bool.and_eq_false_iff, Bool.or_eq_false_iff, Bool.not_eq_false', bne_iff_ne, beq_iff_eq, ne_eq, not_and, Decidable.not_not, Bool.true_and, Bool.and_true, Bool.false_or, Bool.or_false] at g18
              refine qF rfl rfl rfl ?_
              refine qF rfl rfl rfl ?_
              refine qF rfl rfl rfl ?_
              refine qF rfl rfl rfl ?_
              refine qF rfl rfl rfl ?_
              refine qF rfl rfl rfl ?_
              refine q0 rfl (o_pickT ?_)
              refine q0 rfl (o_move ?_)
              refine qF rfl rfl rfl ?_
              refine qF rfl rfl rfl ?_
              refine qF rfl rfl rfl ?_
              refine qF rfl rfl rfl ?_
              refine qF rfl rfl rfl ?_
              refine qF rfl rfl rfl ?_
              refine qF rfl rfl rfl ?_
              refine q0 rfl (o_pickT ?_)
              refine q0 rfl (o_assign ?_)
              refine rg_nil ?_
              exact hK _ ⟨rfl, rfl, rfl, (by first | rfl | ((conv => lhs; whnf); first | (simp_all; done) | (simp_all; omega))), rfl, trivial⟩
          · refine go_inBlock ?_
            refine go_region ⟨_, Tryz.func77⟩ rfl ?_
            refine q0 rfl (o_move ?_)
            refine q0 rfl (o_add ?_)
            refine q0 rfl (o_assign ?_)
            refine rg_nil ?_
            refine go_state (fun w hs => ?_) (next1 (k + 1) _ (by omega) (by omega) ⟨rfl, rfl, rfl, (by (conv => lhs; whnf); rw [dimsB_succ (by omega) (by omega)]), rfl, trivial⟩)
            exact (hs.less (by simp +contextual))
        · have c14 : (decide ((k : Int) < (l.length : Int))) = false := h14
          try simp only [decide_eq_true_eq, decide_eq_false_iff_not, Bool.and_eq_true, Bool.or_eq_true, Bool.not_eq_true', Bool.and_eq_false_iff, Bool.or_eq_false_iff, Bool.not_eq_false', bne_iff_ne, beq_iff_eq, ne_eq, not_and, Decidable.not_not, Bool.true_and, Bool.and_true, Bool.false_or, Bool.or_false] at c14
          have he : k = l.length := by omega
          refine go_exit rfl ?_
          refine go_seq ?_
          refine go_region ⟨_, Tryz.func77⟩ rfl ?_
          refine q0 rfl (o_move ?_)
          refine rg_nil ?_
          refine go_condI (fun h36 => ?_) (fun h36 => ?_)
          · have c36 : ((dimsB l i k)) = true := h36
            try simp only [decide_eq_true_eq, decide_eq_false_iff_not, Bool.and_eq_true, Bool.or_eq_true, Bool.not_eq_true', Bool.and_eq_false_iff, Bool.or_eq_false_iff, Bool.not_eq_false', bne_iff_ne, beq_iff_eq, ne_eq, not_and, Decidable.not_not, Bool.true_and, Bool.and_true, Bool.false_or, Bool.or_false] at c36
            refine go_region ⟨_, Tryz.func77⟩ rfl ?_
            refine q0 rfl (o_move ?_)
            refine q0 rfl (o_move ?_)
            refine q0 rfl (o_lit1 fun b39 => ?_)
            refine q0 rfl (o_appS (fun a40 => ?_) (a := a) (n' := (listTo (orUpto l l.length) i).length))
            refine rg_state (fun w hs => ((hs.perm perm1).drop).snocI) ?_
            refine q0 rfl (o_assign ?_)
            refine rg_nil ?_
            refine go_inBlock ?_
            refine go_region ⟨_, Tryz.func77⟩ rfl ?_
            refine q0 rfl (o_move ?_)
            refine q0 rfl (o_add ?_)
            refine q0 rfl (o_assign ?_)
            refine rg_nil ?_
            have hnx : listTo (orUpto l l.length) (i + 1) = listTo (orUpto l l.length) i ++ [(i : Int)] := by rw [listTo_succ, if_pos (show (orUpto l l.length).testBit i = true by rw [← he]; exact h36)]
            refine go_state (fun w hs => ?_) (next0 (i + 1, a40) _ (by omega) (by (try simp only); omega) ⟨rfl, (by (conv => lhs; whnf); simp [sl, hnx]), rfl, trivial⟩)
            rw [hnx]; simpa using (hs.less (by simp +contextual))
          · have c36 : ((dimsB l i k)) = false := h36
            try simp only [decide_eq_true_eq, decide_eq_false_iff_not, Bool.and_eq_true, Bool.or_eq_true, Bool.not_eq_true', Bool.and_eq_false_iff, Bool.or_eq_false_iff, Bool.not_eq_false', bne_iff_ne, beq_iff_eq, ne_eq, not_and, Decidable.not_not, Bool.true_and, Bool.and_true, Bool.false_or, Bool.or_false] at c36
            refine go_skip ?_
            refine go_inBlock ?_
            refine go_region ⟨_, Tryz.func77⟩ rfl ?_
            refine q0 rfl (o_move ?_)
            refine q0 rfl (o_add ?_)
            refine q0 rfl (o_assign ?_)
            refine rg_nil ?_
            have hnx : listTo (orUpto l l.length) (i + 1) = listTo (orUpto l l.length) i := by rw [listTo_succ, if_neg]; rw [show (orUpto l l.length).testBit i = false by rw [← he]; exact h36]; decide
            refine go_state (fun w hs => ?_) (next0 (i + 1, a) _ (by omega) (by (try simp only); omega) ⟨rfl, (by (conv => lhs; whnf); simp [sl, hnx]), rfl, trivial⟩)
            rw [hnx]; exact (hs.less (by simp +contextual))
    · have c8 : (decide ((i : Int) < 24)) = false := h8
      try simp only [decide_eq_true_eq, decide_eq_false_iff_not, Bool.and_eq_true, Bool.or_eq_true, Bool.not_eq_true', Bool.and_eq_false_iff, Bool.or_eq_false_iff, Bool.not_eq_false', bne_iff_ne, beq_iff_eq, ne_eq, not_and, Decidable.not_not, Bool.true_and, Bool.and_true, Bool.false_or, Bool.or_false] at c8
      have he : i = 24 := by omega
      subst he
      refine go_state (fun w hs => (hs.settleIL hB rfl rfl (by unfold reach; omega) (fun c hc => by have := listTo_in hc; unfold in64; omega))) ?_
      refine go_exit rfl ?_
      refine go_seq ?_
      refine go_region ⟨_, Tryz.func77⟩ rfl ?_
      refine q0 rfl (o_move ?_)
      refine q0 rfl (o_call Tryz.call44 (rset (listTo (orUpto l l.length) 24) a (by omega) (fun x hx => by have := listTo_in hx; omega)) (fun x42 => ?_))
      refine q0 rfl (o_assign ?_)
      refine rg_nil ?_
      -- leaf 0: .int .u32 (((setM (listTo (orUpto l l.length) i)) : Nat) : Int)
      refine ret1 Tryz.func77 Tryz.results77 (by first | ((conv => lhs; whnf); done) | rfl) () (by rw [setM_listM, fDims_eq]) (fun w hs => hs.none)
end Go.Hy
