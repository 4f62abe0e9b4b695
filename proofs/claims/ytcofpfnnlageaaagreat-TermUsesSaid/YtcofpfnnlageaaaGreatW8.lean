/- Contracts of functions of this program, one theorem each (printed by a program of this repository). -/
import Derived.Test.YtcofpfnnlageaaaGreatHyAuto2
import Derived.Test.YtcofpfnnlageaaaGreatHyTab
import Derived.Test.YtcofpfnnlageaaaGreatHyUses
import Derived.Test.YtcofpfnnlageaaaGreatS8
import Derived.Test.YtcofpfnnlageaaaGreatS7
import Derived.Test.YtcofpfnnlageaaaGreatS11
import Derived.Test.YtcofpfnnlageaaaGreatW4
import Derived.Test.YtcofpfnnlageaaaGreatW6
namespace Go.Hy
set_option linter.unusedVariables false
set_option linter.unusedSimpArgs false
set_option linter.unusedSectionVars false
open Go.Proofs
set_option linter.unusedVariables false
set_option linter.unusedSimpArgs false
set_option maxRecDepth 100000
theorem useJoin {t : T} {n : Int} {b : Bool} {s : Nat} : accK (accK b (useS t n) s) (useJ t n s) (t.sys.getD s br0).kids.length = accK b (useS t n) (s + 1) := by
  have := accK_join b false (useJ t n s) (useS t n) s (t.sys.getD s br0).kids.length (by unfold useS; rw [Bool.false_or])
  rwa [Bool.or_false] at this
theorem hasJoin {t : T} {i : Int} {b : Bool} {s : Nat} : accK (accK b (hasS t i) s || hasF t i s) (hasJ t i s) (t.sys.getD s br0).kids.length = accK b (hasS t i) (s + 1) := accK_join b (hasF t i s) (hasJ t i s) (hasS t i) s _ rfl

abbrev RusesAt (t : T) : Prop := ∀ (vr_t vk_t vs_t : SH) (n : Int), in64 n → Spec Tryz.prog 11 #[.agg (tc t vr_t vk_t vs_t).toArray, .int .i64 (n)] [RT t vr_t vk_t vs_t] [] (fun _ : Unit => .bool (uses t n)) (fun _ : Unit => []) (fun _ : Unit => [])
theorem ruses_walk (t : T) (ihk : ∀ k, k ∈ t.kids → RusesAt k) (ihs : ∀ b, b ∈ t.sys → ∀ k, k ∈ b.kids → RusesAt k) (vr_t vk_t vs_t : SH) (n : Int) (hn : in64 n) : Spec Tryz.prog 11 #[.agg (tc t vr_t vk_t vs_t).toArray, .int .i64 (n)] [RT t vr_t vk_t vs_t] [] (fun _ : Unit => .bool (uses t n)) (fun _ : Unit => []) (fun _ : Unit => []) := by
  refine spec_go (args := [.agg (tc t vr_t vk_t vs_t).toArray, .int .i64 (n)]) Tryz.func11 Tryz.ntmps11 rfl (by exact Nat.le_of_ble_eq_true rfl) fun B hB => ?_
  refine go_open (t := t) (vr := vr_t) (vk := vk_t) (vs := vs_t) (fun hk1 hn1 hm1 => ?_)
  refine go_openCL (l := (t).r) (a := vr_t) (fun hl2 hA2 hU2 => ?_)
  refine go_openTL (ts := (t).kids) (a := vk_t) (fun VR3 VK3 VS3 hl3 hA3 => ?_)
  refine go_openBL (bs := (t).sys) (a := vs_t) (fun VF4 VK4 hl4 hA4 => ?_)
  refine go_seq ?_
  refine go_region ⟨_, Tryz.func11⟩ rfl ?_
  refine q0 rfl (o_box fun b2 => ?_)
  refine q0 rfl (o_assign ?_)
  refine rg_nil ?_
  refine go_seq ?_
  refine go_seq ?_
  refine go_region ⟨_, Tryz.func11⟩ rfl ?_
  refine q0 rfl (o_move ?_)
  refine q0 rfl (o_lss ?_)
  refine rg_nil ?_
  refine go_condI (fun h12 => ?_) (fun h12 => ?_)
  · have c12 : (decide (n < 0)) = true := h12
    try simp only [decide_eq_true_eq, decide_eq_false_iff_not, Bool.and_eq_true, Bool.or_eq_true, Bool.not_eq_true', Bool.and_eq_false_iff, Bool.or_eq_false_iff, Bool.not_eq_false', bne_iff_ne, beq_iff_eq, ne_eq, not_and, Decidable.not_not, Bool.true_and, Bool.and_true, Bool.false_or, Bool.or_false] at c12
    refine go_seq ?_
    refine go_region ⟨_, Tryz.func11⟩ rfl ?_
    refine q0 rfl (o_assign ?_)
    refine rg_nil ?_
    -- leaf 0: .bool (false)
    refine ret1 Tryz.func11 Tryz.results11 (by first | ((conv => lhs; whnf); done) | rfl) () (by rw [uses_neg c12]) (fun w hs => hs.none)
  · have c12 : (decide (n < 0)) = false := h12
    try simp only [decide_eq_true_eq, decide_eq_false_iff_not, Bool.and_eq_true, Bool.or_eq_true, Bool.not_eq_true', Bool.and_eq_false_iff, Bool.or_eq_false_iff, Bool.not_eq_false', bne_iff_ne, beq_iff_eq, ne_eq, not_and, Decidable.not_not, Bool.true_and, Bool.and_true, Bool.false_or, Bool.or_false] at c12
    refine go_skip ?_
    refine go_seq ?_
    refine go_cutS ([(1, .int .i64 (n)), (2, .pointer (some ⟨b2, 0, none⟩)), (5, .bool ((decide (((t).kind) = 1)) && (decide (((t).n) = n))))]) (fun hK => ?_) (fun base => ?_)
    · refine go_region ⟨_, Tryz.func11⟩ rfl ?_
      refine q0 rfl (o_fa ?_)
      refine q0 rfl (o_ld ?_)
      refine q0 rfl (o_eqI ?_)
      refine q0 rfl (o_move ?_)
      refine qI rfl rfl rfl (by conv => lhs; whnf) (fun hg16 => ?_) (fun hg16 => ?_)
      · have g16 : (decide (((t).kind) = 1)) = true := hg16
        try simp only [decide_eq_true_eq, decide_eq_false_iff_not, Bool.and_eq_true, Bool.or_eq_true, Bool.not_eq_true', Bool.and_eq_false_iff, Bool.or_eq_false_iff, Bool.not_eq_false', bne_iff_ne, beq_iff_eq, ne_eq, not_and, Decidable.not_not, Bool.true_and, Bool.and_true, Bool.false_or, Bool.or_false] at g16
        refine o_fa ?_
        refine qT rfl rfl rfl (o_ld ?_)
        refine qT rfl rfl rfl (o_move ?_)
        refine qT rfl rfl rfl (o_eqI ?_)
        refine q0 rfl (o_pickT ?_)
        refine q0 rfl (o_assign ?_)
        refine rg_nil ?_
        exact hK _ ⟨rfl, rfl, (by first | rfl | ((conv => lhs; whnf); first | (simp_all; done) | (simp_all; omega))), trivial⟩
      · have g16 : (decide (((t).kind) = 1)) = false := hg16
        try simp only [decide_eq_true_eq, decide_eq_false_iff_not, Bool.and_eq_true, Bool.or_eq_true, Bool.not_eq_true', Bool.and_eq_false_iff, Bool.or_eq_false_iff, Bool.not_eq_false', bne_iff_ne, beq_iff_eq, ne_eq, not_and, Decidable.not_not, Bool.true_and, Bool.and_true, Bool.false_or, Bool.or_false] at g16
        refine qF rfl rfl rfl ?_
        refine qF rfl rfl rfl ?_
        refine qF rfl rfl rfl ?_
        refine q0 rfl (o_pickF ?_)
        refine q0 rfl (o_assign ?_)
        refine rg_nil ?_
        exact hK _ ⟨rfl, rfl, (by first | rfl | ((conv => lhs; whnf); first | (simp_all; done) | (simp_all; omega))), trivial⟩
    · refine go_seq ?_
      refine go_seq ?_
      refine go_region ⟨_, Tryz.func11⟩ rfl ?_
      refine q0 rfl (o_assign ?_)
      refine rg_nil ?_
      refine go_block ?_
      refine go_loopE (X := Nat) (fun s_ => s_ ≤ t.kids.length) (fun s_ => [(1, .int .i64 (n)), (2, .pointer (some ⟨b2, 0, none⟩)), (5, .bool (accK ((decide (t.kind = 1) && decide (t.n = n))) (useK t n) s_)), (6, .int .i64 ((s_ : Int)))]) (fun s_ G_ => G_) (fun s_ => [boxR b2 (tc t vr_t vk_t vs_t) 26]) (fun s_ => t.kids.length - s_) (0) (by omega) (by exact ⟨rfl, rfl, (by (conv => lhs; whnf); rw [accK_zero]), rfl, trivial⟩) ?_ ?_
      · exact fun w hs => hs
      · intro i base0 hi0 next0
        refine go_seq ?_
        refine go_seq ?_
        refine go_region ⟨_, Tryz.func11⟩ rfl ?_
        refine q0 rfl (o_move ?_)
        refine q0 rfl (o_fa ?_)
        refine q0 rfl (o_ld ?_)
        refine q0 rfl (o_len ?_)
        refine q0 rfl (o_lss ?_)
        refine rg_nil ?_
        refine go_condI (fun h26 => ?_) (fun h26 => ?_)
        · have c26 : (decide ((i : Int) < ((t).kids.length : Int))) = true := h26
          try simp only [decide_eq_true_eq, decide_eq_false_iff_not, Bool.and_eq_true, Bool.or_eq_true, Bool.not_eq_true', Bool.and_eq_false_iff, Bool.or_eq_false_iff, Bool.not_eq_false', bne_iff_ne, beq_iff_eq, ne_eq, not_and, Decidable.not_not, Bool.true_and, Bool.and_true, Bool.false_or, Bool.or_false] at c26
          refine go_skip ?_
          refine go_seq ?_
          refine go_block ?_
          refine go_seq ?_
          refine go_region ⟨_, Tryz.func11⟩ rfl ?_
          refine q0 rfl (o_fa ?_)
          refine q0 rfl (o_ld ?_)
          refine q0 rfl (o_move ?_)
          refine q0 rfl (o_call Tryz.call39 (rbinds_spec ((t).kind) (i : Int) ) (fun x33 => ?_))
          refine q0 rfl (o_move ?_)
          refine q0 rfl (o_extract ?_)
          refine q0 rfl (o_extract ?_)
          refine q0 rfl (o_assign ?_)
          refine q0 rfl (o_assign ?_)
          refine rg_nil ?_
          refine go_kid (ts := (t).kids) (a := vk_t) (VR := VR3) (VK := VK3) (VS := VS3) i (by omega) ?_
          refine go_cutS ([(1, .int .i64 (n)), (2, .pointer (some ⟨b2, 0, none⟩)), (5, .bool ((accK ((decide (t.kind = 1) && decide (t.n = n))) (useK t n) i) || (uses (((t).kids).getD i t0) (IntKind.i64.wrap (n + (binds t.kind (i : Int)).1))))), (6, .int .i64 ((i : Int)))]) (fun hK => ?_) (fun base => ?_)
          · refine go_region ⟨_, Tryz.func11⟩ rfl ?_
            refine q0 rfl (o_move ?_)
            refine q0 rfl (o_move ?_)
            refine qI rfl rfl rfl (by conv => lhs; whnf) (fun hg37 => ?_) (fun hg37 => ?_)
            · have g37 : (accK ((decide (t.kind = 1) && decide (t.n = n))) (useK t n) i) = false := hg37
              try simp only [decide_eq_true_eq, decide_eq_false_iff_not, Bool.and_eq_true, Bool.or_eq_true, Bool.not_eq_true', Bool.and_eq_false_iff, Bool.or_eq_false_iff, Bool.not_eq_false', bne_iff_ne, beq_iff_eq, ne_eq, not_and, Decidable.not_not, Bool.true_and, Bool.and_true, Bool.false_or, Bool.or_false] at g37
              refine o_fa ?_
              refine qT rfl rfl rfl (o_ld ?_)
              refine qT rfl rfl rfl (o_move ?_)
              obtain ⟨bk5, o5, hav5⟩ := hA3 (by omega)
              refine qT rfl rfl rfl (o_ixN ?_ (j := i))
              refine qT rfl rfl rfl (o_ldT ?_)
              refine qT rfl rfl rfl (o_move ?_)
              refine qT rfl rfl rfl (o_move ?_)
              refine qT rfl rfl rfl (o_addW ?_)
              refine qT rfl rfl rfl (o_call Tryz.call11 ((ihk (((t).kids).getD i t0) (getD_mem (show i < ((t).kids).length by omega))) (VR3 i) (VK3 i) (VS3 i) (IntKind.i64.wrap (n + (binds t.kind (i : Int)).1)) (by first | assumption | exact wrap_in _)) (fun x46 => ?_))
              refine q0 rfl (o_pickF ?_)
              refine q0 rfl (o_assign ?_)
              refine rg_nil ?_
              exact hK _ ⟨rfl, rfl, (by first | rfl | ((conv => lhs; whnf); first | (simp_all; done) | (simp_all; omega))), rfl, trivial⟩
            · have g37 : (accK ((decide (t.kind = 1) && decide (t.n = n))) (useK t n) i) = true := hg37
              try simp only [decide_eq_true_eq, decide_eq_false_iff_not, Bool.and_eq_true, Bool.or_eq_true, Bool.not_eq_true', Bool.and_eq_false_iff, Bool.or_eq_false_iff, Bool.not_eq_false', bne_iff_ne, beq_iff_eq, ne_eq, not_and, Decidable.not_not, Bool.true_and, Bool.and_true, Bool.false_or, Bool.or_false] at g37
              refine qF rfl rfl rfl ?_
              refine qF rfl rfl rfl ?_
              refine qF rfl rfl rfl ?_
              refine qF rfl rfl rfl ?_
              refine qF rfl rfl rfl ?_
              refine qF rfl rfl rfl ?_
              refine qF rfl rfl rfl ?_
              refine qF rfl rfl rfl ?_
              refine q0 rfl (o_pickT ?_)
              refine q0 rfl (o_assign ?_)
              refine rg_nil ?_
              exact hK _ ⟨rfl, rfl, (by first | rfl | ((conv => lhs; whnf); first | (simp_all; done) | (simp_all; omega))), rfl, trivial⟩
          · refine go_inBlock ?_
            refine go_region ⟨_, Tryz.func11⟩ rfl ?_
            refine q0 rfl (o_move ?_)
            refine q0 rfl (o_add ?_)
            refine q0 rfl (o_assign ?_)
            refine rg_nil ?_
            refine go_state (fun w hs => ?_) (next0 (i + 1) _ (by omega) (by omega) ⟨rfl, rfl, (by (conv => lhs; whnf); rw [accK_succ]; rfl), rfl, trivial⟩)
            exact (hs.less (by simp +contextual))
        · have c26 : (decide ((i : Int) < ((t).kids.length : Int))) = false := h26
          try simp only [decide_eq_true_eq, decide_eq_false_iff_not, Bool.and_eq_true, Bool.or_eq_true, Bool.not_eq_true', Bool.and_eq_false_iff, Bool.or_eq_false_iff, Bool.not_eq_false', bne_iff_ne, beq_iff_eq, ne_eq, not_and, Decidable.not_not, Bool.true_and, Bool.and_true, Bool.false_or, Bool.or_false] at c26
          have hei : i = t.kids.length := by omega
          refine go_exit rfl ?_
          refine go_seq ?_
          refine go_seq ?_
          refine go_region ⟨_, Tryz.func11⟩ rfl ?_
          refine q0 rfl (o_assign ?_)
          refine rg_nil ?_
          refine go_block ?_
          refine go_loopE (X := Nat) (fun s_ => s_ ≤ t.sys.length) (fun s_ => [(1, .int .i64 (n)), (2, .pointer (some ⟨b2, 0, none⟩)), (5, .bool (accK ((accK (decide (t.kind = 1) && decide (t.n = n)) (useK t n) t.kids.length)) (useS t n) s_)), (9, .int .i64 ((s_ : Int)))]) (fun s_ G_ => G_) (fun s_ => [boxR b2 (tc t vr_t vk_t vs_t) 26]) (fun s_ => t.sys.length - s_) (0) (by omega) (by exact ⟨rfl, rfl, (by (conv => lhs; whnf); rw [accK_zero, ← hei]), rfl, trivial⟩) ?_ ?_
          · exact fun w hs => hs
          · intro s base1 hi1 next1
            refine go_seq ?_
            refine go_seq ?_
            refine go_region ⟨_, Tryz.func11⟩ rfl ?_
            refine q0 rfl (o_move ?_)
            refine q0 rfl (o_fa ?_)
            refine q0 rfl (o_ld ?_)
            refine q0 rfl (o_len ?_)
            refine q0 rfl (o_lss ?_)
            refine rg_nil ?_
            refine go_condI (fun h52 => ?_) (fun h52 => ?_)
            · have c52 : (decide ((s : Int) < ((t).sys.length : Int))) = true := h52
              try simp only [decide_eq_true_eq, decide_eq_false_iff_not, Bool.and_eq_true, Bool.or_eq_true, Bool.not_eq_true', Bool.and_eq_false_iff, Bool.or_eq_false_iff, Bool.not_eq_false', bne_iff_ne, beq_iff_eq, ne_eq, not_and, Decidable.not_not, Bool.true_and, Bool.and_true, Bool.false_or, Bool.or_false] at c52
              refine go_skip ?_
              refine go_seq ?_
              refine go_block ?_
              refine go_seq ?_
              refine go_region ⟨_, Tryz.func11⟩ rfl ?_
              refine q0 rfl (o_assign ?_)
              refine rg_nil ?_
              refine go_block ?_
              refine go_loopE (X := Nat) (fun s_ => s_ ≤ (t.sys.getD s br0).kids.length) (fun s_ => [(1, .int .i64 (n)), (2, .pointer (some ⟨b2, 0, none⟩)), (5, .bool (accK ((accK (accK (decide (t.kind = 1) && decide (t.n = n)) (useK t n) t.kids.length) (useS t n) s)) (useJ t n s) s_)), (9, .int .i64 ((s : Int))), (10, .int .i64 ((s_ : Int)))]) (fun s_ G_ => G_) (fun s_ => [boxR b2 (tc t vr_t vk_t vs_t) 26]) (fun s_ => (t.sys.getD s br0).kids.length - s_) (0) (by omega) (by exact ⟨rfl, rfl, (by (conv => lhs; whnf); rw [accK_zero]), rfl, rfl, trivial⟩) ?_ ?_
              · exact fun w hs => hs
              · intro k base2 hi2 next2
                refine go_seq ?_
                refine go_seq ?_
                refine go_branch (bs := (t).sys) (a := vs_t) (VF := VF4) (VK := VK4) s (by omega) ?_
                refine go_openCL (l := (((t).sys).getD s br0).face) (a := VF4 s) (fun hl6 hA6 hU6 => ?_)
                refine go_openTL (ts := (((t).sys).getD s br0).kids) (a := VK4 s) (fun VR7 VK7 VS7 hl7 hA7 => ?_)
                refine go_region ⟨_, Tryz.func11⟩ rfl ?_
                refine q0 rfl (o_move ?_)
                refine q0 rfl (o_fa ?_)
                refine q0 rfl (o_ld ?_)
                refine q0 rfl (o_move ?_)
                obtain ⟨bk8, o8, hav8⟩ := hA4 (by omega)
                refine q0 rfl (o_ixN ?_ (j := s))
                refine q0 rfl (o_fa ?_)
                refine q0 rfl (o_ldBf ?_)
                refine q0 rfl (o_len ?_)
                refine q0 rfl (o_lss ?_)
                refine rg_nil ?_
                refine go_condI (fun h63 => ?_) (fun h63 => ?_)
                · have c63 : (decide ((k : Int) < ((((t).sys).getD s br0).kids.length : Int))) = true := h63
                  try simp only [decide_eq_true_eq, decide_eq_false_iff_not, Bool.and_eq_true, Bool.or_eq_true, Bool.not_eq_true', Bool.and_eq_false_iff, Bool.or_eq_false_iff, Bool.not_eq_false', bne_iff_ne, beq_iff_eq, ne_eq, not_and, Decidable.not_not, Bool.true_and, Bool.and_true, Bool.false_or, Bool.or_false] at c63
                  refine go_skip ?_
                  refine go_seq ?_
                  refine go_block ?_
                  refine go_kid (ts := (((t).sys).getD s br0).kids) (a := VK4 s) (VR := VR7) (VK := VK7) (VS := VS7) k (by omega) ?_
                  refine go_cutS ([(1, .int .i64 (n)), (2, .pointer (some ⟨b2, 0, none⟩)), (5, .bool ((accK ((accK (accK (decide (t.kind = 1) && decide (t.n = n)) (useK t n) t.kids.length) (useS t n) s)) (useJ t n s) k) || (uses (((((t).sys).getD s br0).kids).getD k t0) n))), (9, .int .i64 ((s : Int))), (10, .int .i64 ((k : Int)))]) (fun hK => ?_) (fun base => ?_)
                  · refine go_region ⟨_, Tryz.func11⟩ rfl ?_
                    refine q0 rfl (o_move ?_)
                    refine q0 rfl (o_move ?_)
                    refine qI rfl rfl rfl (by conv => lhs; whnf) (fun hg67 => ?_) (fun hg67 => ?_)
                    · have g67 : (accK ((accK (accK (decide (t.kind = 1) && decide (t.n = n)) (useK t n) t.kids.length) (useS t n) s)) (useJ t n s) k) = false := hg67
                      try simp only [decide_eq_true_eq, decide_eq_false_iff_not, Bool.and_eq_true, Bool.or_eq_true, Bool.not_eq_true', Bool.and_eq_false_iff, Bool.or_eq_false_iff, Bool.not_eq_false', bne_iff_ne, beq_iff_eq, ne_eq, not_and, Decidable.not_not, Bool.true_and, Bool.and_true, Bool.false_or, Bool.or_false] at g67
                      refine o_fa ?_
                      refine qT rfl rfl rfl (o_ld ?_)
                      refine qT rfl rfl rfl (o_move ?_)
                      refine qT rfl rfl rfl (o_ixN ?_ (j := s))
                      refine qT rfl rfl rfl (o_fa ?_)
                      refine qT rfl rfl rfl (o_ldBf ?_)
                      refine qT rfl rfl rfl (o_move ?_)
                      obtain ⟨bk9, o9, hav9⟩ := hA7 (by omega)
                      refine qT rfl rfl rfl (o_ixN ?_ (j := k))
                      refine qT rfl rfl rfl (o_ldT ?_)
                      refine qT rfl rfl rfl (o_move ?_)
                      refine qT rfl rfl rfl (o_call Tryz.call11 ((ihs (((t).sys).getD s br0) (getD_mem (show s < ((t).sys).length by omega)) (((((t).sys).getD s br0).kids).getD k t0) (getD_mem (show k < ((((t).sys).getD s br0).kids).length by omega))) (VR7 k) (VK7 k) (VS7 k) n (by first | assumption | exact wrap_in _)) (fun x78 => ?_))
                      refine q0 rfl (o_pickF ?_)
                      refine q0 rfl (o_assign ?_)
                      refine rg_nil ?_
                      exact hK _ ⟨rfl, rfl, (by first | rfl | ((conv => lhs; whnf); first | (simp_all; done) | (simp_all; omega))), rfl, rfl, trivial⟩
                    · have g67 : (accK ((accK (accK (decide (t.kind = 1) && decide (t.n = n)) (useK t n) t.kids.length) (useS t n) s)) (useJ t n s) k) = true := hg67
                      try simp only [decide_eq_true_eq, decide_eq_false_iff_not, Bool.and_eq_true, Bool.or_eq_true, Bool.not_eq_true', Bool.and_eq_false_iff, Bool.or_eq_false_iff, Bool.not_eq_false', bne_iff_ne, beq_iff_eq, ne_eq, not_and, Decidable.not_not, Bool.true_and, Bool.and_true, Bool.false_or, Bool.or_false] at g67
                      refine qF rfl rfl rfl ?_
                      refine qF rfl rfl rfl ?_
                      refine qF rfl rfl rfl ?_
                      refine qF rfl rfl rfl ?_
                      refine qF rfl rfl rfl ?_
                      refine qF rfl rfl rfl ?_
                      refine qF rfl rfl rfl ?_
                      refine qF rfl rfl rfl ?_
                      refine qF rfl rfl rfl ?_
                      refine qF rfl rfl rfl ?_
                      refine q0 rfl (o_pickT ?_)
                      refine q0 rfl (o_assign ?_)
                      refine rg_nil ?_
                      exact hK _ ⟨rfl, rfl, (by first | rfl | ((conv => lhs; whnf); first | (simp_all; done) | (simp_all; omega))), rfl, rfl, trivial⟩
                  · refine go_inBlock ?_
                    refine go_region ⟨_, Tryz.func11⟩ rfl ?_
                    refine q0 rfl (o_move ?_)
                    refine q0 rfl (o_add ?_)
                    refine q0 rfl (o_assign ?_)
                    refine rg_nil ?_
                    refine go_state (fun w hs => ?_) (next2 (k + 1) _ (by omega) (by omega) ⟨rfl, rfl, (by (conv => lhs; whnf); rw [accK_succ]; rfl), rfl, rfl, trivial⟩)
                    exact (hs.less (by simp +contextual))
                · have c63 : (decide ((k : Int) < ((((t).sys).getD s br0).kids.length : Int))) = false := h63
                  try simp only [decide_eq_true_eq, decide_eq_false_iff_not, Bool.and_eq_true, Bool.or_eq_true, Bool.not_eq_true', Bool.and_eq_false_iff, Bool.or_eq_false_iff, Bool.not_eq_false', bne_iff_ne, beq_iff_eq, ne_eq, not_and, Decidable.not_not, Bool.true_and, Bool.and_true, Bool.false_or, Bool.or_false] at c63
                  have hek : k = (t.sys.getD s br0).kids.length := by omega
                  refine go_exit rfl ?_
                  refine go_inBlock ?_
                  refine go_region ⟨_, Tryz.func11⟩ rfl ?_
                  refine q0 rfl (o_move ?_)
                  refine q0 rfl (o_add ?_)
                  refine q0 rfl (o_assign ?_)
                  refine rg_nil ?_
                  refine go_state (fun w hs => ?_) (next1 (s + 1) _ (by omega) (by omega) ⟨rfl, rfl, (by (conv => lhs; whnf); rw [hek, useJoin]), rfl, trivial⟩)
                  exact (hs.less (by simp +contextual))
            · have c52 : (decide ((s : Int) < ((t).sys.length : Int))) = false := h52
              try simp only [decide_eq_true_eq, decide_eq_false_iff_not, Bool.and_eq_true, Bool.or_eq_true, Bool.not_eq_true', Bool.and_eq_false_iff, Bool.or_eq_false_iff, Bool.not_eq_false', bne_iff_ne, beq_iff_eq, ne_eq, not_and, Decidable.not_not, Bool.true_and, Bool.and_true, Bool.false_or, Bool.or_false] at c52
              have hes : s = t.sys.length := by omega
              refine go_exit rfl ?_
              refine go_seq ?_
              refine go_region ⟨_, Tryz.func11⟩ rfl ?_
              refine q0 rfl (o_move ?_)
              refine q0 rfl (o_assign ?_)
              refine rg_nil ?_
              -- leaf 1: .bool (accK ((accK (decide (t.kind = 1) && decide (t.n = n)) (useK t n) t.kids.length)) (useS t n) s)
              refine ret1 Tryz.func11 Tryz.results11 (by first | ((conv => lhs; whnf); done) | rfl) () (by rw [hes, uses_acc (by omega) hn]) (fun w hs => hs.none)
theorem ruses_spec : ∀ t : T, RusesAt t := T.ind' fun t ihk ihs vr_t vk_t vs_t n hn => ruses_walk t ihk ihs vr_t vk_t vs_t n hn

abbrev RhasDAt (t : T) : Prop := ∀ (vr_t vk_t vs_t : SH) (i : Int), 0 ≤ i → i + depth t ≤ 1000000000000 → Spec Tryz.prog 43 #[.agg (tc t vr_t vk_t vs_t).toArray, .int .i64 (i)] [RT t vr_t vk_t vs_t] [] (fun _ : Unit => .bool (hasD t i)) (fun _ : Unit => []) (fun _ : Unit => [])
theorem rhasD_walk (t : T) (ihk : ∀ k, k ∈ t.kids → RhasDAt k) (ihs : ∀ b, b ∈ t.sys → ∀ k, k ∈ b.kids → RhasDAt k) (vr_t vk_t vs_t : SH) (i : Int) (h0 : 0 ≤ i) (hl : i + depth t ≤ 1000000000000) : Spec Tryz.prog 43 #[.agg (tc t vr_t vk_t vs_t).toArray, .int .i64 (i)] [RT t vr_t vk_t vs_t] [] (fun _ : Unit => .bool (hasD t i)) (fun _ : Unit => []) (fun _ : Unit => []) := by
  refine spec_go (args := [.agg (tc t vr_t vk_t vs_t).toArray, .int .i64 (i)]) Tryz.func43 Tryz.ntmps43 rfl (by exact Nat.le_of_ble_eq_true rfl) fun B hB => ?_
  refine go_open (t := t) (vr := vr_t) (vk := vk_t) (vs := vs_t) (fun hk1 hn1 hm1 => ?_)
  refine go_openCL (l := (t).r) (a := vr_t) (fun hl2 hA2 hU2 => ?_)
  refine go_openTL (ts := (t).kids) (a := vk_t) (fun VR3 VK3 VS3 hl3 hA3 => ?_)
  refine go_openBL (bs := (t).sys) (a := vs_t) (fun VF4 VK4 hl4 hA4 => ?_)
  have hfd := fDims_lt t.r
  have hpb : 0 ≤ more t.kind ∧ more t.kind ≤ 1 := by unfold more; split <;> omega
  refine go_seq ?_
  refine go_region ⟨_, Tryz.func43⟩ rfl ?_
  refine q0 rfl (o_box fun b2 => ?_)
  refine q0 rfl (o_assign ?_)
  refine rg_nil ?_
  refine go_seq ?_
  refine go_seq ?_
  refine go_region ⟨_, Tryz.func43⟩ rfl ?_
  refine q0 rfl (o_move ?_)
  refine q0 rfl (o_geq ?_)
  refine rg_nil ?_
  refine go_condI (fun h12 => ?_) (fun h12 => ?_)
  · have c12 : (decide (24 ≤ i)) = true := h12
    try simp only [decide_eq_true_eq, decide_eq_false_iff_not, Bool.and_eq_true, Bool.or_eq_true, Bool.not_eq_true', Bool.and_eq_false_iff, Bool.or_eq_false_iff, Bool.not_eq_false', bne_iff_ne, beq_iff_eq, ne_eq, not_and, Decidable.not_not, Bool.true_and, Bool.and_true, Bool.false_or, Bool.or_false] at c12
    refine go_seq ?_
    refine go_region ⟨_, Tryz.func43⟩ rfl ?_
    refine q0 rfl (o_assign ?_)
    refine rg_nil ?_
    -- leaf 0: .bool (false)
    refine ret1 Tryz.func43 Tryz.results43 (by first | ((conv => lhs; whnf); done) | rfl) () (by rw [hasD, decide_eq_false (by omega), Bool.false_and]) (fun w hs => hs.none)
  · have c12 : (decide (24 ≤ i)) = false := h12
    try simp only [decide_eq_true_eq, decide_eq_false_iff_not, Bool.and_eq_true, Bool.or_eq_true, Bool.not_eq_true', Bool.and_eq_false_iff, Bool.or_eq_false_iff, Bool.not_eq_false', bne_iff_ne, beq_iff_eq, ne_eq, not_and, Decidable.not_not, Bool.true_and, Bool.and_true, Bool.false_or, Bool.or_false] at c12
    refine go_skip ?_
    refine go_seq ?_
    refine go_region ⟨_, Tryz.func43⟩ rfl ?_
    refine q0 rfl (o_fa ?_)
    refine q0 rfl (o_ld ?_)
    refine q0 rfl (o_call Tryz.call77 (rfdims ((t).r) vr_t ) (fun x15 => ?_))
    refine q0 rfl (o_move ?_)
    refine q0 rfl (o_call Tryz.call76 (rhas (fDims ((t).r)) i (by first | assumption | omega | (unfold in64 at *; omega) | (unfold reach at *; omega) | (simp_all; done))) (fun x17 => ?_))
    refine q0 rfl (o_assign ?_)
    refine rg_nil ?_
    refine go_seq ?_
    refine go_seq ?_
    refine go_region ⟨_, Tryz.func43⟩ rfl ?_
    refine q0 rfl (o_assign ?_)
    refine rg_nil ?_
    refine go_block ?_
    refine go_loopE (X := Nat) (fun s_ => s_ ≤ t.kids.length) (fun s_ => [(1, .int .i64 (i)), (2, .pointer (some ⟨b2, 0, none⟩)), (5, .bool (accK ((hasM (fDims t.r) i)) (hasK t i) s_)), (6, .int .i64 ((s_ : Int)))]) (fun s_ G_ => G_) (fun s_ => [boxR b2 (tc t vr_t vk_t vs_t) 26]) (fun s_ => t.kids.length - s_) (0) (by omega) (by exact ⟨rfl, rfl, (by (conv => lhs; whnf); rw [accK_zero]), rfl, trivial⟩) ?_ ?_
    · exact fun w hs => hs
    · intro m base0 hi0 next0
      refine go_seq ?_
      refine go_seq ?_
      refine go_region ⟨_, Tryz.func43⟩ rfl ?_
      refine q0 rfl (o_move ?_)
      refine q0 rfl (o_fa ?_)
      refine q0 rfl (o_ld ?_)
      refine q0 rfl (o_len ?_)
      refine q0 rfl (o_lss ?_)
      refine rg_nil ?_
      refine go_condI (fun h22 => ?_) (fun h22 => ?_)
      · have c22 : (decide ((m : Int) < ((t).kids.length : Int))) = true := h22
        try simp only [decide_eq_true_eq, decide_eq_false_iff_not, Bool.and_eq_true, Bool.or_eq_true, Bool.not_eq_true', Bool.and_eq_false_iff, Bool.or_eq_false_iff, Bool.not_eq_false', bne_iff_ne, beq_iff_eq, ne_eq, not_and, Decidable.not_not, Bool.true_and, Bool.and_true, Bool.false_or, Bool.or_false] at c22
        have hkd := depth_kid (getD_mem (d := t0) (show m < t.kids.length by omega))
        have hbi := binds_in t.kind (m : Int)
        unfold bindsIn at hbi
        refine go_skip ?_
        refine go_seq ?_
        refine go_block ?_
        refine go_seq ?_
        refine go_region ⟨_, Tryz.func43⟩ rfl ?_
        refine q0 rfl (o_fa ?_)
        refine q0 rfl (o_ld ?_)
        refine q0 rfl (o_move ?_)
        refine q0 rfl (o_call Tryz.call39 (rbinds_spec ((t).kind) (m : Int) ) (fun x29 => ?_))
        refine q0 rfl (o_move ?_)
        refine q0 rfl (o_extract ?_)
        refine q0 rfl (o_extract ?_)
        refine q0 rfl (o_assign ?_)
        refine q0 rfl (o_assign ?_)
        refine rg_nil ?_
        refine go_kid (ts := (t).kids) (a := vk_t) (VR := VR3) (VK := VK3) (VS := VS3) m (by omega) ?_
        refine go_cutS ([(1, .int .i64 (i)), (2, .pointer (some ⟨b2, 0, none⟩)), (5, .bool ((accK ((hasM (fDims t.r) i)) (hasK t i) m) || (hasD (((t).kids).getD m t0) (i + ((binds ((t).kind) (m : Int)).2))))), (6, .int .i64 ((m : Int)))]) (fun hK => ?_) (fun base => ?_)
        · refine go_region ⟨_, Tryz.func43⟩ rfl ?_
          refine q0 rfl (o_move ?_)
          refine q0 rfl (o_move ?_)
          refine qI rfl rfl rfl (by conv => lhs; whnf) (fun hg33 => ?_) (fun hg33 => ?_)
          · have g33 : (accK ((hasM (fDims t.r) i)) (hasK t i) m) = false := hg33
            try simp only [decide_eq_true_eq, decide_eq_false_iff_not, Bool.and_eq_true, Bool.or_eq_true, Bool.not_eq_true', Bool.and_eq_false_iff, Bool.or_eq_false_iff, Bool.not_eq_false', bne_iff_ne, beq_iff_eq, ne_eq, not_and, Decidable.not_not, Bool.true_and, Bool.and_true, Bool.false_or, Bool.or_false] at g33
            refine o_fa ?_
            refine qT rfl rfl rfl (o_ld ?_)
            refine qT rfl rfl rfl (o_move ?_)
            obtain ⟨bk5, o5, hav5⟩ := hA3 (by omega)
            refine qT rfl rfl rfl (o_ixN ?_ (j := m))
            refine qT rfl rfl rfl (o_ldT ?_)
            refine qT rfl rfl rfl (o_move ?_)
            refine qT rfl rfl rfl (o_move ?_)
            refine qT rfl rfl rfl (o_add ?_)
            refine qT rfl rfl rfl (o_call Tryz.call43 ((ihk (((t).kids).getD m t0) (getD_mem (show m < ((t).kids).length by omega))) (VR3 m) (VK3 m) (VS3 m) (i + ((binds ((t).kind) (m : Int)).2)) (by omega) (by omega)) (fun x42 => ?_))
            refine q0 rfl (o_pickF ?_)
            refine q0 rfl (o_assign ?_)
            refine rg_nil ?_
            exact hK _ ⟨rfl, rfl, (by first | rfl | ((conv => lhs; whnf); first | (simp_all; done) | (simp_all; omega))), rfl, trivial⟩
          · have g33 : (accK ((hasM (fDims t.r) i)) (hasK t i) m) = true := hg33
            try simp only [decide_eq_true_eq, decide_eq_false_iff_not, Bool.and_eq_true, Bool.or_eq_true, Bool.not_eq_true', Bool.and_eq_false_iff, Bool.or_eq_false_iff, Bool.not_eq_false', bne_iff_ne, beq_iff_eq, ne_eq, not_and, Decidable.not_not, Bool.true_and, Bool.and_true, Bool.false_or, Bool.or_false] at g33
            refine qF rfl rfl rfl ?_
            refine qF rfl rfl rfl ?_
            refine qF rfl rfl rfl ?_
            refine qF rfl rfl rfl ?_
            refine qF rfl rfl rfl ?_
            refine qF rfl rfl rfl ?_
            refine qF rfl rfl rfl ?_
            refine qF rfl rfl rfl ?_
            refine q0 rfl (o_pickT ?_)
            refine q0 rfl (o_assign ?_)
            refine rg_nil ?_
            exact hK _ ⟨rfl, rfl, (by first | rfl | ((conv => lhs; whnf); first | (simp_all; done) | (simp_all; omega))), rfl, trivial⟩
        · refine go_inBlock ?_
          refine go_region ⟨_, Tryz.func43⟩ rfl ?_
          refine q0 rfl (o_move ?_)
          refine q0 rfl (o_add ?_)
          refine q0 rfl (o_assign ?_)
          refine rg_nil ?_
          refine go_state (fun w hs => ?_) (next0 (m + 1) _ (by omega) (by omega) ⟨rfl, rfl, (by (conv => lhs; whnf); rw [accK_succ]; rfl), rfl, trivial⟩)
          exact (hs.less (by simp +contextual))
      · have c22 : (decide ((m : Int) < ((t).kids.length : Int))) = false := h22
        try simp only [decide_eq_true_eq, decide_eq_false_iff_not, Bool.and_eq_true, Bool.or_eq_true, Bool.not_eq_true', Bool.and_eq_false_iff, Bool.or_eq_false_iff, Bool.not_eq_false', bne_iff_ne, beq_iff_eq, ne_eq, not_and, Decidable.not_not, Bool.true_and, Bool.and_true, Bool.false_or, Bool.or_false] at c22
        have hei : m = t.kids.length := by omega
        refine go_exit rfl ?_
        refine go_seq ?_
        refine go_seq ?_
        refine go_region ⟨_, Tryz.func43⟩ rfl ?_
        refine q0 rfl (o_assign ?_)
        refine rg_nil ?_
        refine go_block ?_
        refine go_loopE (X := Nat) (fun s_ => s_ ≤ t.sys.length) (fun s_ => [(1, .int .i64 (i)), (2, .pointer (some ⟨b2, 0, none⟩)), (5, .bool (accK ((accK (hasM (fDims t.r) i) (hasK t i) t.kids.length)) (hasS t i) s_)), (9, .int .i64 ((s_ : Int)))]) (fun s_ G_ => G_) (fun s_ => [boxR b2 (tc t vr_t vk_t vs_t) 26]) (fun s_ => t.sys.length - s_) (0) (by omega) (by exact ⟨rfl, rfl, (by (conv => lhs; whnf); rw [accK_zero, ← hei]), rfl, trivial⟩) ?_ ?_
        · exact fun w hs => hs
        · intro s base1 hi1 next1
          refine go_seq ?_
          refine go_seq ?_
          refine go_region ⟨_, Tryz.func43⟩ rfl ?_
          refine q0 rfl (o_move ?_)
          refine q0 rfl (o_fa ?_)
          refine q0 rfl (o_ld ?_)
          refine q0 rfl (o_len ?_)
          refine q0 rfl (o_lss ?_)
          refine rg_nil ?_
          refine go_condI (fun h48 => ?_) (fun h48 => ?_)
          · have c48 : (decide ((s : Int) < ((t).sys.length : Int))) = true := h48
            try simp only [decide_eq_true_eq, decide_eq_false_iff_not, Bool.and_eq_true, Bool.or_eq_true, Bool.not_eq_true', Bool.and_eq_false_iff, Bool.or_eq_false_iff, Bool.not_eq_false', bne_iff_ne, beq_iff_eq, ne_eq, not_and, Decidable.not_not, Bool.true_and, Bool.and_true, Bool.false_or, Bool.or_false] at c48
            have hfd2 := fDims_lt (t.sys.getD s br0).face
            refine go_skip ?_
            refine go_seq ?_
            refine go_block ?_
            refine go_seq ?_
            refine go_branch (bs := (t).sys) (a := vs_t) (VF := VF4) (VK := VK4) s (by omega) ?_
            refine go_openCL (l := (((t).sys).getD s br0).face) (a := VF4 s) (fun hl6 hA6 hU6 => ?_)
            refine go_openTL (ts := (((t).sys).getD s br0).kids) (a := VK4 s) (fun VR7 VK7 VS7 hl7 hA7 => ?_)
            refine go_cutS ([(1, .int .i64 (i)), (2, .pointer (some ⟨b2, 0, none⟩)), (5, .bool ((accK ((accK (hasM (fDims t.r) i) (hasK t i) t.kids.length)) (hasS t i) s) || (hasM (fDims ((((t).sys).getD s br0).face)) i))), (9, .int .i64 ((s : Int)))]) (fun hK => ?_) (fun base => ?_)
            · refine go_region ⟨_, Tryz.func43⟩ rfl ?_
              refine q0 rfl (o_move ?_)
              refine q0 rfl (o_move ?_)
              refine qI rfl rfl rfl (by conv => lhs; whnf) (fun hg52 => ?_) (fun hg52 => ?_)
              · have g52 : (accK ((accK (hasM (fDims t.r) i) (hasK t i) t.kids.length)) (hasS t i) s) = false := hg52
                try simp only [decide_eq_true_eq, decide_eq_false_iff_not, Bool.and_eq_true, Bool.or_eq_true, Bool.not_eq_true', Bool.and_eq_false_iff, Bool.or_eq_false_iff, Bool.not_eq_false', bne_iff_ne, beq_iff_eq, ne_eq, not_and, Decidable.not_not, Bool.true_and, Bool.and_true, Bool.false_or, Bool.or_false] at g52
                refine o_fa ?_
                refine qT rfl rfl rfl (o_ld ?_)
                refine qT rfl rfl rfl (o_move ?_)
                obtain ⟨bk8, o8, hav8⟩ := hA4 (by omega)
                refine qT rfl rfl rfl (o_ixN ?_ (j := s))
                refine qT rfl rfl rfl (o_fa ?_)
                refine qT rfl rfl rfl (o_ldBf ?_)
                refine qT rfl rfl rfl (o_call Tryz.call77 (rfdims ((((t).sys).getD s br0).face) (VF4 s) ) (fun x59 => ?_))
                refine qT rfl rfl rfl (o_move ?_)
                refine qT rfl rfl rfl (o_call Tryz.call76 (rhas (fDims ((((t).sys).getD s br0).face)) i (by first | assumption | omega | (unfold in64 at *; omega) | (unfold reach at *; omega) | (simp_all; done))) (fun x61 => ?_))
                refine q0 rfl (o_pickF ?_)
                refine q0 rfl (o_assign ?_)
                refine rg_nil ?_
                exact hK _ ⟨rfl, rfl, (by first | rfl | ((conv => lhs; whnf); first | (simp_all; done) | (simp_all; omega))), rfl, trivial⟩
              · have g52 : (accK ((accK (hasM (fDims t.r) i) (hasK t i) t.kids.length)) (hasS t i) s) = true := hg52
                try simp only [decide_eq_true_eq, decide_eq_false_iff_not, Bool.and_eq_true, Bool.or_eq_true, Bool.not_eq_true', Bool.and_eq_false_iff, Bool.or_eq_false_iff, Bool.not_eq_false', bne_iff_ne, beq_iff_eq, ne_eq, not_and, Decidable.not_not, Bool.true_and, Bool.and_true, Bool.false_or, Bool.or_false] at g52
                refine qF rfl rfl rfl ?_
                refine qF rfl rfl rfl ?_
                refine qF rfl rfl rfl ?_
                refine qF rfl rfl rfl ?_
                refine qF rfl rfl rfl ?_
                refine qF rfl rfl rfl ?_
                refine qF rfl rfl rfl ?_
                refine qF rfl rfl rfl ?_
                refine q0 rfl (o_pickT ?_)
                refine q0 rfl (o_assign ?_)
                refine rg_nil ?_
                exact hK _ ⟨rfl, rfl, (by first | rfl | ((conv => lhs; whnf); first | (simp_all; done) | (simp_all; omega))), rfl, trivial⟩
            · refine go_seq ?_
              refine go_region ⟨_, Tryz.func43⟩ rfl ?_
              refine q0 rfl (o_assign ?_)
              refine rg_nil ?_
              refine go_block ?_
              refine go_loopE (X := Nat) (fun s_ => s_ ≤ (t.sys.getD s br0).kids.length) (fun s_ => [(1, .int .i64 (i)), (2, .pointer (some ⟨b2, 0, none⟩)), (5, .bool (accK ((accK (accK (hasM (fDims t.r) i) (hasK t i) t.kids.length) (hasS t i) s || hasF t i s)) (hasJ t i s) s_)), (9, .int .i64 ((s : Int))), (10, .int .i64 ((s_ : Int)))]) (fun s_ G_ => G_) (fun s_ => [boxR b2 (tc t vr_t vk_t vs_t) 26]) (fun s_ => (t.sys.getD s br0).kids.length - s_) (0) (by omega) (by exact ⟨rfl, rfl, (by (conv => lhs; whnf); first | (rw [accK_zero]; done) | (rw [accK_zero]; rfl)), rfl, rfl, trivial⟩) ?_ ?_
              · exact fun w hs => hs
              · intro k base2 hi2 next2
                refine go_seq ?_
                refine go_seq ?_
                refine go_region ⟨_, Tryz.func43⟩ rfl ?_
                refine q0 rfl (o_move ?_)
                refine q0 rfl (o_fa ?_)
                refine q0 rfl (o_ld ?_)
                refine q0 rfl (o_move ?_)
                obtain ⟨bk9, o9, hav9⟩ := hA4 (by omega)
                refine q0 rfl (o_ixN ?_ (j := s))
                refine q0 rfl (o_fa ?_)
                refine q0 rfl (o_ldBf ?_)
                refine q0 rfl (o_len ?_)
                refine q0 rfl (o_lss ?_)
                refine rg_nil ?_
                refine go_condI (fun h71 => ?_) (fun h71 => ?_)
                · have c71 : (decide ((k : Int) < ((((t).sys).getD s br0).kids.length : Int))) = true := h71
                  try simp only [decide_eq_true_eq, decide_eq_false_iff_not, Bool.and_eq_true, Bool.or_eq_true, Bool.not_eq_true', Bool.and_eq_false_iff, Bool.or_eq_false_iff, Bool.not_eq_false', bne_iff_ne, beq_iff_eq, ne_eq, not_and, Decidable.not_not, Bool.true_and, Bool.and_true, Bool.false_or, Bool.or_false] at c71
                  have hsd : depth ((t.sys.getD s br0).kids.getD k t0) < depth t := by obtain ⟨p, hp, e⟩ := sys_mem_parts (getD_mem (d := br0) (show s < t.sys.length by omega)) (getD_mem (d := t0) (show k < (t.sys.getD s br0).kids.length by omega)); exact e ▸ depth_mem hp
                  refine go_skip ?_
                  refine go_seq ?_
                  refine go_block ?_
                  refine go_kid (ts := (((t).sys).getD s br0).kids) (a := VK4 s) (VR := VR7) (VK := VK7) (VS := VS7) k (by omega) ?_
                  refine go_cutS ([(1, .int .i64 (i)), (2, .pointer (some ⟨b2, 0, none⟩)), (5, .bool ((accK ((accK (accK (hasM (fDims t.r) i) (hasK t i) t.kids.length) (hasS t i) s || hasF t i s)) (hasJ t i s) k) || (hasD (((((t).sys).getD s br0).kids).getD k t0) (i + (more ((t).kind)))))), (9, .int .i64 ((s : Int))), (10, .int .i64 ((k : Int)))]) (fun hK => ?_) (fun base => ?_)
                  · refine go_draw (tn := false) (A := [0, 1, 3, 7, 3, 31, 63, 127, 3, 511, 1023, 3, 3, 4099, 12291, 30723, 65535, 131071, 262143]) (l := [0, 1, 2, 3, 4, 5, 6, 7, 8, 9, 10, 11, 12, 13, 14, 15, 16, 17, 18]) (fin := []) Tab.mixed ⟨_, Tryz.func43⟩ (by rfl) ?_
                    refine n0 rfl (v_move ?_)
                    refine n0 rfl (v_move ?_)
                    refine nI rfl rfl rfl (by conv => lhs; whnf) (fun hg75 => ?_) (fun hg75 => ?_)
                    · have g75 : (accK ((accK (accK (hasM (fDims t.r) i) (hasK t i) t.kids.length) (hasS t i) s || hasF t i s)) (hasJ t i s) k) = false := hg75
                      try simp only [decide_eq_true_eq, decide_eq_false_iff_not, Bool.and_eq_true, Bool.or_eq_true, Bool.not_eq_true', Bool.and_eq_false_iff, Bool.or_eq_false_iff, Bool.not_eq_false', bne_iff_ne, beq_iff_eq, ne_eq, not_and, Decidable.not_not, Bool.true_and, Bool.and_true, Bool.false_or, Bool.or_false] at g75
                      refine v_fa ?_
                      refine nT rfl rfl rfl (v_ld ?_)
                      refine nT rfl rfl rfl (v_move ?_)
                      refine nT rfl rfl rfl (v_ixN ?_ (j := s))
                      refine nT rfl rfl rfl (v_fa ?_)
                      refine nT rfl rfl rfl (v_ldBf ?_)
                      refine nT rfl rfl rfl (v_move ?_)
                      obtain ⟨bk10, o10, hav10⟩ := hA7 (by omega)
                      refine nT rfl rfl rfl (v_ixN ?_ (j := k))
                      refine nT rfl rfl rfl (v_ldT ?_)
                      refine nT rfl rfl rfl (v_move ?_)
                      refine nT rfl rfl rfl (v_fa ?_)
                      refine nT rfl rfl rfl (v_ld ?_)
                      refine nT rfl rfl rfl (v_call Tryz.call51 (rmore_spec ((t).kind) ) (fun x88 => ?_))
                      refine nT rfl rfl rfl (v_add ?_)
                      refine nT rfl rfl rfl (v_call Tryz.call43 ((ihs (((t).sys).getD s br0) (getD_mem (show s < ((t).sys).length by omega)) (((((t).sys).getD s br0).kids).getD k t0) (getD_mem (show k < ((((t).sys).getD s br0).kids).length by omega))) (VR7 k) (VK7 k) (VS7 k) (i + (more ((t).kind))) (by omega) (by omega)) (fun x90 => ?_))
                      refine n0 rfl (v_pickF ?_)
                      refine n0 rfl (v_assign ?_)
                      refine NV.done ?_
                      refine rg_nil ?_
                      exact hK _ ⟨rfl, rfl, (by first | rfl | ((conv => lhs; whnf); first | (simp_all; done) | (simp_all; omega))), rfl, rfl, trivial⟩
                    · have g75 : (accK ((accK (accK (hasM (fDims t.r) i) (hasK t i) t.kids.length) (hasS t i) s || hasF t i s)) (hasJ t i s) k) = true := hg75
                      try simp only [decide_eq_true_eq, decide_eq_false_iff_not, Bool.and_eq_true, Bool.or_eq_true, Bool.not_eq_true', Bool.and_eq_false_iff, Bool.or_eq_false_iff, Bool.not_eq_false', bne_iff_ne, beq_iff_eq, ne_eq, not_and, Decidable.not_not, Bool.true_and, Bool.and_true, Bool.false_or, Bool.or_false] at g75
                      refine nF rfl rfl rfl ?_
                      refine nF rfl rfl rfl ?_
                      refine nF rfl rfl rfl ?_
                      refine nF rfl rfl rfl ?_
                      refine nF rfl rfl rfl ?_
                      refine nF rfl rfl rfl ?_
                      refine nF rfl rfl rfl ?_
                      refine nF rfl rfl rfl ?_
                      refine nF rfl rfl rfl ?_
                      refine nF rfl rfl rfl ?_
                      refine nF rfl rfl rfl ?_
                      refine nF rfl rfl rfl ?_
                      refine nF rfl rfl rfl ?_
                      refine nF rfl rfl rfl ?_
                      refine n0 rfl (v_pickT ?_)
                      refine n0 rfl (v_assign ?_)
                      refine NV.done ?_
                      refine rg_nil ?_
                      exact hK _ ⟨rfl, rfl, (by first | rfl | ((conv => lhs; whnf); first | (simp_all; done) | (simp_all; omega))), rfl, rfl, trivial⟩
                  · refine go_inBlock ?_
                    refine go_region ⟨_, Tryz.func43⟩ rfl ?_
                    refine q0 rfl (o_move ?_)
                    refine q0 rfl (o_add ?_)
                    refine q0 rfl (o_assign ?_)
                    refine rg_nil ?_
                    refine go_state (fun w hs => ?_) (next2 (k + 1) _ (by omega) (by omega) ⟨rfl, rfl, (by (conv => lhs; whnf); rw [accK_succ]; rfl), rfl, rfl, trivial⟩)
                    exact (hs.less (by simp +contextual))
                · have c71 : (decide ((k : Int) < ((((t).sys).getD s br0).kids.length : Int))) = false := h71
                  try simp only [decide_eq_true_eq, decide_eq_false_iff_not, Bool.and_eq_true, Bool.or_eq_true, Bool.not_eq_true', Bool.and_eq_false_iff, Bool.or_eq_false_iff, Bool.not_eq_false', bne_iff_ne, beq_iff_eq, ne_eq, not_and, Decidable.not_not, Bool.true_and, Bool.and_true, Bool.false_or, Bool.or_false] at c71
                  have hek : k = (t.sys.getD s br0).kids.length := by omega
                  refine go_exit rfl ?_
                  refine go_inBlock ?_
                  refine go_region ⟨_, Tryz.func43⟩ rfl ?_
                  refine q0 rfl (o_move ?_)
                  refine q0 rfl (o_add ?_)
                  refine q0 rfl (o_assign ?_)
                  refine rg_nil ?_
                  refine go_state (fun w hs => ?_) (next1 (s + 1) _ (by omega) (by omega) ⟨rfl, rfl, (by (conv => lhs; whnf); rw [hek, hasJoin]), rfl, trivial⟩)
                  exact (hs.less (by simp +contextual))
          · have c48 : (decide ((s : Int) < ((t).sys.length : Int))) = false := h48
            try simp only [decide_eq_true_eq, decide_eq_false_iff_not, Bool.and_eq_true, Bool.or_eq_true, Bool.not_eq_true', Bool.and_eq_false_iff, Bool.or_eq_false_iff, Bool.not_eq_false', bne_iff_ne, beq_iff_eq, ne_eq, not_and, Decidable.not_not, Bool.true_and, Bool.and_true, Bool.false_or, Bool.or_false] at c48
            have hes : s = t.sys.length := by omega
            refine go_exit rfl ?_
            refine go_seq ?_
            refine go_region ⟨_, Tryz.func43⟩ rfl ?_
            refine q0 rfl (o_move ?_)
            refine q0 rfl (o_assign ?_)
            refine rg_nil ?_
            -- leaf 1: .bool (accK ((accK (hasM (fDims t.r) i) (hasK t i) t.kids.length)) (hasS t i) s)
            refine ret1 Tryz.func43 Tryz.results43 (by first | ((conv => lhs; whnf); done) | rfl) () (by rw [hes, has_acc h0 (by omega)]) (fun w hs => hs.none)
theorem rhasD_spec : ∀ t : T, RhasDAt t := T.ind' fun t ihk ihs vr_t vk_t vs_t i h0 hl => rhasD_walk t ihk ihs vr_t vk_t vs_t i h0 hl

theorem rdims (t : T) (vr_t vk_t vs_t : SH) (hz : size t ≤ 1000000000) : Spec Tryz.prog 13 #[.agg (tc t vr_t vk_t vs_t).toArray] [RT t vr_t vk_t vs_t] [] (fun _ : Unit => .int .u32 (((dimsT t) : Nat) : Int)) (fun _ : Unit => []) (fun _ : Unit => []) := by
  refine spec_go (args := [.agg (tc t vr_t vk_t vs_t).toArray]) Tryz.func13 Tryz.ntmps13 rfl (by exact Nat.le_of_ble_eq_true rfl) fun B hB => ?_
  refine go_open (t := t) (vr := vr_t) (vk := vk_t) (vs := vs_t) (fun hk1 hn1 hm1 => ?_)
  refine go_openCL (l := (t).r) (a := vr_t) (fun hl2 hA2 hU2 => ?_)
  refine go_openTL (ts := (t).kids) (a := vk_t) (fun VR3 VK3 VS3 hl3 hA3 => ?_)
  refine go_openBL (bs := (t).sys) (a := vs_t) (fun VF4 VK4 hl4 hA4 => ?_)
  have hds := depth_le_size t
  refine go_seq ?_
  refine go_region ⟨_, Tryz.func13⟩ rfl ?_
  refine q0 rfl (o_box fun b1 => ?_)
  refine q0 rfl (o_assign ?_)
  refine rg_nil ?_
  refine go_seq ?_
  refine go_region ⟨_, Tryz.func13⟩ rfl ?_
  refine q0 rfl (o_assign ?_)
  refine rg_nil ?_
  refine go_seq ?_
  refine go_seq ?_
  refine go_region ⟨_, Tryz.func13⟩ rfl ?_
  refine q0 rfl (o_assign ?_)
  refine rg_nil ?_
  refine go_block ?_
  refine go_loopE (X := Nat × SH) (fun s_ => s_.1 ≤ 24) (fun s_ => [(1, .pointer (some ⟨b1, 0, none⟩)), (3, sl s_.2 ((listTo (dimsT t) s_.1).length)), (4, .int .i64 ((s_.1 : Int)))]) (fun s_ G_ => G_) (fun s_ => [rowS 1 3 s_.2 ((listTo (dimsT t) s_.1).length) (intFlat (listTo (dimsT t) s_.1)), boxR b1 (tc t vr_t vk_t vs_t) 26]) (fun s_ => 24 - s_.1) (0, (none, 0)) (by omega) (by exact ⟨rfl, rfl, rfl, trivial⟩) ?_ ?_
  · exact fun w hs => (hs.rowS0 1 3)
  · intro ⟨i, a⟩ base0 hi0 next0
    dsimp only at hi0 next0 ⊢
    have hln := listTo_len (dimsT t) i
    refine go_seq ?_
    refine go_seq ?_
    refine go_region ⟨_, Tryz.func13⟩ rfl ?_
    refine q0 rfl (o_move ?_)
    refine q0 rfl (o_lss ?_)
    refine rg_nil ?_
    refine go_condI (fun h6 => ?_) (fun h6 => ?_)
    · have c6 : (decide ((i : Int) < 24)) = true := h6
      try simp only [decide_eq_true_eq, decide_eq_false_iff_not, Bool.and_eq_true, Bool.or_eq_true, Bool.not_eq_true', Bool.and_eq_false_iff, Bool.or_eq_false_iff, Bool.not_eq_false', bne_iff_ne, beq_iff_eq, ne_eq, not_and, Decidable.not_not, Bool.true_and, Bool.and_true, Bool.false_or, Bool.or_false] at c6
      refine go_skip ?_
      refine go_seq ?_
      refine go_block ?_
      refine go_seq ?_
      refine go_region ⟨_, Tryz.func13⟩ rfl ?_
      refine q0 rfl (o_lds ?_)
      refine q0 rfl (o_move ?_)
      refine q0 rfl (o_call Tryz.call43 (rhasD_spec t vr_t vk_t vs_t (i : Int) (by omega) (by omega)) (fun x11 => ?_))
      refine rg_nil ?_
      refine go_condI (fun h11 => ?_) (fun h11 => ?_)
      · have c11 : (hasD t (i : Int)) = true := h11
        try simp only [decide_eq_true_eq, decide_eq_false_iff_not, Bool.and_eq_true, Bool.or_eq_true, Bool.not_eq_true', Bool.and_eq_false_iff, Bool.or_eq_false_iff, Bool.not_eq_false', bne_iff_ne, beq_iff_eq, ne_eq, not_and, Decidable.not_not, Bool.true_and, Bool.and_true, Bool.false_or, Bool.or_false] at c11
        refine go_region ⟨_, Tryz.func13⟩ rfl ?_
        refine q0 rfl (o_move ?_)
        refine q0 rfl (o_move ?_)
        refine q0 rfl (o_lit1 fun b14 => ?_)
        refine q0 rfl (o_appS (fun a15 => ?_) (a := a) (n' := (listTo (dimsT t) i).length))
        refine rg_state (fun w hs => ((hs.perm perm1).drop).snocI) ?_
        refine q0 rfl (o_assign ?_)
        refine rg_nil ?_
        refine go_inBlock ?_
        refine go_region ⟨_, Tryz.func13⟩ rfl ?_
        refine q0 rfl (o_move ?_)
        refine q0 rfl (o_add ?_)
        refine q0 rfl (o_assign ?_)
        refine rg_nil ?_
        have hnx : listTo (dimsT t) (i + 1) = listTo (dimsT t) i ++ [(i : Int)] := by rw [listTo_succ, if_pos]; have h9 := h11; simp [hasD] at h9; exact h9.2
        refine go_state (fun w hs => ?_) (next0 (i + 1, a15) _ (by omega) (by (try simp only); omega) ⟨rfl, (by (conv => lhs; whnf); simp [sl, hnx]), rfl, trivial⟩)
        rw [hnx, List.length_append]; exact (((hs.less (by simp +contextual)).perm perm1).perm perm1)
      · have c11 : (hasD t (i : Int)) = false := h11
        try simp only [decide_eq_true_eq, decide_eq_false_iff_not, Bool.and_eq_true, Bool.or_eq_true, Bool.not_eq_true', Bool.and_eq_false_iff, Bool.or_eq_false_iff, Bool.not_eq_false', bne_iff_ne, beq_iff_eq, ne_eq, not_and, Decidable.not_not, Bool.true_and, Bool.and_true, Bool.false_or, Bool.or_false] at c11
        refine go_skip ?_
        refine go_inBlock ?_
        refine go_region ⟨_, Tryz.func13⟩ rfl ?_
        refine q0 rfl (o_move ?_)
        refine q0 rfl (o_add ?_)
        refine q0 rfl (o_assign ?_)
        refine rg_nil ?_
        have hnx : listTo (dimsT t) (i + 1) = listTo (dimsT t) i := by rw [listTo_succ, if_neg]; have h9 := h11; simp [hasD] at h9; simp [h9 (by omega)]
        refine go_state (fun w hs => ?_) (next0 (i + 1, a) _ (by omega) (by (try simp only); omega) ⟨rfl, (by (conv => lhs; whnf); simp [sl, hnx]), rfl, trivial⟩)
        rw [hnx]; exact (((hs.less (by simp +contextual)).perm perm1).perm perm1)
    · have c6 : (decide ((i : Int) < 24)) = false := h6
      try simp only [decide_eq_true_eq, decide_eq_false_iff_not, Bool.and_eq_true, Bool.or_eq_true, Bool.not_eq_true', Bool.and_eq_false_iff, Bool.or_eq_false_iff, Bool.not_eq_false', bne_iff_ne, beq_iff_eq, ne_eq, not_and, Decidable.not_not, Bool.true_and, Bool.and_true, Bool.false_or, Bool.or_false] at c6
      have he : i = 24 := by omega
      subst he
      refine go_state (fun w hs => (hs.settleIL hB rfl rfl (by unfold reach; omega) (fun c hc => by have := listTo_in hc; unfold in64; omega))) ?_
      refine go_exit rfl ?_
      refine go_seq ?_
      refine go_region ⟨_, Tryz.func13⟩ rfl ?_
      refine q0 rfl (o_move ?_)
      refine q0 rfl (o_call Tryz.call44 (rset (listTo (dimsT t) 24) a (by omega) (fun x hx => by have := listTo_in hx; omega)) (fun x17 => ?_))
      refine q0 rfl (o_assign ?_)
      refine rg_nil ?_
      -- leaf 0: .int .u32 (((setM (listTo (dimsT t) i)) : Nat) : Int)
      refine ret1 Tryz.func13 Tryz.results13 (by first | ((conv => lhs; whnf); done) | rfl) () (by rw [dims_set]) (fun w hs => hs.none)

theorem termUses_spec (t : T) (vr_t vk_t vs_t : SH) (n : Int) (hn : in64 n) : Spec Tryz.prog 3 #[.agg (tc t vr_t vk_t vs_t).toArray, .int .i64 (n)] [RT t vr_t vk_t vs_t] [] (fun _ : Unit => .bool (true)) (fun _ : Unit => []) (fun _ : Unit => []) := by
  refine spec_go (args := [.agg (tc t vr_t vk_t vs_t).toArray, .int .i64 (n)]) Tryz.func3 Tryz.ntmps3 rfl (by exact Nat.le_of_ble_eq_true rfl) fun B hB => ?_
  refine go_open (t := t) (vr := vr_t) (vk := vk_t) (vs := vs_t) (fun hk1 hn1 hm1 => ?_)
  refine go_openCL (l := (t).r) (a := vr_t) (fun hl2 hA2 hU2 => ?_)
  refine go_openTL (ts := (t).kids) (a := vk_t) (fun VR3 VK3 VS3 hl3 hA3 => ?_)
  refine go_openBL (bs := (t).sys) (a := vs_t) (fun VF4 VK4 hl4 hA4 => ?_)
  have hbt := size_le_bulk t
  have hdl := dims_lt t
  refine go_seq ?_
  refine go_region ⟨_, Tryz.func3⟩ rfl ?_
  refine q0 rfl (o_box fun b2 => ?_)
  refine q0 rfl (o_assign ?_)
  refine rg_nil ?_
  refine go_seq ?_
  refine go_seq ?_
  refine go_cutS ([(1, .int .i64 (n)), (2, .pointer (some ⟨b2, 0, none⟩)), (11, .bool ((decide (500 < bulk t)) || (decide ((formedP t) ≠ 0))))]) (fun hK => ?_) (fun base => ?_)
  · refine go_region ⟨_, Tryz.func3⟩ rfl ?_
    refine q0 rfl (o_lds ?_)
    refine q0 rfl (o_call Tryz.call7 (great10_spec t vr_t vk_t vs_t ) (fun x6 => ?_))
    refine q0 rfl (o_move ?_)
    refine qI rfl rfl rfl (by conv => lhs; whnf) (fun hg7 => ?_) (fun hg7 => ?_)
    · have g7 : ((decide (500 < bulk t))) = false := hg7
      try simp only [decide_eq_true_eq, decide_eq_false_iff_not, Bool.and_eq_true, Bool.or_eq_true, Bool.not_eq_true', Bool.and_eq_false_iff, Bool.or_eq_false_iff, Bool.not_eq_false', bne_iff_ne, beq_iff_eq, ne_eq, not_and, Decidable.not_not, Bool.true_and, Bool.and_true, Bool.false_or, Bool.or_false] at g7
      refine o_lds ?_
      refine qT rfl rfl rfl (o_call Tryz.call8 (rformed_spec t vr_t vk_t vs_t (by first | assumption | omega | (unfold in64 at *; omega) | (unfold reach at *; omega) | (simp_all; done))) (fun x9 => ?_))
      refine qT rfl rfl rfl (o_neI ?_)
      refine q0 rfl (o_pickF ?_)
      refine rg_nil ?_
      exact hK _ ⟨rfl, rfl, (by first | rfl | ((conv => lhs; whnf); first | (simp_all; done) | (simp_all; omega))), trivial⟩
    · have g7 : ((decide (500 < bulk t))) = true := hg7
      try simp only [decide_eq_true_eq, decide_eq_false_iff_not, Bool.and_eq_true, Bool.or_eq_true, Bool.not_eq_true', Bool.and_eq_false_iff, Bool.or_eq_false_iff, Bool.not_eq_false', bne_iff_ne, beq_iff_eq, ne_eq, not_and, Decidable.not_not, Bool.true_and, Bool.and_true, Bool.false_or, Bool.or_false] at g7
      refine qF rfl rfl rfl ?_
      refine qF rfl rfl rfl ?_
      refine q0 rfl (o_pickT ?_)
      refine rg_nil ?_
      exact hK _ ⟨rfl, rfl, (by first | rfl | ((conv => lhs; whnf); first | (simp_all; done) | (simp_all; omega))), trivial⟩
  · refine go_condI (fun h11 => ?_) (fun h11 => ?_)
    · have c11 : ((decide (500 < bulk t)) || (decide ((formedP t) ≠ 0))) = true := h11
      try simp only [decide_eq_true_eq, decide_eq_false_iff_not, Bool.and_eq_true, Bool.or_eq_true, Bool.not_eq_true', Bool.and_eq_false_iff, Bool.or_eq_false_iff, Bool.not_eq_false', bne_iff_ne, beq_iff_eq, ne_eq, not_and, Decidable.not_not, Bool.true_and, Bool.and_true, Bool.false_or, Bool.or_false] at c11
      refine go_seq ?_
      refine go_region ⟨_, Tryz.func3⟩ rfl ?_
      refine q0 rfl (o_call Tryz.call9 (works10_spec ) (fun x12 => ?_))
      refine q0 rfl (o_assign ?_)
      refine rg_nil ?_
      -- leaf 0: .bool (true)
      refine ret1 Tryz.func3 Tryz.results3 (by first | ((conv => lhs; whnf); done) | rfl) () (by first | rfl | simp) (fun w hs => hs.none)
    · have c11 : ((decide (500 < bulk t)) || (decide ((formedP t) ≠ 0))) = false := h11
      try simp only [decide_eq_true_eq, decide_eq_false_iff_not, Bool.and_eq_true, Bool.or_eq_true, Bool.not_eq_true', Bool.and_eq_false_iff, Bool.or_eq_false_iff, Bool.not_eq_false', bne_iff_ne, beq_iff_eq, ne_eq, not_and, Decidable.not_not, Bool.true_and, Bool.and_true, Bool.false_or, Bool.or_false] at c11
      refine go_skip ?_
      refine go_seq ?_
      refine go_cutS ([(4, .bool (((uses t n) == (uses t n)) && (decide ((dimsT t) = (dimsT t)))))]) (fun hK => ?_) (fun base => ?_)
      · refine go_draw (tn := false) (A := [0, 0, 3, 0, 0, 31, 63, 127, 255, 511, 255, 2047, 4095, 8191, 16383, 32767, 65535, 131071]) (l := [0, 1, 3, 4, 2, 5, 6, 7, 8, 10, 9, 11, 12, 13, 14, 15, 16, 17]) (fin := []) Tab.mixed ⟨_, Tryz.func3⟩ (by rfl) ?_
        refine n0 rfl (v_lds ?_)
        refine n0 rfl (v_move ?_)
        refine n0 rfl (v_lds ?_)
        refine n0 rfl (v_move ?_)
        refine n0 rfl (v_call Tryz.call10 (uses_spec t n vr_t vk_t vs_t (by first | assumption | omega | (unfold in64 at *; omega) | (unfold reach at *; omega) | (simp_all; done))) (fun x15 => ?_))
        refine n0 rfl (v_call Tryz.call11 (ruses_spec t vr_t vk_t vs_t n (by first | assumption | exact wrap_in _)) (fun x18 => ?_))
        refine n0 rfl (v_eqB ?_)
        refine n0 rfl (v_move ?_)
        refine nI rfl rfl rfl (by conv => lhs; whnf) (fun hg20 => ?_) (fun hg20 => ?_)
        · have g20 : ((uses t n) == (uses t n)) = true := hg20
          try simp only [decide_eq_true_eq, decide_eq_false_iff_not, Bool.and_eq_true, Bool.or_eq_true, Bool.not_eq_true', Bool.and_eq_false_iff, Bool.or_eq_false_iff, Bool.not_eq_false', bne_iff_ne, beq_iff_eq, ne_eq, not_and, Decidable.not_not, Bool.true_and, Bool.and_true, Bool.false_or, Bool.or_false] at g20
          refine v_lds ?_
          refine nT rfl rfl rfl (v_lds ?_)
          refine nT rfl rfl rfl (v_call Tryz.call12 (dims_spec t vr_t vk_t vs_t) (fun x22 => ?_))
          refine nT rfl rfl rfl (v_call Tryz.call13 (rdims t vr_t vk_t vs_t (by first | assumption | omega | (unfold in64 at *; omega) | (unfold reach at *; omega) | (simp_all; done))) (fun x24 => ?_))
          refine nT rfl rfl rfl (v_eqU ?_ (a := (dimsT t)) (b := (dimsT t)))
          refine n0 rfl (v_pickT ?_)
          refine n0 rfl (v_move ?_)
          refine nI rfl rfl rfl (by conv => lhs; whnf) (fun hg27 => ?_) (fun hg27 => ?_)
          · have g27 : (decide ((dimsT t) = (dimsT t))) = true := hg27
            try simp only [decide_eq_true_eq, decide_eq_false_iff_not, Bool.and_eq_true, Bool.or_eq_true, Bool.not_eq_true', Bool.and_eq_false_iff, Bool.or_eq_false_iff, Bool.not_eq_false', bne_iff_ne, beq_iff_eq, ne_eq, not_and, Decidable.not_not, Bool.true_and, Bool.and_true, Bool.false_or, Bool.or_false] at g27
            refine v_call Tryz.call9 (works10_spec ) (fun x28 => ?_)
            refine n0 rfl (v_pickT ?_)
            refine n0 rfl (v_assign ?_)
            refine NV.done ?_
            refine rg_nil ?_
            exact hK _ ⟨(by first | rfl | ((conv => lhs; whnf); first | (simp_all; done) | (simp_all; omega))), trivial⟩
          · have g27 : (decide ((dimsT t) = (dimsT t))) = false := hg27
            try simp only [decide_eq_true_eq, decide_eq_false_iff_not, Bool.and_eq_true, Bool.or_eq_true, Bool.not_eq_true', Bool.and_eq_false_iff, Bool.or_eq_false_iff, Bool.not_eq_false', bne_iff_ne, beq_iff_eq, ne_eq, not_and, Decidable.not_not, Bool.true_and, Bool.and_true, Bool.false_or, Bool.or_false] at g27
            refine n0 rfl (v_pickF ?_)
            refine n0 rfl (v_assign ?_)
            refine NV.done ?_
            refine rg_nil ?_
            exact hK _ ⟨(by first | rfl | ((conv => lhs; whnf); first | (simp_all; done) | (simp_all; omega))), trivial⟩
        · have g20 : ((uses t n) == (uses t n)) = false := hg20
          try simp only [decide_eq_true_eq, decide_eq_false_iff_not, Bool.and_eq_true, Bool.or_eq_true, Bool.not_eq_true', Bool.and_eq_false_iff, Bool.or_eq_false_iff, Bool.not_eq_false', bne_iff_ne, beq_iff_eq, ne_eq, not_and, Decidable.not_not, Bool.true_and, Bool.and_true, Bool.false_or, Bool.or_false] at g20
          refine nF rfl rfl rfl ?_
          refine nF rfl rfl rfl ?_
          refine nF rfl rfl rfl ?_
          refine nF rfl rfl rfl ?_
          refine n0 rfl (v_pickF ?_)
          refine n0 rfl (v_move ?_)
          refine nF rfl rfl rfl ?_
          refine n0 rfl (v_pickF ?_)
          refine n0 rfl (v_assign ?_)
          refine NV.done ?_
          refine rg_nil ?_
          exact hK _ ⟨(by first | rfl | ((conv => lhs; whnf); first | (simp_all; done) | (simp_all; omega))), trivial⟩
      · -- leaf 1: .bool (((uses t n) == (uses t n)) && (decide ((dimsT t) = (dimsT t))))
        refine ret1 Tryz.func3 Tryz.results3 (by first | ((conv => lhs; whnf); done) | rfl) () (by first | rfl | simp) (fun w hs => hs.none)

end Go.Hy
