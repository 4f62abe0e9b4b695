/- Contracts of functions of this program, one theorem each (printed by a program of this repository). -/
import Derived.Test.YtcofpfnnlageaaaHyAuto2
import Derived.Test.YtcofpfnnlageaaaHyTab
import Derived.Test.YtcofpfnnlageaaaHyLaw10
import Derived.Test.YtcofpfnnlageaaaS9
import Derived.Test.YtcofpfnnlageaaaS11
import Derived.Test.YtcofpfnnlageaaaS16
namespace Go.Hy
set_option linter.unusedVariables false
set_option linter.unusedSimpArgs false
set_option linter.unusedSectionVars false
open Go.Proofs
set_option linter.unusedVariables false
set_option linter.unusedSimpArgs false
set_option maxRecDepth 100000
theorem termParts_spec (t : T) (vr_t vk_t vs_t : SH) (u : T) (vr_u vk_u vs_u : SH) (v : Int) (d : Int) (hv : in64 v) (hd : in64 d) : Spec Try.prog 6 #[.agg (tc t vr_t vk_t vs_t).toArray, .agg (tc u vr_u vk_u vs_u).toArray, .int .i64 (v), .int .i64 (d)] [RT t vr_t vk_t vs_t, RT u vr_u vk_u vs_u] [] (fun _ : Unit => .bool (true)) (fun _ : Unit => []) (fun _ : Unit => []) := by
  refine spec_go (args := [.agg (tc t vr_t vk_t vs_t).toArray, .agg (tc u vr_u vk_u vs_u).toArray, .int .i64 (v), .int .i64 (d)]) Try.func6 Try.ntmps6 rfl (by exact Nat.le_of_ble_eq_true rfl) fun B hB => ?_
  refine go_open (t := t) (vr := vr_t) (vk := vk_t) (vs := vs_t) (fun hk1 hn1 hm1 => ?_)
  refine go_openCL (l := (t).r) (a := vr_t) (fun hl2 hA2 hU2 => ?_)
  refine go_openTL (ts := (t).kids) (a := vk_t) (fun VR3 VK3 VS3 hl3 hA3 => ?_)
  refine go_openBL (bs := (t).sys) (a := vs_t) (fun VF4 VK4 hl4 hA4 => ?_)
  refine go_open (t := u) (vr := vr_u) (vk := vk_u) (vs := vs_u) (fun hk5 hn5 hm5 => ?_)
  refine go_openCL (l := (u).r) (a := vr_u) (fun hl6 hA6 hU6 => ?_)
  refine go_openTL (ts := (u).kids) (a := vk_u) (fun VR7 VK7 VS7 hl7 hA7 => ?_)
  refine go_openBL (bs := (u).sys) (a := vs_u) (fun VF8 VK8 hl8 hA8 => ?_)
  refine go_seq ?_
  refine go_region ⟨_, Try.func6⟩ rfl ?_
  refine q0 rfl (o_box fun b4 => ?_)
  refine q0 rfl (o_box fun b5 => ?_)
  refine q0 rfl (o_assign ?_)
  refine rg_nil ?_
  refine go_seq ?_
  refine go_seq ?_
  refine go_region ⟨_, Try.func6⟩ rfl ?_
  refine q0 rfl (o_call Try.call17 (works10_spec ) (fun x16 => ?_))
  refine q0 rfl (o_not ?_)
  refine rg_nil ?_
  refine go_condF ?_
  refine go_skip ?_
  refine go_seq ?_
  refine go_seq ?_
  refine go_cutS ([(2, .int .i64 (v)), (3, .int .i64 (d)), (4, .pointer (some ⟨b4, 0, none⟩)), (5, .pointer (some ⟨b5, 0, none⟩)), (23, .bool ((decide (500 < bulk t)) || (decide (500 < bulk u))))]) (fun hK => ?_) (fun base => ?_)
  · refine go_region ⟨_, Try.func6⟩ rfl ?_
    refine q0 rfl (o_lds ?_)
    refine q0 rfl (o_call Try.call18 (great10_spec t vr_t vk_t vs_t ) (fun x19 => ?_))
    refine q0 rfl (o_move ?_)
    refine qI rfl rfl rfl (by conv => lhs; whnf) (fun hg20 => ?_) (fun hg20 => ?_)
    · have g20 : ((decide (500 < bulk t))) = false := by simpa using hg20
      try simp only [decide_eq_true_eq, decide_eq_false_iff_not, Bool.and_eq_true, Bool.or_eq_true, Bool.not_eq_true', Bool.and_eq_false_iff, Bool.or_eq_false_iff, Bool.not_eq_false', bne_iff_ne, beq_iff_eq, ne_eq, not_and, Decidable.not_not, Bool.true_and, Bool.and_true, Bool.false_or, Bool.or_false] at g20
      refine o_lds ?_
      refine qT rfl rfl rfl (o_call Try.call18 (great10_spec u vr_u vk_u vs_u ) (fun x22 => ?_))
      refine q0 rfl (o_pickF ?_)
      refine rg_nil ?_
      exact hK _ ⟨rfl, rfl, rfl, rfl, (by first | rfl | ((conv => lhs; whnf); first | (simp_all; done) | (simp_all; omega))), trivial⟩
    · have g20 : ((decide (500 < bulk t))) = true := by simpa using hg20
      try simp only [decide_eq_true_eq, decide_eq_false_iff_not, Bool.and_eq_true, Bool.or_eq_true, Bool.not_eq_true', Bool.and_eq_false_iff, Bool.or_eq_false_iff, Bool.not_eq_false', bne_iff_ne, beq_iff_eq, ne_eq, not_and, Decidable.not_not, Bool.true_and, Bool.and_true, Bool.false_or, Bool.or_false] at g20
      refine qF rfl rfl rfl ?_
      refine q0 rfl (o_pickT ?_)
      refine rg_nil ?_
      exact hK _ ⟨rfl, rfl, rfl, rfl, (by first | rfl | ((conv => lhs; whnf); first | (simp_all; done) | (simp_all; omega))), trivial⟩
  · refine go_condI (fun h23 => ?_) (fun h23 => ?_)
    · have c23 : ((decide (500 < bulk t)) || (decide (500 < bulk u))) = true := h23
      try simp only [decide_eq_true_eq, decide_eq_false_iff_not, Bool.and_eq_true, Bool.or_eq_true, Bool.not_eq_true', Bool.and_eq_false_iff, Bool.or_eq_false_iff, Bool.not_eq_false', bne_iff_ne, beq_iff_eq, ne_eq, not_and, Decidable.not_not, Bool.true_and, Bool.and_true, Bool.false_or, Bool.or_false] at c23
      refine go_seq ?_
      refine go_region ⟨_, Try.func6⟩ rfl ?_
      refine q0 rfl (o_assign ?_)
      refine rg_nil ?_
      -- leaf 0: .bool (true)
      refine ret1 Try.func6 Try.results6 (by first | ((conv => lhs; whnf); done) | rfl) () (by first | rfl | (exfalso; omega) | (simp_all; omega)) (fun w hs => hs.none)
    · have c23 : ((decide (500 < bulk t)) || (decide (500 < bulk u))) = false := h23
      try simp only [decide_eq_true_eq, decide_eq_false_iff_not, Bool.and_eq_true, Bool.or_eq_true, Bool.not_eq_true', Bool.and_eq_false_iff, Bool.or_eq_false_iff, Bool.not_eq_false', bne_iff_ne, beq_iff_eq, ne_eq, not_and, Decidable.not_not, Bool.true_and, Bool.and_true, Bool.false_or, Bool.or_false] at c23
      have hbt := size_le_bulk t
      have hbu := size_le_bulk u
      have hb : bulk t ≤ 500 ∧ bulk u ≤ 500 := by omega
      have hsp := size_pair t u
      have hdp := depth_pair t u
      have hdt := depth_le_size t
      have hdu := depth_le_size u
      refine go_skip ?_
      refine go_seq ?_
      refine go_region ⟨_, Try.func6⟩ rfl ?_
      refine q0 rfl (o_lds ?_)
      refine q0 rfl (o_lds ?_)
      refine q0 rfl (o_lit2 fun b26 => ?_)
      refine q0 rfl (o_build (cs := [.int .i64 (8), .int .i64 (0), .string (⟨#[]⟩), sl (none, 0) (0), sl (some ⟨b26, 0, none⟩, 2) (2), sl (none, 0) (0)]) ?_)
      refine q0 rfl (o_new fun b9 => ?_)
      refine q0 rfl (o_st ?_)
      refine rg_nil ?_
      refine go_state (fun w hs => (show St B (RT (pairT t u) nul (some ⟨b26, 0, none⟩, 2) nul :: _) _ w from ((hs.perm perm1).lit2T (t := t) (vr := vr_t) (vk := vk_t) (vs := vs_t) (u := u) (ur := vr_u) (uk := vk_u) (us := vs_u) hB (by simp) (by simp) rfl).node 8 0 [t, u] (some ⟨b26, 0, none⟩, 2) (in_lit (by omega) (by omega)) (in_lit (by omega) (by omega)) (by simp))) ?_
      refine go_seq ?_
      refine go_draw (tn := false) (A := [0, 0, 0, 7, 0, 0, 0, 127, 0, 0, 0, 2047, 4095, 8191, 16383]) (l := [0, 1, 2, 4, 5, 6, 8, 9, 10, 3, 7, 11, 12, 13, 14]) (fin := []) Tab.mixed ⟨_, Try.func6⟩ (by rfl) ?_
      refine n0 rfl (v_lds ?_)
      refine n0 rfl (v_move ?_)
      refine n0 rfl (v_move ?_)
      refine n0 rfl (v_lds ?_)
      refine n0 rfl (v_move ?_)
      refine n0 rfl (v_move ?_)
      refine n0 rfl (v_lds ?_)
      refine n0 rfl (v_move ?_)
      refine n0 rfl (v_move ?_)
      refine n0 rfl (v_call Try.call28 (right_spec t (.inr form_spec) vr_t vk_t vs_t v d (by first | assumption | omega | (unfold in64 at *; omega) | (unfold reach at *; omega) | (simp_all; done)) (by first | assumption | omega | (unfold in64 at *; omega) | (unfold reach at *; omega) | (simp_all; done))) (fun x31 => ?_))
      refine n0 rfl (v_call Try.call28 (right_spec u (.inr form_spec) vr_u vk_u vs_u v d (by first | assumption | omega | (unfold in64 at *; omega) | (unfold reach at *; omega) | (simp_all; done)) (by first | assumption | omega | (unfold in64 at *; omega) | (unfold reach at *; omega) | (simp_all; done))) (fun x35 => ?_))
      refine n0 rfl (v_call Try.call28 (right_spec (pairT t u) (.inr form_spec) nul (some ⟨b26, 0, none⟩, 2) nul v d (by first | assumption | omega | (unfold in64 at *; omega) | (unfold reach at *; omega) | (simp_all; done)) (by first | assumption | omega | (unfold in64 at *; omega) | (unfold reach at *; omega) | (simp_all; done))) (fun x39 => ?_))
      refine n0 rfl (v_assign ?_)
      refine n0 rfl (v_assign ?_)
      refine n0 rfl (v_assign ?_)
      refine NV.done ?_
      refine rg_nil ?_
      refine go_seq ?_
      refine go_seq ?_
      refine go_cutS ([(4, .pointer (some ⟨b4, 0, none⟩)), (10, .int .i64 ((rightP t v d))), (11, .int .i64 ((rightP u v d))), (12, .int .i64 ((rightP (pairT t u) v d))), (59, .bool ((decide ((size (pairT t u) : Int) ≠ ((1 + (size t : Int)) + (size u : Int)))) || (decide ((depth (pairT t u) : Int) ≠ (1 + (if (depth u : Int) > (depth t : Int) then (depth u : Int) else (depth t : Int)))))))]) (fun hK => ?_) (fun base => ?_)
      · refine go_draw (tn := false) (A := [0, 1, 0, 7, 15, 0, 47, 127, 255, 511, 1023, 2047, 1023, 8191, 1023, 32767, 65535, 131071, 262143, 524287]) (l := [0, 2, 5, 1, 3, 4, 6, 7, 8, 9, 10, 12, 14, 11, 13, 15, 16, 17, 18, 19]) (fin := []) Tab.mixed ⟨_, Try.func6⟩ (by rfl) ?_
        refine n0 rfl (v_lds ?_)
        refine n0 rfl (v_lds ?_)
        refine n0 rfl (v_lds ?_)
        refine n0 rfl (v_call Try.call21 (size_spec (pairT t u) (by first | assumption | omega | (unfold in64 at *; omega) | (unfold reach at *; omega) | (simp_all; done)) nul (some ⟨b26, 0, none⟩, 2) nul) (fun x41 => ?_))
        refine n0 rfl (v_call Try.call21 (size_spec t (by first | assumption | omega | (unfold in64 at *; omega) | (unfold reach at *; omega) | (simp_all; done)) vr_t vk_t vs_t) (fun x43 => ?_))
        refine n0 rfl (v_add ?_)
        refine n0 rfl (v_call Try.call21 (size_spec u (by first | assumption | omega | (unfold in64 at *; omega) | (unfold reach at *; omega) | (simp_all; done)) vr_u vk_u vs_u) (fun x46 => ?_))
        refine n0 rfl (v_add ?_)
        refine n0 rfl (v_neI ?_)
        refine n0 rfl (v_move ?_)
        refine nI rfl rfl rfl (by conv => lhs; whnf) (fun hg49 => ?_) (fun hg49 => ?_)
        · have g49 : (decide ((size (pairT t u) : Int) ≠ ((1 + (size t : Int)) + (size u : Int)))) = false := by simpa using hg49
          try simp only [decide_eq_true_eq, decide_eq_false_iff_not, Bool.and_eq_true, Bool.or_eq_true, Bool.not_eq_true', Bool.and_eq_false_iff, Bool.or_eq_false_iff, Bool.not_eq_false', bne_iff_ne, beq_iff_eq, ne_eq, not_and, Decidable.not_not, Bool.true_and, Bool.and_true, Bool.false_or, Bool.or_false] at g49
          refine v_lds ?_
          refine nT rfl rfl rfl (v_lds ?_)
          refine nT rfl rfl rfl (v_lds ?_)
          refine nT rfl rfl rfl (v_call Try.call23 (depth_spec (pairT t u) (by first | assumption | omega | (unfold in64 at *; omega) | (unfold reach at *; omega) | (simp_all; done)) nul (some ⟨b26, 0, none⟩, 2) nul) (fun x51 => ?_))
          refine nT rfl rfl rfl (v_call Try.call23 (depth_spec t (by first | assumption | omega | (unfold in64 at *; omega) | (unfold reach at *; omega) | (simp_all; done)) vr_t vk_t vs_t) (fun x53 => ?_))
          refine nT rfl rfl rfl (v_call Try.call23 (depth_spec u (by first | assumption | omega | (unfold in64 at *; omega) | (unfold reach at *; omega) | (simp_all; done)) vr_u vk_u vs_u) (fun x55 => ?_))
          refine nT rfl rfl rfl (v_max ?_)
          refine nT rfl rfl rfl (v_add ?_)
          refine nT rfl rfl rfl (v_neI ?_)
          refine n0 rfl (v_pickF ?_)
          refine NV.done ?_
          refine rg_nil ?_
          exact hK _ ⟨rfl, rfl, rfl, rfl, (by first | rfl | ((conv => lhs; whnf); first | (simp_all; done) | (simp_all; omega))), trivial⟩
        · have g49 : (decide ((size (pairT t u) : Int) ≠ ((1 + (size t : Int)) + (size u : Int)))) = true := by simpa using hg49
          try simp only [decide_eq_true_eq, decide_eq_false_iff_not, Bool.and_eq_true, Bool.or_eq_true, Bool.not_eq_true', Bool.and_eq_false_iff, Bool.or_eq_false_iff, Bool.not_eq_false', bne_iff_ne, beq_iff_eq, ne_eq, not_and, Decidable.not_not, Bool.true_and, Bool.and_true, Bool.false_or, Bool.or_false] at g49
          refine nF rfl rfl rfl ?_
          refine nF rfl rfl rfl ?_
          refine nF rfl rfl rfl ?_
          refine nF rfl rfl rfl ?_
          refine nF rfl rfl rfl ?_
          refine nF rfl rfl rfl ?_
          refine nF rfl rfl rfl ?_
          refine nF rfl rfl rfl ?_
          refine n0 rfl (v_pickT ?_)
          refine NV.done ?_
          refine rg_nil ?_
          exact hK _ ⟨rfl, rfl, rfl, rfl, (by first | rfl | ((conv => lhs; whnf); first | (simp_all; done) | (simp_all; omega))), trivial⟩
      · refine go_condI (fun h59 => ?_) (fun h59 => ?_)
        · have c59 : ((decide ((size (pairT t u) : Int) ≠ ((1 + (size t : Int)) + (size u : Int)))) || (decide ((depth (pairT t u) : Int) ≠ (1 + (if (depth u : Int) > (depth t : Int) then (depth u : Int) else (depth t : Int)))))) = true := h59
          try simp only [decide_eq_true_eq, decide_eq_false_iff_not, Bool.and_eq_true, Bool.or_eq_true, Bool.not_eq_true', Bool.and_eq_false_iff, Bool.or_eq_false_iff, Bool.not_eq_false', bne_iff_ne, beq_iff_eq, ne_eq, not_and, Decidable.not_not, Bool.true_and, Bool.and_true, Bool.false_or, Bool.or_false] at c59
          exfalso
          split at c59 <;> omega
        · have c59 : ((decide ((size (pairT t u) : Int) ≠ ((1 + (size t : Int)) + (size u : Int)))) || (decide ((depth (pairT t u) : Int) ≠ (1 + (if (depth u : Int) > (depth t : Int) then (depth u : Int) else (depth t : Int)))))) = false := h59
          try simp only [decide_eq_true_eq, decide_eq_false_iff_not, Bool.and_eq_true, Bool.or_eq_true, Bool.not_eq_true', Bool.and_eq_false_iff, Bool.or_eq_false_iff, Bool.not_eq_false', bne_iff_ne, beq_iff_eq, ne_eq, not_and, Decidable.not_not, Bool.true_and, Bool.and_true, Bool.false_or, Bool.or_false] at c59
          refine go_skip ?_
          refine go_seq ?_
          refine go_seq ?_
          refine go_cutS ([(4, .pointer (some ⟨b4, 0, none⟩)), (10, .int .i64 ((rightP t v d))), (11, .int .i64 ((rightP u v d))), (12, .int .i64 ((rightP (pairT t u) v d))), (65, .bool ((decide ((rightP (pairT t u) v d) = 62)) || (decide ((rightP (pairT t u) v d) = 2))))]) (fun hK => ?_) (fun base => ?_)
          · refine go_region ⟨_, Try.func6⟩ rfl ?_
            refine q0 rfl (o_move ?_)
            refine q0 rfl (o_eqI ?_)
            refine q0 rfl (o_move ?_)
            refine qI rfl rfl rfl (by conv => lhs; whnf) (fun hg62 => ?_) (fun hg62 => ?_)
            · have g62 : (decide ((rightP (pairT t u) v d) = 62)) = false := by simpa using hg62
              try simp only [decide_eq_true_eq, decide_eq_false_iff_not, Bool.and_eq_true, Bool.or_eq_true, Bool.not_eq_true', Bool.and_eq_false_iff, Bool.or_eq_false_iff, Bool.not_eq_false', bne_iff_ne, beq_iff_eq, ne_eq, not_and, Decidable.not_not, Bool.true_and, Bool.and_true, Bool.false_or, Bool.or_false] at g62
              refine o_move ?_
              refine qT rfl rfl rfl (o_eqI ?_)
              refine q0 rfl (o_pickF ?_)
              refine rg_nil ?_
              exact hK _ ⟨rfl, rfl, rfl, rfl, (by first | rfl | ((conv => lhs; whnf); first | (simp_all; done) | (simp_all; omega))), trivial⟩
            · have g62 : (decide ((rightP (pairT t u) v d) = 62)) = true := by simpa using hg62
              try simp only [decide_eq_true_eq, decide_eq_false_iff_not, Bool.and_eq_true, Bool.or_eq_true, Bool.not_eq_true', Bool.and_eq_false_iff, Bool.or_eq_false_iff, Bool.not_eq_false', bne_iff_ne, beq_iff_eq, ne_eq, not_and, Decidable.not_not, Bool.true_and, Bool.and_true, Bool.false_or, Bool.or_false] at g62
              refine qF rfl rfl rfl ?_
              refine q0 rfl (o_pickT ?_)
              refine rg_nil ?_
              exact hK _ ⟨rfl, rfl, rfl, rfl, (by first | rfl | ((conv => lhs; whnf); first | (simp_all; done) | (simp_all; omega))), trivial⟩
          · refine go_condI (fun h65 => ?_) (fun h65 => ?_)
            · have c65 : ((decide ((rightP (pairT t u) v d) = 62)) || (decide ((rightP (pairT t u) v d) = 2))) = true := h65
              try simp only [decide_eq_true_eq, decide_eq_false_iff_not, Bool.and_eq_true, Bool.or_eq_true, Bool.not_eq_true', Bool.and_eq_false_iff, Bool.or_eq_false_iff, Bool.not_eq_false', bne_iff_ne, beq_iff_eq, ne_eq, not_and, Decidable.not_not, Bool.true_and, Bool.and_true, Bool.false_or, Bool.or_false] at c65
              refine go_seq ?_
              refine go_region ⟨_, Try.func6⟩ rfl ?_
              refine q0 rfl (o_assign ?_)
              refine rg_nil ?_
              -- leaf 1: .bool (true)
              refine ret1 Try.func6 Try.results6 (by first | ((conv => lhs; whnf); done) | rfl) () (by first | rfl | (exfalso; omega) | (simp_all; omega)) (fun w hs => hs.none)
            · have c65 : ((decide ((rightP (pairT t u) v d) = 62)) || (decide ((rightP (pairT t u) v d) = 2))) = false := h65
              try simp only [decide_eq_true_eq, decide_eq_false_iff_not, Bool.and_eq_true, Bool.or_eq_true, Bool.not_eq_true', Bool.and_eq_false_iff, Bool.or_eq_false_iff, Bool.not_eq_false', bne_iff_ne, beq_iff_eq, ne_eq, not_and, Decidable.not_not, Bool.true_and, Bool.and_true, Bool.false_or, Bool.or_false] at c65
              have hrp := right_pair hv (by omega) (by omega) (show rightP (pairT t u) v d ≠ 62 by omega) (by omega)
              refine go_skip ?_
              refine go_seq ?_
              refine go_seq ?_
              refine go_cutS ([(4, .pointer (some ⟨b4, 0, none⟩)), (74, .bool ((decide ((rightP (pairT t u) v d) = 0)) != ((decide ((rightP t v d) = 0)) && (decide ((rightP u v d) = 0)))))]) (fun hK => ?_) (fun base => ?_)
              · refine go_region ⟨_, Try.func6⟩ rfl ?_
                refine q0 rfl (o_move ?_)
                refine q0 rfl (o_eqI ?_)
                refine q0 rfl (o_move ?_)
                refine q0 rfl (o_eqI ?_)
                refine q0 rfl (o_move ?_)
                refine qI rfl rfl rfl (by conv => lhs; whnf) (fun hg70 => ?_) (fun hg70 => ?_)
                · have g70 : (decide ((rightP t v d) = 0)) = true := by simpa using hg70
                  try simp only [decide_eq_true_eq, decide_eq_false_iff_not, Bool.and_eq_true, Bool.or_eq_true, Bool.not_eq_true', Bool.and_eq_false_iff, Bool.or_eq_false_iff, Bool.not_eq_false', bne_iff_ne, beq_iff_eq, ne_eq, not_and, Decidable.not_not, Bool.true_and, Bool.and_true, Bool.false_or, Bool.or_false] at g70
                  refine o_move ?_
                  refine qT rfl rfl rfl (o_eqI ?_)
                  refine q0 rfl (o_pickT ?_)
                  refine q0 rfl (o_neB ?_)
                  refine rg_nil ?_
                  exact hK _ ⟨rfl, (by first | rfl | ((conv => lhs; whnf); first | (simp_all; done) | (simp_all; omega))), trivial⟩
                · have g70 : (decide ((rightP t v d) = 0)) = false := by simpa using hg70
                  try simp only [decide_eq_true_eq, decide_eq_false_iff_not, Bool.and_eq_true, Bool.or_eq_true, Bool.not_eq_true', Bool.and_eq_false_iff, Bool.or_eq_false_iff, Bool.not_eq_false', bne_iff_ne, beq_iff_eq, ne_eq, not_and, Decidable.not_not, Bool.true_and, Bool.and_true, Bool.false_or, Bool.or_false] at g70
                  refine qF rfl rfl rfl ?_
                  refine q0 rfl (o_pickF ?_)
                  refine q0 rfl (o_neB ?_)
                  refine rg_nil ?_
                  exact hK _ ⟨rfl, (by first | rfl | ((conv => lhs; whnf); first | (simp_all; done) | (simp_all; omega))), trivial⟩
              · refine go_condI (fun h74 => ?_) (fun h74 => ?_)
                · have c74 : ((decide ((rightP (pairT t u) v d) = 0)) != ((decide ((rightP t v d) = 0)) && (decide ((rightP u v d) = 0)))) = true := h74
                  try simp only [decide_eq_true_eq, decide_eq_false_iff_not, Bool.and_eq_true, Bool.or_eq_true, Bool.not_eq_true', Bool.and_eq_false_iff, Bool.or_eq_false_iff, Bool.not_eq_false', bne_iff_ne, beq_iff_eq, ne_eq, not_and, Decidable.not_not, Bool.true_and, Bool.and_true, Bool.false_or, Bool.or_false] at c74
                  exfalso
                  rw [hrp] at h74
                  simp at h74
                · have c74 : ((decide ((rightP (pairT t u) v d) = 0)) != ((decide ((rightP t v d) = 0)) && (decide ((rightP u v d) = 0)))) = false := h74
                  try simp only [decide_eq_true_eq, decide_eq_false_iff_not, Bool.and_eq_true, Bool.or_eq_true, Bool.not_eq_true', Bool.and_eq_false_iff, Bool.or_eq_false_iff, Bool.not_eq_false', bne_iff_ne, beq_iff_eq, ne_eq, not_and, Decidable.not_not, Bool.true_and, Bool.and_true, Bool.false_or, Bool.or_false] at c74
                  refine go_skip ?_
                  refine go_seq ?_
                  refine go_region ⟨_, Try.func6⟩ rfl ?_
                  refine q0 rfl (o_assign ?_)
                  refine rg_nil ?_
                  refine go_seq ?_
                  refine go_seq ?_
                  refine go_region ⟨_, Try.func6⟩ rfl ?_
                  refine q0 rfl (o_fa ?_)
                  refine q0 rfl (o_ld ?_)
                  refine q0 rfl (o_len ?_)
                  refine q0 rfl (o_move ?_)
                  refine rg_nil ?_
                  refine go_block ?_
                  refine go_loopE (X := Nat) (fun s_ => s_ ≤ t.kids.length) (fun s_ => [(4, .pointer (some ⟨b4, 0, none⟩)), (13, .int .i64 ((kidSum t s_ : Int))), (76, sl vk_t ((t).kids.length)), (77, .int .i64 (((t).kids.length : Int))), (78, .int .i64 ((s_ : Int)))]) (fun s_ G_ => G_) (fun s_ => [boxR b9 (tc (pairT t u) nul (some ⟨b26, 0, none⟩, 2) nul) 31, boxR b5 (tc u vr_u vk_u vs_u) 31, boxR b4 (tc t vr_t vk_t vs_t) 31]) (fun s_ => t.kids.length - s_) (0) (by omega) (by exact ⟨rfl, (by simp [kidSum, putS, upd]; rfl), rfl, rfl, rfl, trivial⟩) ?_ ?_
                  · exact fun w hs => hs
                  · intro i base0 hi0 next0
                    refine go_seq ?_
                    refine go_region ⟨_, Try.func6⟩ rfl ?_
                    refine q0 rfl (o_lss ?_)
                    refine rg_nil ?_
                    refine go_seq ?_
                    refine go_condI (fun h79 => ?_) (fun h79 => ?_)
                    · have c79 : (decide ((i : Int) < ((t).kids.length : Int))) = true := h79
                      try simp only [decide_eq_true_eq, decide_eq_false_iff_not, Bool.and_eq_true, Bool.or_eq_true, Bool.not_eq_true', Bool.and_eq_false_iff, Bool.or_eq_false_iff, Bool.not_eq_false', bne_iff_ne, beq_iff_eq, ne_eq, not_and, Decidable.not_not, Bool.true_and, Bool.and_true, Bool.false_or, Bool.or_false] at c79
                      have hk := getD_mem (d := t0) (show i < t.kids.length by omega)
                      have hks := size_kid hk
                      have hkd := depth_kid hk
                      have hdk := depth_le_size (t.kids.getD i t0)
                      have hls := kidSum_le t i
                      refine go_skip ?_
                      refine go_seq ?_
                      refine go_block ?_
                      refine go_seq ?_
                      refine go_kid (ts := (t).kids) (a := vk_t) (VR := VR3) (VK := VK3) (VS := VS3) i (by omega) ?_
                      refine go_region ⟨_, Try.func6⟩ rfl ?_
                      obtain ⟨bk9, o9, hav9⟩ := hA3 (by omega)
                      refine q0 rfl (o_ixN ?_ (j := i))
                      refine q0 rfl (o_ldT ?_)
                      refine q0 rfl (o_new fun b15 => ?_)
                      refine q0 rfl (o_st ?_)
                      refine rg_nil ?_
                      refine go_seq ?_
                      refine go_seq ?_
                      refine go_cutS ([(4, .pointer (some ⟨b4, 0, none⟩)), (13, .int .i64 ((kidSum t i : Int))), (15, .pointer (some ⟨b15, 0, none⟩)), (76, sl vk_t ((t).kids.length)), (77, .int .i64 (((t).kids.length : Int))), (78, .int .i64 ((i : Int))), (96, .bool (((decide ((formedP t) = 0)) && (decide ((formedP (((t).kids).getD i t0)) ≠ 0))) || (decide ((depth t : Int) ≤ (depth (((t).kids).getD i t0) : Int)))))]) (fun hK => ?_) (fun base => ?_)
                      · refine go_draw (tn := false) (A := [0, 1, 3, 7, 15, 31, 63, 127, 255, 511, 1023, 511, 4095, 8191, 16383]) (l := [0, 1, 2, 3, 4, 5, 6, 7, 8, 9, 11, 10, 12, 13, 14]) (fin := []) Tab.mixed ⟨_, Try.func6⟩ (by rfl) ?_
                        refine n0 rfl (v_lds ?_)
                        refine n0 rfl (v_call Try.call30 (formed_spec t (.inr form_spec) vr_t vk_t vs_t (by first | assumption | omega | (unfold in64 at *; omega) | (unfold reach at *; omega) | (simp_all; done))) (fun x83 => ?_))
                        refine n0 rfl (v_eqI ?_)
                        refine n0 rfl (v_move ?_)
                        refine nI rfl rfl rfl (by conv => lhs; whnf) (fun hg85 => ?_) (fun hg85 => ?_)
                        · have g85 : (decide ((formedP t) = 0)) = true := by simpa using hg85
                          try simp only [decide_eq_true_eq, decide_eq_false_iff_not, Bool.and_eq_true, Bool.or_eq_true, Bool.not_eq_true', Bool.and_eq_false_iff, Bool.or_eq_false_iff, Bool.not_eq_false', bne_iff_ne, beq_iff_eq, ne_eq, not_and, Decidable.not_not, Bool.true_and, Bool.and_true, Bool.false_or, Bool.or_false] at g85
                          refine v_lds ?_
                          refine nT rfl rfl rfl (v_call Try.call30 (formed_spec (((t).kids).getD i t0) (.inr form_spec) (VR3 i) (VK3 i) (VS3 i) (by first | assumption | omega | (unfold in64 at *; omega) | (unfold reach at *; omega) | (simp_all; done))) (fun x87 => ?_))
                          refine nT rfl rfl rfl (v_neI ?_)
                          refine n0 rfl (v_pickT ?_)
                          refine n0 rfl (v_move ?_)
                          refine nI rfl rfl rfl (by conv => lhs; whnf) (fun hg90 => ?_) (fun hg90 => ?_)
                          · have g90 : (decide ((formedP (((t).kids).getD i t0)) ≠ 0)) = false := by simpa using hg90
                            try simp only [decide_eq_true_eq, decide_eq_false_iff_not, Bool.and_eq_true, Bool.or_eq_true, Bool.not_eq_true', Bool.and_eq_false_iff, Bool.or_eq_false_iff, Bool.not_eq_false', bne_iff_ne, beq_iff_eq, ne_eq, not_and, Decidable.not_not, Bool.true_and, Bool.and_true, Bool.false_or, Bool.or_false] at g90
                            refine v_lds ?_
                            refine nT rfl rfl rfl (v_lds ?_)
                            refine nT rfl rfl rfl (v_call Try.call23 (depth_spec (((t).kids).getD i t0) (by first | assumption | omega | (unfold in64 at *; omega) | (unfold reach at *; omega) | (simp_all; done)) (VR3 i) (VK3 i) (VS3 i)) (fun x92 => ?_))
                            refine nT rfl rfl rfl (v_call Try.call23 (depth_spec t (by first | assumption | omega | (unfold in64 at *; omega) | (unfold reach at *; omega) | (simp_all; done)) vr_t vk_t vs_t) (fun x94 => ?_))
                            refine nT rfl rfl rfl (v_geq ?_)
                            refine n0 rfl (v_pickF ?_)
                            refine NV.done ?_
                            refine rg_nil ?_
                            exact hK _ ⟨rfl, rfl, rfl, rfl, rfl, rfl, (by first | rfl | ((conv => lhs; whnf); first | (simp_all; done) | (simp_all; omega))), trivial⟩
                          · have g90 : (decide ((formedP (((t).kids).getD i t0)) ≠ 0)) = true := by simpa using hg90
                            try simp only [decide_eq_true_eq, decide_eq_false_iff_not, Bool.and_eq_true, Bool.or_eq_true, Bool.not_eq_true', Bool.and_eq_false_iff, Bool.or_eq_false_iff, Bool.not_eq_false', bne_iff_ne, beq_iff_eq, ne_eq, not_and, Decidable.not_not, Bool.true_and, Bool.and_true, Bool.false_or, Bool.or_false] at g90
                            refine nF rfl rfl rfl ?_
                            refine nF rfl rfl rfl ?_
                            refine nF rfl rfl rfl ?_
                            refine nF rfl rfl rfl ?_
                            refine n0 rfl (v_pickT ?_)
                            refine NV.done ?_
                            refine rg_nil ?_
                            exact hK _ ⟨rfl, rfl, rfl, rfl, rfl, rfl, (by first | rfl | ((conv => lhs; whnf); first | (simp_all; done) | (simp_all; omega))), trivial⟩
                        · have g85 : (decide ((formedP t) = 0)) = false := by simpa using hg85
                          try simp only [decide_eq_true_eq, decide_eq_false_iff_not, Bool.and_eq_true, Bool.or_eq_true, Bool.not_eq_true', Bool.and_eq_false_iff, Bool.or_eq_false_iff, Bool.not_eq_false', bne_iff_ne, beq_iff_eq, ne_eq, not_and, Decidable.not_not, Bool.true_and, Bool.and_true, Bool.false_or, Bool.or_false] at g85
                          refine nF rfl rfl rfl ?_
                          refine nF rfl rfl rfl ?_
                          refine n0 rfl (v_pickF ?_)
                          refine n0 rfl (v_move ?_)
                          refine nT rfl rfl rfl (v_lds ?_)
                          refine nT rfl rfl rfl (v_lds ?_)
                          refine nT rfl rfl rfl (v_call Try.call23 (depth_spec (((t).kids).getD i t0) (by first | assumption | omega | (unfold in64 at *; omega) | (unfold reach at *; omega) | (simp_all; done)) (VR3 i) (VK3 i) (VS3 i)) (fun x92 => ?_))
                          refine nT rfl rfl rfl (v_call Try.call23 (depth_spec t (by first | assumption | omega | (unfold in64 at *; omega) | (unfold reach at *; omega) | (simp_all; done)) vr_t vk_t vs_t) (fun x94 => ?_))
                          refine nT rfl rfl rfl (v_geq ?_)
                          refine n0 rfl (v_pickF ?_)
                          refine NV.done ?_
                          refine rg_nil ?_
                          exact hK _ ⟨rfl, rfl, rfl, rfl, rfl, rfl, (by first | rfl | ((conv => lhs; whnf); first | (simp_all; done) | (simp_all; omega))), trivial⟩
                      · refine go_condI (fun h96 => ?_) (fun h96 => ?_)
                        · have c96 : (((decide ((formedP t) = 0)) && (decide ((formedP (((t).kids).getD i t0)) ≠ 0))) || (decide ((depth t : Int) ≤ (depth (((t).kids).getD i t0) : Int)))) = true := h96
                          try simp only [decide_eq_true_eq, decide_eq_false_iff_not, Bool.and_eq_true, Bool.or_eq_true, Bool.not_eq_true', Bool.and_eq_false_iff, Bool.or_eq_false_iff, Bool.not_eq_false', bne_iff_ne, beq_iff_eq, ne_eq, not_and, Decidable.not_not, Bool.true_and, Bool.and_true, Bool.false_or, Bool.or_false] at c96
                          exfalso
                          have hkf := fun h => formed_kid (t := t) (k := t.kids.getD i t0) h hk
                          simp at h96
                          omega
                        · have c96 : (((decide ((formedP t) = 0)) && (decide ((formedP (((t).kids).getD i t0)) ≠ 0))) || (decide ((depth t : Int) ≤ (depth (((t).kids).getD i t0) : Int)))) = false := h96
                          try simp only [decide_eq_true_eq, decide_eq_false_iff_not, Bool.and_eq_true, Bool.or_eq_true, Bool.not_eq_true', Bool.and_eq_false_iff, Bool.or_eq_false_iff, Bool.not_eq_false', bne_iff_ne, beq_iff_eq, ne_eq, not_and, Decidable.not_not, Bool.true_and, Bool.and_true, Bool.false_or, Bool.or_false] at c96
                          refine go_skip ?_
                          refine go_region ⟨_, Try.func6⟩ rfl ?_
                          refine q0 rfl (o_move ?_)
                          refine q0 rfl (o_lds ?_)
                          refine q0 rfl (o_call Try.call21 (size_spec (((t).kids).getD i t0) (by first | assumption | omega | (unfold in64 at *; omega) | (unfold reach at *; omega) | (simp_all; done)) (VR3 i) (VK3 i) (VS3 i)) (fun x99 => ?_))
                          refine q0 rfl (o_add ?_)
                          refine q0 rfl (o_assign ?_)
                          refine rg_nil ?_
                          refine go_inBlock ?_
                          refine go_region ⟨_, Try.func6⟩ rfl ?_
                          refine q0 rfl (o_add ?_)
                          refine q0 rfl (o_move ?_)
                          refine rg_nil ?_
                          refine go_state (fun w hs => ?_) (next0 (i + 1) _ (by omega) (by omega) ⟨rfl, (by (conv => lhs; whnf); rw [kidSum_succ (by omega)]; push_cast; rfl), rfl, rfl, rfl, trivial⟩)
                          exact (((((hs.less (by simp +contextual)).perm perm3).perm perm3).perm perm3).dropR (A := [_, _, _]))
                    · have c79 : (decide ((i : Int) < ((t).kids.length : Int))) = false := h79
                      try simp only [decide_eq_true_eq, decide_eq_false_iff_not, Bool.and_eq_true, Bool.or_eq_true, Bool.not_eq_true', Bool.and_eq_false_iff, Bool.or_eq_false_iff, Bool.not_eq_false', bne_iff_ne, beq_iff_eq, ne_eq, not_and, Decidable.not_not, Bool.true_and, Bool.and_true, Bool.false_or, Bool.or_false] at c79
                      have he : i = t.kids.length := by omega
                      refine go_exit rfl ?_
                      refine go_seq ?_
                      refine go_cutS ([(8, .bool ((decide (0 < ((t).sys.length : Int))) || (decide ((kidSum t i : Int) = (size t : Int)))))]) (fun hK => ?_) (fun base => ?_)
                      · refine go_region ⟨_, Try.func6⟩ rfl ?_
                        refine q0 rfl (o_fa ?_)
                        refine q0 rfl (o_ld ?_)
                        refine q0 rfl (o_len ?_)
                        refine q0 rfl (o_gtr ?_)
                        refine q0 rfl (o_move ?_)
                        refine qI rfl rfl rfl (by conv => lhs; whnf) (fun hg106 => ?_) (fun hg106 => ?_)
                        · have g106 : (decide (0 < ((t).sys.length : Int))) = false := by simpa using hg106
                          try simp only [decide_eq_true_eq, decide_eq_false_iff_not, Bool.and_eq_true, Bool.or_eq_true, Bool.not_eq_true', Bool.and_eq_false_iff, Bool.or_eq_false_iff, Bool.not_eq_false', bne_iff_ne, beq_iff_eq, ne_eq, not_and, Decidable.not_not, Bool.true_and, Bool.and_true, Bool.false_or, Bool.or_false] at g106
                          refine o_move ?_
                          refine qT rfl rfl rfl (o_lds ?_)
                          refine qT rfl rfl rfl (o_call Try.call21 (size_spec t (by first | assumption | omega | (unfold in64 at *; omega) | (unfold reach at *; omega) | (simp_all; done)) vr_t vk_t vs_t) (fun x109 => ?_))
                          refine qT rfl rfl rfl (o_eqI ?_)
                          refine q0 rfl (o_pickF ?_)
                          refine q0 rfl (o_assign ?_)
                          refine rg_nil ?_
                          exact hK _ ⟨(by first | rfl | ((conv => lhs; whnf); first | (simp_all; done) | (simp_all; omega))), trivial⟩
                        · have g106 : (decide (0 < ((t).sys.length : Int))) = true := by simpa using hg106
                          try simp only [decide_eq_true_eq, decide_eq_false_iff_not, Bool.and_eq_true, Bool.or_eq_true, Bool.not_eq_true', Bool.and_eq_false_iff, Bool.or_eq_false_iff, Bool.not_eq_false', bne_iff_ne, beq_iff_eq, ne_eq, not_and, Decidable.not_not, Bool.true_and, Bool.and_true, Bool.false_or, Bool.or_false] at g106
                          refine qF rfl rfl rfl ?_
                          refine qF rfl rfl rfl ?_
                          refine qF rfl rfl rfl ?_
                          refine q0 rfl (o_pickT ?_)
                          refine q0 rfl (o_assign ?_)
                          refine rg_nil ?_
                          exact hK _ ⟨(by first | rfl | ((conv => lhs; whnf); first | (simp_all; done) | (simp_all; omega))), trivial⟩
                      · -- leaf 2: .bool ((decide (0 < ((t).sys.length : Int))) || (decide ((kidSum t i : Int) = (size t : Int))))
                        refine ret1 Try.func6 Try.results6 (by first | ((conv => lhs; whnf); done) | rfl) () (by have hka := fun h => kidSum_all (t := t) h; rw [← he] at hka; simp; omega) (fun w hs => hs.none)

end Go.Hy
