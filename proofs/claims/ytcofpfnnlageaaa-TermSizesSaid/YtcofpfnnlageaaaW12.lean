/- Contracts of functions of this program, one theorem each (printed by a program of this repository). -/
import Derived.Test.YtcofpfnnlageaaaHyAuto3
import Derived.Test.YtcofpfnnlageaaaHyTab
import Derived.Test.YtcofpfnnlageaaaHyLaw10
import Derived.Test.YtcofpfnnlageaaaS9
import Derived.Test.YtcofpfnnlageaaaS10
import Derived.Test.YtcofpfnnlageaaaS11
import Derived.Test.YtcofpfnnlageaaaS16
import Derived.Test.YtcofpfnnlageaaaW9
import Derived.Test.YtcofpfnnlageaaaW10
import Derived.Test.YtcofpfnnlageaaaW11
namespace Go.Hy
set_option linter.unusedVariables false
set_option linter.unusedSimpArgs false
set_option linter.unusedSectionVars false
open Go.Proofs
set_option linter.unusedVariables false
set_option linter.unusedSimpArgs false
set_option maxRecDepth 100000
theorem rcopyF (t : T) (vr vk vs : SH) : Spec Try.prog 19 #[.agg (tc t vr vk vs).toArray] [RT t vr vk vs] [] (fun x : SH × SH × SH => .agg (tc t x.1 x.2.1 x.2.2).toArray) (fun x => [RT t x.1 x.2.1 x.2.2]) (fun _ => []) := by
  intro ok w hok hst
  have hokt : okT t := ok_of (hst.facts (RT t vr vk vs) List.mem_cons_self)
  refine (rcopyO t vr vk vs ok w hok hst).mono ?_
  rintro e w' ⟨x, rfl, hx⟩
  refine ⟨(x.1.vr, x.1.vk, x.1.vs), rfl, ?_⟩
  have h1 := hx.unpack
  have h2 := St.settleT tys (fun b => Iff.rfl) x.1 (by rw [x.2]; exact hokt) h1
  rw [x.2] at h2
  exact h2

theorem termSizes_spec (t : T) (vr_t vk_t vs_t : SH) (u : T) (vr_u vk_u vs_u : SH)  : Spec Try.prog 4 #[.agg (tc t vr_t vk_t vs_t).toArray, .agg (tc u vr_u vk_u vs_u).toArray] [RT t vr_t vk_t vs_t, RT u vr_u vk_u vs_u] [] (fun _ : Unit => .bool (true)) (fun _ : Unit => []) (fun _ : Unit => []) := by
  refine spec_go (args := [.agg (tc t vr_t vk_t vs_t).toArray, .agg (tc u vr_u vk_u vs_u).toArray]) Try.func4 Try.ntmps4 rfl (by exact Nat.le_of_ble_eq_true rfl) fun B hB => ?_
  refine go_open (t := t) (vr := vr_t) (vk := vk_t) (vs := vs_t) (fun hk1 hn1 hm1 => ?_)
  refine go_openCL (l := (t).r) (a := vr_t) (fun hl2 hA2 hU2 => ?_)
  refine go_openTL (ts := (t).kids) (a := vk_t) (fun VR3 VK3 VS3 hl3 hA3 => ?_)
  refine go_openBL (bs := (t).sys) (a := vs_t) (fun VF4 VK4 hl4 hA4 => ?_)
  refine go_open (t := u) (vr := vr_u) (vk := vk_u) (vs := vs_u) (fun hk5 hn5 hm5 => ?_)
  refine go_openCL (l := (u).r) (a := vr_u) (fun hl6 hA6 hU6 => ?_)
  refine go_openTL (ts := (u).kids) (a := vk_u) (fun VR7 VK7 VS7 hl7 hA7 => ?_)
  refine go_openBL (bs := (u).sys) (a := vs_u) (fun VF8 VK8 hl8 hA8 => ?_)
  refine go_know (p := okT t) (fun w hs => ok_of (hs.facts (RT t vr_t vk_t vs_t) (by simp))) (fun hokt => ?_)
  have hbt := size_le_bulk t
  have hbu := size_le_bulk u
  have hdt := depth_le_size t
  refine go_seq ?_
  refine go_region ⟨_, Try.func4⟩ rfl ?_
  refine q0 rfl (o_box fun b2 => ?_)
  refine q0 rfl (o_box fun b3 => ?_)
  refine q0 rfl (o_assign ?_)
  refine rg_nil ?_
  refine go_seq ?_
  refine go_seq ?_
  refine go_cutS ([(2, .pointer (some ⟨b2, 0, none⟩)), (3, .pointer (some ⟨b3, 0, none⟩)), (12, .bool ((decide (500 < bulk t)) || (decide (500 < bulk u))))]) (fun hK => ?_) (fun base => ?_)
  · refine go_region ⟨_, Try.func4⟩ rfl ?_
    refine q0 rfl (o_lds ?_)
    refine q0 rfl (o_call Try.call18 (great10_spec t vr_t vk_t vs_t ) (fun x8 => ?_))
    refine q0 rfl (o_move ?_)
    refine qI rfl rfl rfl (by conv => lhs; whnf) (fun hg9 => ?_) (fun hg9 => ?_)
    · have g9 : ((decide (500 < bulk t))) = false := hg9
      try simp only [decide_eq_true_eq, decide_eq_false_iff_not, Bool.and_eq_true, Bool.or_eq_true, Bool.not_eq_true', Bool.and_eq_false_iff, Bool.or_eq_false_iff, Bool.not_eq_false', bne_iff_ne, beq_iff_eq, ne_eq, not_and, Decidable.not_not, Bool.true_and, Bool.and_true, Bool.false_or, Bool.or_false] at g9
      refine o_lds ?_
      refine qT rfl rfl rfl (o_call Try.call18 (great10_spec u vr_u vk_u vs_u ) (fun x11 => ?_))
      refine q0 rfl (o_pickF ?_)
      refine rg_nil ?_
      exact hK _ ⟨rfl, rfl, (by first | rfl | ((conv => lhs; whnf); first | (simp_all; done) | (simp_all; omega))), trivial⟩
    · have g9 : ((decide (500 < bulk t))) = true := hg9
      try simp only [decide_eq_true_eq, decide_eq_false_iff_not, Bool.and_eq_true, Bool.or_eq_true, Bool.not_eq_true', Bool.and_eq_false_iff, Bool.or_eq_false_iff, Bool.not_eq_false', bne_iff_ne, beq_iff_eq, ne_eq, not_and, Decidable.not_not, Bool.true_and, Bool.and_true, Bool.false_or, Bool.or_false] at g9
      refine qF rfl rfl rfl ?_
      refine q0 rfl (o_pickT ?_)
      refine rg_nil ?_
      exact hK _ ⟨rfl, rfl, (by first | rfl | ((conv => lhs; whnf); first | (simp_all; done) | (simp_all; omega))), trivial⟩
  · refine go_condI (fun h12 => ?_) (fun h12 => ?_)
    · have c12 : ((decide (500 < bulk t)) || (decide (500 < bulk u))) = true := h12
      try simp only [decide_eq_true_eq, decide_eq_false_iff_not, Bool.and_eq_true, Bool.or_eq_true, Bool.not_eq_true', Bool.and_eq_false_iff, Bool.or_eq_false_iff, Bool.not_eq_false', bne_iff_ne, beq_iff_eq, ne_eq, not_and, Decidable.not_not, Bool.true_and, Bool.and_true, Bool.false_or, Bool.or_false] at c12
      refine go_seq ?_
      refine go_region ⟨_, Try.func4⟩ rfl ?_
      refine q0 rfl (o_call Try.call17 (works10_spec ) (fun x13 => ?_))
      refine q0 rfl (o_assign ?_)
      refine rg_nil ?_
      -- leaf 0: .bool (true)
      refine ret1 Try.func4 Try.results4 (by first | ((conv => lhs; whnf); done) | rfl) () (by first | rfl | simp) (fun w hs => hs.none)
    · have c12 : ((decide (500 < bulk t)) || (decide (500 < bulk u))) = false := h12
      try simp only [decide_eq_true_eq, decide_eq_false_iff_not, Bool.and_eq_true, Bool.or_eq_true, Bool.not_eq_true', Bool.and_eq_false_iff, Bool.or_eq_false_iff, Bool.not_eq_false', bne_iff_ne, beq_iff_eq, ne_eq, not_and, Decidable.not_not, Bool.true_and, Bool.and_true, Bool.false_or, Bool.or_false] at c12
      refine go_skip ?_
      refine go_seq ?_
      refine go_region ⟨_, Try.func4⟩ rfl ?_
      refine q0 rfl (o_lds ?_)
      refine q0 rfl (o_call Try.call19 (rcopyF t vr_t vk_t vs_t) (fun x15 => ?_))
      refine q0 rfl (o_new fun b5 => ?_)
      refine q0 rfl (o_st ?_)
      refine rg_nil ?_
      refine go_seq ?_
      refine go_region ⟨_, Try.func4⟩ rfl ?_
      refine q0 rfl (o_lds ?_)
      refine q0 rfl (o_call Try.call20 (copyO t x15.1 x15.2.1 x15.2.2) (fun x17 => ?_))
      refine q0 rfl (o_new fun b6 => ?_)
      refine q0 rfl (o_st ?_)
      refine rg_nil ?_
      refine go_seq ?_
      refine go_seq ?_
      refine go_lend (Ms2 := [boxR b6 (tc t x17.1.vr x17.1.vk x17.1.vs) 31, boxR b5 (tc t x15.1 x15.2.1 x15.2.2) 31, boxR b3 (tc u vr_u vk_u vs_u) 31, boxR b2 (tc t vr_t vk_t vs_t) 31]) (bigR (treeR tys x17.1)) (by have h9 := lends_tree tys x17.1 (by rw [x17.2]; exact hokt); rwa [x17.2] at h9) (by exact perm1) ([(2, .pointer (some ⟨b2, 0, none⟩)), (5, .pointer (some ⟨b5, 0, none⟩)), (6, .pointer (some ⟨b6, 0, none⟩)), (50, .bool (((((decide ((size t : Int) ≠ (size t : Int))) || (decide ((depth t : Int) ≠ (depth t : Int)))) || ((decide (t = u)) != (decide (t = u)))) || (!(decide (t = t)))) || (!(decide (t = t)))))]) (fun B' hK => ?_) (fun base => ?_)
      · refine go_draw (tn := false) (A := [0, 1, 0, 7, 15, 31, 63, 127, 63, 511, 1023, 2047, 4095, 8191, 8191, 32767, 8191, 8191, 262143, 524287, 1048575, 2097151, 4194303, 4194303, 16777215, 33554431, 67108863, 134217727, 268435455, 268435455, 1073741823, 2147483647, 4294967295]) (l := [0, 2, 1, 3, 4, 5, 6, 8, 7, 9, 10, 11, 12, 13, 14, 16, 17, 15, 18, 19, 20, 21, 22, 23, 24, 25, 26, 27, 28, 29, 30, 31, 32]) (fin := []) Tab.mixed ⟨_, Try.func4⟩ (by rfl) ?_
        refine n0 rfl (v_lds ?_)
        refine n0 rfl (v_lds ?_)
        refine n0 rfl (v_call Try.call21 (size_spec t (by first | assumption | omega | (unfold in64 at *; omega) | (unfold reach at *; omega) | (simp_all; done)) x15.1 x15.2.1 x15.2.2) (fun x19 => ?_))
        refine n0 rfl (v_call Try.call22 (rsize_spec t (by first | assumption | omega | (unfold in64 at *; omega) | (unfold reach at *; omega) | (simp_all; done)) vr_t vk_t vs_t) (fun x21 => ?_))
        refine n0 rfl (v_neI ?_)
        refine n0 rfl (v_move ?_)
        refine nI rfl rfl rfl (by conv => lhs; whnf) (fun hg23 => ?_) (fun hg23 => ?_)
        · have g23 : (decide ((size t : Int) ≠ (size t : Int))) = false := hg23
          try simp only [decide_eq_true_eq, decide_eq_false_iff_not, Bool.and_eq_true, Bool.or_eq_true, Bool.not_eq_true', Bool.and_eq_false_iff, Bool.or_eq_false_iff, Bool.not_eq_false', bne_iff_ne, beq_iff_eq, ne_eq, not_and, Decidable.not_not, Bool.true_and, Bool.and_true, Bool.false_or, Bool.or_false] at g23
          refine v_lds ?_
          refine nT rfl rfl rfl (v_lds ?_)
          refine nT rfl rfl rfl (v_call Try.call23 (depth_spec t (by first | assumption | omega | (unfold in64 at *; omega) | (unfold reach at *; omega) | (simp_all; done)) x15.1 x15.2.1 x15.2.2) (fun x25 => ?_))
          refine nT rfl rfl rfl (v_call Try.call24 (rdepth_spec t (by first | assumption | omega | (unfold in64 at *; omega) | (unfold reach at *; omega) | (simp_all; done)) vr_t vk_t vs_t) (fun x27 => ?_))
          refine nT rfl rfl rfl (v_neI ?_)
          refine n0 rfl (v_pickF ?_)
          refine n0 rfl (v_move ?_)
          refine nI rfl rfl rfl (by conv => lhs; whnf) (fun hg30 => ?_) (fun hg30 => ?_)
          · have g30 : (decide ((depth t : Int) ≠ (depth t : Int))) = false := hg30
            try simp only [decide_eq_true_eq, decide_eq_false_iff_not, Bool.and_eq_true, Bool.or_eq_true, Bool.not_eq_true', Bool.and_eq_false_iff, Bool.or_eq_false_iff, Bool.not_eq_false', bne_iff_ne, beq_iff_eq, ne_eq, not_and, Decidable.not_not, Bool.true_and, Bool.and_true, Bool.false_or, Bool.or_false] at g30
            refine v_lds ?_
            refine nT rfl rfl rfl (v_lds ?_)
            refine nT rfl rfl rfl (v_lds ?_)
            refine nT rfl rfl rfl (v_lds ?_)
            refine nT rfl rfl rfl (v_call Try.call25 (same_spec t u x15.1 x15.2.1 x15.2.2 vr_u vk_u vs_u) (fun x33 => ?_))
            refine nT rfl rfl rfl (v_call Try.call26 (rsame t u vr_t vk_t vs_t vr_u vk_u vs_u) (fun x36 => ?_))
            refine nT rfl rfl rfl (v_neB ?_)
            refine n0 rfl (v_pickF ?_)
            refine n0 rfl (v_move ?_)
            refine nI rfl rfl rfl (by conv => lhs; whnf) (fun hg39 => ?_) (fun hg39 => ?_)
            · have g39 : ((decide (t = u)) != (decide (t = u))) = false := hg39
              try simp only [decide_eq_true_eq, decide_eq_false_iff_not, Bool.and_eq_true, Bool.or_eq_true, Bool.not_eq_true', Bool.and_eq_false_iff, Bool.or_eq_false_iff, Bool.not_eq_false', bne_iff_ne, beq_iff_eq, ne_eq, not_and, Decidable.not_not, Bool.true_and, Bool.and_true, Bool.false_or, Bool.or_false] at g39
              refine v_lds ?_
              refine nT rfl rfl rfl (v_lds ?_)
              refine nT rfl rfl rfl (v_call Try.call25 (same_spec t t x15.1 x15.2.1 x15.2.2 x15.1 x15.2.1 x15.2.2) (fun x42 => ?_))
              refine nT rfl rfl rfl (v_not ?_)
              refine n0 rfl (v_pickF ?_)
              refine n0 rfl (v_move ?_)
              refine nI rfl rfl rfl (by conv => lhs; whnf) (fun hg45 => ?_) (fun hg45 => ?_)
              · have g45 : (!(decide (t = t))) = false := hg45
                try simp only [decide_eq_true_eq, decide_eq_false_iff_not, Bool.and_eq_true, Bool.or_eq_true, Bool.not_eq_true', Bool.and_eq_false_iff, Bool.or_eq_false_iff, Bool.not_eq_false', bne_iff_ne, beq_iff_eq, ne_eq, not_and, Decidable.not_not, Bool.true_and, Bool.and_true, Bool.false_or, Bool.or_false] at g45
                refine v_lds ?_
                refine nT rfl rfl rfl (v_lds ?_)
                refine nT rfl rfl rfl (v_call Try.call26 (rsame t t x17.1.vr x17.1.vk x17.1.vs vr_t vk_t vs_t) (fun x48 => ?_))
                refine nT rfl rfl rfl (v_not ?_)
                refine n0 rfl (v_pickF ?_)
                refine NV.done ?_
                refine rg_nil ?_
                exact hK _ ⟨rfl, rfl, rfl, (by first | rfl | ((conv => lhs; whnf); first | (simp_all; done) | (simp_all; omega))), trivial⟩
              · have g45 : (!(decide (t = t))) = true := hg45
                try simp only [decide_eq_true_eq, decide_eq_false_iff_not, Bool.and_eq_true, Bool.or_eq_true, Bool.not_eq_true', Bool.and_eq_false_iff, Bool.or_eq_false_iff, Bool.not_eq_false', bne_iff_ne, beq_iff_eq, ne_eq, not_and, Decidable.not_not, Bool.true_and, Bool.and_true, Bool.false_or, Bool.or_false] at g45
                refine nF rfl rfl rfl ?_
                refine nF rfl rfl rfl ?_
                refine nF rfl rfl rfl ?_
                refine n0 rfl (v_pickT ?_)
                refine NV.done ?_
                refine rg_nil ?_
                exact hK _ ⟨rfl, rfl, rfl, (by first | rfl | ((conv => lhs; whnf); first | (simp_all; done) | (simp_all; omega))), trivial⟩
            · have g39 : ((decide (t = u)) != (decide (t = u))) = true := hg39
              try simp only [decide_eq_true_eq, decide_eq_false_iff_not, Bool.and_eq_true, Bool.or_eq_true, Bool.not_eq_true', Bool.and_eq_false_iff, Bool.or_eq_false_iff, Bool.not_eq_false', bne_iff_ne, beq_iff_eq, ne_eq, not_and, Decidable.not_not, Bool.true_and, Bool.and_true, Bool.false_or, Bool.or_false] at g39
              refine nF rfl rfl rfl ?_
              refine nF rfl rfl rfl ?_
              refine nF rfl rfl rfl ?_
              refine n0 rfl (v_pickT ?_)
              refine n0 rfl (v_move ?_)
              refine nF rfl rfl rfl ?_
              refine nF rfl rfl rfl ?_
              refine nF rfl rfl rfl ?_
              refine nF rfl rfl rfl ?_
              refine n0 rfl (v_pickT ?_)
              refine NV.done ?_
              refine rg_nil ?_
              exact hK _ ⟨rfl, rfl, rfl, (by first | rfl | ((conv => lhs; whnf); first | (simp_all; done) | (simp_all; omega))), trivial⟩
          · have g30 : (decide ((depth t : Int) ≠ (depth t : Int))) = true := hg30
            try simp only [decide_eq_true_eq, decide_eq_false_iff_not, Bool.and_eq_true, Bool.or_eq_true, Bool.not_eq_true', Bool.and_eq_false_iff, Bool.or_eq_false_iff, Bool.not_eq_false', bne_iff_ne, beq_iff_eq, ne_eq, not_and, Decidable.not_not, Bool.true_and, Bool.and_true, Bool.false_or, Bool.or_false] at g30
            refine nF rfl rfl rfl ?_
            refine nF rfl rfl rfl ?_
            refine nF rfl rfl rfl ?_
            refine nF rfl rfl rfl ?_
            refine nF rfl rfl rfl ?_
            refine nF rfl rfl rfl ?_
            refine n0 rfl (v_pickT ?_)
            refine n0 rfl (v_move ?_)
            refine nF rfl rfl rfl ?_
            refine nF rfl rfl rfl ?_
            refine nF rfl rfl rfl ?_
            refine nF rfl rfl rfl ?_
            refine n0 rfl (v_pickT ?_)
            refine n0 rfl (v_move ?_)
            refine nF rfl rfl rfl ?_
            refine nF rfl rfl rfl ?_
            refine nF rfl rfl rfl ?_
            refine nF rfl rfl rfl ?_
            refine n0 rfl (v_pickT ?_)
            refine NV.done ?_
            refine rg_nil ?_
            exact hK _ ⟨rfl, rfl, rfl, (by first | rfl | ((conv => lhs; whnf); first | (simp_all; done) | (simp_all; omega))), trivial⟩
        · have g23 : (decide ((size t : Int) ≠ (size t : Int))) = true := hg23
          try simp only [decide_eq_true_eq, decide_eq_false_iff_not, Bool.and_eq_true, Bool.or_eq_true, Bool.not_eq_true', Bool.and_eq_false_iff, Bool.or_eq_false_iff, Bool.not_eq_false', bne_iff_ne, beq_iff_eq, ne_eq, not_and, Decidable.not_not, Bool.true_and, Bool.and_true, Bool.false_or, Bool.or_false] at g23
          refine nF rfl rfl rfl ?_
          refine nF rfl rfl rfl ?_
          refine nF rfl rfl rfl ?_
          refine nF rfl rfl rfl ?_
          refine n0 rfl (v_pickT ?_)
          refine n0 rfl (v_move ?_)
          refine nF rfl rfl rfl ?_
          refine nF rfl rfl rfl ?_
          refine nF rfl rfl rfl ?_
          refine nF rfl rfl rfl ?_
          refine nF rfl rfl rfl ?_
          refine nF rfl rfl rfl ?_
          refine nF rfl rfl rfl ?_
          refine n0 rfl (v_pickT ?_)
          refine n0 rfl (v_move ?_)
          refine nF rfl rfl rfl ?_
          refine nF rfl rfl rfl ?_
          refine nF rfl rfl rfl ?_
          refine nF rfl rfl rfl ?_
          refine n0 rfl (v_pickT ?_)
          refine n0 rfl (v_move ?_)
          refine nF rfl rfl rfl ?_
          refine nF rfl rfl rfl ?_
          refine nF rfl rfl rfl ?_
          refine nF rfl rfl rfl ?_
          refine n0 rfl (v_pickT ?_)
          refine NV.done ?_
          refine rg_nil ?_
          exact hK _ ⟨rfl, rfl, rfl, (by first | rfl | ((conv => lhs; whnf); first | (simp_all; done) | (simp_all; omega))), trivial⟩
      · refine go_condI (fun h50 => ?_) (fun h50 => ?_)
        · have c50 : (((((decide ((size t : Int) ≠ (size t : Int))) || (decide ((depth t : Int) ≠ (depth t : Int)))) || ((decide (t = u)) != (decide (t = u)))) || (!(decide (t = t)))) || (!(decide (t = t)))) = true := h50
          try simp only [decide_eq_true_eq, decide_eq_false_iff_not, Bool.and_eq_true, Bool.or_eq_true, Bool.not_eq_true', Bool.and_eq_false_iff, Bool.or_eq_false_iff, Bool.not_eq_false', bne_iff_ne, beq_iff_eq, ne_eq, not_and, Decidable.not_not, Bool.true_and, Bool.and_true, Bool.false_or, Bool.or_false] at c50
          exfalso
          simp at h50
        · have c50 : (((((decide ((size t : Int) ≠ (size t : Int))) || (decide ((depth t : Int) ≠ (depth t : Int)))) || ((decide (t = u)) != (decide (t = u)))) || (!(decide (t = t)))) || (!(decide (t = t)))) = false := h50
          try simp only [decide_eq_true_eq, decide_eq_false_iff_not, Bool.and_eq_true, Bool.or_eq_true, Bool.not_eq_true', Bool.and_eq_false_iff, Bool.or_eq_false_iff, Bool.not_eq_false', bne_iff_ne, beq_iff_eq, ne_eq, not_and, Decidable.not_not, Bool.true_and, Bool.and_true, Bool.false_or, Bool.or_false] at c50
          refine go_skip ?_
          refine go_seq ?_
          have hsp := spoil_spec x17.1
          unfold SpoilO at hsp
          rw [x17.2] at hsp
          refine go_region ⟨_, Try.func4⟩ rfl ?_
          refine q0 rfl (o_lds ?_)
          refine q0 rfl (o_call Try.call27 (hsp) (fun x52 => ?_))
          refine rg_nil ?_
          refine go_seq ?_
          refine go_cutS ([(4, .bool ((decide (t = t))))]) (fun hK => ?_) (fun base => ?_)
          · refine go_region ⟨_, Try.func4⟩ rfl ?_
            refine q0 rfl (o_lds ?_)
            refine q0 rfl (o_lds ?_)
            refine q0 rfl (o_call Try.call26 (rsame t t x15.1 x15.2.1 x15.2.2 vr_t vk_t vs_t) (fun x55 => ?_))
            refine q0 rfl (o_move ?_)
            refine qI rfl rfl rfl (by conv => lhs; whnf) (fun hg56 => ?_) (fun hg56 => ?_)
            · have g56 : ((decide (t = t))) = true := hg56
              try simp only [decide_eq_true_eq, decide_eq_false_iff_not, Bool.and_eq_true, Bool.or_eq_true, Bool.not_eq_true', Bool.and_eq_false_iff, Bool.or_eq_false_iff, Bool.not_eq_false', bne_iff_ne, beq_iff_eq, ne_eq, not_and, Decidable.not_not, Bool.true_and, Bool.and_true, Bool.false_or, Bool.or_false] at g56
              refine o_call Try.call17 (works10_spec ) (fun x57 => ?_)
              refine q0 rfl (o_pickT ?_)
              refine q0 rfl (o_assign ?_)
              refine rg_nil ?_
              exact hK _ ⟨(by first | rfl | ((conv => lhs; whnf); first | (simp_all; done) | (simp_all; omega))), trivial⟩
            · have g56 : ((decide (t = t))) = false := hg56
              try simp only [decide_eq_true_eq, decide_eq_false_iff_not, Bool.and_eq_true, Bool.or_eq_true, Bool.not_eq_true', Bool.and_eq_false_iff, Bool.or_eq_false_iff, Bool.not_eq_false', bne_iff_ne, beq_iff_eq, ne_eq, not_and, Decidable.not_not, Bool.true_and, Bool.and_true, Bool.false_or, Bool.or_false] at g56
              refine q0 rfl (o_pickF ?_)
              refine q0 rfl (o_assign ?_)
              refine rg_nil ?_
              exact hK _ ⟨(by first | rfl | ((conv => lhs; whnf); first | (simp_all; done) | (simp_all; omega))), trivial⟩
          · -- leaf 1: .bool ((decide (t = t)))
            refine ret1 Try.func4 Try.results4 (by first | ((conv => lhs; whnf); done) | rfl) () (by first | rfl | simp) (fun w hs => hs.none)

end Go.Hy
