/- Contracts of functions of this program, one theorem each (printed by a program of this repository). -/
import Derived.Test.YtcofpfnnlageaaaHyAuto2
import Derived.Test.YtcofpfnnlageaaaHyTab
import Derived.Test.YtcofpfnnlageaaaHyMore
import Derived.Test.YtcofpfnnlageaaaS9
import Derived.Test.YtcofpfnnlageaaaS11
import Derived.Test.YtcofpfnnlageaaaS16
import Derived.Test.YtcofpfnnlageaaaW4
namespace Go.Hy
set_option linter.unusedVariables false
set_option linter.unusedSimpArgs false
set_option linter.unusedSectionVars false
open Go.Proofs
set_option linter.unusedVariables false
set_option linter.unusedSimpArgs false
set_option maxRecDepth 100000
theorem more_last {t : T} {v d : Int} (hr2 : 0 ≤ d) (hr3 : d ≤ 24) (hr4 : sized t = 0) (hr1 : 0 ≤ v) (hy : 1 ≤ v → (allP t (v - 1) d true = true ↔ uses t (v - 1) = false)) : (decide (v = 0) || (uses t (v - 1) == decide (rightP t (v - 1) d = 100))) = true := by
  by_cases h0 : v = 0
  · simp [h0]
  · have hz := hy (by omega)
    have hrr : rightP t (v - 1) d = if allP t (v - 1) d true then 0 else 100 := by
      unfold rightP; rw [if_neg (by simp; omega), hr4, if_neg (by simp)]
    rw [hrr]
    cases hu : uses t (v - 1) <;> cases ha : allP t (v - 1) d true <;> simp_all

theorem termMore_spec (t : T) (vr_t vk_t vs_t : SH) (v : Int) (d : Int) (m : Int) (hv : in64 v) (hd : in64 d) (hm : in64 m) : Spec Try.prog 7 #[.agg (tc t vr_t vk_t vs_t).toArray, .int .i64 (v), .int .i64 (d), .int .i64 (m)] [RT t vr_t vk_t vs_t] [] (fun _ : Unit => .bool (true)) (fun _ : Unit => []) (fun _ : Unit => []) := by
  refine spec_go (args := [.agg (tc t vr_t vk_t vs_t).toArray, .int .i64 (v), .int .i64 (d), .int .i64 (m)]) Try.func7 Try.ntmps7 rfl (by exact Nat.le_of_ble_eq_true rfl) fun B hB => ?_
  refine go_open (t := t) (vr := vr_t) (vk := vk_t) (vs := vs_t) (fun hk1 hn1 hm1 => ?_)
  refine go_openCL (l := (t).r) (a := vr_t) (fun hl2 hA2 hU2 => ?_)
  refine go_openTL (ts := (t).kids) (a := vk_t) (fun VR3 VK3 VS3 hl3 hA3 => ?_)
  refine go_openBL (bs := (t).sys) (a := vs_t) (fun VF4 VK4 hl4 hA4 => ?_)
  refine go_seq ?_
  refine go_region ⟨_, Try.func7⟩ rfl ?_
  refine q0 rfl (o_box fun b4 => ?_)
  refine q0 rfl (o_assign ?_)
  refine rg_nil ?_
  refine go_seq ?_
  refine go_seq ?_
  refine go_region ⟨_, Try.func7⟩ rfl ?_
  refine q0 rfl (o_call Try.call17 (works10_spec ) (fun x12 => ?_))
  refine q0 rfl (o_not ?_)
  refine rg_nil ?_
  refine go_condF ?_
  refine go_skip ?_
  refine go_seq ?_
  refine go_seq ?_
  refine go_cutS ([(1, .int .i64 (v)), (2, .int .i64 (d)), (3, .int .i64 (m)), (4, .pointer (some ⟨b4, 0, none⟩)), (19, .bool ((decide (500 < bulk t)) || (decide (1000 < v))))]) (fun hK => ?_) (fun base => ?_)
  · refine go_region ⟨_, Try.func7⟩ rfl ?_
    refine q0 rfl (o_lds ?_)
    refine q0 rfl (o_call Try.call18 (great10_spec t vr_t vk_t vs_t ) (fun x15 => ?_))
    refine q0 rfl (o_move ?_)
    refine qI rfl rfl rfl (by conv => lhs; whnf) (fun hg16 => ?_) (fun hg16 => ?_)
    · have g16 : ((decide (500 < bulk t))) = false := by simpa using hg16
      try simp only [decide_eq_true_eq, decide_eq_false_iff_not, Bool.and_eq_true, Bool.or_eq_true, Bool.not_eq_true', Bool.and_eq_false_iff, Bool.or_eq_false_iff, Bool.not_eq_false', bne_iff_ne, beq_iff_eq, ne_eq, not_and, Decidable.not_not, Bool.true_and, Bool.and_true, Bool.false_or, Bool.or_false] at g16
      refine o_move ?_
      refine qT rfl rfl rfl (o_gtr ?_)
      refine q0 rfl (o_pickF ?_)
      refine rg_nil ?_
      exact hK _ ⟨rfl, rfl, rfl, rfl, (by first | rfl | ((conv => lhs; whnf); first | (simp_all; done) | (simp_all; omega))), trivial⟩
    · have g16 : ((decide (500 < bulk t))) = true := by simpa using hg16
      try simp only [decide_eq_true_eq, decide_eq_false_iff_not, Bool.and_eq_true, Bool.or_eq_true, Bool.not_eq_true', Bool.and_eq_false_iff, Bool.or_eq_false_iff, Bool.not_eq_false', bne_iff_ne, beq_iff_eq, ne_eq, not_and, Decidable.not_not, Bool.true_and, Bool.and_true, Bool.false_or, Bool.or_false] at g16
      refine qF rfl rfl rfl ?_
      refine q0 rfl (o_pickT ?_)
      refine rg_nil ?_
      exact hK _ ⟨rfl, rfl, rfl, rfl, (by first | rfl | ((conv => lhs; whnf); first | (simp_all; done) | (simp_all; omega))), trivial⟩
  · refine go_condI (fun h19 => ?_) (fun h19 => ?_)
    · have c19 : ((decide (500 < bulk t)) || (decide (1000 < v))) = true := h19
      try simp only [decide_eq_true_eq, decide_eq_false_iff_not, Bool.and_eq_true, Bool.or_eq_true, Bool.not_eq_true', Bool.and_eq_false_iff, Bool.or_eq_false_iff, Bool.not_eq_false', bne_iff_ne, beq_iff_eq, ne_eq, not_and, Decidable.not_not, Bool.true_and, Bool.and_true, Bool.false_or, Bool.or_false] at c19
      refine go_seq ?_
      refine go_region ⟨_, Try.func7⟩ rfl ?_
      refine q0 rfl (o_assign ?_)
      refine rg_nil ?_
      -- leaf 0: .bool (true)
      refine ret1 Try.func7 Try.results7 (by first | ((conv => lhs; whnf); done) | rfl) () rfl (fun w hs => hs.none)
    · have c19 : ((decide (500 < bulk t)) || (decide (1000 < v))) = false := h19
      try simp only [decide_eq_true_eq, decide_eq_false_iff_not, Bool.and_eq_true, Bool.or_eq_true, Bool.not_eq_true', Bool.and_eq_false_iff, Bool.or_eq_false_iff, Bool.not_eq_false', bne_iff_ne, beq_iff_eq, ne_eq, not_and, Decidable.not_not, Bool.true_and, Bool.and_true, Bool.false_or, Bool.or_false] at c19
      have hbt := size_le_bulk t
      have hb : bulk t ≤ 500 ∧ v ≤ 1000 := by simp at h19; omega
      have hdt := depth_le_size t
      have hdl := dims_lt t
      refine go_skip ?_
      refine go_seq ?_
      refine go_region ⟨_, Try.func7⟩ rfl ?_
      refine q0 rfl (o_lds ?_)
      refine q0 rfl (o_move ?_)
      refine q0 rfl (o_move ?_)
      refine q0 rfl (o_call Try.call28 (right_spec t (.inr form_spec) vr_t vk_t vs_t v d (by first | assumption | omega | (unfold in64 at *; omega) | (unfold reach at *; omega) | (simp_all; done)) (by first | assumption | omega | (unfold in64 at *; omega) | (unfold reach at *; omega) | (simp_all; done))) (fun x23 => ?_))
      refine q0 rfl (o_assign ?_)
      refine rg_nil ?_
      refine go_seq ?_
      refine go_seq ?_
      refine go_region ⟨_, Try.func7⟩ rfl ?_
      refine q0 rfl (o_move ?_)
      refine q0 rfl (o_neI ?_)
      refine rg_nil ?_
      refine go_condI (fun h25 => ?_) (fun h25 => ?_)
      · have c25 : (decide ((rightP t v d) ≠ 0)) = true := h25
        try simp only [decide_eq_true_eq, decide_eq_false_iff_not, Bool.and_eq_true, Bool.or_eq_true, Bool.not_eq_true', Bool.and_eq_false_iff, Bool.or_eq_false_iff, Bool.not_eq_false', bne_iff_ne, beq_iff_eq, ne_eq, not_and, Decidable.not_not, Bool.true_and, Bool.and_true, Bool.false_or, Bool.or_false] at c25
        refine go_seq ?_
        refine go_region ⟨_, Try.func7⟩ rfl ?_
        refine q0 rfl (o_assign ?_)
        refine rg_nil ?_
        -- leaf 1: .bool (true)
        refine ret1 Try.func7 Try.results7 (by first | ((conv => lhs; whnf); done) | rfl) () rfl (fun w hs => hs.none)
      · have c25 : (decide ((rightP t v d) ≠ 0)) = false := h25
        try simp only [decide_eq_true_eq, decide_eq_false_iff_not, Bool.and_eq_true, Bool.or_eq_true, Bool.not_eq_true', Bool.and_eq_false_iff, Bool.or_eq_false_iff, Bool.not_eq_false', bne_iff_ne, beq_iff_eq, ne_eq, not_and, Decidable.not_not, Bool.true_and, Bool.and_true, Bool.false_or, Bool.or_false] at c25
        have hr := right_zero.mp (show rightP t v d = 0 by simpa using h25)
        obtain ⟨hr1, hr2, hr3, hr4, hr5⟩ := hr
        obtain ⟨q, hq⟩ : ∃ q : Nat, q = umod m % 5 := ⟨_, rfl⟩
        refine go_skip ?_
        refine go_seq ?_
        refine go_region ⟨_, Try.func7⟩ rfl ?_
        refine q0 rfl (o_move ?_)
        refine q0 rfl (o_convI6M ?_)
        refine q0 rfl (o_rem6 ?_ (b := 5))
        refine q0 rfl (o_conv6I ?_)
        refine q0 rfl (o_assign ?_)
        refine rg_nil ?_
        refine go_seq ?_
        refine go_seq ?_
        refine go_cutS ([(1, .int .i64 (v)), (2, .int .i64 (d)), (4, .pointer (some ⟨b4, 0, none⟩)), (48, .bool (((decide ((formedP t) ≠ 0)) || (decide ((rightP t (v + ((umod m % 5 : Nat) : Int)) d) ≠ 0))) || (uses t (v + ((umod m % 5 : Nat) : Int)))))]) (fun hK => ?_) (fun base => ?_)
        · refine go_region ⟨_, Try.func7⟩ rfl ?_
          refine q0 rfl (o_lds ?_)
          refine q0 rfl (o_call Try.call30 (formed_spec t (.inr form_spec) vr_t vk_t vs_t (by first | assumption | omega | (unfold in64 at *; omega) | (unfold reach at *; omega) | (simp_all; done))) (fun x31 => ?_))
          refine q0 rfl (o_neI ?_)
          refine q0 rfl (o_move ?_)
          refine qI rfl rfl rfl (by conv => lhs; whnf) (fun hg33 => ?_) (fun hg33 => ?_)
          · have g33 : (decide ((formedP t) ≠ 0)) = false := by simpa using hg33
            try simp only [decide_eq_true_eq, decide_eq_false_iff_not, Bool.and_eq_true, Bool.or_eq_true, Bool.not_eq_true', Bool.and_eq_false_iff, Bool.or_eq_false_iff, Bool.not_eq_false', bne_iff_ne, beq_iff_eq, ne_eq, not_and, Decidable.not_not, Bool.true_and, Bool.and_true, Bool.false_or, Bool.or_false] at g33
            refine o_lds ?_
            refine qT rfl rfl rfl (o_move ?_)
            refine qT rfl rfl rfl (o_move ?_)
            refine qT rfl rfl rfl (o_add ?_)
            refine qT rfl rfl rfl (o_move ?_)
            refine qT rfl rfl rfl (o_call Try.call28 (right_spec t (.inr form_spec) vr_t vk_t vs_t (v + ((umod m % 5 : Nat) : Int)) d (by first | assumption | omega | (unfold in64 at *; omega) | (unfold reach at *; omega) | (simp_all; done)) (by first | assumption | omega | (unfold in64 at *; omega) | (unfold reach at *; omega) | (simp_all; done))) (fun x39 => ?_))
            refine qT rfl rfl rfl (o_neI ?_)
            refine q0 rfl (o_pickF ?_)
            refine q0 rfl (o_move ?_)
            refine qI rfl rfl rfl (by conv => lhs; whnf) (fun hg42 => ?_) (fun hg42 => ?_)
            · have g42 : (decide ((rightP t (v + ((umod m % 5 : Nat) : Int)) d) ≠ 0)) = false := by simpa using hg42
              try simp only [decide_eq_true_eq, decide_eq_false_iff_not, Bool.and_eq_true, Bool.or_eq_true, Bool.not_eq_true', Bool.and_eq_false_iff, Bool.or_eq_false_iff, Bool.not_eq_false', bne_iff_ne, beq_iff_eq, ne_eq, not_and, Decidable.not_not, Bool.true_and, Bool.and_true, Bool.false_or, Bool.or_false] at g42
              refine o_lds ?_
              refine qT rfl rfl rfl (o_move ?_)
              refine qT rfl rfl rfl (o_move ?_)
              refine qT rfl rfl rfl (o_add ?_)
              refine qT rfl rfl rfl (o_call Try.call32 (uses_spec t (v + ((umod m % 5 : Nat) : Int)) vr_t vk_t vs_t (by first | assumption | omega | (unfold in64 at *; omega) | (unfold reach at *; omega) | (simp_all; done))) (fun x47 => ?_))
              refine q0 rfl (o_pickF ?_)
              refine rg_nil ?_
              exact hK _ ⟨rfl, rfl, rfl, (by first | rfl | ((conv => lhs; whnf); first | (simp_all; done) | (simp_all; omega))), trivial⟩
            · have g42 : (decide ((rightP t (v + ((umod m % 5 : Nat) : Int)) d) ≠ 0)) = true := by simpa using hg42
              try simp only [decide_eq_true_eq, decide_eq_false_iff_not, Bool.and_eq_true, Bool.or_eq_true, Bool.not_eq_true', Bool.and_eq_false_iff, Bool.or_eq_false_iff, Bool.not_eq_false', bne_iff_ne, beq_iff_eq, ne_eq, not_and, Decidable.not_not, Bool.true_and, Bool.and_true, Bool.false_or, Bool.or_false] at g42
              refine qF rfl rfl rfl ?_
              refine qF rfl rfl rfl ?_
              refine qF rfl rfl rfl ?_
              refine qF rfl rfl rfl ?_
              refine q0 rfl (o_pickT ?_)
              refine rg_nil ?_
              exact hK _ ⟨rfl, rfl, rfl, (by first | rfl | ((conv => lhs; whnf); first | (simp_all; done) | (simp_all; omega))), trivial⟩
          · have g33 : (decide ((formedP t) ≠ 0)) = true := by simpa using hg33
            try simp only [decide_eq_true_eq, decide_eq_false_iff_not, Bool.and_eq_true, Bool.or_eq_true, Bool.not_eq_true', Bool.and_eq_false_iff, Bool.or_eq_false_iff, Bool.not_eq_false', bne_iff_ne, beq_iff_eq, ne_eq, not_and, Decidable.not_not, Bool.true_and, Bool.and_true, Bool.false_or, Bool.or_false] at g33
            refine qF rfl rfl rfl ?_
            refine qF rfl rfl rfl ?_
            refine qF rfl rfl rfl ?_
            refine qF rfl rfl rfl ?_
            refine qF rfl rfl rfl ?_
            refine qF rfl rfl rfl ?_
            refine q0 rfl (o_pickT ?_)
            refine q0 rfl (o_move ?_)
            refine qF rfl rfl rfl ?_
            refine qF rfl rfl rfl ?_
            refine qF rfl rfl rfl ?_
            refine qF rfl rfl rfl ?_
            refine qF rfl rfl rfl ?_
            refine q0 rfl (o_pickT ?_)
            refine rg_nil ?_
            exact hK _ ⟨rfl, rfl, rfl, (by first | rfl | ((conv => lhs; whnf); first | (simp_all; done) | (simp_all; omega))), trivial⟩
        · refine go_condI (fun h48 => ?_) (fun h48 => ?_)
          · have c48 : (((decide ((formedP t) ≠ 0)) || (decide ((rightP t (v + ((umod m % 5 : Nat) : Int)) d) ≠ 0))) || (uses t (v + ((umod m % 5 : Nat) : Int)))) = true := h48
            try simp only [decide_eq_true_eq, decide_eq_false_iff_not, Bool.and_eq_true, Bool.or_eq_true, Bool.not_eq_true', Bool.and_eq_false_iff, Bool.or_eq_false_iff, Bool.not_eq_false', bne_iff_ne, beq_iff_eq, ne_eq, not_and, Decidable.not_not, Bool.true_and, Bool.and_true, Bool.false_or, Bool.or_false] at c48
            exfalso
            have hx1 : formedP t = 0 := formed_zero.mpr ⟨hr4, all_formed t v d 24 true hr2 hr3 (by omega) hv hr5⟩
            have hx2 : rightP t (v + ((umod m % 5 : Nat) : Int)) d = 0 := right_zero.mpr ⟨by omega, hr2, hr3, hr4, all_more t v _ d true hr1 (by omega) (by omega) hr2 hr5⟩
            have hx3 : uses t (v + ((umod m % 5 : Nat) : Int)) = false := no_use t v _ d true hr1 (by omega) (by omega) hr2 hr5
            rw [hx1, hx2, hx3] at h48
            simp at h48
          · have c48 : (((decide ((formedP t) ≠ 0)) || (decide ((rightP t (v + ((umod m % 5 : Nat) : Int)) d) ≠ 0))) || (uses t (v + ((umod m % 5 : Nat) : Int)))) = false := h48
            try simp only [decide_eq_true_eq, decide_eq_false_iff_not, Bool.and_eq_true, Bool.or_eq_true, Bool.not_eq_true', Bool.and_eq_false_iff, Bool.or_eq_false_iff, Bool.not_eq_false', bne_iff_ne, beq_iff_eq, ne_eq, not_and, Decidable.not_not, Bool.true_and, Bool.and_true, Bool.false_or, Bool.or_false] at c48
            refine go_skip ?_
            refine go_seq ?_
            refine go_seq ?_
            refine go_region ⟨_, Try.func7⟩ rfl ?_
            refine q0 rfl (o_move ?_)
            refine q0 rfl (o_assign ?_)
            refine rg_nil ?_
            refine go_block ?_
            refine go_loopE (X := Nat) (fun s_ => d.toNat + s_ ≤ 24) (fun s_ => [(1, .int .i64 (v)), (2, .int .i64 (d)), (4, .pointer (some ⟨b4, 0, none⟩)), (11, .int .i64 (((d.toNat + s_ : Nat) : Int)))]) (fun s_ G_ => G_) (fun s_ => [boxR b4 (tc t vr_t vk_t vs_t) 31]) (fun s_ => 24 - (d.toNat + s_)) (0) (by omega) (by exact ⟨rfl, rfl, rfl, (by simp only [Nat.add_zero, Int.toNat_of_nonneg hr2]; rfl), trivial⟩) ?_ ?_
            · exact fun w hs => hs
            · intro i base0 hi0 next0
              refine go_seq ?_
              refine go_seq ?_
              refine go_region ⟨_, Try.func7⟩ rfl ?_
              refine q0 rfl (o_move ?_)
              refine q0 rfl (o_lss ?_)
              refine rg_nil ?_
              refine go_condI (fun h51 => ?_) (fun h51 => ?_)
              · have c51 : (decide (((d.toNat + i : Nat) : Int) < 24)) = true := h51
                try simp only [decide_eq_true_eq, decide_eq_false_iff_not, Bool.and_eq_true, Bool.or_eq_true, Bool.not_eq_true', Bool.and_eq_false_iff, Bool.or_eq_false_iff, Bool.not_eq_false', bne_iff_ne, beq_iff_eq, ne_eq, not_and, Decidable.not_not, Bool.true_and, Bool.and_true, Bool.false_or, Bool.or_false] at c51
                refine go_skip ?_
                refine go_seq ?_
                refine go_block ?_
                refine go_seq ?_
                refine go_region ⟨_, Try.func7⟩ rfl ?_
                refine q0 rfl (o_lds ?_)
                refine q0 rfl (o_call Try.call33 (dims_spec t vr_t vk_t vs_t) (fun x55 => ?_))
                refine q0 rfl (o_move ?_)
                refine q0 rfl (o_convI6 ?_ (m := d.toNat + i) (ha := by omega))
                refine q0 rfl (o_shrU32 ?_ (a := dimsT t) (m := d.toNat + i))
                refine q0 rfl (o_andU32 ?_ (a := dimsT t / 2 ^ (min (d.toNat + i) 32)) (b := 1) (ha := by have := Nat.div_le_self (dimsT t) (2 ^ (min (d.toNat + i) 32)); omega) (hb := by omega))
                refine q0 rfl (o_eqU ?_ (a := ((dimsT t / 2 ^ (min (d.toNat + i) 32)) &&& 1)) (b := 1))
                refine rg_nil ?_
                refine go_condI (fun h60 => ?_) (fun h60 => ?_)
                · have c60 : (decide (((dimsT t / 2 ^ (min (d.toNat + i) 32)) &&& 1) = 1)) = true := h60
                  try simp only [decide_eq_true_eq, decide_eq_false_iff_not, Bool.and_eq_true, Bool.or_eq_true, Bool.not_eq_true', Bool.and_eq_false_iff, Bool.or_eq_false_iff, Bool.not_eq_false', bne_iff_ne, beq_iff_eq, ne_eq, not_and, Decidable.not_not, Bool.true_and, Bool.and_true, Bool.false_or, Bool.or_false] at c60
                  exfalso
                  have hx4 := no_dim t v d true (d.toNat + i) hr2 (by omega) hr5
                  rw [Nat.testBit_eq_decide_div_mod_eq] at hx4
                  have hmn : min (d.toNat + i) 32 = d.toNat + i := by omega
                  simp [hmn, Nat.and_one_is_mod] at h60
                  simp [h60] at hx4
                · have c60 : (decide (((dimsT t / 2 ^ (min (d.toNat + i) 32)) &&& 1) = 1)) = false := h60
                  try simp only [decide_eq_true_eq, decide_eq_false_iff_not, Bool.and_eq_true, Bool.or_eq_true, Bool.not_eq_true', Bool.and_eq_false_iff, Bool.or_eq_false_iff, Bool.not_eq_false', bne_iff_ne, beq_iff_eq, ne_eq, not_and, Decidable.not_not, Bool.true_and, Bool.and_true, Bool.false_or, Bool.or_false] at c60
                  refine go_skip ?_
                  refine go_inBlock ?_
                  refine go_region ⟨_, Try.func7⟩ rfl ?_
                  refine q0 rfl (o_move ?_)
                  refine q0 rfl (o_add ?_)
                  refine q0 rfl (o_assign ?_)
                  refine rg_nil ?_
                  refine go_state (fun w hs => ?_) (next0 (i + 1) _ (by omega) (by omega) ⟨rfl, rfl, rfl, rfl, trivial⟩)
                  exact (hs.less (by simp +contextual))
              · have c51 : (decide (((d.toNat + i : Nat) : Int) < 24)) = false := h51
                try simp only [decide_eq_true_eq, decide_eq_false_iff_not, Bool.and_eq_true, Bool.or_eq_true, Bool.not_eq_true', Bool.and_eq_false_iff, Bool.or_eq_false_iff, Bool.not_eq_false', bne_iff_ne, beq_iff_eq, ne_eq, not_and, Decidable.not_not, Bool.true_and, Bool.and_true, Bool.false_or, Bool.or_false] at c51
                refine go_exit rfl ?_
                refine go_seq ?_
                refine go_cutS ([(8, .bool ((decide (v = 0)) || ((uses t (v - 1)) == (decide ((rightP t (v - 1) d) = 100)))))]) (fun hK => ?_) (fun base => ?_)
                · refine go_draw (tn := false) (A := [0, 1, 3, 7, 7, 23, 63, 7, 7, 263, 7, 2047, 4095, 8191, 16383, 32767]) (l := [0, 1, 2, 3, 4, 5, 7, 8, 9, 10, 6, 11, 12, 13, 14, 15]) (fin := []) Tab.mixed ⟨_, Try.func7⟩ (by rfl) ?_
                  refine n0 rfl (v_move ?_)
                  refine n0 rfl (v_eqI ?_)
                  refine n0 rfl (v_move ?_)
                  refine nI rfl rfl rfl (by conv => lhs; whnf) (fun hg63 => ?_) (fun hg63 => ?_)
                  · have g63 : (decide (v = 0)) = false := by simpa using hg63
                    try simp only [decide_eq_true_eq, decide_eq_false_iff_not, Bool.and_eq_true, Bool.or_eq_true, Bool.not_eq_true', Bool.and_eq_false_iff, Bool.or_eq_false_iff, Bool.not_eq_false', bne_iff_ne, beq_iff_eq, ne_eq, not_and, Decidable.not_not, Bool.true_and, Bool.and_true, Bool.false_or, Bool.or_false] at g63
                    refine v_lds ?_
                    refine nT rfl rfl rfl (v_move ?_)
                    refine nT rfl rfl rfl (v_sub ?_)
                    refine nT rfl rfl rfl (v_lds ?_)
                    refine nT rfl rfl rfl (v_move ?_)
                    refine nT rfl rfl rfl (v_sub ?_)
                    refine nT rfl rfl rfl (v_move ?_)
                    refine nT rfl rfl rfl (v_call Try.call32 (uses_spec t (v - 1) vr_t vk_t vs_t (by first | assumption | omega | (unfold in64 at *; omega) | (unfold reach at *; omega) | (simp_all; done))) (fun x67 => ?_))
                    refine nT rfl rfl rfl (v_call Try.call28 (right_spec t (.inr form_spec) vr_t vk_t vs_t (v - 1) d (by first | assumption | omega | (unfold in64 at *; omega) | (unfold reach at *; omega) | (simp_all; done)) (by first | assumption | omega | (unfold in64 at *; omega) | (unfold reach at *; omega) | (simp_all; done))) (fun x72 => ?_))
                    refine nT rfl rfl rfl (v_eqI ?_)
                    refine nT rfl rfl rfl (v_eqB ?_)
                    refine n0 rfl (v_pickF ?_)
                    refine n0 rfl (v_assign ?_)
                    refine NV.done ?_
                    refine rg_nil ?_
                    exact hK _ ⟨(by first | rfl | ((conv => lhs; whnf); first | (simp_all; done) | (simp_all; omega))), trivial⟩
                  · have g63 : (decide (v = 0)) = true := by simpa using hg63
                    try simp only [decide_eq_true_eq, decide_eq_false_iff_not, Bool.and_eq_true, Bool.or_eq_true, Bool.not_eq_true', Bool.and_eq_false_iff, Bool.or_eq_false_iff, Bool.not_eq_false', bne_iff_ne, beq_iff_eq, ne_eq, not_and, Decidable.not_not, Bool.true_and, Bool.and_true, Bool.false_or, Bool.or_false] at g63
                    refine nF rfl rfl rfl ?_
                    refine nF rfl rfl rfl ?_
                    refine nF rfl rfl rfl ?_
                    refine nF rfl rfl rfl ?_
                    refine nF rfl rfl rfl ?_
                    refine nF rfl rfl rfl ?_
                    refine nF rfl rfl rfl ?_
                    refine nF rfl rfl rfl ?_
                    refine nF rfl rfl rfl ?_
                    refine nF rfl rfl rfl ?_
                    refine n0 rfl (v_pickT ?_)
                    refine n0 rfl (v_assign ?_)
                    refine NV.done ?_
                    refine rg_nil ?_
                    exact hK _ ⟨(by first | rfl | ((conv => lhs; whnf); first | (simp_all; done) | (simp_all; omega))), trivial⟩
                · -- leaf 2: .bool ((decide (v = 0)) || ((uses t (v - 1)) == (decide ((rightP t (v - 1) d) = 100))))
                  have hy := fun h => all_less t v d true h (by omega) hr2 hr5
                  refine ret1 Try.func7 Try.results7 (by first | ((conv => lhs; whnf); done) | rfl) () (by exact congrArg Value.bool (more_last hr2 hr3 hr4 hr1 hy)) (fun w hs => hs.none)

end Go.Hy
