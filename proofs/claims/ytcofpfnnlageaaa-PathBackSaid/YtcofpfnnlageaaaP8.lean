/- Contracts of this program's functions and the laws that they need: a separation logic over the machine's rules, one theorem each (partly printed by a program of this repository). -/
import Derived.Test.YtcofpfnnlageaaaP3
import Derived.Test.YtcofpfnnlageaaaP4
import Derived.Test.YtcofpfnnlageaaaP5
import Derived.Test.YtcofpfnnlageaaaP6
import Derived.Test.YtcofpfnnlageaaaP7
namespace Go.Hy
set_option linter.unusedVariables false
set_option linter.unusedSimpArgs false
set_option linter.unusedSectionVars false
open Go.Proofs
set_option linter.unusedVariables false
set_option linter.unusedSimpArgs false
set_option maxRecDepth 100000
abbrev SameR (t : T) : Prop := ∀ u vr vk vs vr' vk' vs', Spec Try.prog 26 #[.agg (tc t vr vk vs).toArray, .agg (tc u vr' vk' vs').toArray] [RT t vr vk vs, RT u vr' vk' vs'] [] (fun _ : Unit => .bool (decide (t = u))) (fun _ => []) (fun _ => [])
theorem rlists (ts : List T) (a_ts : SH) (us : List T) (a_us : SH) (ih : ∀ t, t ∈ ts → SameR t) : Spec Try.prog 53 #[sl a_ts (ts.length), sl a_us (us.length)] [TL ts a_ts, TL us a_us] [] (fun _ : Unit => .bool ((decide (ts = us)))) (fun _ : Unit => []) (fun _ : Unit => []) := by
  refine spec_go (args := [sl a_ts (ts.length), sl a_us (us.length)]) Try.func53 Try.ntmps53 rfl (by exact Nat.le_of_ble_eq_true rfl) fun B hB => ?_
  refine go_openTL (ts := ts) (a := a_ts) (fun VR1 VK1 VS1 hl1 hA1 => ?_)
  refine go_openTL (ts := us) (a := a_us) (fun VR2 VK2 VS2 hl2 hA2 => ?_)
  refine go_seq ?_
  refine go_region ⟨_, Try.func53⟩ rfl ?_
  refine q0 rfl (o_assign ?_)
  refine rg_nil ?_
  refine go_seq ?_
  refine go_seq ?_
  refine go_region ⟨_, Try.func53⟩ rfl ?_
  refine q0 rfl (o_move ?_)
  refine q0 rfl (o_len ?_)
  refine q0 rfl (o_move ?_)
  refine q0 rfl (o_len ?_)
  refine q0 rfl (o_neI ?_)
  refine rg_nil ?_
  refine go_condI (fun h10 => ?_) (fun h10 => ?_)
  · have c10 : (decide ((ts.length : Int) ≠ (us.length : Int))) = true := h10
    try simp only [decide_eq_true_eq, decide_eq_false_iff_not, Bool.and_eq_true, Bool.or_eq_true, Bool.not_eq_true', Bool.and_eq_false_iff, Bool.or_eq_false_iff, Bool.not_eq_false', bne_iff_ne, beq_iff_eq, ne_eq, not_and, Decidable.not_not, Bool.true_and, Bool.and_true, Bool.false_or, Bool.or_false] at c10
    refine go_seq ?_
    refine go_region ⟨_, Try.func53⟩ rfl ?_
    refine q0 rfl (o_assign ?_)
    refine rg_nil ?_
    -- leaf 0: .bool (false)
    refine ret1 Try.func53 Try.results53 (by first | ((conv => lhs; whnf); done) | rfl) () (by simp only [decide_eq_false (fun h : ts = us => by subst h; simp at c10)]) (fun w hs => hs.none)
  · have c10 : (decide ((ts.length : Int) ≠ (us.length : Int))) = false := h10
    try simp only [decide_eq_true_eq, decide_eq_false_iff_not, Bool.and_eq_true, Bool.or_eq_true, Bool.not_eq_true', Bool.and_eq_false_iff, Bool.or_eq_false_iff, Bool.not_eq_false', bne_iff_ne, beq_iff_eq, ne_eq, not_and, Decidable.not_not, Bool.true_and, Bool.and_true, Bool.false_or, Bool.or_false] at c10
    have hlen : ts.length = us.length := by simp at h10; omega
    refine go_skip ?_
    refine go_seq ?_
    refine go_seq ?_
    refine go_region ⟨_, Try.func53⟩ rfl ?_
    refine q0 rfl (o_assign ?_)
    refine rg_nil ?_
    refine go_block ?_
    refine go_loopE (X := Nat) (fun s_ => s_ ≤ ts.length ∧ ∀ j, j < s_ → ts.getD j t0 = us.getD j t0) (fun s_ => [(0, sl a_ts (ts.length)), (1, sl a_us (us.length)), (5, .int .i64 ((s_ : Int)))]) (fun s_ G_ => G_) (fun s_ => []) (fun s_ => ts.length - s_) (0) (⟨by omega, fun j h => absurd h (Nat.not_lt_zero j)⟩) (by exact ⟨rfl, rfl, rfl, trivial⟩) ?_ ?_
    · exact fun w hs => hs
    · intro i base0 ⟨hi, hsm⟩ next0
      refine go_seq ?_
      refine go_seq ?_
      refine go_region ⟨_, Try.func53⟩ rfl ?_
      refine q0 rfl (o_move ?_)
      refine q0 rfl (o_move ?_)
      refine q0 rfl (o_len ?_)
      refine q0 rfl (o_lss ?_)
      refine rg_nil ?_
      refine go_condI (fun h14 => ?_) (fun h14 => ?_)
      · have c14 : (decide ((i : Int) < (ts.length : Int))) = true := h14
        try simp only [decide_eq_true_eq, decide_eq_false_iff_not, Bool.and_eq_true, Bool.or_eq_true, Bool.not_eq_true', Bool.and_eq_false_iff, Bool.or_eq_false_iff, Bool.not_eq_false', bne_iff_ne, beq_iff_eq, ne_eq, not_and, Decidable.not_not, Bool.true_and, Bool.and_true, Bool.false_or, Bool.or_false] at c14
        refine go_skip ?_
        refine go_seq ?_
        refine go_block ?_
        refine go_seq ?_
        refine go_kid (ts := ts) (a := a_ts) (VR := VR1) (VK := VK1) (VS := VS1) i (by omega) ?_
        refine go_kid (ts := us) (a := a_us) (VR := VR2) (VK := VK2) (VS := VS2) i (by omega) ?_
        refine go_draw (tn := false) (A := [0, 0, 3, 7, 0, 0, 48, 112, 255, 511]) (l := [0, 1, 2, 3, 4, 5, 6, 7, 8, 9]) (fin := []) Tab.mixed ⟨_, Try.func53⟩ (by rfl) ?_
        refine n0 rfl (v_move ?_)
        refine n0 rfl (v_move ?_)
        obtain ⟨bk3, o3, hav3⟩ := hA1 (by omega)
        refine n0 rfl (v_ixN ?_ (j := i))
        refine n0 rfl (v_ldT ?_)
        refine n0 rfl (v_move ?_)
        refine n0 rfl (v_move ?_)
        obtain ⟨bk4, o4, hav4⟩ := hA2 (by omega)
        refine n0 rfl (v_ixN ?_ (j := i))
        refine n0 rfl (v_ldT ?_)
        refine n0 rfl (v_call Try.call26 (ih _ (getD_mem (show i < ts.length by omega)) (us.getD i t0) (VR1 i) (VK1 i) (VS1 i) (VR2 i) (VK2 i) (VS2 i)) (fun x25 => ?_))
        refine n0 rfl (v_not ?_)
        refine NV.done ?_
        refine rg_nil ?_
        refine go_condI (fun h26 => ?_) (fun h26 => ?_)
        · have c26 : (!(decide ((ts.getD i t0) = (us.getD i t0)))) = true := h26
          try simp only [decide_eq_true_eq, decide_eq_false_iff_not, Bool.and_eq_true, Bool.or_eq_true, Bool.not_eq_true', Bool.and_eq_false_iff, Bool.or_eq_false_iff, Bool.not_eq_false', bne_iff_ne, beq_iff_eq, ne_eq, not_and, Decidable.not_not, Bool.true_and, Bool.and_true, Bool.false_or, Bool.or_false] at c26
          refine go_seq ?_
          refine go_region ⟨_, Try.func53⟩ rfl ?_
          refine q0 rfl (o_assign ?_)
          refine rg_nil ?_
          -- leaf 1: .bool (false)
          refine ret1 Try.func53 Try.results53 (by first | ((conv => lhs; whnf); done) | rfl) () (by simp only [decide_eq_false (fun h : ts = us => by subst h; simp at c26)]) (fun w hs => hs.none)
        · have c26 : (!(decide ((ts.getD i t0) = (us.getD i t0)))) = false := h26
          try simp only [decide_eq_true_eq, decide_eq_false_iff_not, Bool.and_eq_true, Bool.or_eq_true, Bool.not_eq_true', Bool.and_eq_false_iff, Bool.or_eq_false_iff, Bool.not_eq_false', bne_iff_ne, beq_iff_eq, ne_eq, not_and, Decidable.not_not, Bool.true_and, Bool.and_true, Bool.false_or, Bool.or_false] at c26
          refine go_skip ?_
          refine go_inBlock ?_
          refine go_region ⟨_, Try.func53⟩ rfl ?_
          refine q0 rfl (o_move ?_)
          refine q0 rfl (o_add ?_)
          refine q0 rfl (o_assign ?_)
          refine rg_nil ?_
          refine go_state (fun w hs => ?_) (next0 (i + 1) _ (⟨by omega, fun j hj => by rcases Nat.lt_succ_iff_lt_or_eq.mp hj with h | h; exact hsm j h; subst h; simpa using c26⟩) (by omega) ⟨rfl, rfl, rfl, trivial⟩)
          exact (hs.less (by simp +contextual))
      · have c14 : (decide ((i : Int) < (ts.length : Int))) = false := h14
        try simp only [decide_eq_true_eq, decide_eq_false_iff_not, Bool.and_eq_true, Bool.or_eq_true, Bool.not_eq_true', Bool.and_eq_false_iff, Bool.or_eq_false_iff, Bool.not_eq_false', bne_iff_ne, beq_iff_eq, ne_eq, not_and, Decidable.not_not, Bool.true_and, Bool.and_true, Bool.false_or, Bool.or_false] at c14
        refine go_exit rfl ?_
        refine go_seq ?_
        refine go_region ⟨_, Try.func53⟩ rfl ?_
        refine q0 rfl (o_assign ?_)
        refine rg_nil ?_
        -- leaf 2: .bool (true)
        refine ret1 Try.func53 Try.results53 (by first | ((conv => lhs; whnf); done) | rfl) () (by simp only [decide_eq_true (list_eq_of (d := t0) hlen (fun j hj => hsm j (by omega)) : ts = us)]) (fun w hs => hs.none)
theorem rsame_walk (t : T) (vr_t vk_t vs_t : SH) (u : T) (vr_u vk_u vs_u : SH) (ih : ∀ p, p ∈ parts t → SameR p.1) : Spec Try.prog 26 #[.agg (tc t vr_t vk_t vs_t).toArray, .agg (tc u vr_u vk_u vs_u).toArray] [RT t vr_t vk_t vs_t, RT u vr_u vk_u vs_u] [] (fun _ : Unit => .bool ((decide (t = u)))) (fun _ : Unit => []) (fun _ : Unit => []) := by
  refine spec_go (args := [.agg (tc t vr_t vk_t vs_t).toArray, .agg (tc u vr_u vk_u vs_u).toArray]) Try.func26 Try.ntmps26 rfl (by exact Nat.le_of_ble_eq_true rfl) fun B hB => ?_
  refine go_open (t := t) (vr := vr_t) (vk := vk_t) (vs := vs_t) (fun hk1 hn1 hm1 => ?_)
  refine go_openCL (l := (t).r) (a := vr_t) (fun hl2 hA2 hU2 => ?_)
  refine go_openTL (ts := (t).kids) (a := vk_t) (fun VR3 VK3 VS3 hl3 hA3 => ?_)
  refine go_openBL (bs := (t).sys) (a := vs_t) (fun VF4 VK4 hl4 hA4 => ?_)
  refine go_open (t := u) (vr := vr_u) (vk := vk_u) (vs := vs_u) (fun hk5 hn5 hm5 => ?_)
  refine go_openCL (l := (u).r) (a := vr_u) (fun hl6 hA6 hU6 => ?_)
  refine go_openTL (ts := (u).kids) (a := vk_u) (fun VR7 VK7 VS7 hl7 hA7 => ?_)
  refine go_openBL (bs := (u).sys) (a := vs_u) (fun VF8 VK8 hl8 hA8 => ?_)
  refine go_seq ?_
  refine go_region ⟨_, Try.func26⟩ rfl ?_
  refine q0 rfl (o_box fun b2 => ?_)
  refine q0 rfl (o_box fun b3 => ?_)
  refine q0 rfl (o_assign ?_)
  refine rg_nil ?_
  refine go_seq ?_
  refine go_seq ?_
  refine go_cutS ([(2, .pointer (some ⟨b2, 0, none⟩)), (3, .pointer (some ⟨b3, 0, none⟩)), (49, .bool ((((((decide (((t).kind) ≠ ((u).kind))) || (decide (((t).n) ≠ ((u).n)))) || (!(((t).name).toList == ((u).name).toList))) || (!(decide (((t).r) = ((u).r))))) || (!(decide (((t).kids) = ((u).kids))))) || (decide (((t).sys.length : Int) ≠ ((u).sys.length : Int)))))]) (fun hK => ?_) (fun base => ?_)
  · refine go_region ⟨_, Try.func26⟩ rfl ?_
    refine q0 rfl (o_fa ?_)
    refine q0 rfl (o_ld ?_)
    refine q0 rfl (o_fa ?_)
    refine q0 rfl (o_ld ?_)
    refine q0 rfl (o_neI ?_)
    refine q0 rfl (o_move ?_)
    refine qI rfl rfl rfl (by conv => lhs; whnf) (fun hg11 => ?_) (fun hg11 => ?_)
    · have g11 : (decide (((t).kind) ≠ ((u).kind))) = false := hg11
      try simp only [decide_eq_true_eq, decide_eq_false_iff_not, Bool.and_eq_true, Bool.or_eq_true, Bool.not_eq_true', Bool.and_eq_false_iff, Bool.or_eq_false_iff, Bool.not_eq_false', bne_iff_ne, beq_iff_eq, ne_eq, not_and, Decidable.not_not, Bool.true_and, Bool.and_true, Bool.false_or, Bool.or_false] at g11
      refine o_fa ?_
      refine qT rfl rfl rfl (o_ld ?_)
      refine qT rfl rfl rfl (o_fa ?_)
      refine qT rfl rfl rfl (o_ld ?_)
      refine qT rfl rfl rfl (o_neI ?_)
      refine q0 rfl (o_pickF ?_)
      refine q0 rfl (o_move ?_)
      refine qI rfl rfl rfl (by conv => lhs; whnf) (fun hg18 => ?_) (fun hg18 => ?_)
      · have g18 : (decide (((t).n) ≠ ((u).n))) = false := hg18
        try simp only [decide_eq_true_eq, decide_eq_false_iff_not, Bool.and_eq_true, Bool.or_eq_true, Bool.not_eq_true', Bool.and_eq_false_iff, Bool.or_eq_false_iff, Bool.not_eq_false', bne_iff_ne, beq_iff_eq, ne_eq, not_and, Decidable.not_not, Bool.true_and, Bool.and_true, Bool.false_or, Bool.or_false] at g18
        refine o_fa ?_
        refine qT rfl rfl rfl (o_ld ?_)
        refine qT rfl rfl rfl (o_fa ?_)
        refine qT rfl rfl rfl (o_ld ?_)
        refine qT rfl rfl rfl (o_neS ?_)
        refine q0 rfl (o_pickF ?_)
        refine q0 rfl (o_move ?_)
        refine qI rfl rfl rfl (by conv => lhs; whnf) (fun hg25 => ?_) (fun hg25 => ?_)
        · have g25 : (!(((t).name).toList == ((u).name).toList)) = false := hg25
          try simp only [decide_eq_true_eq, decide_eq_false_iff_not, Bool.and_eq_true, Bool.or_eq_true, Bool.not_eq_true', Bool.and_eq_false_iff, Bool.or_eq_false_iff, Bool.not_eq_false', bne_iff_ne, beq_iff_eq, ne_eq, not_and, Decidable.not_not, Bool.true_and, Bool.and_true, Bool.false_or, Bool.or_false] at g25
          refine o_fa ?_
          refine qT rfl rfl rfl (o_ld ?_)
          refine qT rfl rfl rfl (o_fa ?_)
          refine qT rfl rfl rfl (o_ld ?_)
          refine qT rfl rfl rfl (o_call Try.call52 (rsameC ((t).r) vr_t ((u).r) vr_u ) (fun x30 => ?_))
          refine qT rfl rfl rfl (o_not ?_)
          refine q0 rfl (o_pickF ?_)
          refine q0 rfl (o_move ?_)
          refine qI rfl rfl rfl (by conv => lhs; whnf) (fun hg33 => ?_) (fun hg33 => ?_)
          · have g33 : (!(decide (((t).r) = ((u).r)))) = false := hg33
            try simp only [decide_eq_true_eq, decide_eq_false_iff_not, Bool.and_eq_true, Bool.or_eq_true, Bool.not_eq_true', Bool.and_eq_false_iff, Bool.or_eq_false_iff, Bool.not_eq_false', bne_iff_ne, beq_iff_eq, ne_eq, not_and, Decidable.not_not, Bool.true_and, Bool.and_true, Bool.false_or, Bool.or_false] at g33
            refine o_fa ?_
            refine qT rfl rfl rfl (o_ld ?_)
            refine qT rfl rfl rfl (o_fa ?_)
            refine qT rfl rfl rfl (o_ld ?_)
            refine qT rfl rfl rfl (o_call Try.call53 (rlists ((t).kids) vk_t ((u).kids) vk_u (fun k hk => (by obtain ⟨p, hp, e⟩ := kid_mem_parts hk; exact e ▸ ih p hp))) (fun x38 => ?_))
            refine qT rfl rfl rfl (o_not ?_)
            refine q0 rfl (o_pickF ?_)
            refine q0 rfl (o_move ?_)
            refine qI rfl rfl rfl (by conv => lhs; whnf) (fun hg41 => ?_) (fun hg41 => ?_)
            · have g41 : (!(decide (((t).kids) = ((u).kids)))) = false := hg41
              try simp only [decide_eq_true_eq, decide_eq_false_iff_not, Bool.and_eq_true, Bool.or_eq_true, Bool.not_eq_true', Bool.and_eq_false_iff, Bool.or_eq_false_iff, Bool.not_eq_false', bne_iff_ne, beq_iff_eq, ne_eq, not_and, Decidable.not_not, Bool.true_and, Bool.and_true, Bool.false_or, Bool.or_false] at g41
              refine o_fa ?_
              refine qT rfl rfl rfl (o_ld ?_)
              refine qT rfl rfl rfl (o_len ?_)
              refine qT rfl rfl rfl (o_fa ?_)
              refine qT rfl rfl rfl (o_ld ?_)
              refine qT rfl rfl rfl (o_len ?_)
              refine qT rfl rfl rfl (o_neI ?_)
              refine q0 rfl (o_pickF ?_)
              refine rg_nil ?_
              exact hK _ ⟨rfl, rfl, (by first | rfl | ((conv => lhs; whnf); first | (simp_all; done) | (simp_all; omega))), trivial⟩
            · have g41 : (!(decide (((t).kids) = ((u).kids)))) = true := hg41
              try simp only [decide_eq_true_eq, decide_eq_false_iff_not, Bool.and_eq_true, Bool.or_eq_true, Bool.not_eq_true', Bool.and_eq_false_iff, Bool.or_eq_false_iff, Bool.not_eq_false', bne_iff_ne, beq_iff_eq, ne_eq, not_and, Decidable.not_not, Bool.true_and, Bool.and_true, Bool.false_or, Bool.or_false] at g41
              refine qF rfl rfl rfl ?_
              refine qF rfl rfl rfl ?_
              refine qF rfl rfl rfl ?_
              refine qF rfl rfl rfl ?_
              refine qF rfl rfl rfl ?_
              refine qF rfl rfl rfl ?_
              refine q0 rfl (o_pickT ?_)
              refine rg_nil ?_
              exact hK _ ⟨rfl, rfl, (by first | rfl | ((conv => lhs; whnf); first | (simp_all; done) | (simp_all; omega))), trivial⟩
          · have g33 : (!(decide (((t).r) = ((u).r)))) = true := hg33
            try simp only [decide_eq_true_eq, decide_eq_false_iff_not, Bool.and_eq_true, Bool.or_eq_true, Bool.not_eq_true', Bool.and_eq_false_iff, Bool.or_eq_false_iff, Bool.not_eq_false', bne_iff_ne, beq_iff_eq, ne_eq, not_and, Decidable.not_not, Bool.true_and, Bool.and_true, Bool.false_or, Bool.or_false] at g33
            refine qF rfl rfl rfl ?_
            refine qF rfl rfl rfl ?_
            refine qF rfl rfl rfl ?_
            refine qF rfl rfl rfl ?_
            refine qF rfl rfl rfl ?_
            refine q0 rfl (o_pickT ?_)
            refine q0 rfl (o_move ?_)
            refine qF rfl rfl rfl ?_
            refine qF rfl rfl rfl ?_
            refine qF rfl rfl rfl ?_
            refine qF rfl rfl rfl ?_
            refine qF rfl rfl rfl ?_
            refine qF rfl rfl rfl ?_
            refine qF rfl rfl rfl ?_
            refine q0 rfl (o_pickT ?_)
            refine rg_nil ?_
            exact hK _ ⟨rfl, rfl, (by first | rfl | ((conv => lhs; whnf); first | (simp_all; done) | (simp_all; omega))), trivial⟩
        · have g25 : (!(((t).name).toList == ((u).name).toList)) = true := hg25
          try simp only [decide_eq_true_eq, decide_eq_false_iff_not, Bool.and_eq_true, Bool.or_eq_true, Bool.not_eq_true', Bool.and_eq_false_iff, Bool.or_eq_false_iff, Bool.not_eq_false', bne_iff_ne, beq_iff_eq, ne_eq, not_and, Decidable.not_not, Bool.true_and, Bool.and_true, Bool.false_or, Bool.or_false] at g25
          refine qF rfl rfl rfl ?_
          refine qF rfl rfl rfl ?_
          refine qF rfl rfl rfl ?_
          refine qF rfl rfl rfl ?_
          refine qF rfl rfl rfl ?_
          refine q0 rfl (o_pickT ?_)
          refine q0 rfl (o_move ?_)
          refine qF rfl rfl rfl ?_
          refine qF rfl rfl rfl ?_
          refine qF rfl rfl rfl ?_
          refine qF rfl rfl rfl ?_
          refine qF rfl rfl rfl ?_
          refine qF rfl rfl rfl ?_
          refine q0 rfl (o_pickT ?_)
          refine q0 rfl (o_move ?_)
          refine qF rfl rfl rfl ?_
          refine qF rfl rfl rfl ?_
          refine qF rfl rfl rfl ?_
          refine qF rfl rfl rfl ?_
          refine qF rfl rfl rfl ?_
          refine qF rfl rfl rfl ?_
          refine qF rfl rfl rfl ?_
          refine q0 rfl (o_pickT ?_)
          refine rg_nil ?_
          exact hK _ ⟨rfl, rfl, (by first | rfl | ((conv => lhs; whnf); first | (simp_all; done) | (simp_all; omega))), trivial⟩
      · have g18 : (decide (((t).n) ≠ ((u).n))) = true := hg18
        try simp only [decide_eq_true_eq, decide_eq_false_iff_not, Bool.and_eq_true, Bool.or_eq_true, Bool.not_eq_true', Bool.and_eq_false_iff, Bool.or_eq_false_iff, Bool.not_eq_false', bne_iff_ne, beq_iff_eq, ne_eq, not_and, Decidable.not_not, Bool.true_and, Bool.and_true, Bool.false_or, Bool.or_false] at g18
        refine qF rfl rfl rfl ?_
        refine qF rfl rfl rfl ?_
        refine qF rfl rfl rfl ?_
        refine qF rfl rfl rfl ?_
        refine q0 rfl (o_pickT ?_)
        refine q0 rfl (o_move ?_)
        refine qF rfl rfl rfl ?_
        refine qF rfl rfl rfl ?_
        refine qF rfl rfl rfl ?_
        refine qF rfl rfl rfl ?_
        refine qF rfl rfl rfl ?_
        refine qF rfl rfl rfl ?_
        refine q0 rfl (o_pickT ?_)
        refine q0 rfl (o_move ?_)
        refine qF rfl rfl rfl ?_
        refine qF rfl rfl rfl ?_
        refine qF rfl rfl rfl ?_
        refine qF rfl rfl rfl ?_
        refine qF rfl rfl rfl ?_
        refine qF rfl rfl rfl ?_
        refine q0 rfl (o_pickT ?_)
        refine q0 rfl (o_move ?_)
        refine qF rfl rfl rfl ?_
        refine qF rfl rfl rfl ?_
        refine qF rfl rfl rfl ?_
        refine qF rfl rfl rfl ?_
        refine qF rfl rfl rfl ?_
        refine qF rfl rfl rfl ?_
        refine qF rfl rfl rfl ?_
        refine q0 rfl (o_pickT ?_)
        refine rg_nil ?_
        exact hK _ ⟨rfl, rfl, (by first | rfl | ((conv => lhs; whnf); first | (simp_all; done) | (simp_all; omega))), trivial⟩
    · have g11 : (decide (((t).kind) ≠ ((u).kind))) = true := hg11
      try simp only [decide_eq_true_eq, decide_eq_false_iff_not, Bool.and_eq_true, Bool.or_eq_true, Bool.not_eq_true', Bool.and_eq_false_iff, Bool.or_eq_false_iff, Bool.not_eq_false', bne_iff_ne, beq_iff_eq, ne_eq, not_and, Decidable.not_not, Bool.true_and, Bool.and_true, Bool.false_or, Bool.or_false] at g11
      refine qF rfl rfl rfl ?_
      refine qF rfl rfl rfl ?_
      refine qF rfl rfl rfl ?_
      refine qF rfl rfl rfl ?_
      refine q0 rfl (o_pickT ?_)
      refine q0 rfl (o_move ?_)
      refine qF rfl rfl rfl ?_
      refine qF rfl rfl rfl ?_
      refine qF rfl rfl rfl ?_
      refine qF rfl rfl rfl ?_
      refine qF rfl rfl rfl ?_
      refine q0 rfl (o_pickT ?_)
      refine q0 rfl (o_move ?_)
      refine qF rfl rfl rfl ?_
      refine qF rfl rfl rfl ?_
      refine qF rfl rfl rfl ?_
      refine qF rfl rfl rfl ?_
      refine qF rfl rfl rfl ?_
      refine qF rfl rfl rfl ?_
      refine q0 rfl (o_pickT ?_)
      refine q0 rfl (o_move ?_)
      refine qF rfl rfl rfl ?_
      refine qF rfl rfl rfl ?_
      refine qF rfl rfl rfl ?_
      refine qF rfl rfl rfl ?_
      refine qF rfl rfl rfl ?_
      refine qF rfl rfl rfl ?_
      refine q0 rfl (o_pickT ?_)
      refine q0 rfl (o_move ?_)
      refine qF rfl rfl rfl ?_
      refine qF rfl rfl rfl ?_
      refine qF rfl rfl rfl ?_
      refine qF rfl rfl rfl ?_
      refine qF rfl rfl rfl ?_
      refine qF rfl rfl rfl ?_
      refine qF rfl rfl rfl ?_
      refine q0 rfl (o_pickT ?_)
      refine rg_nil ?_
      exact hK _ ⟨rfl, rfl, (by first | rfl | ((conv => lhs; whnf); first | (simp_all; done) | (simp_all; omega))), trivial⟩
  · refine go_condI (fun h49 => ?_) (fun h49 => ?_)
    · have c49 : ((((((decide (((t).kind) ≠ ((u).kind))) || (decide (((t).n) ≠ ((u).n)))) || (!(((t).name).toList == ((u).name).toList))) || (!(decide (((t).r) = ((u).r))))) || (!(decide (((t).kids) = ((u).kids))))) || (decide (((t).sys.length : Int) ≠ ((u).sys.length : Int)))) = true := h49
      try simp only [decide_eq_true_eq, decide_eq_false_iff_not, Bool.and_eq_true, Bool.or_eq_true, Bool.not_eq_true', Bool.and_eq_false_iff, Bool.or_eq_false_iff, Bool.not_eq_false', bne_iff_ne, beq_iff_eq, ne_eq, not_and, Decidable.not_not, Bool.true_and, Bool.and_true, Bool.false_or, Bool.or_false] at c49
      refine go_seq ?_
      refine go_region ⟨_, Try.func26⟩ rfl ?_
      refine q0 rfl (o_assign ?_)
      refine rg_nil ?_
      -- leaf 0: .bool (false)
      refine ret1 Try.func26 Try.results26 (by first | ((conv => lhs; whnf); done) | rfl) () (by simp only [decide_eq_false (fun h : t = u => by subst h; simp at h49)]) (fun w hs => hs.none)
    · have c49 : ((((((decide (((t).kind) ≠ ((u).kind))) || (decide (((t).n) ≠ ((u).n)))) || (!(((t).name).toList == ((u).name).toList))) || (!(decide (((t).r) = ((u).r))))) || (!(decide (((t).kids) = ((u).kids))))) || (decide (((t).sys.length : Int) ≠ ((u).sys.length : Int)))) = false := h49
      try simp only [decide_eq_true_eq, decide_eq_false_iff_not, Bool.and_eq_true, Bool.or_eq_true, Bool.not_eq_true', Bool.and_eq_false_iff, Bool.or_eq_false_iff, Bool.not_eq_false', bne_iff_ne, beq_iff_eq, ne_eq, not_and, Decidable.not_not, Bool.true_and, Bool.and_true, Bool.false_or, Bool.or_false] at c49
      obtain ⟨hq1, hq2, hq3, hq4, hq5, hq6⟩ : t.kind = u.kind ∧ t.n = u.n ∧ t.name = u.name ∧ t.r = u.r ∧ t.kids = u.kids ∧ t.sys.length = u.sys.length := by have h := h49; simp only [Bool.or_eq_false_iff, Bool.not_eq_false', decide_eq_false_iff_not, ne_eq, Decidable.not_not, bytes_eq, decide_eq_true_eq, and_assoc] at h; obtain ⟨h1, h2, h3, h4, h5, h6⟩ := h; exact ⟨h1, h2, h3, h4, h5, by omega⟩
      refine go_skip ?_
      refine go_seq ?_
      refine go_seq ?_
      refine go_region ⟨_, Try.func26⟩ rfl ?_
      refine q0 rfl (o_assign ?_)
      refine rg_nil ?_
      refine go_block ?_
      refine go_loopE (X := Nat) (fun s_ => s_ ≤ t.sys.length ∧ ∀ j, j < s_ → t.sys.getD j br0 = u.sys.getD j br0) (fun s_ => [(2, .pointer (some ⟨b2, 0, none⟩)), (3, .pointer (some ⟨b3, 0, none⟩)), (5, .int .i64 ((s_ : Int)))]) (fun s_ G_ => G_) (fun s_ => [boxR b3 (tc u vr_u vk_u vs_u) 31, boxR b2 (tc t vr_t vk_t vs_t) 31]) (fun s_ => t.sys.length - s_) (0) (⟨by omega, fun j h => absurd h (Nat.not_lt_zero j)⟩) (by exact ⟨rfl, rfl, rfl, trivial⟩) ?_ ?_
      · exact fun w hs => hs
      · intro i base0 ⟨hi, hsm⟩ next0
        refine go_seq ?_
        refine go_seq ?_
        refine go_region ⟨_, Try.func26⟩ rfl ?_
        refine q0 rfl (o_move ?_)
        refine q0 rfl (o_fa ?_)
        refine q0 rfl (o_ld ?_)
        refine q0 rfl (o_len ?_)
        refine q0 rfl (o_lss ?_)
        refine rg_nil ?_
        refine go_condI (fun h54 => ?_) (fun h54 => ?_)
        · have c54 : (decide ((i : Int) < ((t).sys.length : Int))) = true := h54
          try simp only [decide_eq_true_eq, decide_eq_false_iff_not, Bool.and_eq_true, Bool.or_eq_true, Bool.not_eq_true', Bool.and_eq_false_iff, Bool.or_eq_false_iff, Bool.not_eq_false', bne_iff_ne, beq_iff_eq, ne_eq, not_and, Decidable.not_not, Bool.true_and, Bool.and_true, Bool.false_or, Bool.or_false] at c54
          refine go_skip ?_
          refine go_seq ?_
          refine go_block ?_
          refine go_seq ?_
          refine go_branch (bs := (t).sys) (a := vs_t) (VF := VF4) (VK := VK4) i (by omega) ?_
          refine go_openCL (l := (((t).sys).getD i br0).face) (a := VF4 i) (fun hl9 hA9 hU9 => ?_)
          refine go_openTL (ts := (((t).sys).getD i br0).kids) (a := VK4 i) (fun VR10 VK10 VS10 hl10 hA10 => ?_)
          refine go_branch (bs := (u).sys) (a := vs_u) (VF := VF8) (VK := VK8) i (by omega) ?_
          refine go_openCL (l := (((u).sys).getD i br0).face) (a := VF8 i) (fun hl11 hA11 hU11 => ?_)
          refine go_openTL (ts := (((u).sys).getD i br0).kids) (a := VK8 i) (fun VR12 VK12 VS12 hl12 hA12 => ?_)
          refine go_cutS ([(2, .pointer (some ⟨b2, 0, none⟩)), (3, .pointer (some ⟨b3, 0, none⟩)), (5, .int .i64 ((i : Int))), (86, .bool ((!(decide (((((t).sys).getD i br0).face) = ((((u).sys).getD i br0).face)))) || (!(decide (((((t).sys).getD i br0).kids) = ((((u).sys).getD i br0).kids))))))]) (fun hK => ?_) (fun base => ?_)
          · refine go_draw (tn := false) (A := [0, 1, 0, 7, 15, 31, 0, 64, 0, 448, 960, 1984, 4095, 8191, 16383, 32767, 65535, 32767, 262143, 524287, 1048575, 32767, 2129919, 32767, 14712831, 31490047, 65044479, 134217727, 268435455, 536870911]) (l := [0, 1, 2, 3, 4, 5, 6, 7, 8, 9, 10, 11, 12, 13, 14, 15, 16, 17, 18, 19, 20, 21, 22, 23, 24, 25, 26, 27, 28, 29]) (fin := []) Tab.mixed ⟨_, Try.func26⟩ (by rfl) ?_
            refine n0 rfl (v_fa ?_)
            refine n0 rfl (v_ld ?_)
            refine n0 rfl (v_move ?_)
            obtain ⟨bk13, o13, hav13⟩ := hA4 (by omega)
            refine n0 rfl (v_ixN ?_ (j := i))
            refine n0 rfl (v_fa ?_)
            refine n0 rfl (v_ldBf ?_)
            refine n0 rfl (v_fa ?_)
            refine n0 rfl (v_ld ?_)
            refine n0 rfl (v_move ?_)
            obtain ⟨bk14, o14, hav14⟩ := hA8 (by omega)
            refine n0 rfl (v_ixN ?_ (j := i))
            refine n0 rfl (v_fa ?_)
            refine n0 rfl (v_ldBf ?_)
            refine n0 rfl (v_call Try.call52 (rsameC ((((t).sys).getD i br0).face) (VF4 i) ((((u).sys).getD i br0).face) (VF8 i) ) (fun x69 => ?_))
            refine n0 rfl (v_not ?_)
            refine n0 rfl (v_move ?_)
            refine nI rfl rfl rfl (by conv => lhs; whnf) (fun hg71 => ?_) (fun hg71 => ?_)
            · have g71 : (!(decide (((((t).sys).getD i br0).face) = ((((u).sys).getD i br0).face)))) = false := hg71
              try simp only [decide_eq_true_eq, decide_eq_false_iff_not, Bool.and_eq_true, Bool.or_eq_true, Bool.not_eq_true', Bool.and_eq_false_iff, Bool.or_eq_false_iff, Bool.not_eq_false', bne_iff_ne, beq_iff_eq, ne_eq, not_and, Decidable.not_not, Bool.true_and, Bool.and_true, Bool.false_or, Bool.or_false] at g71
              refine v_fa ?_
              refine nT rfl rfl rfl (v_ld ?_)
              refine nT rfl rfl rfl (v_move ?_)
              refine nT rfl rfl rfl (v_ixN ?_ (j := i))
              refine nT rfl rfl rfl (v_fa ?_)
              refine nT rfl rfl rfl (v_ldBf ?_)
              refine nT rfl rfl rfl (v_fa ?_)
              refine nT rfl rfl rfl (v_ld ?_)
              refine nT rfl rfl rfl (v_move ?_)
              refine nT rfl rfl rfl (v_ixN ?_ (j := i))
              refine nT rfl rfl rfl (v_fa ?_)
              refine nT rfl rfl rfl (v_ldBf ?_)
              refine nT rfl rfl rfl (v_call Try.call53 (rlists ((((t).sys).getD i br0).kids) (VK4 i) ((((u).sys).getD i br0).kids) (VK8 i) (fun k hk => (by obtain ⟨p, hp, e⟩ := sys_mem_parts (getD_mem (show i < t.sys.length by omega)) hk; exact e ▸ ih p hp))) (fun x84 => ?_))
              refine nT rfl rfl rfl (v_not ?_)
              refine n0 rfl (v_pickF ?_)
              refine NV.done ?_
              refine rg_nil ?_
              exact hK _ ⟨rfl, rfl, rfl, (by first | rfl | ((conv => lhs; whnf); first | (simp_all; done) | (simp_all; omega))), trivial⟩
            · have g71 : (!(decide (((((t).sys).getD i br0).face) = ((((u).sys).getD i br0).face)))) = true := hg71
              try simp only [decide_eq_true_eq, decide_eq_false_iff_not, Bool.and_eq_true, Bool.or_eq_true, Bool.not_eq_true', Bool.and_eq_false_iff, Bool.or_eq_false_iff, Bool.not_eq_false', bne_iff_ne, beq_iff_eq, ne_eq, not_and, Decidable.not_not, Bool.true_and, Bool.and_true, Bool.false_or, Bool.or_false] at g71
              refine nF rfl rfl rfl ?_
              refine nF rfl rfl rfl ?_
              refine nF rfl rfl rfl ?_
              refine nF rfl rfl rfl ?_
              refine nF rfl rfl rfl ?_
              refine nF rfl rfl rfl ?_
              refine nF rfl rfl rfl ?_
              refine nF rfl rfl rfl ?_
              refine nF rfl rfl rfl ?_
              refine nF rfl rfl rfl ?_
              refine nF rfl rfl rfl ?_
              refine nF rfl rfl rfl ?_
              refine nF rfl rfl rfl ?_
              refine n0 rfl (v_pickT ?_)
              refine NV.done ?_
              refine rg_nil ?_
              exact hK _ ⟨rfl, rfl, rfl, (by first | rfl | ((conv => lhs; whnf); first | (simp_all; done) | (simp_all; omega))), trivial⟩
          · refine go_condI (fun h86 => ?_) (fun h86 => ?_)
            · have c86 : ((!(decide (((((t).sys).getD i br0).face) = ((((u).sys).getD i br0).face)))) || (!(decide (((((t).sys).getD i br0).kids) = ((((u).sys).getD i br0).kids))))) = true := h86
              try simp only [decide_eq_true_eq, decide_eq_false_iff_not, Bool.and_eq_true, Bool.or_eq_true, Bool.not_eq_true', Bool.and_eq_false_iff, Bool.or_eq_false_iff, Bool.not_eq_false', bne_iff_ne, beq_iff_eq, ne_eq, not_and, Decidable.not_not, Bool.true_and, Bool.and_true, Bool.false_or, Bool.or_false] at c86
              refine go_seq ?_
              refine go_region ⟨_, Try.func26⟩ rfl ?_
              refine q0 rfl (o_assign ?_)
              refine rg_nil ?_
              -- leaf 1: .bool (false)
              refine ret1 Try.func26 Try.results26 (by first | ((conv => lhs; whnf); done) | rfl) () (by simp only [decide_eq_false (fun h : t = u => by subst h; simp at h86)]) (fun w hs => hs.none)
            · have c86 : ((!(decide (((((t).sys).getD i br0).face) = ((((u).sys).getD i br0).face)))) || (!(decide (((((t).sys).getD i br0).kids) = ((((u).sys).getD i br0).kids))))) = false := h86
              try simp only [decide_eq_true_eq, decide_eq_false_iff_not, Bool.and_eq_true, Bool.or_eq_true, Bool.not_eq_true', Bool.and_eq_false_iff, Bool.or_eq_false_iff, Bool.not_eq_false', bne_iff_ne, beq_iff_eq, ne_eq, not_and, Decidable.not_not, Bool.true_and, Bool.and_true, Bool.false_or, Bool.or_false] at c86
              refine go_skip ?_
              refine go_inBlock ?_
              refine go_region ⟨_, Try.func26⟩ rfl ?_
              refine q0 rfl (o_move ?_)
              refine q0 rfl (o_add ?_)
              refine q0 rfl (o_assign ?_)
              refine rg_nil ?_
              refine go_state (fun w hs => ?_) (next0 (i + 1) _ (⟨by omega, fun j hj => by rcases Nat.lt_succ_iff_lt_or_eq.mp hj with h | h; exact hsm j h; subst h; exact Br.ext'.mpr (by simpa using h86)⟩) (by omega) ⟨rfl, rfl, rfl, trivial⟩)
              exact (((hs.less (by simp +contextual)).perm perm1).perm perm1)
        · have c54 : (decide ((i : Int) < ((t).sys.length : Int))) = false := h54
          try simp only [decide_eq_true_eq, decide_eq_false_iff_not, Bool.and_eq_true, Bool.or_eq_true, Bool.not_eq_true', Bool.and_eq_false_iff, Bool.or_eq_false_iff, Bool.not_eq_false', bne_iff_ne, beq_iff_eq, ne_eq, not_and, Decidable.not_not, Bool.true_and, Bool.and_true, Bool.false_or, Bool.or_false] at c54
          refine go_exit rfl ?_
          refine go_seq ?_
          refine go_region ⟨_, Try.func26⟩ rfl ?_
          refine q0 rfl (o_assign ?_)
          refine rg_nil ?_
          -- leaf 2: .bool (true)
          refine ret1 Try.func26 Try.results26 (by first | ((conv => lhs; whnf); done) | rfl) () (by simp only [decide_eq_true (T.ext'.mpr ⟨hq1, hq2, hq3, hq4, hq5, list_eq_of (d := br0) hq6 (fun j hj => hsm j (by omega))⟩ : t = u)]) (fun w hs => hs.none)
theorem rsame : ∀ (t u : T) vr vk vs vr' vk' vs', Spec Try.prog 26 #[.agg (tc t vr vk vs).toArray, .agg (tc u vr' vk' vs').toArray] [RT t vr vk vs, RT u vr' vk' vs'] [] (fun _ : Unit => .bool (decide (t = u))) (fun _ => []) (fun _ => []) := fun t => (T.ind fun t ih u vr vk vs vr' vk' vs' => rsame_walk t vr vk vs u vr' vk' vs' ih : ∀ t : T, SameR t) t
theorem rsameI (t u : T) (h : t = u) : ∀ vr vk vs vr' vk' vs', Spec Try.prog 26 #[.agg (tc t vr vk vs).toArray, .agg (tc u vr' vk' vs').toArray] [RT t vr vk vs, RT u vr' vk' vs'] [] (fun _ : Unit => .bool true) (fun _ => []) (fun _ => []) := fun vr vk vs vr' vk' vs' => by
  have h1 := rsame t u vr vk vs vr' vk' vs'
  rw [decide_eq_true h] at h1
  exact h1
end Go.Hy
namespace Go.Hy
set_option linter.unusedVariables false
set_option linter.unusedSimpArgs false
set_option linter.unusedSectionVars false
open Go.Proofs
set_option linter.unusedVariables false
set_option linter.unusedSimpArgs false
set_option maxRecDepth 100000
theorem pathBack_spec (t : T) (vr_t vk_t vs_t : SH) (p : List Int) (a_p : SH) (u : T) (vr_u vk_u vs_u : SH)  : Spec Try.prog 9 #[.agg (tc t vr_t vk_t vs_t).toArray, sl a_p (p.length), .agg (tc u vr_u vk_u vs_u).toArray] [RT t vr_t vk_t vs_t, IL p a_p, RT u vr_u vk_u vs_u] [] (fun _ : Unit => .bool (true)) (fun _ : Unit => []) (fun _ : Unit => []) := by
  refine spec_go (args := [.agg (tc t vr_t vk_t vs_t).toArray, sl a_p (p.length), .agg (tc u vr_u vk_u vs_u).toArray]) Try.func9 Try.ntmps9 rfl (by exact Nat.le_of_ble_eq_true rfl) fun B hB => ?_
  refine go_open (t := t) (vr := vr_t) (vk := vk_t) (vs := vs_t) (fun hk1 hn1 hm1 => ?_)
  refine go_openCL (l := (t).r) (a := vr_t) (fun hl2 hA2 hU2 => ?_)
  refine go_openTL (ts := (t).kids) (a := vk_t) (fun VR3 VK3 VS3 hl3 hA3 => ?_)
  refine go_openBL (bs := (t).sys) (a := vs_t) (fun VF4 VK4 hl4 hA4 => ?_)
  refine go_openIL (l := p) (a := a_p) (fun hl5 hA5 hU5 => ?_)
  refine go_open (t := u) (vr := vr_u) (vk := vk_u) (vs := vs_u) (fun hk6 hn6 hm6 => ?_)
  refine go_openCL (l := (u).r) (a := vr_u) (fun hl7 hA7 hU7 => ?_)
  refine go_openTL (ts := (u).kids) (a := vk_u) (fun VR8 VK8 VS8 hl8 hA8 => ?_)
  refine go_openBL (bs := (u).sys) (a := vs_u) (fun VF9 VK9 hl9 hA9 => ?_)
  refine go_seq ?_
  refine go_region ⟨_, Try.func9⟩ rfl ?_
  refine q0 rfl (o_box fun b3 => ?_)
  refine q0 rfl (o_box fun b5 => ?_)
  refine q0 rfl (o_assign ?_)
  refine rg_nil ?_
  refine go_seq ?_
  refine go_seq ?_
  refine go_region ⟨_, Try.func9⟩ rfl ?_
  refine q0 rfl (o_call Try.call34 (works30_spec) (fun x17 => ?_))
  refine q0 rfl (o_not ?_)
  refine rg_nil ?_
  refine go_condF ?_
  refine go_skip ?_
  refine go_seq ?_
  refine go_seq ?_
  refine go_state (fun w hs => hs.nilIL 0) ?_
  refine go_cutS ([(1, sl a_p (p.length)), (3, .pointer (some ⟨b3, 0, none⟩)), (5, .pointer (some ⟨b5, 0, none⟩)), (25, .bool ((decide (250 < bulk t) || decide (300 < p.length)) || (decide (250 < bulk u) || decide (300 < ([] : List Int).length))))]) (fun hK => ?_) (fun base => ?_)
  · refine go_region ⟨_, Try.func9⟩ rfl ?_
    refine q0 rfl (o_lds ?_)
    refine q0 rfl (o_move ?_)
    refine q0 rfl (o_call Try.call36 (great30_spec t vr_t vk_t vs_t p a_p ) (fun x21 => ?_))
    refine q0 rfl (o_move ?_)
    refine qI rfl rfl rfl (by conv => lhs; whnf) (fun hg22 => ?_) (fun hg22 => ?_)
    · have g22 : ((decide (250 < bulk t) || decide (300 < p.length))) = false := hg22
      try simp only [decide_eq_true_eq, decide_eq_false_iff_not, Bool.and_eq_true, Bool.or_eq_true, Bool.not_eq_true', Bool.and_eq_false_iff, Bool.or_eq_false_iff, Bool.not_eq_false', bne_iff_ne, beq_iff_eq, ne_eq, not_and, Decidable.not_not, Bool.true_and, Bool.and_true, Bool.false_or, Bool.or_false] at g22
      refine o_lds ?_
      refine qT rfl rfl rfl (o_call Try.call36 (great30_spec u vr_u vk_u vs_u ([] : List Int) (none, 0) ) (fun x24 => ?_))
      refine q0 rfl (o_pickF ?_)
      refine rg_nil ?_
      exact hK _ ⟨rfl, rfl, rfl, (by first | rfl | ((conv => lhs; whnf); first | (simp_all; done) | (simp_all; omega))), trivial⟩
    · have g22 : ((decide (250 < bulk t) || decide (300 < p.length))) = true := hg22
      try simp only [decide_eq_true_eq, decide_eq_false_iff_not, Bool.and_eq_true, Bool.or_eq_true, Bool.not_eq_true', Bool.and_eq_false_iff, Bool.or_eq_false_iff, Bool.not_eq_false', bne_iff_ne, beq_iff_eq, ne_eq, not_and, Decidable.not_not, Bool.true_and, Bool.and_true, Bool.false_or, Bool.or_false] at g22
      refine qF rfl rfl rfl ?_
      refine q0 rfl (o_pickT ?_)
      refine rg_nil ?_
      exact hK _ ⟨rfl, rfl, rfl, (by first | rfl | ((conv => lhs; whnf); first | (simp_all; done) | (simp_all; omega))), trivial⟩
  · refine go_condI (fun h25 => ?_) (fun h25 => ?_)
    · have c25 : ((decide (250 < bulk t) || decide (300 < p.length)) || (decide (250 < bulk u) || decide (300 < ([] : List Int).length))) = true := h25
      try simp only [decide_eq_true_eq, decide_eq_false_iff_not, Bool.and_eq_true, Bool.or_eq_true, Bool.not_eq_true', Bool.and_eq_false_iff, Bool.or_eq_false_iff, Bool.not_eq_false', bne_iff_ne, beq_iff_eq, ne_eq, not_and, Decidable.not_not, Bool.true_and, Bool.and_true, Bool.false_or, Bool.or_false] at c25
      refine go_seq ?_
      refine go_region ⟨_, Try.func9⟩ rfl ?_
      refine q0 rfl (o_assign ?_)
      refine rg_nil ?_
      -- leaf 0: .bool (true)
      refine ret1 Try.func9 Try.results9 (by first | ((conv => lhs; whnf); done) | rfl) () (by first | rfl | (simp_all; done) | (rw [decide_eq_true (by omega)])) (fun w hs => hs.none)
    · have c25 : ((decide (250 < bulk t) || decide (300 < p.length)) || (decide (250 < bulk u) || decide (300 < ([] : List Int).length))) = false := h25
      try simp only [decide_eq_true_eq, decide_eq_false_iff_not, Bool.and_eq_true, Bool.or_eq_true, Bool.not_eq_true', Bool.and_eq_false_iff, Bool.or_eq_false_iff, Bool.not_eq_false', bne_iff_ne, beq_iff_eq, ne_eq, not_and, Decidable.not_not, Bool.true_and, Bool.and_true, Bool.false_or, Bool.or_false] at c25
      have hbt : bulk t ≤ 250 := by simp_all
      have hbu : bulk u ≤ 250 := by simp_all
      have hst := size_le_bulk t
      have hsu := size_le_bulk u
      refine go_skip ?_
      refine go_seq ?_
      refine go_region ⟨_, Try.func9⟩ rfl ?_
      refine q0 rfl (o_lds ?_)
      refine q0 rfl (o_move ?_)
      refine q0 rfl (o_call Try.call40 (getWalk t vr_t vk_t vs_t p a_p (by first | assumption | omega | (unfold in64 at *; omega) | (unfold reach at *; omega) | (simp_all; done))) (fun x29 => ?_))
      refine q0 rfl (o_move ?_)
      refine q0 rfl (o_extract ?_)
      refine q0 rfl (o_extract ?_)
      refine q0 rfl (o_new fun b7 => ?_)
      refine q0 rfl (o_st ?_)
      refine q0 rfl (o_assign ?_)
      refine rg_nil ?_
      refine go_seq ?_
      refine go_seq ?_
      refine go_region ⟨_, Try.func9⟩ rfl ?_
      refine q0 rfl (o_move ?_)
      refine q0 rfl (o_neI ?_)
      refine rg_nil ?_
      refine go_condI (fun h33 => ?_) (fun h33 => ?_)
      · have c33 : (decide (((getRes t p).1) ≠ 0)) = true := h33
        try simp only [decide_eq_true_eq, decide_eq_false_iff_not, Bool.and_eq_true, Bool.or_eq_true, Bool.not_eq_true', Bool.and_eq_false_iff, Bool.or_eq_false_iff, Bool.not_eq_false', bne_iff_ne, beq_iff_eq, ne_eq, not_and, Decidable.not_not, Bool.true_and, Bool.and_true, Bool.false_or, Bool.or_false] at c33
        refine go_seq ?_
        refine go_region ⟨_, Try.func9⟩ rfl ?_
        refine q0 rfl (o_assign ?_)
        refine rg_nil ?_
        -- leaf 1: .bool (true)
        refine ret1 Try.func9 Try.results9 (by first | ((conv => lhs; whnf); done) | rfl) () (by first | rfl | (simp_all; done) | (rw [decide_eq_true (by omega)])) (fun w hs => hs.none)
      · have c33 : (decide (((getRes t p).1) ≠ 0)) = false := h33
        try simp only [decide_eq_true_eq, decide_eq_false_iff_not, Bool.and_eq_true, Bool.or_eq_true, Bool.not_eq_true', Bool.and_eq_false_iff, Bool.or_eq_false_iff, Bool.not_eq_false', bne_iff_ne, beq_iff_eq, ne_eq, not_and, Decidable.not_not, Bool.true_and, Bool.and_true, Bool.false_or, Bool.or_false] at c33
        have hg0 : (getRes t p).1 = 0 := by simpa using h33
        have hgs := get_size hg0
        have hput1 := putP_walk t vr_t vk_t vs_t p a_p (getRes t p).2.1 x29.1 x29.2.1 x29.2.2 (by omega) (by omega)
        simp only [put_back hg0] at hput1
        refine go_skip ?_
        refine go_seq ?_
        refine go_region ⟨_, Try.func9⟩ rfl ?_
        refine q0 rfl (o_lds ?_)
        refine q0 rfl (o_move ?_)
        refine q0 rfl (o_fa ?_)
        refine q0 rfl (o_lds ?_)
        refine q0 rfl (o_call Try.call39 (hput1) (fun x39 => ?_))
        refine q0 rfl (o_move ?_)
        refine q0 rfl (o_extract ?_)
        refine q0 rfl (o_extract ?_)
        refine q0 rfl (o_new fun b9 => ?_)
        refine q0 rfl (o_st ?_)
        refine q0 rfl (o_assign ?_)
        refine rg_nil ?_
        refine go_seq ?_
        refine go_seq ?_
        refine go_cutS ([(1, sl a_p (p.length)), (3, .pointer (some ⟨b3, 0, none⟩)), (5, .pointer (some ⟨b5, 0, none⟩)), (7, .pointer (some ⟨b7, 0, none⟩)), (49, .bool (false))]) (fun hK => ?_) (fun base => ?_)
        · refine go_region ⟨_, Try.func9⟩ rfl ?_
          refine q0 rfl (o_move ?_)
          refine q0 rfl (o_neI ?_)
          refine q0 rfl (o_move ?_)
          refine qT rfl rfl rfl (o_lds ?_)
          refine qT rfl rfl rfl (o_lds ?_)
          refine qT rfl rfl rfl (o_call Try.call26 (rsameI t t rfl x39.1 x39.2.1 x39.2.2 vr_t vk_t vs_t) (fun x47 => ?_))
          refine qT rfl rfl rfl (o_not ?_)
          refine q0 rfl (o_pickF ?_)
          refine rg_nil ?_
          exact hK _ ⟨rfl, rfl, rfl, rfl, (by first | rfl | ((conv => lhs; whnf); first | (simp_all; done) | (simp_all; omega))), trivial⟩
        · refine go_condF ?_
          refine go_skip ?_
          refine go_seq ?_
          refine go_region ⟨_, Try.func9⟩ rfl ?_
          refine q0 rfl (o_lds ?_)
          refine q0 rfl (o_move ?_)
          refine q0 rfl (o_lds ?_)
          refine q0 rfl (o_call Try.call39 (putP_walk t vr_t vk_t vs_t p a_p u vr_u vk_u vs_u (by first | omega | exact Nat.le_trans (putRes_size _ _ _) (by decide)) (by first | omega | exact Nat.le_trans (putRes_size _ _ _) (by decide))) (fun x54 => ?_))
          refine q0 rfl (o_move ?_)
          refine q0 rfl (o_extract ?_)
          refine q0 rfl (o_extract ?_)
          refine q0 rfl (o_new fun b11 => ?_)
          refine q0 rfl (o_st ?_)
          refine q0 rfl (o_assign ?_)
          refine rg_nil ?_
          refine go_seq ?_
          refine go_seq ?_
          refine go_region ⟨_, Try.func9⟩ rfl ?_
          refine q0 rfl (o_move ?_)
          refine q0 rfl (o_neI ?_)
          refine rg_nil ?_
          refine go_condI (fun h58 => ?_) (fun h58 => ?_)
          · have c58 : (decide (((putRes t p u).1) ≠ 0)) = true := h58
            try simp only [decide_eq_true_eq, decide_eq_false_iff_not, Bool.and_eq_true, Bool.or_eq_true, Bool.not_eq_true', Bool.and_eq_false_iff, Bool.or_eq_false_iff, Bool.not_eq_false', bne_iff_ne, beq_iff_eq, ne_eq, not_and, Decidable.not_not, Bool.true_and, Bool.and_true, Bool.false_or, Bool.or_false] at c58
            have hb0 : (putRes t p u).2 = t0 := put_bad (by simpa using h58)
            rw [hb0]
            refine go_seq ?_
            refine go_state (fun w hs => hs.zeroRT) ?_
            refine go_region ⟨_, Try.func9⟩ rfl ?_
            refine q0 rfl (o_lds ?_)
            refine q0 rfl (o_build (cs := tc t0 nul nul nul) ?_)
            refine q0 rfl (o_call Try.call26 (rsameI t0 t0 rfl x54.1 x54.2.1 x54.2.2 nul nul nul) (fun x61 => ?_))
            refine q0 rfl (o_assign ?_)
            refine rg_nil ?_
            -- leaf 2: .bool (true)
            refine ret1 Try.func9 Try.results9 (by first | ((conv => lhs; whnf); done) | rfl) () (by first | rfl | (simp_all; done) | (rw [decide_eq_true (by omega)])) (fun w hs => hs.none)
          · have c58 : (decide (((putRes t p u).1) ≠ 0)) = false := h58
            try simp only [decide_eq_true_eq, decide_eq_false_iff_not, Bool.and_eq_true, Bool.or_eq_true, Bool.not_eq_true', Bool.and_eq_false_iff, Bool.or_eq_false_iff, Bool.not_eq_false', bne_iff_ne, beq_iff_eq, ne_eq, not_and, Decidable.not_not, Bool.true_and, Bool.and_true, Bool.false_or, Bool.or_false] at c58
            have hp0 : (putRes t p u).1 = 0 := by simpa using h58
            have hps := putRes_size t p u
            have hsz := put_size hg0 hp0
            have hget2 := getWalk (putRes t p u).2 x54.1 x54.2.1 x54.2.2 p a_p (by omega)
            simp only [get_put hg0 hp0] at hget2
            have hput3 := putP_walk (putRes t p u).2 x54.1 x54.2.1 x54.2.2 p a_p (getRes t p).2.1 x29.1 x29.2.1 x29.2.2 (by omega) (by omega)
            simp only [put_put hg0 hp0] at hput3
            refine go_skip ?_
            refine go_seq ?_
            refine go_region ⟨_, Try.func9⟩ rfl ?_
            refine q0 rfl (o_lds ?_)
            refine q0 rfl (o_move ?_)
            refine q0 rfl (o_call Try.call40 (hget2) (fun x65 => ?_))
            refine q0 rfl (o_move ?_)
            refine q0 rfl (o_extract ?_)
            refine q0 rfl (o_extract ?_)
            refine q0 rfl (o_new fun b13 => ?_)
            refine q0 rfl (o_st ?_)
            refine q0 rfl (o_assign ?_)
            refine rg_nil ?_
            refine go_seq ?_
            refine go_region ⟨_, Try.func9⟩ rfl ?_
            refine q0 rfl (o_lds ?_)
            refine q0 rfl (o_move ?_)
            refine q0 rfl (o_fa ?_)
            refine q0 rfl (o_lds ?_)
            refine q0 rfl (o_call Try.call39 (hput3) (fun x73 => ?_))
            refine q0 rfl (o_move ?_)
            refine q0 rfl (o_extract ?_)
            refine q0 rfl (o_extract ?_)
            refine q0 rfl (o_new fun b15 => ?_)
            refine q0 rfl (o_st ?_)
            refine q0 rfl (o_assign ?_)
            refine rg_nil ?_
            refine go_seq ?_
            refine go_cutS ([(6, .bool (decide ((size ((putRes t p u).2) : Int) = (((size t : Int) - (size ((getRes t p).2.1) : Int)) + (size u : Int)))))]) (fun hK => ?_) (fun base => ?_)
            · refine go_draw (tn := false) (A := [0, 1, 3, 7, 15, 7, 63, 127, 255, 511, 1023, 511, 2559, 8191, 16383, 32767, 65535, 131071, 65535, 327679, 1048575, 2097151, 4194303, 8388607, 16777215, 33554431, 67108863, 134217727, 134217727, 536870911, 1073741823, 2147483647, 4294967295, 8589934591, 4294967295, 34359738367, 4294967295, 73014444031, 274877906943, 549755813887, 4294967295, 1649267441663, 4398046511103, 8796093022207, 17592186044415, 35184372088831]) (l := [0, 1, 2, 3, 4, 5, 6, 7, 8, 9, 10, 11, 12, 13, 14, 15, 16, 17, 18, 19, 20, 21, 22, 23, 24, 25, 26, 27, 28, 29, 30, 31, 32, 34, 36, 37, 40, 33, 35, 38, 39, 41, 42, 43, 44, 45]) (fin := []) Tab.mixed ⟨_, Try.func9⟩ (by rfl) ?_
              refine n0 rfl (v_move ?_)
              refine n0 rfl (v_eqI ?_)
              refine n0 rfl (v_move ?_)
              refine nT rfl rfl rfl (v_fa ?_)
              refine nT rfl rfl rfl (v_lds ?_)
              refine nT rfl rfl rfl (v_lds ?_)
              refine nT rfl rfl rfl (v_call Try.call26 (rsameI u u rfl x65.1 x65.2.1 x65.2.2 vr_u vk_u vs_u) (fun x82 => ?_))
              refine n0 rfl (v_pickT ?_)
              refine n0 rfl (v_move ?_)
              refine nT rfl rfl rfl (v_fa ?_)
              refine nT rfl rfl rfl (v_ld ?_)
              refine nT rfl rfl rfl (v_fa ?_)
              refine nT rfl rfl rfl (v_ld ?_)
              refine nT rfl rfl rfl (v_eqIY ?_)
              refine n0 rfl (v_pickT ?_)
              refine n0 rfl (v_move ?_)
              refine nT rfl rfl rfl (v_fa ?_)
              refine nT rfl rfl rfl (v_ld ?_)
              refine nT rfl rfl rfl (v_fa ?_)
              refine nT rfl rfl rfl (v_ld ?_)
              refine nT rfl rfl rfl (v_eqIY ?_)
              refine n0 rfl (v_pickT ?_)
              refine n0 rfl (v_move ?_)
              refine nT rfl rfl rfl (v_move ?_)
              refine nT rfl rfl rfl (v_eqI ?_)
              refine n0 rfl (v_pickT ?_)
              refine n0 rfl (v_move ?_)
              refine nT rfl rfl rfl (v_lds ?_)
              refine nT rfl rfl rfl (v_lds ?_)
              refine nT rfl rfl rfl (v_call Try.call26 (rsameI t t rfl x73.1 x73.2.1 x73.2.2 vr_t vk_t vs_t) (fun x105 => ?_))
              refine n0 rfl (v_pickT ?_)
              refine n0 rfl (v_move ?_)
              refine nT rfl rfl rfl (v_lds ?_)
              refine nT rfl rfl rfl (v_lds ?_)
              refine nT rfl rfl rfl (v_fa ?_)
              refine nT rfl rfl rfl (v_lds ?_)
              refine nT rfl rfl rfl (v_lds ?_)
              refine nT rfl rfl rfl (v_call Try.call21 (size_spec ((putRes t p u).2) (by first | assumption | omega | (unfold in64 at *; omega) | (unfold reach at *; omega) | (simp_all; done)) x54.1 x54.2.1 x54.2.2) (fun x109 => ?_))
              refine nT rfl rfl rfl (v_call Try.call21 (size_spec t (by first | assumption | omega | (unfold in64 at *; omega) | (unfold reach at *; omega) | (simp_all; done)) vr_t vk_t vs_t) (fun x111 => ?_))
              refine nT rfl rfl rfl (v_call Try.call21 (size_spec ((getRes t p).2.1) (by first | assumption | omega | (unfold in64 at *; omega) | (unfold reach at *; omega) | (simp_all; done)) x29.1 x29.2.1 x29.2.2) (fun x114 => ?_))
              refine nT rfl rfl rfl (v_sub ?_)
              refine nT rfl rfl rfl (v_call Try.call21 (size_spec u (by first | assumption | omega | (unfold in64 at *; omega) | (unfold reach at *; omega) | (simp_all; done)) vr_u vk_u vs_u) (fun x117 => ?_))
              refine nT rfl rfl rfl (v_add ?_)
              refine nT rfl rfl rfl (v_eqI ?_)
              refine n0 rfl (v_pickT ?_)
              refine n0 rfl (v_assign ?_)
              refine NV.done ?_
              refine rg_nil ?_
              exact hK _ ⟨(by first | rfl | ((conv => lhs; whnf); first | (simp_all; done) | (simp_all; omega))), trivial⟩
            · -- leaf 3: .bool (decide ((size ((putRes t p u).2) : Int) = (((size t : Int) - (size ((getRes t p).2.1) : Int)) + (size u : Int))))
              refine ret1 Try.func9 Try.results9 (by first | ((conv => lhs; whnf); done) | rfl) () (by first | rfl | (simp_all; done) | (rw [decide_eq_true (by omega)])) (fun w hs => hs.none)
end Go.Hy
