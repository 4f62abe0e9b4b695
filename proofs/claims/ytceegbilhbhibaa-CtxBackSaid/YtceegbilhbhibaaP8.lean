/- Contracts of this program's functions and the laws that they need: a separation logic over the machine's rules, one theorem each (partly printed by a program of this repository). -/
import Derived.Test.YtceegbilhbhibaaP2
import Derived.Test.YtceegbilhbhibaaP3
import Derived.Test.YtceegbilhbhibaaP4
import Derived.Test.YtceegbilhbhibaaP5
import Derived.Test.YtceegbilhbhibaaP6
import Derived.Test.YtceegbilhbhibaaP7
namespace Go.Hy
set_option linter.unusedVariables false
set_option linter.unusedSimpArgs false
set_option linter.unusedSectionVars false
open Go.Proofs
set_option linter.unusedVariables false
set_option linter.unusedSimpArgs false
set_option maxRecDepth 100000
abbrev SameR (t : T) : Prop := ∀ u vr vk vs vr' vk' vs', Spec Try.prog 13 #[.agg (tc t vr vk vs).toArray, .agg (tc u vr' vk' vs').toArray] [RT t vr vk vs, RT u vr' vk' vs'] [] (fun _ : Unit => .bool (decide (t = u))) (fun _ => []) (fun _ => [])
theorem rlists (ts : List T) (a_ts : SH) (us : List T) (a_us : SH) (ih : ∀ t, t ∈ ts → SameR t) : Spec Try.prog 35 #[sl a_ts (ts.length), sl a_us (us.length)] [TL ts a_ts, TL us a_us] [] (fun _ : Unit => .bool ((decide (ts = us)))) (fun _ : Unit => []) (fun _ : Unit => []) := by
  refine spec_go (args := [sl a_ts (ts.length), sl a_us (us.length)]) Try.func35 Try.ntmps35 rfl (by exact Nat.le_of_ble_eq_true rfl) fun B hB => ?_
  refine go_openTL (ts := ts) (a := a_ts) (fun VR1 VK1 VS1 hl1 hA1 => ?_)
  refine go_openTL (ts := us) (a := a_us) (fun VR2 VK2 VS2 hl2 hA2 => ?_)
  refine go_seq ?_
  refine go_region ⟨_, Try.func35⟩ rfl ?_
  refine q0 rfl (o_assign ?_)
  refine rg_nil ?_
  refine go_seq ?_
  refine go_seq ?_
  refine go_region ⟨_, Try.func35⟩ rfl ?_
  refine q0 rfl (o_move ?_)
  refine q0 rfl (o_len ?_)
  refine q0 rfl (o_move ?_)
  refine q0 rfl (o_len ?_)
  refine q0 rfl (o_neI ?_)
  refine rg_nil ?_
  refine go_condI (fun h10 => ?_) (fun h10 => ?_)
  · have c10 : (decide ((ts.length : Int) ≠ (us.length : Int))) = true := h10
    try simp only [sC, bne_iff_ne, beq_iff_eq, ne_eq] at c10
    refine go_seq ?_
    refine go_region ⟨_, Try.func35⟩ rfl ?_
    refine q0 rfl (o_assign ?_)
    refine rg_nil ?_
    refine ret1 Try.func35 Try.results35 wn_ () (by simp only [decide_eq_false (fun h : ts = us => by subst h; simp at c10)]) (fun w hs => hs.none)
  · have c10 : (decide ((ts.length : Int) ≠ (us.length : Int))) = false := h10
    try simp only [sC, bne_iff_ne, beq_iff_eq, ne_eq] at c10
    have hlen : ts.length = us.length := by simp at h10; omega
    refine go_skip ?_
    refine go_seq ?_
    refine go_seq ?_
    refine go_region ⟨_, Try.func35⟩ rfl ?_
    refine q0 rfl (o_assign ?_)
    refine rg_nil ?_
    refine go_block ?_
    refine go_loopE (X := Nat) (fun s_ => s_ ≤ ts.length ∧ ∀ j, j < s_ → ts.getD j t0 = us.getD j t0) (fun s_ => [(0, sl a_ts (ts.length)), (1, sl a_us (us.length)), (5, .int .i64 ((s_ : Int)))]) (fun s_ G_ => G_) (fun s_ => []) (fun s_ => ts.length - s_) (0) (⟨by omega, fun j h => absurd h (Nat.not_lt_zero j)⟩) (by exact ⟨rfl, rfl, rfl, trivial⟩) ?_ ?_
    · exact fun w hs => hs
    · intro i base0 ⟨hi, hsm⟩ next0
      refine go_seq ?_
      refine go_seq ?_
      refine go_region ⟨_, Try.func35⟩ rfl ?_
      refine q0 rfl (o_move ?_)
      refine q0 rfl (o_move ?_)
      refine q0 rfl (o_len ?_)
      refine q0 rfl (o_lss ?_)
      refine rg_nil ?_
      refine go_condI (fun h14 => ?_) (fun h14 => ?_)
      · have c14 : (decide ((i : Int) < (ts.length : Int))) = true := h14
        try simp only [sC, bne_iff_ne, beq_iff_eq, ne_eq] at c14
        refine go_skip ?_
        refine go_seq ?_
        refine go_block ?_
        refine go_seq ?_
        refine go_kid (ts := ts) (a := a_ts) (VR := VR1) (VK := VK1) (VS := VS1) i (by omega) ?_
        refine go_kid (ts := us) (a := a_us) (VR := VR2) (VK := VK2) (VS := VS2) i (by omega) ?_
        refine go_draw (pn := 1000000) (tn := false) (A := [0, 0, 3, 7, 0, 0, 48, 112, 255, 511]) (l := [0, 1, 2, 3, 4, 5, 6, 7, 8, 9]) (fin := []) Tab.mixed ⟨_, Try.func35⟩ (by rfl) ?_
        refine n0 rfl (v_move ?_)
        refine n0 rfl (v_move ?_)
        obtain ⟨bk3, o3, hav3⟩ := hA1 (by omega)
        refine n0 rfl (v_ixN ?_ (j := i))
        refine n0 rfl (v_ldT ?_)
        refine n0 rfl (v_move ?_)
        refine n0 rfl (v_move ?_)
        obtain ⟨bk4, o4, hav4⟩ := hA2 (by omega)
        refine n0 rfl (v_ixN ?_ (j := i))
        refine n0 rfl (v_ldT ?_)
        refine n0 rfl (v_call Try.call13 (ih _ (getD_mem (show i < ts.length by omega)) (us.getD i t0) (VR1 i) (VK1 i) (VS1 i) (VR2 i) (VK2 i) (VS2 i)) (fun x25 => ?_))
        refine n0 rfl (v_not ?_)
        refine NV.done ?_
        refine rg_nil ?_
        refine go_condI (fun h26 => ?_) (fun h26 => ?_)
        · have c26 : (!(decide ((ts.getD i t0) = (us.getD i t0)))) = true := h26
          try simp only [sC, bne_iff_ne, beq_iff_eq, ne_eq] at c26
          refine go_seq ?_
          refine go_region ⟨_, Try.func35⟩ rfl ?_
          refine q0 rfl (o_assign ?_)
          refine rg_nil ?_
          refine ret1 Try.func35 Try.results35 wn_ () (by simp only [decide_eq_false (fun h : ts = us => by subst h; simp at c26)]) (fun w hs => hs.none)
        · have c26 : (!(decide ((ts.getD i t0) = (us.getD i t0)))) = false := h26
          try simp only [sC, bne_iff_ne, beq_iff_eq, ne_eq] at c26
          refine go_skip ?_
          refine go_inBlock ?_
          refine go_region ⟨_, Try.func35⟩ rfl ?_
          refine q0 rfl (o_move ?_)
          refine q0 rfl (o_add ?_)
          refine q0 rfl (o_assign ?_)
          refine rg_nil ?_
          refine go_state (fun w hs => ?_) (next0 (i + 1) _ (⟨by omega, fun j hj => by rcases Nat.lt_succ_iff_lt_or_eq.mp hj with h | h; exact hsm j h; subst h; simpa using c26⟩) (by omega) ⟨rfl, rfl, rfl, trivial⟩)
          exact (hs.less (by simp +contextual))
      · have c14 : (decide ((i : Int) < (ts.length : Int))) = false := h14
        try simp only [sC, bne_iff_ne, beq_iff_eq, ne_eq] at c14
        refine go_exit rfl ?_
        refine go_seq ?_
        refine go_region ⟨_, Try.func35⟩ rfl ?_
        refine q0 rfl (o_assign ?_)
        refine rg_nil ?_
        refine ret1 Try.func35 Try.results35 wn_ () (by simp only [decide_eq_true (list_eq_of (d := t0) hlen (fun j hj => hsm j (by omega)) : ts = us)]) (fun w hs => hs.none)
theorem rsame_walk (t : T) (vr_t vk_t vs_t : SH) (u : T) (vr_u vk_u vs_u : SH) (ih : ∀ p, p ∈ parts t → SameR p.1) : Spec Try.prog 13 #[.agg (tc t vr_t vk_t vs_t).toArray, .agg (tc u vr_u vk_u vs_u).toArray] [RT t vr_t vk_t vs_t, RT u vr_u vk_u vs_u] [] (fun _ : Unit => .bool ((decide (t = u)))) (fun _ : Unit => []) (fun _ : Unit => []) := by
  refine spec_go (args := [.agg (tc t vr_t vk_t vs_t).toArray, .agg (tc u vr_u vk_u vs_u).toArray]) Try.func13 Try.ntmps13 rfl (by exact Nat.le_of_ble_eq_true rfl) fun B hB => ?_
  refine go_open (t := t) (vr := vr_t) (vk := vk_t) (vs := vs_t) (fun hk1 hn1 hm1 => ?_)
  refine go_openCL (l := (t).r) (a := vr_t) (fun hl2 hA2 hU2 => ?_)
  refine go_openTL (ts := (t).kids) (a := vk_t) (fun VR3 VK3 VS3 hl3 hA3 => ?_)
  refine go_openBL (bs := (t).sys) (a := vs_t) (fun VF4 VK4 hl4 hA4 => ?_)
  refine go_open (t := u) (vr := vr_u) (vk := vk_u) (vs := vs_u) (fun hk5 hn5 hm5 => ?_)
  refine go_openCL (l := (u).r) (a := vr_u) (fun hl6 hA6 hU6 => ?_)
  refine go_openTL (ts := (u).kids) (a := vk_u) (fun VR7 VK7 VS7 hl7 hA7 => ?_)
  refine go_openBL (bs := (u).sys) (a := vs_u) (fun VF8 VK8 hl8 hA8 => ?_)
  refine go_seq ?_
  refine go_region ⟨_, Try.func13⟩ rfl ?_
  refine q0 rfl (o_box fun b2 => ?_)
  refine q0 rfl (o_box fun b3 => ?_)
  refine q0 rfl (o_assign ?_)
  refine rg_nil ?_
  refine go_seq ?_
  refine go_seq ?_
  refine go_cutS ([(2, .pointer (some ⟨b2, 0, none⟩)), (3, .pointer (some ⟨b3, 0, none⟩)), (49, .bool ((((((decide (((t).kind) ≠ ((u).kind))) || (decide (((t).n) ≠ ((u).n)))) || (!(((t).name).toList == ((u).name).toList))) || (!(decide (((t).r) = ((u).r))))) || (!(decide (((t).kids) = ((u).kids))))) || (decide (((t).sys.length : Int) ≠ ((u).sys.length : Int)))))]) (fun hK => ?_) (fun base => ?_)
  · refine go_region ⟨_, Try.func13⟩ rfl ?_
    refine q0 rfl (o_fa ?_)
    refine q0 rfl (o_ld ?_)
    refine q0 rfl (o_fa ?_)
    refine q0 rfl (o_ld ?_)
    refine q0 rfl (o_neI ?_)
    refine q0 rfl (o_move ?_)
    refine qI rfl rfl rfl wl_ (fun hg11 => ?_) (fun hg11 => ?_)
    · have g11 : (decide (((t).kind) ≠ ((u).kind))) = false := hg11
      try simp only [sC, bne_iff_ne, beq_iff_eq, ne_eq] at g11
      refine o_fa ?_
      refine qT rfl rfl rfl (o_ld ?_)
      refine qT rfl rfl rfl (o_fa ?_)
      refine qT rfl rfl rfl (o_ld ?_)
      refine qT rfl rfl rfl (o_neI ?_)
      refine q0 rfl (o_pickF ?_)
      refine q0 rfl (o_move ?_)
      refine qI rfl rfl rfl wl_ (fun hg18 => ?_) (fun hg18 => ?_)
      · have g18 : (decide (((t).n) ≠ ((u).n))) = false := hg18
        try simp only [sC, bne_iff_ne, beq_iff_eq, ne_eq] at g18
        refine o_fa ?_
        refine qT rfl rfl rfl (o_ld ?_)
        refine qT rfl rfl rfl (o_fa ?_)
        refine qT rfl rfl rfl (o_ld ?_)
        refine qT rfl rfl rfl (o_neS ?_)
        refine q0 rfl (o_pickF ?_)
        refine q0 rfl (o_move ?_)
        refine qI rfl rfl rfl wl_ (fun hg25 => ?_) (fun hg25 => ?_)
        · have g25 : (!(((t).name).toList == ((u).name).toList)) = false := hg25
          try simp only [sC, bne_iff_ne, beq_iff_eq, ne_eq] at g25
          refine o_fa ?_
          refine qT rfl rfl rfl (o_ld ?_)
          refine qT rfl rfl rfl (o_fa ?_)
          refine qT rfl rfl rfl (o_ld ?_)
          refine qT rfl rfl rfl (o_call Try.call29 (rsameC ((t).r) vr_t ((u).r) vr_u ) (fun x30 => ?_))
          refine qT rfl rfl rfl (o_not ?_)
          refine q0 rfl (o_pickF ?_)
          refine q0 rfl (o_move ?_)
          refine qI rfl rfl rfl wl_ (fun hg33 => ?_) (fun hg33 => ?_)
          · have g33 : (!(decide (((t).r) = ((u).r)))) = false := hg33
            try simp only [sC, bne_iff_ne, beq_iff_eq, ne_eq] at g33
            refine o_fa ?_
            refine qT rfl rfl rfl (o_ld ?_)
            refine qT rfl rfl rfl (o_fa ?_)
            refine qT rfl rfl rfl (o_ld ?_)
            refine qT rfl rfl rfl (o_call Try.call35 (rlists ((t).kids) vk_t ((u).kids) vk_u (fun k hk => (by obtain ⟨p, hp, e⟩ := kid_mem_parts hk; exact e ▸ ih p hp))) (fun x38 => ?_))
            refine qT rfl rfl rfl (o_not ?_)
            refine q0 rfl (o_pickF ?_)
            refine q0 rfl (o_move ?_)
            refine qI rfl rfl rfl wl_ (fun hg41 => ?_) (fun hg41 => ?_)
            · have g41 : (!(decide (((t).kids) = ((u).kids)))) = false := hg41
              try simp only [sC, bne_iff_ne, beq_iff_eq, ne_eq] at g41
              refine o_fa ?_
              refine qT rfl rfl rfl (o_ld ?_)
              refine qT rfl rfl rfl (o_len ?_)
              refine qT rfl rfl rfl (o_fa ?_)
              refine qT rfl rfl rfl (o_ld ?_)
              refine qT rfl rfl rfl (o_len ?_)
              refine qT rfl rfl rfl (o_neI ?_)
              refine q0 rfl (o_pickF ?_)
              refine rg_nil ?_
              exact hK _ ⟨rfl, rfl, dn_, trivial⟩
            · have g41 : (!(decide (((t).kids) = ((u).kids)))) = true := hg41
              try simp only [sC, bne_iff_ne, beq_iff_eq, ne_eq] at g41
              refine qF rfl rfl rfl ?_
              refine qF rfl rfl rfl ?_
              refine qF rfl rfl rfl ?_
              refine qF rfl rfl rfl ?_
              refine qF rfl rfl rfl ?_
              refine qF rfl rfl rfl ?_
              refine q0 rfl (o_pickT ?_)
              refine rg_nil ?_
              exact hK _ ⟨rfl, rfl, dn_, trivial⟩
          · have g33 : (!(decide (((t).r) = ((u).r)))) = true := hg33
            try simp only [sC, bne_iff_ne, beq_iff_eq, ne_eq] at g33
            refine qF rfl rfl rfl ?_
            refine qF rfl rfl rfl ?_
            refine qF rfl rfl rfl ?_
            refine qF rfl rfl rfl ?_
            refine qF rfl rfl rfl ?_
            refine q0 rfl (o_pickT ?_)
            refine q0 rfl (o_move ?_)
            refine qF rfl rfl rfl ?_
            refine qF rfl rfl rfl ?_
            refine qF rfl rfl rfl ?_
            refine qF rfl rfl rfl ?_
            refine qF rfl rfl rfl ?_
            refine qF rfl rfl rfl ?_
            refine qF rfl rfl rfl ?_
            refine q0 rfl (o_pickT ?_)
            refine rg_nil ?_
            exact hK _ ⟨rfl, rfl, dn_, trivial⟩
        · have g25 : (!(((t).name).toList == ((u).name).toList)) = true := hg25
          try simp only [sC, bne_iff_ne, beq_iff_eq, ne_eq] at g25
          refine qF rfl rfl rfl ?_
          refine qF rfl rfl rfl ?_
          refine qF rfl rfl rfl ?_
          refine qF rfl rfl rfl ?_
          refine qF rfl rfl rfl ?_
          refine q0 rfl (o_pickT ?_)
          refine q0 rfl (o_move ?_)
          refine qF rfl rfl rfl ?_
          refine qF rfl rfl rfl ?_
          refine qF rfl rfl rfl ?_
          refine qF rfl rfl rfl ?_
          refine qF rfl rfl rfl ?_
          refine qF rfl rfl rfl ?_
          refine q0 rfl (o_pickT ?_)
          refine q0 rfl (o_move ?_)
          refine qF rfl rfl rfl ?_
          refine qF rfl rfl rfl ?_
          refine qF rfl rfl rfl ?_
          refine qF rfl rfl rfl ?_
          refine qF rfl rfl rfl ?_
          refine qF rfl rfl rfl ?_
          refine qF rfl rfl rfl ?_
          refine q0 rfl (o_pickT ?_)
          refine rg_nil ?_
          exact hK _ ⟨rfl, rfl, dn_, trivial⟩
      · have g18 : (decide (((t).n) ≠ ((u).n))) = true := hg18
        try simp only [sC, bne_iff_ne, beq_iff_eq, ne_eq] at g18
        refine qF rfl rfl rfl ?_
        refine qF rfl rfl rfl ?_
        refine qF rfl rfl rfl ?_
        refine qF rfl rfl rfl ?_
        refine q0 rfl (o_pickT ?_)
        refine q0 rfl (o_move ?_)
        refine qF rfl rfl rfl ?_
        refine qF rfl rfl rfl ?_
        refine qF rfl rfl rfl ?_
        refine qF rfl rfl rfl ?_
        refine qF rfl rfl rfl ?_
        refine qF rfl rfl rfl ?_
        refine q0 rfl (o_pickT ?_)
        refine q0 rfl (o_move ?_)
        refine qF rfl rfl rfl ?_
        refine qF rfl rfl rfl ?_
        refine qF rfl rfl rfl ?_
        refine qF rfl rfl rfl ?_
        refine qF rfl rfl rfl ?_
        refine qF rfl rfl rfl ?_
        refine q0 rfl (o_pickT ?_)
        refine q0 rfl (o_move ?_)
        refine qF rfl rfl rfl ?_
        refine qF rfl rfl rfl ?_
        refine qF rfl rfl rfl ?_
        refine qF rfl rfl rfl ?_
        refine qF rfl rfl rfl ?_
        refine qF rfl rfl rfl ?_
        refine qF rfl rfl rfl ?_
        refine q0 rfl (o_pickT ?_)
        refine rg_nil ?_
        exact hK _ ⟨rfl, rfl, dn_, trivial⟩
    · have g11 : (decide (((t).kind) ≠ ((u).kind))) = true := hg11
      try simp only [sC, bne_iff_ne, beq_iff_eq, ne_eq] at g11
      refine qF rfl rfl rfl ?_
      refine qF rfl rfl rfl ?_
      refine qF rfl rfl rfl ?_
      refine qF rfl rfl rfl ?_
      refine q0 rfl (o_pickT ?_)
      refine q0 rfl (o_move ?_)
      refine qF rfl rfl rfl ?_
      refine qF rfl rfl rfl ?_
      refine qF rfl rfl rfl ?_
      refine qF rfl rfl rfl ?_
      refine qF rfl rfl rfl ?_
      refine q0 rfl (o_pickT ?_)
      refine q0 rfl (o_move ?_)
      refine qF rfl rfl rfl ?_
      refine qF rfl rfl rfl ?_
      refine qF rfl rfl rfl ?_
      refine qF rfl rfl rfl ?_
      refine qF rfl rfl rfl ?_
      refine qF rfl rfl rfl ?_
      refine q0 rfl (o_pickT ?_)
      refine q0 rfl (o_move ?_)
      refine qF rfl rfl rfl ?_
      refine qF rfl rfl rfl ?_
      refine qF rfl rfl rfl ?_
      refine qF rfl rfl rfl ?_
      refine qF rfl rfl rfl ?_
      refine qF rfl rfl rfl ?_
      refine q0 rfl (o_pickT ?_)
      refine q0 rfl (o_move ?_)
      refine qF rfl rfl rfl ?_
      refine qF rfl rfl rfl ?_
      refine qF rfl rfl rfl ?_
      refine qF rfl rfl rfl ?_
      refine qF rfl rfl rfl ?_
      refine qF rfl rfl rfl ?_
      refine qF rfl rfl rfl ?_
      refine q0 rfl (o_pickT ?_)
      refine rg_nil ?_
      exact hK _ ⟨rfl, rfl, dn_, trivial⟩
  · refine go_condI (fun h49 => ?_) (fun h49 => ?_)
    · have c49 : ((((((decide (((t).kind) ≠ ((u).kind))) || (decide (((t).n) ≠ ((u).n)))) || (!(((t).name).toList == ((u).name).toList))) || (!(decide (((t).r) = ((u).r))))) || (!(decide (((t).kids) = ((u).kids))))) || (decide (((t).sys.length : Int) ≠ ((u).sys.length : Int)))) = true := h49
      try simp only [sC, bne_iff_ne, beq_iff_eq, ne_eq] at c49
      refine go_seq ?_
      refine go_region ⟨_, Try.func13⟩ rfl ?_
      refine q0 rfl (o_assign ?_)
      refine rg_nil ?_
      refine ret1 Try.func13 Try.results13 wn_ () (by simp only [decide_eq_false (fun h : t = u => by subst h; simp at h49)]) (fun w hs => hs.none)
    · have c49 : ((((((decide (((t).kind) ≠ ((u).kind))) || (decide (((t).n) ≠ ((u).n)))) || (!(((t).name).toList == ((u).name).toList))) || (!(decide (((t).r) = ((u).r))))) || (!(decide (((t).kids) = ((u).kids))))) || (decide (((t).sys.length : Int) ≠ ((u).sys.length : Int)))) = false := h49
      try simp only [sC, bne_iff_ne, beq_iff_eq, ne_eq] at c49
      obtain ⟨hq1, hq2, hq3, hq4, hq5, hq6⟩ : t.kind = u.kind ∧ t.n = u.n ∧ t.name = u.name ∧ t.r = u.r ∧ t.kids = u.kids ∧ t.sys.length = u.sys.length := by have h := h49; simp only [Bool.or_eq_false_iff, Bool.not_eq_false', decide_eq_false_iff_not, ne_eq, Decidable.not_not, bytes_eq, decide_eq_true_eq, and_assoc] at h; obtain ⟨h1, h2, h3, h4, h5, h6⟩ := h; exact ⟨h1, h2, h3, h4, h5, by omega⟩
      refine go_skip ?_
      refine go_seq ?_
      refine go_seq ?_
      refine go_region ⟨_, Try.func13⟩ rfl ?_
      refine q0 rfl (o_assign ?_)
      refine rg_nil ?_
      refine go_block ?_
      refine go_loopE (X := Nat) (fun s_ => s_ ≤ t.sys.length ∧ ∀ j, j < s_ → t.sys.getD j br0 = u.sys.getD j br0) (fun s_ => [(2, .pointer (some ⟨b2, 0, none⟩)), (3, .pointer (some ⟨b3, 0, none⟩)), (5, .int .i64 ((s_ : Int)))]) (fun s_ G_ => G_) (fun s_ => [boxR b3 (tc u vr_u vk_u vs_u) 26, boxR b2 (tc t vr_t vk_t vs_t) 26]) (fun s_ => t.sys.length - s_) (0) (⟨by omega, fun j h => absurd h (Nat.not_lt_zero j)⟩) (by exact ⟨rfl, rfl, rfl, trivial⟩) ?_ ?_
      · exact fun w hs => hs
      · intro i base0 ⟨hi, hsm⟩ next0
        refine go_seq ?_
        refine go_seq ?_
        refine go_region ⟨_, Try.func13⟩ rfl ?_
        refine q0 rfl (o_move ?_)
        refine q0 rfl (o_fa ?_)
        refine q0 rfl (o_ld ?_)
        refine q0 rfl (o_len ?_)
        refine q0 rfl (o_lss ?_)
        refine rg_nil ?_
        refine go_condI (fun h54 => ?_) (fun h54 => ?_)
        · have c54 : (decide ((i : Int) < ((t).sys.length : Int))) = true := h54
          try simp only [sC, bne_iff_ne, beq_iff_eq, ne_eq] at c54
          refine go_skip ?_
          refine go_seq ?_
          refine go_block ?_
          refine go_seq ?_
          refine go_branch (bs := (t).sys) (a := vs_t) (VF := VF4) (VK := VK4) i (by omega) ?_
          refine go_openCL (l := (((t).sys).getD i br0).face) (a := VF4 i) (fun hl9 hA9 hU9 => ?_)
          refine go_openTL (ts := (((t).sys).getD i br0).kids) (a := VK4 i) (fun VR10 VK10 VS10 hl10 hA10 => ?_)
          refine go_branch (bs := (u).sys) (a := vs_u) (VF := VF8) (VK := VK8) i (by omega) ?_
          refine go_openCL (l := (((u).sys).getD i br0).face) (a := VF8 i) (fun hl11 hA11 hU11 => ?_)
          refine go_openTL (ts := (((u).sys).getD i br0).kids) (a := VK8 i) (fun VR12 VK12 VS12 hl12 hA12 => ?_)
          refine go_cutS ([(2, .pointer (some ⟨b2, 0, none⟩)), (3, .pointer (some ⟨b3, 0, none⟩)), (5, .int .i64 ((i : Int))), (86, .bool ((!(decide (((((t).sys).getD i br0).face) = ((((u).sys).getD i br0).face)))) || (!(decide (((((t).sys).getD i br0).kids) = ((((u).sys).getD i br0).kids))))))]) (fun hK => ?_) (fun base => ?_)
          · refine go_draw (pn := 1000000) (tn := false) (A := [0, 1, 0, 7, 15, 31, 0, 64, 0, 448, 960, 1984, 4095, 8191, 16383, 32767, 65535, 32767, 262143, 524287, 1048575, 32767, 2129919, 32767, 14712831, 31490047, 65044479, 134217727, 268435455, 536870911]) (l := [0, 1, 2, 3, 4, 5, 6, 7, 8, 9, 10, 11, 12, 13, 14, 15, 16, 17, 18, 19, 20, 21, 22, 23, 24, 25, 26, 27, 28, 29]) (fin := []) Tab.mixed ⟨_, Try.func13⟩ (by decide +kernel) ?_
            refine n0 rfl (v_fa ?_)
            refine n0 rfl (v_ld ?_)
            refine n0 rfl (v_move ?_)
            obtain ⟨bk13, o13, hav13⟩ := hA4 (by omega)
            refine n0 rfl (v_ixN ?_ (j := i))
            refine n0 rfl (v_fa ?_)
            refine n0 rfl (v_ldBf ?_)
            refine n0 rfl (v_fa ?_)
            refine n0 rfl (v_ld ?_)
            refine n0 rfl (v_move ?_)
            obtain ⟨bk14, o14, hav14⟩ := hA8 (by omega)
            refine n0 rfl (v_ixN ?_ (j := i))
            refine n0 rfl (v_fa ?_)
            refine n0 rfl (v_ldBf ?_)
            refine n0 rfl (v_call Try.call29 (rsameC ((((t).sys).getD i br0).face) (VF4 i) ((((u).sys).getD i br0).face) (VF8 i) ) (fun x69 => ?_))
            refine n0 rfl (v_not ?_)
            refine n0 rfl (v_move ?_)
            refine nI rfl rfl rfl wl_ (fun hg71 => ?_) (fun hg71 => ?_)
            · have g71 : (!(decide (((((t).sys).getD i br0).face) = ((((u).sys).getD i br0).face)))) = false := hg71
              try simp only [sC, bne_iff_ne, beq_iff_eq, ne_eq] at g71
              refine v_fa ?_
              refine nT rfl rfl rfl (v_ld ?_)
              refine nT rfl rfl rfl (v_move ?_)
              refine nT rfl rfl rfl (v_ixN ?_ (j := i))
              refine nT rfl rfl rfl (v_fa ?_)
              refine nT rfl rfl rfl (v_ldBf ?_)
              refine nT rfl rfl rfl (v_fa ?_)
              refine nT rfl rfl rfl (v_ld ?_)
              refine nT rfl rfl rfl (v_move ?_)
              refine nT rfl rfl rfl (v_ixN ?_ (j := i))
              refine nT rfl rfl rfl (v_fa ?_)
              refine nT rfl rfl rfl (v_ldBf ?_)
              refine nT rfl rfl rfl (v_call Try.call35 (rlists ((((t).sys).getD i br0).kids) (VK4 i) ((((u).sys).getD i br0).kids) (VK8 i) (fun k hk => (by obtain ⟨p, hp, e⟩ := sys_mem_parts (getD_mem (show i < t.sys.length by omega)) hk; exact e ▸ ih p hp))) (fun x84 => ?_))
              refine nT rfl rfl rfl (v_not ?_)
              refine n0 rfl (v_pickF ?_)
              refine NV.done ?_
              refine rg_nil ?_
              exact hK _ ⟨rfl, rfl, rfl, dn_, trivial⟩
            · have g71 : (!(decide (((((t).sys).getD i br0).face) = ((((u).sys).getD i br0).face)))) = true := hg71
              try simp only [sC, bne_iff_ne, beq_iff_eq, ne_eq] at g71
              refine nF rfl rfl rfl ?_
              refine nF rfl rfl rfl ?_
              refine nF rfl rfl rfl ?_
              refine nF rfl rfl rfl ?_
              refine nF rfl rfl rfl ?_
              refine nF rfl rfl rfl ?_
              refine nF rfl rfl rfl ?_
              refine nF rfl rfl rfl ?_
              refine nF rfl rfl rfl ?_
              refine nF rfl rfl rfl ?_
              refine nF rfl rfl rfl ?_
              refine nF rfl rfl rfl ?_
              refine nF rfl rfl rfl ?_
              refine n0 rfl (v_pickT ?_)
              refine NV.done ?_
              refine rg_nil ?_
              exact hK _ ⟨rfl, rfl, rfl, dn_, trivial⟩
          · refine go_condI (fun h86 => ?_) (fun h86 => ?_)
            · have c86 : ((!(decide (((((t).sys).getD i br0).face) = ((((u).sys).getD i br0).face)))) || (!(decide (((((t).sys).getD i br0).kids) = ((((u).sys).getD i br0).kids))))) = true := h86
              try simp only [sC, bne_iff_ne, beq_iff_eq, ne_eq] at c86
              refine go_seq ?_
              refine go_region ⟨_, Try.func13⟩ rfl ?_
              refine q0 rfl (o_assign ?_)
              refine rg_nil ?_
              refine ret1 Try.func13 Try.results13 wn_ () (by simp only [decide_eq_false (fun h : t = u => by subst h; simp at h86)]) (fun w hs => hs.none)
            · have c86 : ((!(decide (((((t).sys).getD i br0).face) = ((((u).sys).getD i br0).face)))) || (!(decide (((((t).sys).getD i br0).kids) = ((((u).sys).getD i br0).kids))))) = false := h86
              try simp only [sC, bne_iff_ne, beq_iff_eq, ne_eq] at c86
              refine go_skip ?_
              refine go_inBlock ?_
              refine go_region ⟨_, Try.func13⟩ rfl ?_
              refine q0 rfl (o_move ?_)
              refine q0 rfl (o_add ?_)
              refine q0 rfl (o_assign ?_)
              refine rg_nil ?_
              refine go_state (fun w hs => ?_) (next0 (i + 1) _ (⟨by omega, fun j hj => by rcases Nat.lt_succ_iff_lt_or_eq.mp hj with h | h; exact hsm j h; subst h; exact Br.ext'.mpr (by simpa using h86)⟩) (by omega) ⟨rfl, rfl, rfl, trivial⟩)
              exact (((hs.less (by simp +contextual)).perm perm1).perm perm1)
        · have c54 : (decide ((i : Int) < ((t).sys.length : Int))) = false := h54
          try simp only [sC, bne_iff_ne, beq_iff_eq, ne_eq] at c54
          refine go_exit rfl ?_
          refine go_seq ?_
          refine go_region ⟨_, Try.func13⟩ rfl ?_
          refine q0 rfl (o_assign ?_)
          refine rg_nil ?_
          refine ret1 Try.func13 Try.results13 wn_ () (by simp only [decide_eq_true (T.ext'.mpr ⟨hq1, hq2, hq3, hq4, hq5, list_eq_of (d := br0) hq6 (fun j hj => hsm j (by omega))⟩ : t = u)]) (fun w hs => hs.none)
theorem rsame : ∀ (t u : T) vr vk vs vr' vk' vs', Spec Try.prog 13 #[.agg (tc t vr vk vs).toArray, .agg (tc u vr' vk' vs').toArray] [RT t vr vk vs, RT u vr' vk' vs'] [] (fun _ : Unit => .bool (decide (t = u))) (fun _ => []) (fun _ => []) := fun t => (T.ind fun t ih u vr vk vs vr' vk' vs' => rsame_walk t vr vk vs u vr' vk' vs' ih : ∀ t : T, SameR t) t
end Go.Hy
namespace Go.Hy
set_option linter.unusedVariables false
set_option linter.unusedSimpArgs false
set_option linter.unusedSectionVars false
open Go.Proofs
set_option linter.unusedVariables false
set_option linter.unusedSimpArgs false
set_option maxRecDepth 100000
theorem clone_spec (l : List Cl) (a : SH) : Spec Try.prog 77 #[sl a l.length] [CL l a] [] (fun x : SH => sl x l.length) (fun x => [CL l x]) (fun _ => []) := by
  refine spec_go (args := [sl a l.length]) Try.func77 Try.ntmps77 rfl (by exact Nat.le_of_ble_eq_true rfl) fun B hB => ?_
  refine go_openCL (l := l) (a := a) (fun hl1 hA1 hU1 => ?_)
  refine go_seq ?_
  refine go_region ⟨_, Try.func77⟩ rfl ?_
  refine q0 rfl (o_assign ?_)
  refine rg_nil ?_
  refine go_seq ?_
  refine go_seq ?_
  refine go_region ⟨_, Try.func77⟩ rfl ?_
  refine q0 rfl (o_move ?_)
  refine q0 rfl (o_eqNil ?_)
  refine rg_nil ?_
  refine go_condI (fun h4 => ?_) (fun h4 => ?_)
  · refine go_seq ?_
    refine go_region ⟨_, Try.func77⟩ rfl ?_
    refine q0 rfl (o_assign ?_)
    refine rg_nil ?_
    have hl : l = [] := by (rcases Nat.eq_zero_or_pos l.length with h | h; exact List.eq_nil_of_length_eq_zero h; obtain ⟨bk, o, hav⟩ := hA1 h; rw [hav] at h4; cases h4)
    subst hl
    refine ret1 Try.func77 Try.results77 wn_ (none, 0) rfl (fun w hs => (hs.nilCL 0).less (by simp))
  · refine go_skip ?_
    refine go_seq ?_
    refine go_region ⟨_, Try.func77⟩ rfl ?_
    refine q0 rfl (o_lit0 fun b5 => ?_)
    refine q0 rfl (o_move ?_)
    refine rg_state (fun w hs => hs.boxRow (sz := 2) (m := 0) rfl (by decide)) ?_
    refine q0 rfl (o_appCL (fun a7 => ?_) (by exact List.mem_cons_self))
    refine q0 rfl (o_assign ?_)
    refine rg_nil ?_
    have e0 : 0 + l.length = l.length := by omega
    rw [e0]
    refine ret1 Try.func77 Try.results77 wn_ a7 rfl (fun w hs => ((hs.settleCL hB (by simp) (by omega) (by unfold reach at *; omega) hU1).less (by simp)))
abbrev CopyAt (t : T) : Prop := ∀ vr vk vs, Spec Try.prog 64 #[.agg (tc t vr vk vs).toArray] [RT t vr vk vs] [] (fun x : SH × SH × SH => .agg (tc t x.1 x.2.1 x.2.2).toArray) (fun x => [RT t x.1 x.2.1 x.2.2]) (fun _ => [])
theorem copied_walk (ts : List T) (a : SH) (ih : ∀ t, t ∈ ts → CopyAt t) : Spec Try.prog 78 #[sl a ts.length] [TL ts a] [] (fun x : SH => sl x ts.length) (fun x => [TL ts x]) (fun _ => []) := by
  refine spec_go (args := [sl a ts.length]) Try.func78 Try.ntmps78 rfl (by exact Nat.le_of_ble_eq_true rfl) fun B hB => ?_
  refine go_openTL (ts := ts) (a := a) (fun VR VK VS hl1 hA1 => ?_)
  refine go_seq ?_
  refine go_region ⟨_, Try.func78⟩ rfl ?_
  refine q0 rfl (o_assign ?_)
  refine rg_nil ?_
  refine go_seq ?_
  refine go_region ⟨_, Try.func78⟩ rfl ?_
  refine q0 rfl (o_assign ?_)
  refine rg_nil ?_
  refine go_seq ?_
  refine go_seq ?_
  refine go_region ⟨_, Try.func78⟩ rfl ?_
  refine q0 rfl (o_move ?_)
  refine q0 rfl (o_len ?_)
  refine q0 rfl (o_move ?_)
  refine rg_nil ?_
  refine go_block ?_
  refine go_loopI (X := Nat × SH × List TP) (fun s => s.1 ≤ ts.length ∧ s.2.2.length = s.1 ∧ s.2.2.map (·.1) = ts.take s.1) (fun s => [(3, sl s.2.1 s.1), (6, sl a ts.length), (7, .int .i64 (ts.length : Int)), (8, .int .i64 (s.1 : Int))]) (fun s => [AP s.2.2, TLx ts a VR VK VS]) (fun s => [rowS 6 26 s.2.1 s.1 (tpFlat s.2.2)]) (fun s => ts.length - s.1) ((0, (none, 0), [])) (⟨Nat.zero_le _, rfl, rfl⟩) (by exact ⟨rfl, rfl, rfl, rfl, trivial⟩) ?_ ?_
  · exact fun w hs => ((hs.rowS0 6 26).apNil).less (by simp +contextual)
  · intro ⟨i, a3, ps⟩ base0 ⟨hi, hpl, hpm⟩ next0
    dsimp only at hi hpl hpm next0 ⊢
    refine go_seq ?_
    refine go_region ⟨_, Try.func78⟩ rfl ?_
    refine q0 rfl (o_lss ?_)
    refine rg_nil ?_
    refine go_seq ?_
    refine go_condI (fun h9 => ?_) (fun h9 => ?_)
    · have hlt : i < ts.length := by have := of_decide_eq_true h9; omega
      obtain ⟨bk, o, hav⟩ := hA1 (by omega)
      refine go_kid (ts := ts) (a := a) (VR := VR) (VK := VK) (VS := VS) i hlt ?_
      refine go_skip ?_
      refine go_seq ?_
      refine go_block ?_
      refine go_seq ?_
      refine go_region ⟨_, Try.func78⟩ rfl ?_
      refine q0 rfl (o_ixN ?_)
      refine q0 rfl (o_ldT ?_)
      refine q0 rfl (o_new fun b5 => ?_)
      refine q0 rfl (o_st ?_)
      refine rg_nil ?_
      refine go_region ⟨_, Try.func78⟩ rfl ?_
      refine q0 rfl (o_move ?_)
      refine q0 rfl (o_lds ?_)
      refine q0 rfl (o_call Try.call64 (ih _ (getD_mem hlt) (VR i) (VK i) (VS i)) (fun x14 => ?_))
      refine q0 rfl (o_lit1 fun b15 => ?_)
      refine q0 rfl (o_appS (fun a16 => ?_)  )
      refine q0 rfl (o_assign ?_)
      refine rg_nil ?_
      refine go_inBlock ?_
      refine go_region ⟨_, Try.func78⟩ rfl ?_
      refine q0 rfl (o_add ?_)
      refine q0 rfl (o_move ?_)
      refine rg_nil ?_
      refine go_state (fun w hs => ?_) (next0 (i + 1, a16, ps ++ [(ts.getD i t0, x14)]) _ ⟨hlt, by simp [hpl], by simp only [List.map_append, List.map_cons, List.map_nil, hpm]; exact (take_succ_getD hlt).symm⟩ (by simp only; omega) ⟨rfl, rfl, rfl, rfl, trivial⟩)
      have h1 := hs.apAdd (ps := ps) (t := ts.getD i t0) (vr := x14.1) (vk := x14.2.1) (vs := x14.2.2) (by simp) (by simp)
      have e1 : tpFlat (ps ++ [(ts.getD i t0, x14)]) = tpFlat ps ++ tc (ts.getD i t0) x14.1 x14.2.1 x14.2.2 := by simp [tpFlat, tpCells]
      rw [e1]
      exact (h1.less (by simp +contextual)).dropR (A := [_])
    · have hge : i = ts.length := by have := of_decide_eq_false h9; omega
      refine go_exit rfl ?_
      refine go_seq ?_
      refine go_region ⟨_, Try.func78⟩ rfl ?_
      refine q0 rfl (o_move ?_)
      refine q0 rfl (o_assign ?_)
      refine rg_nil ?_
      have hm2 : ps.map (·.1) = ts := by rw [hpm, hge, List.take_length]
      rw [hge]
      refine ret1 Try.func78 Try.results78 wn_ a3 rfl (fun w hs => (hs.settleTL hB (by simp) rfl hm2 (by omega) (by unfold reach at *; omega)).less (by simp))
theorem copy_walk (t : T) (ih : ∀ p, p ∈ parts t → CopyAt p.1) (vr vk vs : SH) : Spec Try.prog 64 #[.agg (tc t vr vk vs).toArray] [RT t vr vk vs] [] (fun x : SH × SH × SH => .agg (tc t x.1 x.2.1 x.2.2).toArray) (fun x => [RT t x.1 x.2.1 x.2.2]) (fun _ => []) := by
  refine spec_go (args := [.agg (tc t vr vk vs).toArray]) Try.func64 Try.ntmps64 rfl (by exact Nat.le_of_ble_eq_true rfl) fun B hB => ?_
  refine go_open (t := t) (vr := vr) (vk := vk) (vs := vs) (fun hk hn hnm => ?_)
  refine go_openBL (bs := t.sys) (a := vs) (fun VF VK hl1 hA1 => ?_)
  refine go_seq ?_
  refine go_region ⟨_, Try.func64⟩ rfl ?_
  refine q0 rfl (o_box fun b1 => ?_)
  refine q0 rfl (o_new fun b2 => ?_)
  refine rg_nil ?_
  refine go_seq ?_
  refine go_draw (pn := 1000000) (tn := false) (A := [0, 1, 0, 4, 0, 16, 0, 64, 192, 0, 512, 1984, 4095, 0, 16383]) (l := [0, 1, 2, 3, 4, 5, 6, 7, 9, 10, 8, 11, 12, 13]) (fin := [14]) Tab.mixed ⟨_, Try.func64⟩ (by rfl) ?_
  refine n0 rfl (v_fa ?_)
  refine n0 rfl (v_ld ?_)
  refine n0 rfl (v_fa ?_)
  refine n0 rfl (v_ld ?_)
  refine n0 rfl (v_fa ?_)
  refine n0 rfl (v_ld ?_)
  refine n0 rfl (v_fa ?_)
  refine n0 rfl (v_ld ?_)
  refine n0 rfl (v_fa ?_)
  refine n0 rfl (v_ld ?_)
  refine n0 rfl (v_call Try.call77 (clone_spec t.r vr) (fun x14 => ?_))
  refine n0 rfl (v_call Try.call78 (copied_walk t.kids vk (fun k hk => (by obtain ⟨p, hp, e⟩ := kid_mem_parts hk; exact e ▸ ih p hp))) (fun x17 => ?_))
  refine n0 rfl (v_build (cs := [.int .i64 t.kind, .int .i64 t.n, .string t.name, sl x14 t.r.length, sl x17 t.kids.length, .slice none 0 0]) ?_)
  refine n0 rfl (v_new fun b3 => ?_)
  refine NV.done ?_
  refine q0 rfl (o_st ?_)
  refine rg_nil ?_
  refine go_seq ?_
  refine go_seq ?_
  refine go_region ⟨_, Try.func64⟩ rfl ?_
  refine q0 rfl (o_fa ?_)
  refine q0 rfl (o_ld ?_)
  refine q0 rfl (o_len ?_)
  refine q0 rfl (o_move ?_)
  refine rg_nil ?_
  refine go_block ?_
  refine go_loopI (X := Nat × SH × List BP) (fun s => s.1 ≤ t.sys.length ∧ s.2.2.length = s.1 ∧ s.2.2.map (·.1) = t.sys.take s.1) (fun s => [(2, .pointer (some ⟨b2, 0, none⟩)), (3, .pointer (some ⟨b3, 0, none⟩)), (20, sl vs t.sys.length), (21, .int .i64 (t.sys.length : Int)), (22, .int .i64 (s.1 : Int))]) (fun s => [BPs s.2.2, BLx t.sys vs VF VK, CL t.r x14, TL t.kids x17]) (fun s => [boxR b3 [.int .i64 t.kind, .int .i64 t.n, .string t.name, sl x14 t.r.length, sl x17 t.kids.length, sl s.2.1 s.1] 26, rowS 2 63 s.2.1 s.1 (bpFlat s.2.2), boxR b2 [.int .i64 0, .int .i64 0, .string ⟨#[]⟩, .slice none 0 0, .slice none 0 0, .slice none 0 0] 26]) (fun s => t.sys.length - s.1) ((0, (none, 0), [])) (⟨Nat.zero_le _, rfl, rfl⟩) (by exact ⟨rfl, rfl, rfl, rfl, rfl, trivial⟩) ?_ ?_
  · exact fun w hs => (((hs.rowS0 2 63).bpNil).less (by simp +contextual)).perm perm1 |>.dropR (A := [_, _, _])
  · intro ⟨i, a3, ps⟩ base0 ⟨hi, hpl, hpm⟩ next0
    dsimp only at hi hpl hpm next0 ⊢
    refine go_seq ?_
    refine go_region ⟨_, Try.func64⟩ rfl ?_
    refine q0 rfl (o_lss ?_)
    refine rg_nil ?_
    refine go_seq ?_
    refine go_condI (fun h23 => ?_) (fun h23 => ?_)
    · have hlt : i < t.sys.length := by have := of_decide_eq_true h23; omega
      obtain ⟨bk, o, hav⟩ := hA1 (by omega)
      refine go_skip ?_
      refine go_seq ?_
      refine go_block ?_
      refine go_seq ?_
      refine go_region ⟨_, Try.func64⟩ rfl ?_
      refine q0 rfl (o_ixN ?_)
      refine q0 rfl (o_ldB ?_)
      refine q0 rfl (o_new fun b5 => ?_)
      refine q0 rfl (o_st ?_)
      refine rg_nil ?_
      refine go_branch (bs := t.sys) (a := vs) (VF := VF) (VK := VK) i hlt ?_
      refine go_draw (pn := 1000000) (tn := false) (A := [0, 1, 0, 4, 12, 0, 32, 124, 252, 508, 1023, 2047, 4095]) (l := [0, 1, 2, 3, 5, 6, 4, 7, 8, 9]) (fin := [10, 11, 12]) Tab.mixed ⟨_, Try.func64⟩ (by rfl) ?_
      refine n0 rfl (v_fa ?_)
      refine n0 rfl (v_ld ?_)
      refine n0 rfl (v_fa ?_)
      refine n0 rfl (v_ld ?_)
      refine n0 rfl (v_fa ?_)
      refine n0 rfl (v_ld ?_)
      refine n0 rfl (v_call Try.call77 (clone_spec (t.sys.getD i br0).face (VF i)) (fun x30 => ?_))
      refine n0 rfl (v_call Try.call78 (copied_walk (t.sys.getD i br0).kids (VK i) (fun k hk => (by obtain ⟨p, hp, e⟩ := sys_mem_parts (getD_mem hlt) hk; exact e ▸ ih p hp))) (fun x33 => ?_))
      refine n0 rfl (v_build (cs := bc (t.sys.getD i br0) x30 x33) ?_)
      refine n0 rfl (v_lit1 fun b35 => ?_)
      refine NV.done ?_
      refine q0 rfl (o_appS (fun a36 => ?_)  )
      refine q0 rfl (o_fa ?_)
      refine q0 rfl (o_stc ?_)
      refine rg_nil ?_
      refine go_inBlock ?_
      refine go_region ⟨_, Try.func64⟩ rfl ?_
      refine q0 rfl (o_add ?_)
      refine q0 rfl (o_move ?_)
      refine rg_nil ?_
      refine go_state (fun w hs => ?_) (next0 (i + 1, a36, ps ++ [(t.sys.getD i br0, x30, x33)]) _ ⟨hlt, by simp [hpl], by simp only [List.map_append, List.map_cons, List.map_nil, hpm]; exact (take_succ_getD hlt).symm⟩ (by simp only; omega) ⟨rfl, rfl, rfl, rfl, rfl, trivial⟩)
      have h1 := hs.bpAdd (ps := ps) (f := (t.sys.getD i br0).face) (ks := (t.sys.getD i br0).kids) (vf := x30) (vk := x33) (by simp) (by simp) (by simp)
      rw [Br.eta] at h1
      have e1 : bpFlat (ps ++ [(t.sys.getD i br0, x30, x33)]) = bpFlat ps ++ bc (t.sys.getD i br0) x30 x33 := by simp [bpFlat, bpCells]
      rw [e1]
      have h2 := h1.less (Γ' := [BPs (ps ++ [(t.sys.getD i br0, x30, x33)]), BLx t.sys vs VF VK, CL t.r x14, TL t.kids x17]) (by simp +contextual)
      exact ((h2.perm (perm4.trans (perm2.trans perm2))).dropR (A := [_, _, _]))
    · have hge : i = t.sys.length := by have := of_decide_eq_false h23; omega
      refine go_exit rfl ?_
      refine go_seq ?_
      refine go_region ⟨_, Try.func64⟩ rfl ?_
      refine q0 rfl (o_lds ?_)
      refine q0 rfl (o_st ?_)
      refine rg_nil ?_
      have hm2 : ps.map (·.1) = t.sys := by rw [hpm, hge, List.take_length]
      refine retC Try.func64 Try.results64 (x14, x17, a3) rfl mm_ rfl rfl rfl (by simp only [tc, hge]; rfl) (fun w hs => ?_)
      have h2 := (hs.perm perm2).settleBL hB (by simp) rfl hm2 (by omega) (by unfold reach at *; omega)
      have h3 := h2.mkRT hk hn hnm (r := t.r) (vr := x14) (ks := t.kids) (vk := x17) (ss := t.sys) (vs := a3) (by simp) (by simp) (by simp)
      rw [T.eta] at h3
      exact (h3.bare).less (by simp)
theorem copy_spec : ∀ t : T, CopyAt t := T.ind fun t ih vr vk vs => copy_walk t ih vr vk vs
end Go.Hy
namespace Go.Hy
set_option linter.unusedVariables false
set_option linter.unusedSimpArgs false
set_option linter.unusedSectionVars false
open Go.Proofs
set_option linter.unusedVariables false
set_option linter.unusedSimpArgs false
set_option maxRecDepth 100000
theorem in_lit {n : Int} (h : 0 ≤ n) (h2 : n ≤ 1000) : in64 n := by unfold in64; omega
end Go.Hy
namespace Go.Hy
set_option linter.unusedVariables false
set_option linter.unusedSimpArgs false
set_option linter.unusedSectionVars false
open Go.Proofs
set_option linter.unusedVariables false
set_option linter.unusedSimpArgs false
set_option maxRecDepth 100000
abbrev BulkAt (t : T) : Prop := ∀ (most : Int) vr vk vs, 0 ≤ most → most ≤ 1000000 → Spec Try.prog 28 #[.agg (tc t vr vk vs).toArray, .int .i64 most] [RT t vr vk vs] [] (fun x : {x : Int // BulkIs t (bulk t) most x} => .int .i64 x.1) (fun _ => []) (fun _ => [])
theorem bulk_walk (t : T) (ih : ∀ p, p ∈ parts t → BulkAt p.1) (most : Int) (vr vk vs : SH) (h0 : 0 ≤ most) (hm : most ≤ 1000000) : Spec Try.prog 28 #[.agg (tc t vr vk vs).toArray, .int .i64 most] [RT t vr vk vs] [] (fun x : {x : Int // BulkIs t (bulk t) most x} => .int .i64 x.1) (fun _ => []) (fun _ => []) := by
  refine spec_go (args := [.agg (tc t vr vk vs).toArray, .int .i64 most]) Try.func28 Try.ntmps28 rfl (by exact Nat.le_of_ble_eq_true rfl) fun B hB => ?_
  refine go_open (fun hk hn hnm => ?_)
  refine go_openCL (l := t.r) (a := vr) (fun hlr hAr hUr => ?_)
  refine go_openTL (ts := t.kids) (fun VR VK VS hl1 hA1 => ?_)
  refine go_openBL (bs := t.sys) (fun VF VK2 hl2 hA2 => ?_)
  refine go_seq ?_
  refine go_region ⟨_, Try.func28⟩ rfl ?_
  refine q0 rfl (o_box fun b2 => ?_)
  refine q0 rfl (o_assign ?_)
  refine rg_nil ?_
  refine go_seq ?_
  refine go_seq ?_
  refine go_cutS ([(1, .int .i64 most), (2, .pointer (some ⟨b2, 0, none⟩)), (20, .bool (decide (most < (t.r.length : Int)) || decide (most < (t.name.size : Int))))]) (fun hK => ?_) (fun base => ?_)
  · refine go_region ⟨_, Try.func28⟩ rfl ?_
    refine q0 rfl (o_fa ?_)
    refine q0 rfl (o_ld ?_)
    refine q0 rfl (o_len ?_)
    refine q0 rfl (o_move ?_)
    refine q0 rfl (o_gtr ?_)
    refine q0 rfl (o_move ?_)
    refine qI rfl rfl rfl wl_ (fun hg14 => o_fa ?_) (fun hg14 => ?_)
    · refine qT rfl rfl rfl (o_ld ?_)
      refine qT rfl rfl rfl (o_lenStr ?_)
      refine qT rfl rfl rfl (o_move ?_)
      refine qT rfl rfl rfl (o_gtr ?_)
      refine q0 rfl (o_pickF ?_)
      refine rg_nil ?_
      exact hK _ ⟨rfl, rfl, (by (conv => lhs; whnf); first | (simp_all [Bool.and_assoc]; done) | (simp_all [Bool.and_assoc]; omega)), trivial⟩
    · refine qF rfl rfl rfl ?_
      refine qF rfl rfl rfl ?_
      refine qF rfl rfl rfl ?_
      refine qF rfl rfl rfl ?_
      refine q0 rfl (o_pickT ?_)
      refine rg_nil ?_
      exact hK _ ⟨rfl, rfl, (by (conv => lhs; whnf); first | (simp_all [Bool.and_assoc]; done) | (simp_all [Bool.and_assoc]; omega)), trivial⟩
  · refine go_condI (fun h20 => ?_) (fun h20 => ?_)
    · have hb : most < (t.r.length : Int) ∨ most < (t.name.size : Int) := by simpa using h20
      refine go_seq ?_
      refine go_region ⟨_, Try.func28⟩ rfl ?_
      refine q0 rfl (o_move ?_)
      refine q0 rfl (o_add ?_)
      refine q0 rfl (o_assign ?_)
      refine rg_nil ?_
      refine ret1 Try.func28 Try.results28 wn_ ⟨most + 1, by unfold BulkIs; have h9 := bK_le t 0; rw [bK_zero] at h9; omega⟩ rfl (fun w hs => hs.none)
    · have hb : (t.r.length : Int) ≤ most ∧ (t.name.size : Int) ≤ most := by simpa using h20
      have hge1 := bK_le t 0
      rw [bK_zero] at hge1
      refine go_skip ?_
      refine go_seq ?_
      refine go_region ⟨_, Try.func28⟩ rfl ?_
      refine q0 rfl (o_fa ?_)
      refine q0 rfl (o_ld ?_)
      refine q0 rfl (o_len ?_)
      refine q0 rfl (o_add ?_)
      refine q0 rfl (o_fa ?_)
      refine q0 rfl (o_ld ?_)
      refine q0 rfl (o_lenStr ?_)
      refine q0 rfl (o_add ?_)
      refine q0 rfl (o_assign ?_)
      refine rg_nil ?_
      refine go_seq ?_
      refine go_seq ?_
      refine go_region ⟨_, Try.func28⟩ rfl ?_
      refine q0 rfl (o_assign ?_)
      refine rg_nil ?_
      refine go_block ?_
      refine go_loopI (X := Nat × Int) (fun s => s.1 ≤ t.kids.length ∧ BulkIs t (bK t s.1) most s.2) (fun s => [(1, .int .i64 most), (2, .pointer (some ⟨b2, 0, none⟩)), (5, .int .i64 s.2), (6, .int .i64 (s.1 : Int))]) (fun s => [TLx t.kids vk VR VK VS, BLx t.sys vs VF VK2]) (fun s => [boxR b2 (tc t vr vk vs) 26]) (fun s => t.kids.length - s.1) ((0, 1 + (t.r.length : Int) + (t.name.size : Int))) (⟨Nat.zero_le _, by unfold BulkIs; rw [bK_zero]; simp only; omega⟩) (by exact ⟨rfl, rfl, rfl, rfl, trivial⟩) ?_ ?_
      · exact fun w hs => hs.less (by simp +contextual)
      · intro ⟨i, n⟩ base0 ⟨hi, hn0⟩ next0
        dsimp only at hi hn0 next0 ⊢
        refine go_seq ?_
        refine go_seq ?_
        refine go_cutS ([(1, .int .i64 most), (2, .pointer (some ⟨b2, 0, none⟩)), (5, .int .i64 n), (6, .int .i64 (i : Int)), (40, .bool (decide ((i : Int) < (t.kids.length : Int)) && decide (n ≤ most)))]) (fun hK => ?_) (fun base => ?_)
        · refine go_region ⟨_, Try.func28⟩ rfl ?_
          refine q0 rfl (o_move ?_)
          refine q0 rfl (o_fa ?_)
          refine q0 rfl (o_ld ?_)
          refine q0 rfl (o_len ?_)
          refine q0 rfl (o_lss ?_)
          refine q0 rfl (o_move ?_)
          refine qI rfl rfl rfl wl_ (fun hg36 => o_move ?_) (fun hg36 => ?_)
          · refine qT rfl rfl rfl (o_move ?_)
            refine qT rfl rfl rfl (o_leq ?_)
            refine q0 rfl (o_pickT ?_)
            refine rg_nil ?_
            exact hK _ ⟨rfl, rfl, rfl, rfl, (by (conv => lhs; whnf); first | (simp_all [Bool.and_assoc]; done) | (simp_all [Bool.and_assoc]; omega)), trivial⟩
          · refine qF rfl rfl rfl ?_
            refine qF rfl rfl rfl ?_
            refine q0 rfl (o_pickF ?_)
            refine rg_nil ?_
            exact hK _ ⟨rfl, rfl, rfl, rfl, (by (conv => lhs; whnf); first | (simp_all [Bool.and_assoc]; done) | (simp_all [Bool.and_assoc]; omega)), trivial⟩
        · refine go_condI (fun h40 => ?_) (fun h40 => ?_)
          · have hlt' : (i : Int) < (t.kids.length : Int) ∧ n ≤ most := by simpa using h40
            have hlt : i < t.kids.length := by omega
            obtain ⟨bk, o, hav⟩ := hA1 (by omega)
            refine go_kid (ts := t.kids) (a := vk) i hlt ?_
            obtain ⟨hz1, hz2, hz3⟩ := hn0
            refine go_skip ?_
            refine go_seq ?_
            refine go_block ?_
            refine go_region ⟨_, Try.func28⟩ rfl ?_
            refine q0 rfl (o_move ?_)
            refine q0 rfl (o_fa ?_)
            refine q0 rfl (o_ld ?_)
            refine q0 rfl (o_move ?_)
            refine q0 rfl (o_ixN ?_)
            refine q0 rfl (o_ldT ?_)
            refine q0 rfl (o_move ?_)
            refine q0 rfl (o_move ?_)
            refine q0 rfl (o_sub ?_)
            refine q0 rfl (o_call Try.call28 (ih (t.kids.getD i t0, _, _) (parts_mem (parts_kid t i hlt)) (most - n) _ _ _ (by omega) (by omega)) (fun x52 => ?_))
            have hx := x52.2
            unfold BulkIs at hx
            refine q0 rfl (o_add ?_)
            refine q0 rfl (o_assign ?_)
            refine rg_nil ?_
            refine go_inBlock ?_
            refine go_region ⟨_, Try.func28⟩ rfl ?_
            refine q0 rfl (o_move ?_)
            refine q0 rfl (o_add ?_)
            refine q0 rfl (o_assign ?_)
            refine rg_nil ?_
            have hnn : BulkIs t (bK t (i + 1)) most (n + x52.1) := by (have h9 := bK_le t (i + 1); rw [bK_succ hlt] at h9 ⊢; unfold BulkIs; simp only at hx; omega)
            refine go_state (fun w hs => ?_) (next0 (i + 1, n + x52.1) _ ⟨hlt, hnn⟩ (by simp only; omega) ⟨rfl, rfl, rfl, rfl, trivial⟩)
            exact (hs.less (by simp +contextual))
          · have hge : ¬ ((i : Int) < (t.kids.length : Int) ∧ n ≤ most) := by simpa using h40
            have hnS : BulkIs t (bS t 0) most n := by (unfold BulkIs at hn0 ⊢; rw [bS_zero]; have h9 := bK_le t t.kids.length; rcases Nat.lt_or_ge i t.kids.length with h | h; omega; rw [show i = t.kids.length by omega] at hn0; exact hn0)
            refine go_exit rfl ?_
            refine go_seq ?_
            refine go_seq ?_
            refine go_region ⟨_, Try.func28⟩ rfl ?_
            refine q0 rfl (o_assign ?_)
            refine rg_nil ?_
            refine go_block ?_
            refine go_loopI (X := Nat × Int) (fun s => s.1 ≤ t.sys.length ∧ BulkIs t (bS t s.1) most s.2) (fun s => [(1, .int .i64 most), (2, .pointer (some ⟨b2, 0, none⟩)), (5, .int .i64 s.2), (7, .int .i64 (s.1 : Int))]) (fun s => [TLx t.kids vk VR VK VS, BLx t.sys vs VF VK2]) (fun s => [boxR b2 (tc t vr vk vs) 26]) (fun s => t.sys.length - s.1) ((0, n)) (⟨Nat.zero_le _, hnS⟩) (by exact ⟨rfl, rfl, rfl, rfl, trivial⟩) ?_ ?_
            · exact fun w hs => hs.less (by simp +contextual)
            · intro ⟨i2, n⟩ base1 ⟨hi2, hn2⟩ next1
              dsimp only at hi2 hn2 next1 ⊢
              refine go_seq ?_
              refine go_seq ?_
              refine go_cutS ([(1, .int .i64 most), (2, .pointer (some ⟨b2, 0, none⟩)), (5, .int .i64 n), (7, .int .i64 (i2 : Int)), (63, .bool (decide ((i2 : Int) < (t.sys.length : Int)) && decide (n ≤ most)))]) (fun hK => ?_) (fun base => ?_)
              · refine go_region ⟨_, Try.func28⟩ rfl ?_
                refine q0 rfl (o_move ?_)
                refine q0 rfl (o_fa ?_)
                refine q0 rfl (o_ld ?_)
                refine q0 rfl (o_len ?_)
                refine q0 rfl (o_lss ?_)
                refine q0 rfl (o_move ?_)
                refine qI rfl rfl rfl wl_ (fun hg59 => o_move ?_) (fun hg59 => ?_)
                · refine qT rfl rfl rfl (o_move ?_)
                  refine qT rfl rfl rfl (o_leq ?_)
                  refine q0 rfl (o_pickT ?_)
                  refine rg_nil ?_
                  exact hK _ ⟨rfl, rfl, rfl, rfl, (by (conv => lhs; whnf); first | (simp_all [Bool.and_assoc]; done) | (simp_all [Bool.and_assoc]; omega)), trivial⟩
                · refine qF rfl rfl rfl ?_
                  refine qF rfl rfl rfl ?_
                  refine q0 rfl (o_pickF ?_)
                  refine rg_nil ?_
                  exact hK _ ⟨rfl, rfl, rfl, rfl, (by (conv => lhs; whnf); first | (simp_all [Bool.and_assoc]; done) | (simp_all [Bool.and_assoc]; omega)), trivial⟩
              · refine go_condI (fun h63 => ?_) (fun h63 => ?_)
                · have hlt' : (i2 : Int) < (t.sys.length : Int) ∧ n ≤ most := by simpa using h63
                  have hlt2 : i2 < t.sys.length := by omega
                  obtain ⟨bk2, o2, hav2⟩ := hA2 (by omega)
                  refine go_branch (bs := t.sys) (a := vs) i2 hlt2 ?_
                  refine go_openCL (l := (t.sys.getD i2 br0).face) (a := VF i2) (fun hlf hAf hUf => ?_)
                  refine go_openTL (ts := (t.sys.getD i2 br0).kids) (a := VK2 i2) (fun VR3 VK3 VS3 hl3 hA3 => ?_)
                  obtain ⟨hz1, hz2, hz3⟩ := hn2
                  have hj0 := bJ_le (j := 0) hlt2
                  rw [bJ_zero] at hj0
                  refine go_skip ?_
                  refine go_seq ?_
                  refine go_block ?_
                  refine go_seq ?_
                  refine go_seq ?_
                  refine go_region ⟨_, Try.func28⟩ rfl ?_
                  refine q0 rfl (o_fa ?_)
                  refine q0 rfl (o_ld ?_)
                  refine q0 rfl (o_move ?_)
                  refine q0 rfl (o_ixN ?_)
                  refine q0 rfl (o_fa ?_)
                  refine q0 rfl (o_ldBf ?_)
                  refine q0 rfl (o_len ?_)
                  refine q0 rfl (o_move ?_)
                  refine q0 rfl (o_gtr ?_)
                  refine rg_nil ?_
                  refine go_condI (fun h74 => ?_) (fun h74 => ?_)
                  · have hbf := of_decide_eq_true h74
                    refine go_seq ?_
                    refine go_region ⟨_, Try.func28⟩ rfl ?_
                    refine q0 rfl (o_move ?_)
                    refine q0 rfl (o_add ?_)
                    refine q0 rfl (o_assign ?_)
                    refine rg_nil ?_
                    refine ret1 Try.func28 Try.results28 wn_ ⟨most + 1, by unfold BulkIs; omega⟩ rfl (fun w hs => hs.none)
                  · have hbf := of_decide_eq_false h74
                    refine go_skip ?_
                    refine go_seq ?_
                    refine go_region ⟨_, Try.func28⟩ rfl ?_
                    refine q0 rfl (o_move ?_)
                    refine q0 rfl (o_add ?_)
                    refine q0 rfl (o_fa ?_)
                    refine q0 rfl (o_ld ?_)
                    refine q0 rfl (o_move ?_)
                    refine q0 rfl (o_ixN ?_)
                    refine q0 rfl (o_fa ?_)
                    refine q0 rfl (o_ldBf ?_)
                    refine q0 rfl (o_len ?_)
                    refine q0 rfl (o_add ?_)
                    refine q0 rfl (o_assign ?_)
                    refine rg_nil ?_
                    refine go_seq ?_
                    refine go_region ⟨_, Try.func28⟩ rfl ?_
                    refine q0 rfl (o_assign ?_)
                    refine rg_nil ?_
                    refine go_block ?_
                    refine go_loopI (X := Nat × Int) (fun s => s.1 ≤ (t.sys.getD i2 br0).kids.length ∧ BulkIs t (bJ t i2 s.1) most s.2) (fun s => [(1, .int .i64 most), (2, .pointer (some ⟨b2, 0, none⟩)), (5, .int .i64 s.2), (7, .int .i64 (i2 : Int)), (8, .int .i64 (s.1 : Int))]) (fun s => TLx (t.sys.getD i2 br0).kids (VK2 i2) VR3 VK3 VS3 :: [TLx t.kids vk VR VK VS, BLx t.sys vs VF VK2]) (fun s => [boxR b2 (tc t vr vk vs) 26]) (fun s => (t.sys.getD i2 br0).kids.length - s.1) ((0, n + 1 + ((t.sys.getD i2 br0).face.length : Int))) (⟨Nat.zero_le _, by (unfold BulkIs; rw [bJ_zero]; simp only; omega)⟩) (by exact ⟨rfl, rfl, rfl, rfl, rfl, trivial⟩) ?_ ?_
                    · exact fun w hs => hs.less (by simp +contextual)
                    · intro ⟨j, n⟩ base2 ⟨hj, hn3⟩ next2
                      dsimp only at hj hn3 next2 ⊢
                      refine go_seq ?_
                      refine go_seq ?_
                      refine go_cutS ([(1, .int .i64 most), (2, .pointer (some ⟨b2, 0, none⟩)), (5, .int .i64 n), (7, .int .i64 (i2 : Int)), (8, .int .i64 (j : Int)), (100, .bool (decide ((j : Int) < ((t.sys.getD i2 br0).kids.length : Int)) && decide (n ≤ most)))]) (fun hK => ?_) (fun base => ?_)
                      · refine go_region ⟨_, Try.func28⟩ rfl ?_
                        refine q0 rfl (o_move ?_)
                        refine q0 rfl (o_fa ?_)
                        refine q0 rfl (o_ld ?_)
                        refine q0 rfl (o_move ?_)
                        refine q0 rfl (o_ixN ?_)
                        refine q0 rfl (o_fa ?_)
                        refine q0 rfl (o_ldBf ?_)
                        refine q0 rfl (o_len ?_)
                        refine q0 rfl (o_lss ?_)
                        refine q0 rfl (o_move ?_)
                        refine qI rfl rfl rfl wl_ (fun hg96 => o_move ?_) (fun hg96 => ?_)
                        · refine qT rfl rfl rfl (o_move ?_)
                          refine qT rfl rfl rfl (o_leq ?_)
                          refine q0 rfl (o_pickT ?_)
                          refine rg_nil ?_
                          exact hK _ ⟨rfl, rfl, rfl, rfl, rfl, (by (conv => lhs; whnf); first | (simp_all [Bool.and_assoc]; done) | (simp_all [Bool.and_assoc]; omega)), trivial⟩
                        · refine qF rfl rfl rfl ?_
                          refine qF rfl rfl rfl ?_
                          refine q0 rfl (o_pickF ?_)
                          refine rg_nil ?_
                          exact hK _ ⟨rfl, rfl, rfl, rfl, rfl, (by (conv => lhs; whnf); first | (simp_all [Bool.and_assoc]; done) | (simp_all [Bool.and_assoc]; omega)), trivial⟩
                      · refine go_condI (fun h100 => ?_) (fun h100 => ?_)
                        · have hlt3' : (j : Int) < ((t.sys.getD i2 br0).kids.length : Int) ∧ n ≤ most := by simpa using h100
                          have hlt3 : j < (t.sys.getD i2 br0).kids.length := by omega
                          obtain ⟨bk3, o3, hav3⟩ := hA3 (by omega)
                          refine go_kid (ts := (t.sys.getD i2 br0).kids) (a := VK2 i2) j hlt3 ?_
                          obtain ⟨hy1, hy2, hy3⟩ := hn3
                          refine go_skip ?_
                          refine go_seq ?_
                          refine go_block ?_
                          refine go_region ⟨_, Try.func28⟩ rfl ?_
                          refine q0 rfl (o_move ?_)
                          refine q0 rfl (o_fa ?_)
                          refine q0 rfl (o_ld ?_)
                          refine q0 rfl (o_move ?_)
                          refine q0 rfl (o_ixN ?_)
                          refine q0 rfl (o_fa ?_)
                          refine q0 rfl (o_ldBf ?_)
                          refine q0 rfl (o_move ?_)
                          refine q0 rfl (o_ixN ?_)
                          refine q0 rfl (o_ldT ?_)
                          refine q0 rfl (o_move ?_)
                          refine q0 rfl (o_move ?_)
                          refine q0 rfl (o_sub ?_)
                          refine q0 rfl (o_call Try.call28 (ih ((t.sys.getD i2 br0).kids.getD j t0, _, _) (parts_mem (parts_sys t i2 j hlt2 hlt3)) (most - n) _ _ _ (by omega) (by omega)) (fun x116 => ?_))
                          have hx := x116.2
                          unfold BulkIs at hx
                          refine q0 rfl (o_add ?_)
                          refine q0 rfl (o_assign ?_)
                          refine rg_nil ?_
                          refine go_inBlock ?_
                          refine go_region ⟨_, Try.func28⟩ rfl ?_
                          refine q0 rfl (o_move ?_)
                          refine q0 rfl (o_add ?_)
                          refine q0 rfl (o_assign ?_)
                          refine rg_nil ?_
                          have hnn : BulkIs t (bJ t i2 (j + 1)) most (n + x116.1) := by (have h9 := bJ_le (j := j + 1) hlt2; rw [bJ_succ hlt3] at h9 ⊢; unfold BulkIs; simp only at hx; omega)
                          refine go_state (fun w hs => ?_) (next2 (j + 1, n + x116.1) _ ⟨hlt3, hnn⟩ (by simp only; omega) ⟨rfl, rfl, rfl, rfl, rfl, trivial⟩)
                          exact (hs.less (by simp +contextual))
                        · have hge3 : ¬ ((j : Int) < ((t.sys.getD i2 br0).kids.length : Int) ∧ n ≤ most) := by simpa using h100
                          have hnS2 : BulkIs t (bS t (i2 + 1)) most n := by (unfold BulkIs at hn3 ⊢; rw [bS_succ hlt2]; have h9 := bS_le t (i2 + 1); rw [bS_succ hlt2] at h9; rcases Nat.lt_or_ge j (t.sys.getD i2 br0).kids.length with h | h; omega; rw [show j = (t.sys.getD i2 br0).kids.length by omega] at hn3; exact hn3)
                          refine go_exit rfl ?_
                          refine go_inBlock ?_
                          refine go_region ⟨_, Try.func28⟩ rfl ?_
                          refine q0 rfl (o_move ?_)
                          refine q0 rfl (o_add ?_)
                          refine q0 rfl (o_assign ?_)
                          refine rg_nil ?_
                          refine go_state (fun w hs => ?_) (next1 (i2 + 1, n) _ ⟨hlt2, hnS2⟩ (by simp only; omega) ⟨rfl, rfl, rfl, rfl, trivial⟩)
                          exact (hs.less (by simp +contextual))
                · have hge2 : ¬ ((i2 : Int) < (t.sys.length : Int) ∧ n ≤ most) := by simpa using h63
                  have hfin : BulkIs t (bulk t) most n := by (unfold BulkIs at hn2 ⊢; rcases Nat.lt_or_ge i2 t.sys.length with h | h; omega; rw [show i2 = t.sys.length by omega, bS_all] at hn2; exact hn2)
                  refine go_exit rfl ?_
                  refine go_seq ?_
                  refine go_region ⟨_, Try.func28⟩ rfl ?_
                  refine q0 rfl (o_move ?_)
                  refine q0 rfl (o_assign ?_)
                  refine rg_nil ?_
                  refine ret1 Try.func28 Try.results28 wn_ ⟨n, hfin⟩ rfl (fun w hs => hs.none)
theorem bulk_spec : ∀ t : T, BulkAt t := T.ind fun t ih most vr vk vs h0 hm => bulk_walk t ih most vr vk vs h0 hm
end Go.Hy
namespace Go.Hy
set_option linter.unusedVariables false
set_option linter.unusedSimpArgs false
set_option linter.unusedSectionVars false
open Go.Proofs
set_option linter.unusedVariables false
set_option linter.unusedSimpArgs false
set_option maxRecDepth 100000
theorem liftVarsF (t : T) (vr vk vs : SH) (f b : Int) (ha : in64 f) (hb : in64 b) (hz : size t ≤ 1152921504606846) : Spec Try.prog 14 #[.agg (tc t vr vk vs).toArray, .int .i64 f, .int .i64 b] [RT t vr vk vs] [] (fun x : SH × SH × SH => .tuple #[.agg (tc (varsRes t f b).2 x.1 x.2.1 x.2.2).toArray, .int .i64 (varsRes t f b).1]) (fun x => [RT (varsRes t f b).2 x.1 x.2.1 x.2.2]) (fun _ => []) :=
  Spec.settleT tys (fun v => .tuple #[v, .int .i64 (varsRes t f b).1]) (vars_spec t vr vk vs f b ha hb hz) (fun ok w hs => vars_okT hb (ok_of (hs.facts _ List.mem_cons_self)))
end Go.Hy
namespace Go.Hy
set_option linter.unusedVariables false
set_option linter.unusedSimpArgs false
set_option linter.unusedSectionVars false
open Go.Proofs
set_option linter.unusedVariables false
set_option linter.unusedSimpArgs false
set_option maxRecDepth 100000
theorem liftVarsH (t : T) (vr vk vs : SH) (f b : Int) (ha : in64 f) (hb : in64 b) (hz : size t ≤ 1152921504606846) : Spec Try.prog 14 #[.agg (tc t vr vk vs).toArray, .int .i64 f, .int .i64 b] [RT t vr vk vs] [] (fun x : {x : (Int × T) × (SH × SH × SH) // x.1 = varsRes t f b} => .tuple #[.agg (tc x.1.1.2 x.1.2.1 x.1.2.2.1 x.1.2.2.2).toArray, .int .i64 x.1.1.1]) (fun x => [RT x.1.1.2 x.1.2.1 x.1.2.2.1 x.1.2.2.2]) (fun _ => []) :=
  Spec.hide (varsRes t f b) (val := fun (r : Int × T) (x : SH × SH × SH) => .tuple #[.agg (tc r.2 x.1 x.2.1 x.2.2).toArray, .int .i64 r.1]) (N := fun (r : Int × T) (x : SH × SH × SH) => [RT r.2 x.1 x.2.1 x.2.2]) (Ms1 := fun _ _ => []) (liftVarsF t vr vk vs f b ha hb hz)
end Go.Hy
namespace Go.Hy
set_option linter.unusedVariables false
set_option linter.unusedSimpArgs false
set_option linter.unusedSectionVars false
open Go.Proofs
set_option linter.unusedVariables false
set_option linter.unusedSimpArgs false
set_option maxRecDepth 100000
theorem ctxRight_spec (ts : List T) (a_ts : SH) (d : Int) (hd : in64 d) (hz : ∀ t, t ∈ ts → size t ≤ 1152921504606846) : Spec Try.prog 45 #[.agg ([sl a_ts (ts.length), .int .i64 (d)] : List Value).toArray] [TL ts a_ts] [] (fun _ : Unit => .int .i64 (ctxRight ts d)) (fun _ : Unit => []) (fun _ : Unit => []) := by
  refine spec_go (args := [.agg ([sl a_ts (ts.length), .int .i64 (d)] : List Value).toArray]) Try.func45 Try.ntmps45 rfl (by exact Nat.le_of_ble_eq_true rfl) fun B hB => ?_
  refine go_seq ?_
  refine go_region ⟨_, Try.func45⟩ rfl ?_
  refine q0 rfl (o_box fun b1 => ?_)
  refine q0 rfl (o_assign ?_)
  refine rg_nil ?_
  refine go_seq ?_
  refine go_block ?_
  refine go_seq ?_
  refine go_cutS ([(1, .pointer (some ⟨b1, 0, none⟩)), (6, .bool ((decide (d < 0)) || (decide (24 < d))))]) (fun hK => ?_) (fun base => ?_)
  · refine go_region ⟨_, Try.func45⟩ rfl ?_
    refine q0 rfl (o_fa ?_)
    refine q0 rfl (o_ld ?_)
    refine q0 rfl (o_lss ?_)
    refine q0 rfl (o_move ?_)
    refine qI rfl rfl rfl wl_ (fun hg10 => ?_) (fun hg10 => ?_)
    · have g10 : (decide (d < 0)) = false := hg10
      try simp only [sC, bne_iff_ne, beq_iff_eq, ne_eq] at g10
      refine o_fa ?_
      refine qT rfl rfl rfl (o_ld ?_)
      refine qT rfl rfl rfl (o_gtr ?_)
      refine q0 rfl (o_pickF ?_)
      refine q0 rfl (o_assign ?_)
      refine rg_nil ?_
      exact hK _ ⟨rfl, dn_, trivial⟩
    · have g10 : (decide (d < 0)) = true := hg10
      try simp only [sC, bne_iff_ne, beq_iff_eq, ne_eq] at g10
      refine qF rfl rfl rfl ?_
      refine qF rfl rfl rfl ?_
      refine q0 rfl (o_pickT ?_)
      refine q0 rfl (o_assign ?_)
      refine rg_nil ?_
      exact hK _ ⟨rfl, dn_, trivial⟩
  · refine go_condI (fun h6 => ?_) (fun h6 => ?_)
    · have c6 : ((decide (d < 0)) || (decide (24 < d))) = true := h6
      try simp only [sC, bne_iff_ne, beq_iff_eq, ne_eq] at c6
      have hg : ctxRight ts d = 2 := (by unfold ctxRight; rw [if_pos (by have h9 := h6; simp at h9; omega)])
      refine go_seq ?_
      refine go_region ⟨_, Try.func45⟩ rfl ?_
      refine q0 rfl (o_assign ?_)
      refine rg_nil ?_
      refine ret1 Try.func45 Try.results45 wn_ () (by rw [hg]) (fun w hs => hs.none)
    · have c6 : ((decide (d < 0)) || (decide (24 < d))) = false := h6
      try simp only [sC, bne_iff_ne, beq_iff_eq, ne_eq] at c6
      have hdd : 0 ≤ d ∧ d ≤ 24 := (by have h9 := h6; simp at h9; omega)
      refine go_seq ?_
      refine go_region ⟨_, Try.func45⟩ rfl ?_
      refine q0 rfl (o_fa ?_)
      refine q0 rfl (o_ld ?_)
      refine q0 rfl (o_len ?_)
      refine q0 rfl (o_gtr ?_)
      refine q0 rfl (o_assign ?_)
      refine rg_nil ?_
      refine go_condI (fun h15 => ?_) (fun h15 => ?_)
      · have c15 : (decide (200 < (ts.length : Int))) = true := h15
        try simp only [sC, bne_iff_ne, beq_iff_eq, ne_eq] at c15
        have hg : ctxRight ts d = 62 := (by unfold ctxRight; rw [if_neg (by omega), if_pos (by have h9 := h15; simp at h9; omega)])
        refine go_seq ?_
        refine go_region ⟨_, Try.func45⟩ rfl ?_
        refine q0 rfl (o_assign ?_)
        refine rg_nil ?_
        refine ret1 Try.func45 Try.results45 wn_ () (by rw [hg]) (fun w hs => hs.none)
      · have c15 : (decide (200 < (ts.length : Int))) = false := h15
        try simp only [sC, bne_iff_ne, beq_iff_eq, ne_eq] at c15
        have hll : ts.length ≤ 200 := (by have h9 := h15; simp at h9; omega)
        have hg0 : ctxRight ts d = ctxErr d ts := (by unfold ctxRight; rw [if_neg (by omega), if_neg (by omega)])
        refine go_skip ?_
        refine go_inBlock ?_
        refine go_seq ?_
        refine go_seq ?_
        refine go_openTL (ts := ts) (a := a_ts) (fun VR1 VK1 VS1 hl1 hA1 => ?_)
        refine go_region ⟨_, Try.func45⟩ rfl ?_
        refine q0 rfl (o_fa ?_)
        refine q0 rfl (o_ld ?_)
        refine q0 rfl (o_len ?_)
        refine q0 rfl (o_move ?_)
        refine rg_nil ?_
        refine go_block ?_
        refine go_loopE (X := Nat) (fun s_ => s_ ≤ ts.length ∧ ∀ j, j < s_ → rightP (ts.getD j t0) ((ts.length : Int) - 1 - j) d = 0) (fun s_ => [(1, .pointer (some ⟨b1, 0, none⟩)), (21, sl a_ts (ts.length)), (22, .int .i64 ((ts.length : Int))), (23, .int .i64 ((s_ : Int)))]) (fun s_ G_ => G_) (fun s_ => [boxR b1 [sl a_ts (ts.length), .int .i64 (d)] 44]) (fun s_ => ts.length - s_) (0) (⟨Nat.zero_le _, fun j hj => absurd hj (Nat.not_lt_zero _)⟩) (by exact ⟨rfl, rfl, rfl, rfl, trivial⟩) ?_ ?_
        · exact fun w hs => hs
        · intro i base0 ⟨hi, hok⟩ next0
          refine go_seq ?_
          refine go_region ⟨_, Try.func45⟩ rfl ?_
          refine q0 rfl (o_lss ?_)
          refine rg_nil ?_
          refine go_seq ?_
          refine go_condI (fun h24 => ?_) (fun h24 => ?_)
          · have c24 : (decide ((i : Int) < (ts.length : Int))) = true := h24
            try simp only [sC, bne_iff_ne, beq_iff_eq, ne_eq] at c24
            have hzt := hz _ (getD_mem (d := t0) (show i < ts.length by omega))
            refine go_skip ?_
            refine go_seq ?_
            refine go_block ?_
            refine go_seq ?_
            refine go_kid (ts := ts) (a := a_ts) (VR := VR1) (VK := VK1) (VS := VS1) i (by (first | assumption | omega)) ?_
            refine go_region ⟨_, Try.func45⟩ rfl ?_
            refine q0 rfl (o_move ?_)
            obtain ⟨bk2, o2, hav2⟩ := hA1 (by (first | assumption | omega))
            refine q0 rfl (o_ixN ?_ (j := i))
            refine q0 rfl (o_ldT ?_)
            refine q0 rfl (o_new fun b4 => ?_)
            refine q0 rfl (o_assign ?_)
            refine q0 rfl (o_st ?_)
            refine rg_nil ?_
            refine go_seq ?_
            refine go_region ⟨_, Try.func45⟩ rfl ?_
            refine q0 rfl (o_lds ?_)
            refine q0 rfl (o_fa ?_)
            refine q0 rfl (o_ld ?_)
            refine q0 rfl (o_len ?_)
            refine q0 rfl (o_sub ?_)
            refine q0 rfl (o_move ?_)
            refine q0 rfl (o_sub ?_)
            refine q0 rfl (o_fa ?_)
            refine q0 rfl (o_ld ?_)
            refine q0 rfl (o_call Try.call16 (right_spec (ts.getD i t0) (.inr form_spec) (VR1 i) (VK1 i) (VS1 i) (((ts.length : Int) - 1) - (i : Int)) d om_ om_) (fun x37 => ?_))
            refine q0 rfl (o_assign ?_)
            refine rg_nil ?_
            refine go_seq ?_
            refine go_region ⟨_, Try.func45⟩ rfl ?_
            refine q0 rfl (o_move ?_)
            refine q0 rfl (o_neI ?_)
            refine rg_nil ?_
            refine go_condI (fun h39 => ?_) (fun h39 => ?_)
            · have c39 : (decide ((rightP (ts.getD i t0) (((ts.length : Int) - 1) - (i : Int)) d) ≠ 0)) = true := h39
              try simp only [sC, bne_iff_ne, beq_iff_eq, ne_eq] at c39
              have hg : ctxRight ts d = rightP (ts.getD i t0) ((ts.length : Int) - 1 - i) d := (by rw [hg0]; exact ctxErr_bad (by omega) hok (by simpa using h39))
              refine go_seq ?_
              refine go_region ⟨_, Try.func45⟩ rfl ?_
              refine q0 rfl (o_move ?_)
              refine q0 rfl (o_assign ?_)
              refine rg_nil ?_
              refine ret1 Try.func45 Try.results45 wn_ () (by rw [hg]) (fun w hs => hs.none)
            · have c39 : (decide ((rightP (ts.getD i t0) (((ts.length : Int) - 1) - (i : Int)) d) ≠ 0)) = false := h39
              try simp only [sC, bne_iff_ne, beq_iff_eq, ne_eq] at c39
              refine go_skip ?_
              refine go_inBlock ?_
              refine go_region ⟨_, Try.func45⟩ rfl ?_
              refine q0 rfl (o_add ?_)
              refine q0 rfl (o_move ?_)
              refine rg_nil ?_
              refine go_state (fun w hs => ?_) (next0 (i + 1) _ (⟨by omega, fun j hj => by rcases Nat.lt_succ_iff_lt_or_eq.mp hj with h | h; exact hok j h; subst h; simpa using h39⟩) (by omega) ⟨rfl, rfl, rfl, rfl, trivial⟩)
              exact (((hs.less (by simp +contextual)).perm perm1).dropR (A := [_]))
          · have c24 : (decide ((i : Int) < (ts.length : Int))) = false := h24
            try simp only [sC, bne_iff_ne, beq_iff_eq, ne_eq] at c24
            have hg : ctxRight ts d = 0 := (by rw [hg0]; exact ctxErr_ok.mp (fun j hj => hok j (by omega)))
            refine go_exit rfl ?_
            refine go_seq ?_
            refine go_region ⟨_, Try.func45⟩ rfl ?_
            refine q0 rfl (o_assign ?_)
            refine rg_nil ?_
            refine ret1 Try.func45 Try.results45 wn_ () (by rw [hg]) (fun w hs => hs.none)
theorem eachF_spec (ts : List T) (a_ts : SH) (d : Int) (c9 : FuncId) (r : T → Int × T) (hcall9 : ∀ (args : Array Value) (w : World), (callFunc c9 args).run Try.prog w = .ok (.enter c9 args) w) (hdo : ∀ t, t ∈ ts → ∀ (vr vk vs : SH), Spec Try.prog c9 #[.agg (tc t vr vk vs).toArray] [RT t vr vk vs] [] (fun x : SH × SH × SH => .tuple #[.agg (tc (r t).2 x.1 x.2.1 x.2.2).toArray, .int .i64 (r t).1]) (fun x => [RT (r t).2 x.1 x.2.1 x.2.2]) (fun _ => [])) (hlen : ts.length ≤ 1000) : Spec Try.prog 46 #[.agg ([sl a_ts (ts.length), .int .i64 (d)] : List Value).toArray, .func (.func c9) #[] #[]] [TL ts a_ts] [] (fun x : SH => .tuple #[.agg #[sl x (eachR r ts).2.length, .int .i64 (if (eachR r ts).1 = 0 then d else 0)], .int .i64 (eachR r ts).1]) (fun x : SH => [TL (eachR r ts).2 x]) (fun x : SH => []) := by
  refine spec_go (args := [.agg ([sl a_ts (ts.length), .int .i64 (d)] : List Value).toArray, .func (.func c9) #[] #[]]) Try.func46 Try.ntmps46 rfl (by exact Nat.le_of_ble_eq_true rfl) fun B hB => ?_
  refine go_seq ?_
  refine go_region ⟨_, Try.func46⟩ rfl ?_
  refine q0 rfl (o_box fun b2 => ?_)
  refine q0 rfl (o_new fun b4 => ?_)
  refine q0 rfl (o_assign ?_)
  refine rg_nil ?_
  refine go_seq ?_
  refine go_region ⟨_, Try.func46⟩ rfl ?_
  refine q0 rfl (o_fa ?_)
  refine q0 rfl (o_ld ?_)
  refine q0 rfl (o_build (cs := [sl (none, 0) (0), .int .i64 (d)]) ?_)
  refine q0 rfl (o_new fun b6 => ?_)
  refine q0 rfl (o_st ?_)
  refine rg_nil ?_
  refine go_seq ?_
  refine go_seq ?_
  refine go_openTL (ts := ts) (a := a_ts) (fun VR1 VK1 VS1 hl1 hA1 => ?_)
  refine go_region ⟨_, Try.func46⟩ rfl ?_
  refine q0 rfl (o_fa ?_)
  refine q0 rfl (o_ld ?_)
  refine q0 rfl (o_len ?_)
  refine q0 rfl (o_move ?_)
  refine rg_nil ?_
  refine go_block ?_
  refine go_loopE (X := Nat × SH × List TP) (fun s_ => s_.1 ≤ ts.length ∧ (∀ j, j < s_.1 → (r (ts.getD j t0)).1 = 0) ∧ s_.2.2.map (·.1) = (ts.take s_.1).map (fun t => (r t).2)) (fun s_ => [(1, .func (.func c9) #[] #[]), (4, .pointer (some ⟨b4, 0, none⟩)), (6, .pointer (some ⟨b6, 0, none⟩)), (15, sl a_ts (ts.length)), (16, .int .i64 ((ts.length : Int))), (17, .int .i64 ((s_.1 : Int)))]) (fun s_ G_ => AP s_.2.2 :: G_) (fun s_ => [rowS 6 26 s_.2.1 (s_.1) (tpFlat s_.2.2), boxR b6 [sl s_.2.1 (s_.1), .int .i64 (d)] 44, boxR b4 [sl (none, 0) (0), .int .i64 (0)] 44, boxR b2 [sl a_ts (ts.length), .int .i64 (d)] 44]) (fun s_ => ts.length - s_.1) (0, (none, 0), []) (⟨Nat.zero_le _, fun j hj => absurd hj (Nat.not_lt_zero _), rfl⟩) (by exact ⟨rfl, rfl, rfl, rfl, rfl, rfl, trivial⟩) ?_ ?_
  · exact fun w hs => ((hs.rowS0 6 26).apNil)
  · intro ⟨i, a, ps⟩ base0 ⟨hi, hok, hps⟩ next0
    dsimp only at  hi  hok  hps  next0 ⊢
    refine go_seq ?_
    refine go_region ⟨_, Try.func46⟩ rfl ?_
    refine q0 rfl (o_lss ?_)
    refine rg_nil ?_
    refine go_seq ?_
    refine go_condI (fun h18 => ?_) (fun h18 => ?_)
    · have c18 : (decide ((i : Int) < (ts.length : Int))) = true := h18
      try simp only [sC, bne_iff_ne, beq_iff_eq, ne_eq] at c18
      refine go_skip ?_
      refine go_seq ?_
      refine go_block ?_
      refine go_seq ?_
      refine go_kid (ts := ts) (a := a_ts) (VR := VR1) (VK := VK1) (VS := VS1) i (by (first | assumption | omega)) ?_
      refine go_region ⟨_, Try.func46⟩ rfl ?_
      obtain ⟨bk2, o2, hav2⟩ := hA1 (by (first | assumption | omega))
      refine q0 rfl (o_ixN ?_ (j := i))
      refine q0 rfl (o_ldT ?_)
      refine q0 rfl (o_new fun b8 => ?_)
      refine q0 rfl (o_st ?_)
      refine rg_nil ?_
      refine go_seq ?_
      refine go_region ⟨_, Try.func46⟩ rfl ?_
      refine q0 rfl (o_move ?_)
      refine q0 rfl (o_lds ?_)
      refine q0 rfl (o_callC hcall9 (hdo _ (getD_mem (show i < ts.length by omega)) (VR1 i) (VK1 i) (VS1 i)) (cap := []) (fun x24 => ?_))
      refine q0 rfl (o_move ?_)
      refine q0 rfl (o_extract ?_)
      refine q0 rfl (o_extract ?_)
      refine q0 rfl (o_new fun b9 => ?_)
      refine q0 rfl (o_st ?_)
      refine q0 rfl (o_assign ?_)
      refine rg_nil ?_
      refine go_seq ?_
      refine go_seq ?_
      refine go_region ⟨_, Try.func46⟩ rfl ?_
      refine q0 rfl (o_move ?_)
      refine q0 rfl (o_neI ?_)
      refine rg_nil ?_
      refine go_condI (fun h28 => ?_) (fun h28 => ?_)
      · have c28 : (decide (((r (ts.getD i t0)).1) ≠ 0)) = true := h28
        try simp only [sC, bne_iff_ne, beq_iff_eq, ne_eq] at c28
        have hg : (eachR r ts) = ((r (ts.getD i t0)).1, []) := eachR_bad (by omega) hok (by simpa using h28)
        have hne : ¬ (r (ts.getD i t0)).1 = 0 := (by simpa using h28)
        refine go_seq ?_
        refine go_region ⟨_, Try.func46⟩ rfl ?_
        refine q0 rfl (o_build (cs := [sl (none, 0) (0), .int .i64 (0)]) ?_)
        refine q0 rfl (o_move ?_)
        refine q0 rfl (o_st ?_)
        refine q0 rfl (o_assign ?_)
        refine rg_nil ?_
        refine retCT Try.func46 Try.results46 (none, 0) rfl mm_ rfl rfl rfl rfl (by rw [hg]; dsimp only; rw [if_neg hne]; rfl) (fun w hs => by rw [hg]; exact (hs.nilTL 0).bare.less (by simp))
      · have c28 : (decide (((r (ts.getD i t0)).1) ≠ 0)) = false := h28
        try simp only [sC, bne_iff_ne, beq_iff_eq, ne_eq] at c28
        refine go_skip ?_
        refine go_region ⟨_, Try.func46⟩ rfl ?_
        refine q0 rfl (o_fa ?_)
        refine q0 rfl (o_ld ?_)
        refine q0 rfl (o_lds ?_)
        refine q0 rfl (o_lit1 fun b34 => ?_)
        refine q0 rfl (o_appS (fun a35 => ?_) (a := a) (n' := i))
        refine rg_state (fun w hs => ((hs.perm perm1).drop).snocT) ?_
        refine q0 rfl (o_fa ?_)
        refine q0 rfl (o_stc ?_)
        refine rg_nil ?_
        refine go_inBlock ?_
        refine go_region ⟨_, Try.func46⟩ rfl ?_
        refine q0 rfl (o_add ?_)
        refine q0 rfl (o_move ?_)
        refine rg_nil ?_
        refine go_state (fun w hs => ?_) (next0 (i + 1, a35, ps ++ [((r (ts.getD i t0)).2, x24.1, x24.2.1, x24.2.2)]) _ (⟨by omega, fun j hj => by rcases Nat.lt_succ_iff_lt_or_eq.mp hj with h | h; exact hok j h; subst h; simpa using h28, by rw [List.map_append, hps, take_succ_getD (d := t0) (by omega), List.map_append]; rfl⟩) (by (try simp only); omega) ⟨rfl, rfl, rfl, rfl, rfl, rfl, trivial⟩)
        exact (((((((hs.apAdd (ps := ps) (t := (r (ts.getD i t0)).2) (vr := x24.1) (vk := x24.2.1) (vs := x24.2.2) mm_ mm_).less (by simp +contextual)).perm perm5).perm perm5).perm perm2).perm perm3).dropR (A := [_, _, _, _]))
    · have c18 : (decide ((i : Int) < (ts.length : Int))) = false := h18
      try simp only [sC, bne_iff_ne, beq_iff_eq, ne_eq] at c18
      have hie : i = ts.length := by omega
      have hg : (eachR r ts) = (0, ts.map fun t => (r t).2) := eachR_ok (fun j hj => hok j (by omega))
      have hps2 : ps.map (·.1) = ts.map (fun t => (r t).2) := (by rw [hps, hie, List.take_length])
      have hpl : i = ps.length := (by have h9 := congrArg List.length hps2; simp at h9; omega)
      refine go_exit rfl ?_
      refine go_seq ?_
      refine go_region ⟨_, Try.func46⟩ rfl ?_
      refine q0 rfl (o_lds ?_)
      refine q0 rfl (o_st ?_)
      refine q0 rfl (o_assign ?_)
      refine rg_nil ?_
      refine retCT Try.func46 Try.results46 a rfl mm_ rfl rfl rfl rfl (by rw [hg]; dsimp only; rw [if_pos rfl, ← hps2, List.length_map, ← hpl]; rfl) (fun w hs => ?_)
      rw [hg]; dsimp only; rw [← hps2]
      exact ((((((hs.perm perm3).perm perm3).perm perm2).perm perm3).settleTL (ps := ps) (ts := ps.map (·.1)) hB mm_ rfl rfl hpl (by unfold reach at *; omega)).bare.less (by simp))
theorem ctxCopied_spec (t : T) (vr_t vk_t vs_t : SH)  : Spec Try.prog 47 #[.agg (tc t vr_t vk_t vs_t).toArray] [RT t vr_t vk_t vs_t] [] (fun x : SH × SH × SH => .tuple #[.agg (tc t x.1 x.2.1 x.2.2).toArray, .int .i64 0]) (fun x : SH × SH × SH => [RT t x.1 x.2.1 x.2.2]) (fun x : SH × SH × SH => []) := by
  refine spec_go (args := [.agg (tc t vr_t vk_t vs_t).toArray]) Try.func47 Try.ntmps47 rfl (by exact Nat.le_of_ble_eq_true rfl) fun B hB => ?_
  refine go_open (t := t) (vr := vr_t) (vk := vk_t) (vs := vs_t) (fun hk1 hn1 hm1 => ?_)
  refine go_openCL (l := (t).r) (a := vr_t) (fun hl2 hA2 hU2 => ?_)
  refine go_openTL (ts := (t).kids) (a := vk_t) (fun VR3 VK3 VS3 hl3 hA3 => ?_)
  refine go_openBL (bs := (t).sys) (a := vs_t) (fun VF4 VK4 hl4 hA4 => ?_)
  refine go_seq ?_
  refine go_region ⟨_, Try.func47⟩ rfl ?_
  refine q0 rfl (o_box fun b1 => ?_)
  refine q0 rfl (o_new fun b2 => ?_)
  refine q0 rfl (o_assign ?_)
  refine rg_nil ?_
  refine go_seq ?_
  refine go_region ⟨_, Try.func47⟩ rfl ?_
  refine q0 rfl (o_lds ?_)
  refine q0 rfl (o_call Try.call64 (copy_spec t vr_t vk_t vs_t) (fun x5 => ?_))
  refine q0 rfl (o_st ?_)
  refine q0 rfl (o_assign ?_)
  refine rg_nil ?_
  refine retCT Try.func47 Try.results47 x5 rfl mm_ rfl rfl rfl rfl rfl (fun w hs => hs.bare.less (by simp))
theorem ctxDone_spec (ts : List T) (a_ts : SH) (d : Int) (hd : in64 d) (hz : ∀ t, t ∈ ts → size t ≤ 1152921504606846) : Spec Try.prog 48 #[.agg ([sl a_ts (ts.length), .int .i64 (d)] : List Value).toArray] [TL ts a_ts] [] (fun x : SH => .tuple #[.agg #[sl x (doneR9 ts d).2.1.length, .int .i64 (doneR9 ts d).2.2], .int .i64 (doneR9 ts d).1]) (fun x : SH => [TL (doneR9 ts d).2.1 x]) (fun x : SH => []) := by
  refine spec_go (args := [.agg ([sl a_ts (ts.length), .int .i64 (d)] : List Value).toArray]) Try.func48 Try.ntmps48 rfl (by exact Nat.le_of_ble_eq_true rfl) fun B hB => ?_
  refine go_seq ?_
  refine go_region ⟨_, Try.func48⟩ rfl ?_
  refine q0 rfl (o_box fun b1 => ?_)
  refine q0 rfl (o_new fun b2 => ?_)
  refine q0 rfl (o_assign ?_)
  refine rg_nil ?_
  refine go_seq ?_
  refine go_seq ?_
  refine go_region ⟨_, Try.func48⟩ rfl ?_
  refine q0 rfl (o_lds ?_)
  refine q0 rfl (o_call Try.call45 (ctxRight_spec ts a_ts d hd hz) (fun x6 => ?_))
  refine q0 rfl (o_assign ?_)
  refine rg_nil ?_
  refine go_seq ?_
  refine go_region ⟨_, Try.func48⟩ rfl ?_
  refine q0 rfl (o_move ?_)
  refine q0 rfl (o_neI ?_)
  refine rg_nil ?_
  refine go_condI (fun h8 => ?_) (fun h8 => ?_)
  · have c8 : (decide ((ctxRight ts d) ≠ 0)) = true := h8
    try simp only [sC, bne_iff_ne, beq_iff_eq, ne_eq] at c8
    have hg : (doneR9 ts d) = (ctxRight ts d, [], 0) := (by unfold doneR9; rw [if_pos (by simpa using h8)])
    refine go_seq ?_
    refine go_region ⟨_, Try.func48⟩ rfl ?_
    refine q0 rfl (o_build (cs := [sl (none, 0) (0), .int .i64 (0)]) ?_)
    refine q0 rfl (o_move ?_)
    refine q0 rfl (o_st ?_)
    refine q0 rfl (o_assign ?_)
    refine rg_nil ?_
    refine retCT Try.func48 Try.results48 (none, 0) rfl mm_ rfl rfl rfl rfl (by rw [hg]; rfl) (fun w hs => by rw [hg]; exact (hs.nilTL 0).bare.less (by simp))
  · have c8 : (decide ((ctxRight ts d) ≠ 0)) = false := h8
    try simp only [sC, bne_iff_ne, beq_iff_eq, ne_eq] at c8
    have hg : (doneR9 ts d) = (0, ts, d) := (by unfold doneR9; rw [if_neg (by simpa using h8)])
    refine go_skip ?_
    refine go_seq ?_
    refine go_region ⟨_, Try.func48⟩ rfl ?_
    refine q0 rfl (o_lds ?_)
    refine q0 rfl (o_st ?_)
    refine q0 rfl (o_assign ?_)
    refine rg_nil ?_
    refine retCT Try.func48 Try.results48 a_ts rfl mm_ rfl rfl rfl rfl (by rw [hg]; rfl) (fun w hs => by rw [hg]; exact hs.bare.less (by simp))
theorem eachCopy_spec (t : T) (ts : List T) (a : SH) (d : Int) (hlen : ts.length ≤ 200) : Spec Try.prog 46 #[.agg #[sl a (1 + ts.length), .int .i64 d], .func (.func 47) #[] #[]] [TL (t :: ts) a] [] (fun x : SH => .tuple #[.agg #[sl x (t :: ts).length, .int .i64 d], .int .i64 0]) (fun x => [TL (t :: ts) x]) (fun _ => []) := by
  have h := eachF_spec (t :: ts) a d 47 (fun t => (0, t)) Try.call47 (fun t _ vr vk vs => ctxCopied_spec t vr vk vs) (by rw [List.length_cons]; omega)
  rw [eachR_copy] at h
  dsimp only at h
  rw [if_pos rfl] at h
  have e : (t :: ts).length = 1 + ts.length := by rw [List.length_cons, Nat.add_comm]
  have h2 : #[Value.agg #[sl a (t :: ts).length, .int .i64 d], .func (.func 47) #[] #[]] = #[Value.agg #[sl a (1 + ts.length), .int .i64 d], .func (.func 47) #[] #[]] := by rw [e]
  exact h2 ▸ h
theorem ctxPush_spec (ts : List T) (a_ts : SH) (d : Int) (t : T) (vr_t vk_t vs_t : SH) (hd : in64 d) (hz : ∀ t, t ∈ ts → size t ≤ 1152921504606846) (hzt : size t ≤ 1152921504606846) : Spec Try.prog 23 #[.agg ([sl a_ts (ts.length), .int .i64 (d)] : List Value).toArray, .agg (tc t vr_t vk_t vs_t).toArray] [TL ts a_ts, RT t vr_t vk_t vs_t] [] (fun x : SH => .tuple #[.agg #[sl x (pushR ts d t).2.1.length, .int .i64 (pushR ts d t).2.2], .int .i64 (pushR ts d t).1]) (fun x : SH => [TL (pushR ts d t).2.1 x]) (fun x : SH => []) := by
  refine spec_go (args := [.agg ([sl a_ts (ts.length), .int .i64 (d)] : List Value).toArray, .agg (tc t vr_t vk_t vs_t).toArray]) Try.func23 Try.ntmps23 rfl (by exact Nat.le_of_ble_eq_true rfl) fun B hB => ?_
  have hz2 : ∀ u, u ∈ t :: ts → size u ≤ 1152921504606846 := fun u hu => (by rcases List.mem_cons.mp hu with rfl | hu; exact hzt; exact hz u hu)
  refine go_seq ?_
  refine go_region ⟨_, Try.func23⟩ rfl ?_
  refine q0 rfl (o_box fun b2 => ?_)
  refine q0 rfl (o_box fun b3 => ?_)
  refine q0 rfl (o_new fun b4 => ?_)
  refine q0 rfl (o_assign ?_)
  refine rg_nil ?_
  refine go_seq ?_
  refine go_seq ?_
  refine go_region ⟨_, Try.func23⟩ rfl ?_
  refine q0 rfl (o_lds ?_)
  refine q0 rfl (o_call Try.call45 (ctxRight_spec ts a_ts d hd hz) (fun x11 => ?_))
  refine q0 rfl (o_assign ?_)
  refine rg_nil ?_
  refine go_seq ?_
  refine go_region ⟨_, Try.func23⟩ rfl ?_
  refine q0 rfl (o_move ?_)
  refine q0 rfl (o_neI ?_)
  refine rg_nil ?_
  refine go_condI (fun h13 => ?_) (fun h13 => ?_)
  · have c13 : (decide ((ctxRight ts d) ≠ 0)) = true := h13
    try simp only [sC, bne_iff_ne, beq_iff_eq, ne_eq] at c13
    have hg : (pushR ts d t) = (ctxRight ts d, [], 0) := (by unfold pushR; rw [if_pos (by simpa using h13)])
    refine go_seq ?_
    refine go_region ⟨_, Try.func23⟩ rfl ?_
    refine q0 rfl (o_build (cs := [sl (none, 0) (0), .int .i64 (0)]) ?_)
    refine q0 rfl (o_move ?_)
    refine q0 rfl (o_st ?_)
    refine q0 rfl (o_assign ?_)
    refine rg_nil ?_
    refine retCT Try.func23 Try.results23 (none, 0) rfl mm_ rfl rfl rfl rfl (by rw [hg]; rfl) (fun w hs => by rw [hg]; exact (hs.nilTL 0).bare.less (by simp))
  · have c13 : (decide ((ctxRight ts d) ≠ 0)) = false := h13
    try simp only [sC, bne_iff_ne, beq_iff_eq, ne_eq] at c13
    have hc0 : ctxRight ts d = 0 := (by simpa using h13)
    obtain ⟨hc1, hc2, hc3, hc4⟩ := ctxRight_zero.mp hc0
    refine go_skip ?_
    refine go_seq ?_
    refine go_seq ?_
    refine go_region ⟨_, Try.func23⟩ rfl ?_
    refine q0 rfl (o_lds ?_)
    refine q0 rfl (o_fa ?_)
    refine q0 rfl (o_ld ?_)
    refine q0 rfl (o_len ?_)
    refine q0 rfl (o_fa ?_)
    refine q0 rfl (o_ld ?_)
    refine q0 rfl (o_call Try.call16 (right_spec t (.inr form_spec) vr_t vk_t vs_t (ts.length : Int) d om_ om_) (fun x22 => ?_))
    refine q0 rfl (o_assign ?_)
    refine rg_nil ?_
    refine go_seq ?_
    refine go_region ⟨_, Try.func23⟩ rfl ?_
    refine q0 rfl (o_move ?_)
    refine q0 rfl (o_neI ?_)
    refine rg_nil ?_
    refine go_condI (fun h24 => ?_) (fun h24 => ?_)
    · have c24 : (decide ((rightP t (ts.length : Int) d) ≠ 0)) = true := h24
      try simp only [sC, bne_iff_ne, beq_iff_eq, ne_eq] at c24
      have hg : (pushR ts d t) = (rightP t ts.length d, [], 0) := (by unfold pushR; rw [if_neg (by simp [hc0]), if_pos (by simpa using h24)])
      refine go_seq ?_
      refine go_region ⟨_, Try.func23⟩ rfl ?_
      refine q0 rfl (o_build (cs := [sl (none, 0) (0), .int .i64 (0)]) ?_)
      refine q0 rfl (o_move ?_)
      refine q0 rfl (o_st ?_)
      refine q0 rfl (o_assign ?_)
      refine rg_nil ?_
      refine retCT Try.func23 Try.results23 (none, 0) rfl mm_ rfl rfl rfl rfl (by rw [hg]; rfl) (fun w hs => by rw [hg]; exact (hs.nilTL 0).bare.less (by simp))
    · have c24 : (decide ((rightP t (ts.length : Int) d) ≠ 0)) = false := h24
      try simp only [sC, bne_iff_ne, beq_iff_eq, ne_eq] at c24
      have hg : (pushR ts d t) = doneR9 (t :: ts) d := (by unfold pushR; rw [if_neg (by simp [hc0]), if_neg (by simpa using h24)])
      refine go_skip ?_
      refine go_seq ?_
      refine go_state (fun w hs => ((((hs.perm perm1).perm perm1).perm perm2).settleBox hB)) ?_
      refine go_state (fun w hs => ((hs.perm perm1).settleBox hB)) ?_
      refine go_openTL (ts := ts) (a := a_ts) (fun VR1 VK1 VS1 hl1 hA1 => ?_)
      refine go_draw (pn := 1000002) (tn := true) (A := [0, 1, 0, 4, 15, 0, 32, 127, 255, 511, 1023, 1023, 0, 6143, 16383]) (l := [0, 2, 3, 5, 6, 1, 4, 7, 8, 9, 10, 11, 12, 13]) (fin := [14]) Tab.mixed ⟨_, Try.func23⟩ (by rfl) ?_
      refine n0 rfl (f_ldgs ?_)
      refine n0 rfl (v_fa ?_)
      refine n0 rfl (f_ldg ?_)
      refine n0 rfl (v_fa ?_)
      refine n0 rfl (f_ldg ?_)
      refine n0 rfl (v_lit1 fun b29 => ?_)
      refine n0 rfl (w_appNew hB (bt := 104) (b := a_ts) t vr_t vk_t vs_t ts VR1 VK1 VS1 (fun a32 => ?_) (by exact perm0) (by simp) (by simp) (by unfold reach at *; omega) (by unfold reach at *; omega))
      refine n0 rfl (v_build (cs := [sl a32 (1 + ts.length), .int .i64 (d)]) ?_)
      refine n0 rfl (v_call Try.call46 (eachCopy_spec t ts a32 d (by omega)) (fun x36 => ?_))
      refine n0 rfl (v_move ?_)
      refine n0 rfl (v_extract ?_)
      refine n0 rfl (v_extract ?_)
      refine n0 rfl (v_new fun b8 => ?_)
      refine n0 rfl (v_st ?_)
      refine NV.done ?_
      refine q0 rfl (o_assign ?_)
      refine rg_nil ?_
      refine go_seq ?_
      refine go_region ⟨_, Try.func23⟩ rfl ?_
      refine q0 rfl (o_lds ?_)
      refine q0 rfl (o_call Try.call48 (ctxDone_spec (t :: ts) x36 d hd hz2) (fun x40 => ?_))
      refine q0 rfl (o_extract ?_)
      refine q0 rfl (o_extract ?_)
      refine q0 rfl (o_st ?_)
      refine q0 rfl (o_assign ?_)
      refine rg_nil ?_
      refine retCT Try.func23 Try.results23 x40 rfl mm_ rfl rfl rfl rfl (by rw [hg]; rfl) (fun w hs => by rw [hg]; exact hs.bare.less (by simp))
theorem ctxType_spec (ts : List T) (a_ts : SH) (d : Int) (m : Nat) (hd : in64 d) (hz : ∀ t, t ∈ ts → size t ≤ 1152921504606846) (hm : m ≤ 100000) : Spec Try.prog 24 #[.agg ([sl a_ts (ts.length), .int .i64 (d)] : List Value).toArray, .int .i64 ((m : Int))] [TL ts a_ts] [] (fun x : SH × SH × SH => .tuple #[.agg (tc (typeR ts d (m : Int)).2 x.1 x.2.1 x.2.2).toArray, .int .i64 (typeR ts d (m : Int)).1]) (fun x : SH × SH × SH => [RT (typeR ts d (m : Int)).2 x.1 x.2.1 x.2.2]) (fun x : SH × SH × SH => []) := by
  refine spec_go (args := [.agg ([sl a_ts (ts.length), .int .i64 (d)] : List Value).toArray, .int .i64 ((m : Int))]) Try.func24 Try.ntmps24 rfl (by exact Nat.le_of_ble_eq_true rfl) fun B hB => ?_
  refine go_seq ?_
  refine go_region ⟨_, Try.func24⟩ rfl ?_
  refine q0 rfl (o_box fun b2 => ?_)
  refine q0 rfl (o_new fun b4 => ?_)
  refine q0 rfl (o_assign ?_)
  refine rg_nil ?_
  refine go_seq ?_
  refine go_seq ?_
  refine go_region ⟨_, Try.func24⟩ rfl ?_
  refine q0 rfl (o_lds ?_)
  refine q0 rfl (o_call Try.call45 (ctxRight_spec ts a_ts d hd hz) (fun x8 => ?_))
  refine q0 rfl (o_assign ?_)
  refine rg_nil ?_
  refine go_seq ?_
  refine go_region ⟨_, Try.func24⟩ rfl ?_
  refine q0 rfl (o_move ?_)
  refine q0 rfl (o_neI ?_)
  refine rg_nil ?_
  refine go_condI (fun h10 => ?_) (fun h10 => ?_)
  · have c10 : (decide ((ctxRight ts d) ≠ 0)) = true := h10
    try simp only [sC, bne_iff_ne, beq_iff_eq, ne_eq] at c10
    have hg : (typeR ts d (m : Int)) = (ctxRight ts d, t0) := (by unfold typeR; rw [if_pos (by simpa using h10)])
    refine go_seq ?_
    refine go_region ⟨_, Try.func24⟩ rfl ?_
    refine q0 rfl (o_build (cs := [.int .i64 (0), .int .i64 (0), .string ((ByteArray.mk #[])), sl (none, 0) (0), sl (none, 0) (0), sl (none, 0) (0)]) ?_)
    refine q0 rfl (o_move ?_)
    refine q0 rfl (o_st ?_)
    refine q0 rfl (o_assign ?_)
    refine rg_nil ?_
    refine retCT Try.func24 Try.results24 (nul, nul, nul) rfl mm_ rfl rfl rfl rfl (by rw [hg]; rfl) (fun w hs => by rw [hg]; exact hs.bare.zeroRT.less (by simp))
  · have c10 : (decide ((ctxRight ts d) ≠ 0)) = false := h10
    try simp only [sC, bne_iff_ne, beq_iff_eq, ne_eq] at c10
    have hc0 : ctxRight ts d = 0 := (by simpa using h10)
    refine go_skip ?_
    refine go_seq ?_
    refine go_seq ?_
    refine go_cutS ([(1, .int .i64 ((m : Int))), (2, .pointer (some ⟨b2, 0, none⟩)), (4, .pointer (some ⟨b4, 0, none⟩)), (21, .bool ((decide ((m : Int) < 0)) || (decide ((ts.length : Int) ≤ (m : Int)))))]) (fun hK => ?_) (fun base => ?_)
    · refine go_region ⟨_, Try.func24⟩ rfl ?_
      refine q0 rfl (o_move ?_)
      refine q0 rfl (o_lss ?_)
      refine q0 rfl (o_move ?_)
      refine qI rfl rfl rfl wl_ (fun hg15 => ?_) (fun hg15 => ?_)
      · have g15 : (decide ((m : Int) < 0)) = false := hg15
        try simp only [sC, bne_iff_ne, beq_iff_eq, ne_eq] at g15
        refine o_move ?_
        refine qT rfl rfl rfl (o_fa ?_)
        refine qT rfl rfl rfl (o_ld ?_)
        refine qT rfl rfl rfl (o_len ?_)
        refine qT rfl rfl rfl (o_geq ?_)
        refine q0 rfl (o_pickF ?_)
        refine rg_nil ?_
        exact hK _ ⟨rfl, rfl, rfl, dn_, trivial⟩
      · have g15 : (decide ((m : Int) < 0)) = true := hg15
        try simp only [sC, bne_iff_ne, beq_iff_eq, ne_eq] at g15
        refine qF rfl rfl rfl ?_
        refine qF rfl rfl rfl ?_
        refine qF rfl rfl rfl ?_
        refine qF rfl rfl rfl ?_
        refine q0 rfl (o_pickT ?_)
        refine rg_nil ?_
        exact hK _ ⟨rfl, rfl, rfl, dn_, trivial⟩
    · refine go_condI (fun h21 => ?_) (fun h21 => ?_)
      · have c21 : ((decide ((m : Int) < 0)) || (decide ((ts.length : Int) ≤ (m : Int)))) = true := h21
        try simp only [sC, bne_iff_ne, beq_iff_eq, ne_eq] at c21
        have hg : (typeR ts d (m : Int)) = (90, t0) := (by unfold typeR; rw [if_neg (by simp [hc0]), if_pos (by have h9 := h21; simp at h9; omega)])
        refine go_seq ?_
        refine go_region ⟨_, Try.func24⟩ rfl ?_
        refine q0 rfl (o_build (cs := [.int .i64 (0), .int .i64 (0), .string ((ByteArray.mk #[])), sl (none, 0) (0), sl (none, 0) (0), sl (none, 0) (0)]) ?_)
        refine q0 rfl (o_st ?_)
        refine q0 rfl (o_assign ?_)
        refine rg_nil ?_
        refine retCT Try.func24 Try.results24 (nul, nul, nul) rfl mm_ rfl rfl rfl rfl (by rw [hg]; rfl) (fun w hs => by rw [hg]; exact hs.bare.zeroRT.less (by simp))
      · have c21 : ((decide ((m : Int) < 0)) || (decide ((ts.length : Int) ≤ (m : Int)))) = false := h21
        try simp only [sC, bne_iff_ne, beq_iff_eq, ne_eq] at c21
        have hml : m < ts.length := (by have h9 := h21; simp at h9; omega)
        have hg : (typeR ts d (m : Int)) = varsRes (ts.getD m t0) 0 ((m : Int) + 1) := (by unfold typeR; rw [if_neg (by simp [hc0]), if_neg (by omega), Int.toNat_natCast])
        have hzm := hz _ (getD_mem (d := t0) hml)
        refine go_skip ?_
        refine go_seq ?_
        refine go_openTL (ts := ts) (a := a_ts) (fun VR1 VK1 VS1 hl1 hA1 => ?_)
        refine go_kid (ts := ts) (a := a_ts) (VR := VR1) (VK := VK1) (VS := VS1) m (by (first | assumption | omega)) ?_
        refine go_region ⟨_, Try.func24⟩ rfl ?_
        refine q0 rfl (o_fa ?_)
        refine q0 rfl (o_ld ?_)
        refine q0 rfl (o_move ?_)
        obtain ⟨bk2, o2, hav2⟩ := hA1 (by (first | assumption | omega))
        refine q0 rfl (o_ixN ?_ (j := m))
        refine q0 rfl (o_ldT ?_)
        refine q0 rfl (o_move ?_)
        refine q0 rfl (o_add ?_)
        refine q0 rfl (o_call Try.call14 (liftVarsH (ts.getD m t0) (VR1 m) (VK1 m) (VS1 m) 0 ((m : Int) + 1) om_ om_ om_) (fun x30 => ?_))
        refine q0 rfl (o_extract ?_)
        refine q0 rfl (o_extract ?_)
        refine q0 rfl (o_st ?_)
        refine q0 rfl (o_assign ?_)
        refine rg_nil ?_
        rw [← x30.2] at hg
        refine retCT Try.func24 Try.results24 (x30.1.2.1, x30.1.2.2.1, x30.1.2.2.2) rfl mm_ rfl rfl rfl rfl (by rw [hg]; rfl) (fun w hs => by rw [hg]; exact hs.bare.less (by simp))
theorem ctxTypeH (ts : List T) (a_ts : SH) (d : Int) (m : Nat) (hd : in64 d) (hz : ∀ t, t ∈ ts → size t ≤ 1152921504606846) (hm : m ≤ 100000) : Spec Try.prog 24 #[.agg #[sl a_ts ts.length, .int .i64 d], .int .i64 (m : Int)] [TL ts a_ts] [] (fun x : {x : (Int × T) × (SH × SH × SH) // x.1 = typeR ts d (m : Int)} => .tuple #[.agg (tc x.1.1.2 x.1.2.1 x.1.2.2.1 x.1.2.2.2).toArray, .int .i64 x.1.1.1]) (fun x => [RT x.1.1.2 x.1.2.1 x.1.2.2.1 x.1.2.2.2]) (fun _ => []) :=
  Spec.hide (typeR ts d (m : Int)) (val := fun (r : Int × T) (x : SH × SH × SH) => .tuple #[.agg (tc r.2 x.1 x.2.1 x.2.2).toArray, .int .i64 r.1]) (N := fun (r : Int × T) (x : SH × SH × SH) => [RT r.2 x.1 x.2.1 x.2.2]) (Ms1 := fun _ _ => []) (ctxType_spec ts a_ts d m hd hz hm)
theorem ctxPushH (ts : List T) (a_ts : SH) (d : Int) (t : T) (vr_t vk_t vs_t : SH) (hd : in64 d) (hz : ∀ t, t ∈ ts → size t ≤ 1152921504606846) (hzt : size t ≤ 1152921504606846) : Spec Try.prog 23 #[.agg #[sl a_ts ts.length, .int .i64 d], .agg (tc t vr_t vk_t vs_t).toArray] [TL ts a_ts, RT t vr_t vk_t vs_t] [] (fun x : {x : Cx × SH // x.1 = pushR ts d t} => .tuple #[.agg #[sl x.1.2 x.1.1.2.1.length, .int .i64 x.1.1.2.2], .int .i64 x.1.1.1]) (fun x => [TL x.1.1.2.1 x.1.2]) (fun _ => []) :=
  Spec.hide (pushR ts d t) (val := fun (r : Cx) (x : SH) => .tuple #[.agg #[sl x r.2.1.length, .int .i64 r.2.2], .int .i64 r.1]) (N := fun (r : Cx) (x : SH) => [TL r.2.1 x]) (Ms1 := fun _ _ => []) (ctxPush_spec ts a_ts d t vr_t vk_t vs_t hd hz hzt)
end Go.Hy
namespace Go.Hy
set_option linter.unusedVariables false
set_option linter.unusedSimpArgs false
set_option linter.unusedSectionVars false
open Go.Proofs
set_option linter.unusedVariables false
set_option linter.unusedSimpArgs false
set_option maxRecDepth 100000
theorem works25_spec   : Spec Try.prog 21 #[] [] [] (fun _ : Unit => .bool (true)) (fun _ : Unit => []) (fun _ : Unit => []) := by
  refine spec_go (args := []) Try.func21 Try.ntmps21 rfl (by exact Nat.le_of_ble_eq_true rfl) fun B hB => ?_
  refine go_seq ?_
  refine go_region ⟨_, Try.func21⟩ rfl ?_
  refine q0 rfl (o_assign ?_)
  refine rg_nil ?_
  refine go_seq ?_
  refine go_region ⟨_, Try.func21⟩ rfl ?_
  refine q0 rfl (o_build (cs := [.int .i64 (1), .int .i64 (0), .string ((ByteArray.mk #[])), sl (none, 0) (0), sl (none, 0) (0), sl (none, 0) (0)]) ?_)
  refine q0 rfl (o_build (cs := [.int .i64 (3), .int .i64 (0), .string ((ByteArray.mk #[])), sl (none, 0) (0), sl (none, 0) (0), sl (none, 0) (0)]) ?_)
  refine q0 rfl (o_lit2 fun b8 => ?_)
  refine q0 rfl (o_build (cs := [sl (some ⟨b8, 0, none⟩, 2) (2), .int .i64 (0)]) ?_)
  refine q0 rfl (o_new fun b1 => ?_)
  refine q0 rfl (o_st ?_)
  refine rg_nil ?_
  refine go_seq ?_
  refine go_region ⟨_, Try.func21⟩ rfl ?_
  refine q0 rfl (o_lds ?_)
  refine rg_state (Γ' := [TL [vE 0, uE] (some ⟨b8, 0, none⟩, 2)]) (Ms' := [boxR b1 [sl (some ⟨b8, 0, none⟩, 2) (2), .int .i64 (0)] 44]) (fun w hs => ?_) ?_
  · exact (((((hs.perm perm1).leaf 1 0 ⟨#[]⟩ (in_lit (by omega) (by omega)) (in_lit (by omega) (by omega)) (Nat.zero_le _)).leaf 3 0 ⟨#[]⟩ (in_lit (by omega) (by omega)) (in_lit (by omega) (by omega)) (Nat.zero_le _)).lit2T (t := vE 0) (vr := nul) (vk := nul) (vs := nul) (u := uE) (ur := nul) (uk := nul) (us := nul) hB (by simp [vE, uE]) (by simp [vE, uE]) rfl).less (by simp))
  refine q0 rfl (o_call Try.call24 ((by have h := ctxType_spec [vE 0, uE] (some ⟨b8, 0, none⟩, 2) 0 0 (by unfold in64; omega) ex_ctx_size (by omega); simp only [ex_ctx0a, ex_ctx0b] at h; exact h)) (fun x12 => ?_))
  refine q0 rfl (o_move ?_)
  refine q0 rfl (o_extract ?_)
  refine q0 rfl (o_extract ?_)
  refine q0 rfl (o_new fun b2 => ?_)
  refine q0 rfl (o_st ?_)
  refine q0 rfl (o_assign ?_)
  refine rg_nil ?_
  refine go_seq ?_
  refine go_region ⟨_, Try.func21⟩ rfl ?_
  refine q0 rfl (o_lds ?_)
  refine q0 rfl (o_call Try.call24 ((by have h := ctxType_spec [vE 0, uE] (some ⟨b8, 0, none⟩, 2) 0 1 (by unfold in64; omega) ex_ctx_size (by omega); simp only [ex_ctx1a, ex_ctx1b] at h; exact h)) (fun x17 => ?_))
  refine q0 rfl (o_move ?_)
  refine q0 rfl (o_extract ?_)
  refine q0 rfl (o_extract ?_)
  refine q0 rfl (o_new fun b4 => ?_)
  refine q0 rfl (o_st ?_)
  refine q0 rfl (o_assign ?_)
  refine rg_nil ?_
  refine go_seq ?_
  refine go_cutS ([(0, .bool (true))]) (fun hK => ?_) (fun base => ?_)
  · refine go_region ⟨_, Try.func21⟩ rfl ?_
    refine q0 rfl (o_move ?_)
    refine q0 rfl (o_eqIY ?_ (hp := by first | rfl | decide))
    refine q0 rfl (o_move ?_)
    refine qT rfl rfl rfl (o_fa ?_)
    refine qT rfl rfl rfl (o_ld ?_)
    refine qT rfl rfl rfl (o_eqIY ?_ (hp := by first | rfl | decide))
    refine q0 rfl (o_pickT ?_)
    refine q0 rfl (o_move ?_)
    refine qT rfl rfl rfl (o_fa ?_)
    refine qT rfl rfl rfl (o_ld ?_)
    refine qT rfl rfl rfl (o_eqIY ?_ (hp := by first | rfl | decide))
    refine q0 rfl (o_pickT ?_)
    refine q0 rfl (o_move ?_)
    refine qT rfl rfl rfl (o_move ?_)
    refine qT rfl rfl rfl (o_eqIY ?_ (hp := by first | rfl | decide))
    refine q0 rfl (o_pickT ?_)
    refine q0 rfl (o_move ?_)
    refine qT rfl rfl rfl (o_fa ?_)
    refine qT rfl rfl rfl (o_ld ?_)
    refine qT rfl rfl rfl (o_eqIY ?_ (hp := by first | rfl | decide))
    refine q0 rfl (o_pickT ?_)
    refine q0 rfl (o_assign ?_)
    refine rg_nil ?_
    exact hK _ ⟨(by first | rfl | ((conv => lhs; whnf); first | (simp_all [uE, vE, T.kind, T.n]; done) | (simp_all [uE, vE, T.kind, T.n]; omega))), trivial⟩
  · refine ret1 Try.func21 Try.results21 wn_ () rfl (fun w hs => hs.none)
theorem great25_spec (ts : List T) (a_ts : SH) (d : Int) (t : T) (vr_t vk_t vs_t : SH)  : Spec Try.prog 22 #[.agg ([sl a_ts (ts.length), .int .i64 (d)] : List Value).toArray, .agg (tc t vr_t vk_t vs_t).toArray] [TL ts a_ts, RT t vr_t vk_t vs_t] [] (fun _ : Unit => .bool ((decide (300 < bulk (nodeT ts)) || decide (200 < bulk t)))) (fun _ : Unit => []) (fun _ : Unit => []) := by
  refine spec_go (args := [.agg ([sl a_ts (ts.length), .int .i64 (d)] : List Value).toArray, .agg (tc t vr_t vk_t vs_t).toArray]) Try.func22 Try.ntmps22 rfl (by exact Nat.le_of_ble_eq_true rfl) fun B hB => ?_
  refine go_seq ?_
  refine go_region ⟨_, Try.func22⟩ rfl ?_
  refine q0 rfl (o_box fun b2 => ?_)
  refine q0 rfl (o_box fun b3 => ?_)
  refine q0 rfl (o_assign ?_)
  refine rg_nil ?_
  refine go_seq ?_
  refine go_cutS ([(4, .bool ((decide (300 < bulk (nodeT ts))) || (decide (200 < bulk t))))]) (fun hK => ?_) (fun base => ?_)
  · refine go_region ⟨_, Try.func22⟩ rfl ?_
    refine q0 rfl (o_fa ?_)
    refine q0 rfl (o_ld ?_)
    refine q0 rfl (o_build (cs := [.int .i64 (0), .int .i64 (0), .string ((ByteArray.mk #[])), sl (none, 0) (0), sl a_ts (ts.length), sl (none, 0) (0)]) ?_)
    refine rg_state (fun w hs => show St B (RT (nodeT ts) nul a_ts nul :: _) _ w from ((hs.node 0 0 ts a_ts (in_lit (by omega) (by omega)) (in_lit (by omega) (by omega)) (by simp)))) ?_
    refine q0 rfl (o_call Try.call28 (bulk_spec (nodeT ts) 300 nul a_ts nul (by omega) (by omega)) (fun x8 => ?_))
    refine q0 rfl (o_gtr ?_)
    rw [show (decide ((300 : Int) < x8.1)) = decide (300 < bulk (nodeT ts)) from decide_eq_decide.mpr (by have h9 := x8.2; unfold BulkIs at h9; omega)]
    refine q0 rfl (o_move ?_)
    refine qI rfl rfl rfl wl_ (fun hg10 => ?_) (fun hg10 => ?_)
    · have g10 : (decide (300 < bulk (nodeT ts))) = false := hg10
      try simp only [sC, bne_iff_ne, beq_iff_eq, ne_eq] at g10
      refine o_lds ?_
      refine qT rfl rfl rfl (o_call Try.call28 (bulk_spec t 200 vr_t vk_t vs_t (by omega) (by omega)) (fun x12 => ?_))
      refine qT rfl rfl rfl (o_gtr ?_)
      rw [show (decide ((200 : Int) < x12.1)) = decide (200 < bulk t) from decide_eq_decide.mpr (by have h9 := x12.2; unfold BulkIs at h9; omega)]
      refine q0 rfl (o_pickF ?_)
      refine q0 rfl (o_assign ?_)
      refine rg_nil ?_
      exact go_state (fun w hs => (hs.less (by simp +contextual))) (hK _ ⟨dn_, trivial⟩)
    · have g10 : (decide (300 < bulk (nodeT ts))) = true := hg10
      try simp only [sC, bne_iff_ne, beq_iff_eq, ne_eq] at g10
      refine qF rfl rfl rfl ?_
      refine qF rfl rfl rfl ?_
      refine q0 rfl (o_pickT ?_)
      refine q0 rfl (o_assign ?_)
      refine rg_nil ?_
      exact go_state (fun w hs => (hs.less (by simp +contextual))) (hK _ ⟨dn_, trivial⟩)
  · refine ret1 Try.func22 Try.results22 wn_ () (by first | rfl | (simp_all; done) | (simp_all; omega)) (fun w hs => hs.none)
set_option maxHeartbeats 4000000 in
theorem ctxBack_spec (ts : List T) (a_ts : SH) (d : Int) (t : T) (vr_t vk_t vs_t : SH) (hd : in64 d) : Spec Try.prog 5 #[.agg ([sl a_ts (ts.length), .int .i64 (d)] : List Value).toArray, .agg (tc t vr_t vk_t vs_t).toArray] [TL ts a_ts, RT t vr_t vk_t vs_t] [] (fun _ : Unit => .bool (true)) (fun _ : Unit => []) (fun _ : Unit => []) := by
  refine spec_go (args := [.agg ([sl a_ts (ts.length), .int .i64 (d)] : List Value).toArray, .agg (tc t vr_t vk_t vs_t).toArray]) Try.func5 Try.ntmps5 rfl (by exact Nat.le_of_ble_eq_true rfl) fun B hB => ?_
  have hsu := size_le_bulk t
  refine go_seq ?_
  refine go_region ⟨_, Try.func5⟩ rfl ?_
  refine q0 rfl (o_box fun b2 => ?_)
  refine q0 rfl (o_box fun b3 => ?_)
  refine q0 rfl (o_assign ?_)
  refine rg_nil ?_
  refine go_seq ?_
  refine go_seq ?_
  refine go_region ⟨_, Try.func5⟩ rfl ?_
  refine q0 rfl (o_call Try.call21 (works25_spec ) (fun x18 => ?_))
  refine q0 rfl (o_not ?_)
  refine rg_nil ?_
  refine go_condF ?_
  refine go_skip ?_
  refine go_seq ?_
  refine go_seq ?_
  refine go_region ⟨_, Try.func5⟩ rfl ?_
  refine q0 rfl (o_lds ?_)
  refine q0 rfl (o_lds ?_)
  refine q0 rfl (o_call Try.call22 (great25_spec ts a_ts d t vr_t vk_t vs_t) (fun x22 => ?_))
  refine rg_nil ?_
  refine go_condI (fun h22 => ?_) (fun h22 => ?_)
  · have c22 : ((decide (300 < bulk (nodeT ts)) || decide (200 < bulk t))) = true := h22
    try simp only [sC, bne_iff_ne, beq_iff_eq, ne_eq] at c22
    refine go_seq ?_
    refine go_region ⟨_, Try.func5⟩ rfl ?_
    refine q0 rfl (o_assign ?_)
    refine rg_nil ?_
    refine ret1 Try.func5 Try.results5 wn_ () rfl (fun w hs => hs.none)
  · have c22 : ((decide (300 < bulk (nodeT ts)) || decide (200 < bulk t))) = false := h22
    try simp only [sC, bne_iff_ne, beq_iff_eq, ne_eq] at c22
    have hbig : bulk (nodeT ts) ≤ 300 ∧ bulk t ≤ 200 := (by have h9 := h22; simp at h9; omega)
    obtain ⟨hz3, hlen⟩ := node_bulk hbig.1
    have hz : ∀ u, u ∈ ts → size u ≤ 1152921504606846 := fun u hu => (by have h9 := hz3 u hu; omega)
    refine go_skip ?_
    refine go_seq ?_
    refine go_region ⟨_, Try.func5⟩ rfl ?_
    refine q0 rfl (o_lds ?_)
    refine q0 rfl (o_lds ?_)
    refine q0 rfl (o_call Try.call23 (ctxPushH ts a_ts d t vr_t vk_t vs_t hd hz (by omega)) (fun x26 => ?_))
    refine q0 rfl (o_move ?_)
    refine q0 rfl (o_extract ?_)
    refine q0 rfl (o_extract ?_)
    refine q0 rfl (o_new fun b5 => ?_)
    refine q0 rfl (o_st ?_)
    refine q0 rfl (o_assign ?_)
    refine rg_nil ?_
    refine go_seq ?_
    refine go_seq ?_
    refine go_region ⟨_, Try.func5⟩ rfl ?_
    refine q0 rfl (o_move ?_)
    refine q0 rfl (o_neI ?_)
    refine rg_nil ?_
    refine go_condI (fun h30 => ?_) (fun h30 => ?_)
    · have c30 : (decide (x26.1.1.1 ≠ 0)) = true := h30
      try simp only [sC, bne_iff_ne, beq_iff_eq, ne_eq] at c30
      refine go_seq ?_
      refine go_region ⟨_, Try.func5⟩ rfl ?_
      refine q0 rfl (o_assign ?_)
      refine rg_nil ?_
      refine ret1 Try.func5 Try.results5 wn_ () rfl (fun w hs => hs.none)
    · have c30 : (decide (x26.1.1.1 ≠ 0)) = false := h30
      try simp only [sC, bne_iff_ne, beq_iff_eq, ne_eq] at c30
      have hpo := push_ok (ts := ts) (d := d) (t := t) (by rw [← x26.2]; simpa using h30)
      rw [← x26.2] at hpo
      obtain ⟨hx, hc0, hr0, hc1⟩ := hpo
      have hdx : in64 x26.1.1.2.2 := (by rw [hx]; exact hd)
      have hzx : ∀ u, u ∈ x26.1.1.2.1 → size u ≤ 1152921504606846 := (by rw [hx]; intro u hu; rcases List.mem_cons.mp hu with h9 | h9; (rw [h9]; omega); exact hz u h9)
      refine go_skip ?_
      refine go_seq ?_
      refine go_region ⟨_, Try.func5⟩ rfl ?_
      refine q0 rfl (o_lds ?_)
      refine q0 rfl (o_call Try.call24 (ctxTypeH x26.1.1.2.1 x26.1.2 x26.1.1.2.2 0 hdx hzx (by omega)) (fun x33 => ?_))
      refine q0 rfl (o_move ?_)
      refine q0 rfl (o_extract ?_)
      refine q0 rfl (o_extract ?_)
      refine q0 rfl (o_new fun b7 => ?_)
      refine q0 rfl (o_st ?_)
      refine q0 rfl (o_assign ?_)
      refine rg_nil ?_
      refine go_seq ?_
      refine go_region ⟨_, Try.func5⟩ rfl ?_
      refine q0 rfl (o_lds ?_)
      refine q0 rfl (o_call Try.call14 (liftVarsH t vr_t vk_t vs_t 0 1 om_ om_ om_) (fun x38 => ?_))
      refine q0 rfl (o_move ?_)
      refine q0 rfl (o_extract ?_)
      refine q0 rfl (o_extract ?_)
      refine q0 rfl (o_new fun b9 => ?_)
      refine q0 rfl (o_st ?_)
      refine q0 rfl (o_assign ?_)
      refine rg_nil ?_
      refine go_seq ?_
      refine go_seq ?_
      refine go_cutS ([(2, .pointer (some ⟨b2, 0, none⟩)), (5, .pointer (some ⟨b5, 0, none⟩)), (49, .bool ((decide (x33.1.1.1 ≠ x38.1.1.1)) || (!(decide (x33.1.1.2 = x38.1.1.2)))))]) (fun hK => ?_) (fun base => ?_)
      · refine go_region ⟨_, Try.func5⟩ rfl ?_
        refine q0 rfl (o_move ?_)
        refine q0 rfl (o_move ?_)
        refine q0 rfl (o_neI ?_)
        refine q0 rfl (o_move ?_)
        refine qI rfl rfl rfl wl_ (fun hg44 => ?_) (fun hg44 => ?_)
        · have g44 : (decide (x33.1.1.1 ≠ x38.1.1.1)) = false := hg44
          try simp only [sC, bne_iff_ne, beq_iff_eq, ne_eq] at g44
          refine o_lds ?_
          refine qT rfl rfl rfl (o_lds ?_)
          refine qT rfl rfl rfl (o_call Try.call13 (rsame x33.1.1.2 x38.1.1.2 x33.1.2.1 x33.1.2.2.1 x33.1.2.2.2 x38.1.2.1 x38.1.2.2.1 x38.1.2.2.2) (fun x47 => ?_))
          refine qT rfl rfl rfl (o_not ?_)
          refine q0 rfl (o_pickF ?_)
          refine rg_nil ?_
          exact hK _ ⟨rfl, rfl, dn_, trivial⟩
        · have g44 : (decide (x33.1.1.1 ≠ x38.1.1.1)) = true := hg44
          try simp only [sC, bne_iff_ne, beq_iff_eq, ne_eq] at g44
          refine qF rfl rfl rfl ?_
          refine qF rfl rfl rfl ?_
          refine qF rfl rfl rfl ?_
          refine q0 rfl (o_pickT ?_)
          refine rg_nil ?_
          exact hK _ ⟨rfl, rfl, dn_, trivial⟩
      · refine go_condI (fun h49 => ?_) (fun h49 => ?_)
        · have c49 : ((decide (x33.1.1.1 ≠ x38.1.1.1)) || (!(decide (x33.1.1.2 = x38.1.1.2)))) = true := h49
          try simp only [sC, bne_iff_ne, beq_iff_eq, ne_eq] at c49
          exfalso
          have q1 : x33.1.1 = x38.1.1 := (by rw [x33.2, x38.2, show typeR x26.1.1.2.1 x26.1.1.2.2 ((0 : Nat) : Int) = typeR (t :: ts) d 0 from (by rw [hx]; rfl), type_zero hc1])
          rw [q1] at h49
          simp at h49
        · have c49 : ((decide (x33.1.1.1 ≠ x38.1.1.1)) || (!(decide (x33.1.1.2 = x38.1.1.2)))) = false := h49
          try simp only [sC, bne_iff_ne, beq_iff_eq, ne_eq] at c49
          refine go_skip ?_
          refine go_seq ?_
          refine go_seq ?_
          refine go_region ⟨_, Try.func5⟩ rfl ?_
          refine q0 rfl (o_fa ?_)
          refine q0 rfl (o_ld ?_)
          refine q0 rfl (o_len ?_)
          refine q0 rfl (o_move ?_)
          refine rg_nil ?_
          refine go_block ?_
          refine go_loopE (X := Nat) (fun s_ => s_ ≤ ts.length) (fun s_ => [(2, .pointer (some ⟨b2, 0, none⟩)), (5, .pointer (some ⟨b5, 0, none⟩)), (52, .int .i64 ((ts.length : Int))), (53, .int .i64 ((s_ : Int)))]) (fun s_ G_ => G_) (fun s_ => [boxR b9 (tc x38.1.1.2 x38.1.2.1 x38.1.2.2.1 x38.1.2.2.2) 26, boxR b7 (tc x33.1.1.2 x33.1.2.1 x33.1.2.2.1 x33.1.2.2.2) 26, boxR b5 [sl x26.1.2 ((x26.1.1.2.1).length), .int .i64 (x26.1.1.2.2)] 44, boxR b3 (tc t vr_t vk_t vs_t) 26, boxR b2 [sl a_ts (ts.length), .int .i64 (d)] 42]) (fun s_ => ts.length - s_) (0) (by omega) (by exact ⟨rfl, rfl, rfl, rfl, trivial⟩) ?_ ?_
          · exact fun w hs => hs
          · intro n base0 hi0 next0
            refine go_seq ?_
            refine go_region ⟨_, Try.func5⟩ rfl ?_
            refine q0 rfl (o_lss ?_)
            refine rg_nil ?_
            refine go_seq ?_
            refine go_condI (fun h54 => ?_) (fun h54 => ?_)
            · have c54 : (decide ((n : Int) < (ts.length : Int))) = true := h54
              try simp only [sC, bne_iff_ne, beq_iff_eq, ne_eq] at c54
              have hq := ctx_back hc0 hc1 (show n < ts.length by omega) hz3
              have hsv := vars_size (typeR ts d (n : Int)).2 0 1
              refine go_skip ?_
              refine go_seq ?_
              refine go_block ?_
              refine go_seq ?_
              refine go_region ⟨_, Try.func5⟩ rfl ?_
              refine q0 rfl (o_move ?_)
              refine q0 rfl (o_assign ?_)
              refine rg_nil ?_
              refine go_seq ?_
              refine go_region ⟨_, Try.func5⟩ rfl ?_
              refine q0 rfl (o_lds ?_)
              refine q0 rfl (o_move ?_)
              refine q0 rfl (o_call Try.call24 (ctxTypeH ts a_ts d n hd hz (by omega)) (fun x59 => ?_))
              refine q0 rfl (o_move ?_)
              refine q0 rfl (o_extract ?_)
              refine q0 rfl (o_extract ?_)
              refine q0 rfl (o_new fun b12 => ?_)
              refine q0 rfl (o_st ?_)
              refine q0 rfl (o_assign ?_)
              refine rg_nil ?_
              have hsz9 : size x59.1.1.2 ≤ 1152921504606846 := (by have h9 := type_size (ts := ts) (d := d) (n := n) hz3 hc0 (by omega); rw [← x59.2] at h9; omega)
              refine go_seq ?_
              refine go_region ⟨_, Try.func5⟩ rfl ?_
              refine q0 rfl (o_lds ?_)
              refine q0 rfl (o_call Try.call14 (liftVarsH x59.1.1.2 x59.1.2.1 x59.1.2.2.1 x59.1.2.2.2 0 1 om_ om_ om_) (fun x64 => ?_))
              refine q0 rfl (o_move ?_)
              refine q0 rfl (o_extract ?_)
              refine q0 rfl (o_extract ?_)
              refine q0 rfl (o_new fun b14 => ?_)
              refine q0 rfl (o_st ?_)
              refine q0 rfl (o_assign ?_)
              refine rg_nil ?_
              refine go_seq ?_
              refine go_region ⟨_, Try.func5⟩ rfl ?_
              refine q0 rfl (o_lds ?_)
              refine q0 rfl (o_move ?_)
              refine q0 rfl (o_add ?_)
              refine q0 rfl (o_call Try.call24 (ctxTypeH x26.1.1.2.1 x26.1.2 x26.1.1.2.2 (n + 1) hdx hzx (by omega)) (fun x71 => ?_))
              refine q0 rfl (o_move ?_)
              refine q0 rfl (o_extract ?_)
              refine q0 rfl (o_extract ?_)
              refine q0 rfl (o_new fun b16 => ?_)
              refine q0 rfl (o_st ?_)
              refine q0 rfl (o_assign ?_)
              refine rg_nil ?_
              refine go_seq ?_
              refine go_cutS ([(2, .pointer (some ⟨b2, 0, none⟩)), (5, .pointer (some ⟨b5, 0, none⟩)), (52, .int .i64 ((ts.length : Int))), (53, .int .i64 ((n : Int))), (89, .bool ((((decide (x59.1.1.1 ≠ 0)) || (decide (x64.1.1.1 ≠ 0))) || (decide (x71.1.1.1 ≠ 0))) || (!(decide (x64.1.1.2 = x71.1.1.2)))))]) (fun hK => ?_) (fun base => ?_)
              · refine go_region ⟨_, Try.func5⟩ rfl ?_
                refine q0 rfl (o_move ?_)
                refine q0 rfl (o_neI ?_)
                refine q0 rfl (o_move ?_)
                refine qI rfl rfl rfl wl_ (fun hg76 => ?_) (fun hg76 => ?_)
                · have g76 : (decide (x59.1.1.1 ≠ 0)) = false := hg76
                  try simp only [sC, bne_iff_ne, beq_iff_eq, ne_eq] at g76
                  refine o_move ?_
                  refine qT rfl rfl rfl (o_neI ?_)
                  refine q0 rfl (o_pickF ?_)
                  refine q0 rfl (o_move ?_)
                  refine qI rfl rfl rfl wl_ (fun hg80 => ?_) (fun hg80 => ?_)
                  · have g80 : (decide (x64.1.1.1 ≠ 0)) = false := hg80
                    try simp only [sC, bne_iff_ne, beq_iff_eq, ne_eq] at g80
                    refine o_move ?_
                    refine qT rfl rfl rfl (o_neI ?_)
                    refine q0 rfl (o_pickF ?_)
                    refine q0 rfl (o_move ?_)
                    refine qI rfl rfl rfl wl_ (fun hg84 => ?_) (fun hg84 => ?_)
                    · have g84 : (decide (x71.1.1.1 ≠ 0)) = false := hg84
                      try simp only [sC, bne_iff_ne, beq_iff_eq, ne_eq] at g84
                      refine o_lds ?_
                      refine qT rfl rfl rfl (o_lds ?_)
                      refine qT rfl rfl rfl (o_call Try.call13 (rsame x64.1.1.2 x71.1.1.2 x64.1.2.1 x64.1.2.2.1 x64.1.2.2.2 x71.1.2.1 x71.1.2.2.1 x71.1.2.2.2) (fun x87 => ?_))
                      refine qT rfl rfl rfl (o_not ?_)
                      refine q0 rfl (o_pickF ?_)
                      refine rg_nil ?_
                      exact hK _ ⟨rfl, rfl, rfl, rfl, dn_, trivial⟩
                    · have g84 : (decide (x71.1.1.1 ≠ 0)) = true := hg84
                      try simp only [sC, bne_iff_ne, beq_iff_eq, ne_eq] at g84
                      refine qF rfl rfl rfl ?_
                      refine qF rfl rfl rfl ?_
                      refine qF rfl rfl rfl ?_
                      refine q0 rfl (o_pickT ?_)
                      refine rg_nil ?_
                      exact hK _ ⟨rfl, rfl, rfl, rfl, dn_, trivial⟩
                  · have g80 : (decide (x64.1.1.1 ≠ 0)) = true := hg80
                    try simp only [sC, bne_iff_ne, beq_iff_eq, ne_eq] at g80
                    refine qF rfl rfl rfl ?_
                    refine q0 rfl (o_pickT ?_)
                    refine q0 rfl (o_move ?_)
                    refine qF rfl rfl rfl ?_
                    refine qF rfl rfl rfl ?_
                    refine qF rfl rfl rfl ?_
                    refine qF rfl rfl rfl ?_
                    refine q0 rfl (o_pickT ?_)
                    refine rg_nil ?_
                    exact hK _ ⟨rfl, rfl, rfl, rfl, dn_, trivial⟩
                · have g76 : (decide (x59.1.1.1 ≠ 0)) = true := hg76
                  try simp only [sC, bne_iff_ne, beq_iff_eq, ne_eq] at g76
                  refine qF rfl rfl rfl ?_
                  refine q0 rfl (o_pickT ?_)
                  refine q0 rfl (o_move ?_)
                  refine qF rfl rfl rfl ?_
                  refine qF rfl rfl rfl ?_
                  refine q0 rfl (o_pickT ?_)
                  refine q0 rfl (o_move ?_)
                  refine qF rfl rfl rfl ?_
                  refine qF rfl rfl rfl ?_
                  refine qF rfl rfl rfl ?_
                  refine qF rfl rfl rfl ?_
                  refine q0 rfl (o_pickT ?_)
                  refine rg_nil ?_
                  exact hK _ ⟨rfl, rfl, rfl, rfl, dn_, trivial⟩
              · refine go_condI (fun h89 => ?_) (fun h89 => ?_)
                · have c89 : ((((decide (x59.1.1.1 ≠ 0)) || (decide (x64.1.1.1 ≠ 0))) || (decide (x71.1.1.1 ≠ 0))) || (!(decide (x64.1.1.2 = x71.1.1.2)))) = true := h89
                  try simp only [sC, bne_iff_ne, beq_iff_eq, ne_eq] at c89
                  exfalso
                  have q3 : x71.1.1 = typeR (t :: ts) d ((n + 1 : Nat) : Int) := (by rw [x71.2, hx])
                  rw [← q3, ← x59.2, ← x64.2] at hq
                  obtain ⟨q4, q5, q6, q7⟩ := hq
                  rw [q4, q5, q6, q7] at h89
                  simp at h89
                · have c89 : ((((decide (x59.1.1.1 ≠ 0)) || (decide (x64.1.1.1 ≠ 0))) || (decide (x71.1.1.1 ≠ 0))) || (!(decide (x64.1.1.2 = x71.1.1.2)))) = false := h89
                  try simp only [sC, bne_iff_ne, beq_iff_eq, ne_eq] at c89
                  refine go_skip ?_
                  refine go_inBlock ?_
                  refine go_region ⟨_, Try.func5⟩ rfl ?_
                  refine q0 rfl (o_add ?_)
                  refine q0 rfl (o_move ?_)
                  refine rg_nil ?_
                  refine go_state (fun w hs => ?_) (next0 (n + 1) _ (by omega) (by omega) ⟨rfl, rfl, rfl, rfl, trivial⟩)
                  exact (((((((hs.less (by simp +contextual)).perm perm7).perm perm7).perm perm7).perm perm7).perm perm7).dropR (A := [_, _, _, _, _]))
            · have c54 : (decide ((n : Int) < (ts.length : Int))) = false := h54
              try simp only [sC, bne_iff_ne, beq_iff_eq, ne_eq] at c54
              refine go_exit rfl ?_
              refine go_seq ?_
              refine go_region ⟨_, Try.func5⟩ rfl ?_
              refine q0 rfl (o_assign ?_)
              refine rg_nil ?_
              refine ret1 Try.func5 Try.results5 wn_ () rfl (fun w hs => hs.none)
end Go.Hy
