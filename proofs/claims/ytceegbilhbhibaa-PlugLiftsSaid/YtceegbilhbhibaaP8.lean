/- Contracts of this program's functions and the laws that they need: a separation logic over the machine's rules, one theorem each (partly printed by a program of this repository). -/
import Derived.Test.YtceegbilhbhibaaP2
import Derived.Test.YtceegbilhbhibaaP3
import Derived.Test.YtceegbilhbhibaaP4
import Derived.Test.YtceegbilhbhibaaP5
import Derived.Test.YtceegbilhbhibaaP6
import Derived.Test.YtceegbilhbhibaaP7
namespace Go.Hy
set_option linter.unusedVariables false
set_option linter.unusedSimpArgs false
set_option linter.unusedSectionVars false
open Go.Proofs
set_option linter.unusedVariables false
set_option linter.unusedSimpArgs false
set_option maxRecDepth 100000
abbrev SameR (t : T) : Prop := ∀ u vr vk vs vr' vk' vs', Spec Try.prog 13 #[.agg (tc t vr vk vs).toArray, .agg (tc u vr' vk' vs').toArray] [RT t vr vk vs, RT u vr' vk' vs'] [] (fun _ : Unit => .bool (decide (t = u))) (fun _ => []) (fun _ => [])
theorem rlists (ts : List T) (a_ts : SH) (us : List T) (a_us : SH) (ih : ∀ t, t ∈ ts → SameR t) : Spec Try.prog 35 #[sl a_ts (ts.length), sl a_us (us.length)] [TL ts a_ts, TL us a_us] [] (fun _ : Unit => .bool ((decide (ts = us)))) (fun _ : Unit => []) (fun _ : Unit => []) := by
  refine spec_go (args := [sl a_ts (ts.length), sl a_us (us.length)]) Try.func35 Try.ntmps35 rfl (by exact Nat.le_of_ble_eq_true rfl) fun B hB => ?_
  refine go_openTL (ts := ts) (a := a_ts) (fun VR1 VK1 VS1 hl1 hA1 => ?_)
  refine go_openTL (ts := us) (a := a_us) (fun VR2 VK2 VS2 hl2 hA2 => ?_)
  refine go_seq ?_
  refine go_region ⟨_, Try.func35⟩ rfl ?_
  refine q0 rfl (o_assign ?_)
  refine rg_nil ?_
  refine go_seq ?_
  refine go_seq ?_
  refine go_region ⟨_, Try.func35⟩ rfl ?_
  refine q0 rfl (o_move ?_)
  refine q0 rfl (o_len ?_)
  refine q0 rfl (o_move ?_)
  refine q0 rfl (o_len ?_)
  refine q0 rfl (o_neI ?_)
  refine rg_nil ?_
  refine go_condI (fun h10 => ?_) (fun h10 => ?_)
  · have c10 : (decide ((ts.length : Int) ≠ (us.length : Int))) = true := h10
    try simp only [sC, bne_iff_ne, beq_iff_eq, ne_eq] at c10
    refine go_seq ?_
    refine go_region ⟨_, Try.func35⟩ rfl ?_
    refine q0 rfl (o_assign ?_)
    refine rg_nil ?_
    refine ret1 Try.func35 Try.results35 wn_ () (by simp only [decide_eq_false (fun h : ts = us => by subst h; simp at c10)]) (fun w hs => hs.none)
  · have c10 : (decide ((ts.length : Int) ≠ (us.length : Int))) = false := h10
    try simp only [sC, bne_iff_ne, beq_iff_eq, ne_eq] at c10
    have hlen : ts.length = us.length := by simp at h10; omega
    refine go_skip ?_
    refine go_seq ?_
    refine go_seq ?_
    refine go_region ⟨_, Try.func35⟩ rfl ?_
    refine q0 rfl (o_assign ?_)
    refine rg_nil ?_
    refine go_block ?_
    refine go_loopE (X := Nat) (fun s_ => s_ ≤ ts.length ∧ ∀ j, j < s_ → ts.getD j t0 = us.getD j t0) (fun s_ => [(0, sl a_ts (ts.length)), (1, sl a_us (us.length)), (5, .int .i64 ((s_ : Int)))]) (fun s_ G_ => G_) (fun s_ => []) (fun s_ => ts.length - s_) (0) (⟨by omega, fun j h => absurd h (Nat.not_lt_zero j)⟩) (by exact ⟨rfl, rfl, rfl, trivial⟩) ?_ ?_
    · exact fun w hs => hs
    · intro i base0 ⟨hi, hsm⟩ next0
      refine go_seq ?_
      refine go_seq ?_
      refine go_region ⟨_, Try.func35⟩ rfl ?_
      refine q0 rfl (o_move ?_)
      refine q0 rfl (o_move ?_)
      refine q0 rfl (o_len ?_)
      refine q0 rfl (o_lss ?_)
      refine rg_nil ?_
      refine go_condI (fun h14 => ?_) (fun h14 => ?_)
      · have c14 : (decide ((i : Int) < (ts.length : Int))) = true := h14
        try simp only [sC, bne_iff_ne, beq_iff_eq, ne_eq] at c14
        refine go_skip ?_
        refine go_seq ?_
        refine go_block ?_
        refine go_seq ?_
        refine go_kid (ts := ts) (a := a_ts) (VR := VR1) (VK := VK1) (VS := VS1) i (by omega) ?_
        refine go_kid (ts := us) (a := a_us) (VR := VR2) (VK := VK2) (VS := VS2) i (by omega) ?_
        refine go_draw (pn := 1000000) (tn := false) (A := [0, 0, 3, 7, 0, 0, 48, 112, 255, 511]) (l := [0, 1, 2, 3, 4, 5, 6, 7, 8, 9]) (fin := []) Tab.mixed ⟨_, Try.func35⟩ (by rfl) ?_
        refine n0 rfl (v_move ?_)
        refine n0 rfl (v_move ?_)
        obtain ⟨bk3, o3, hav3⟩ := hA1 (by omega)
        refine n0 rfl (v_ixN ?_ (j := i))
        refine n0 rfl (v_ldT ?_)
        refine n0 rfl (v_move ?_)
        refine n0 rfl (v_move ?_)
        obtain ⟨bk4, o4, hav4⟩ := hA2 (by omega)
        refine n0 rfl (v_ixN ?_ (j := i))
        refine n0 rfl (v_ldT ?_)
        refine n0 rfl (v_call Try.call13 (ih _ (getD_mem (show i < ts.length by omega)) (us.getD i t0) (VR1 i) (VK1 i) (VS1 i) (VR2 i) (VK2 i) (VS2 i)) (fun x25 => ?_))
        refine n0 rfl (v_not ?_)
        refine NV.done ?_
        refine rg_nil ?_
        refine go_condI (fun h26 => ?_) (fun h26 => ?_)
        · have c26 : (!(decide ((ts.getD i t0) = (us.getD i t0)))) = true := h26
          try simp only [sC, bne_iff_ne, beq_iff_eq, ne_eq] at c26
          refine go_seq ?_
          refine go_region ⟨_, Try.func35⟩ rfl ?_
          refine q0 rfl (o_assign ?_)
          refine rg_nil ?_
          refine ret1 Try.func35 Try.results35 wn_ () (by simp only [decide_eq_false (fun h : ts = us => by subst h; simp at c26)]) (fun w hs => hs.none)
        · have c26 : (!(decide ((ts.getD i t0) = (us.getD i t0)))) = false := h26
          try simp only [sC, bne_iff_ne, beq_iff_eq, ne_eq] at c26
          refine go_skip ?_
          refine go_inBlock ?_
          refine go_region ⟨_, Try.func35⟩ rfl ?_
          refine q0 rfl (o_move ?_)
          refine q0 rfl (o_add ?_)
          refine q0 rfl (o_assign ?_)
          refine rg_nil ?_
          refine go_state (fun w hs => ?_) (next0 (i + 1) _ (⟨by omega, fun j hj => by rcases Nat.lt_succ_iff_lt_or_eq.mp hj with h | h; exact hsm j h; subst h; simpa using c26⟩) (by omega) ⟨rfl, rfl, rfl, trivial⟩)
          exact (hs.less (by simp +contextual))
      · have c14 : (decide ((i : Int) < (ts.length : Int))) = false := h14
        try simp only [sC, bne_iff_ne, beq_iff_eq, ne_eq] at c14
        refine go_exit rfl ?_
        refine go_seq ?_
        refine go_region ⟨_, Try.func35⟩ rfl ?_
        refine q0 rfl (o_assign ?_)
        refine rg_nil ?_
        refine ret1 Try.func35 Try.results35 wn_ () (by simp only [decide_eq_true (list_eq_of (d := t0) hlen (fun j hj => hsm j (by omega)) : ts = us)]) (fun w hs => hs.none)
theorem rsame_walk (t : T) (vr_t vk_t vs_t : SH) (u : T) (vr_u vk_u vs_u : SH) (ih : ∀ p, p ∈ parts t → SameR p.1) : Spec Try.prog 13 #[.agg (tc t vr_t vk_t vs_t).toArray, .agg (tc u vr_u vk_u vs_u).toArray] [RT t vr_t vk_t vs_t, RT u vr_u vk_u vs_u] [] (fun _ : Unit => .bool ((decide (t = u)))) (fun _ : Unit => []) (fun _ : Unit => []) := by
  refine spec_go (args := [.agg (tc t vr_t vk_t vs_t).toArray, .agg (tc u vr_u vk_u vs_u).toArray]) Try.func13 Try.ntmps13 rfl (by exact Nat.le_of_ble_eq_true rfl) fun B hB => ?_
  refine go_open (t := t) (vr := vr_t) (vk := vk_t) (vs := vs_t) (fun hk1 hn1 hm1 => ?_)
  refine go_openCL (l := (t).r) (a := vr_t) (fun hl2 hA2 hU2 => ?_)
  refine go_openTL (ts := (t).kids) (a := vk_t) (fun VR3 VK3 VS3 hl3 hA3 => ?_)
  refine go_openBL (bs := (t).sys) (a := vs_t) (fun VF4 VK4 hl4 hA4 => ?_)
  refine go_open (t := u) (vr := vr_u) (vk := vk_u) (vs := vs_u) (fun hk5 hn5 hm5 => ?_)
  refine go_openCL (l := (u).r) (a := vr_u) (fun hl6 hA6 hU6 => ?_)
  refine go_openTL (ts := (u).kids) (a := vk_u) (fun VR7 VK7 VS7 hl7 hA7 => ?_)
  refine go_openBL (bs := (u).sys) (a := vs_u) (fun VF8 VK8 hl8 hA8 => ?_)
  refine go_seq ?_
  refine go_region ⟨_, Try.func13⟩ rfl ?_
  refine q0 rfl (o_box fun b2 => ?_)
  refine q0 rfl (o_box fun b3 => ?_)
  refine q0 rfl (o_assign ?_)
  refine rg_nil ?_
  refine go_seq ?_
  refine go_seq ?_
  refine go_cutS ([(2, .pointer (some ⟨b2, 0, none⟩)), (3, .pointer (some ⟨b3, 0, none⟩)), (49, .bool ((((((decide (((t).kind) ≠ ((u).kind))) || (decide (((t).n) ≠ ((u).n)))) || (!(((t).name).toList == ((u).name).toList))) || (!(decide (((t).r) = ((u).r))))) || (!(decide (((t).kids) = ((u).kids))))) || (decide (((t).sys.length : Int) ≠ ((u).sys.length : Int)))))]) (fun hK => ?_) (fun base => ?_)
  · refine go_region ⟨_, Try.func13⟩ rfl ?_
    refine q0 rfl (o_fa ?_)
    refine q0 rfl (o_ld ?_)
    refine q0 rfl (o_fa ?_)
    refine q0 rfl (o_ld ?_)
    refine q0 rfl (o_neI ?_)
    refine q0 rfl (o_move ?_)
    refine qI rfl rfl rfl wl_ (fun hg11 => ?_) (fun hg11 => ?_)
    · have g11 : (decide (((t).kind) ≠ ((u).kind))) = false := hg11
      try simp only [sC, bne_iff_ne, beq_iff_eq, ne_eq] at g11
      refine o_fa ?_
      refine qT rfl rfl rfl (o_ld ?_)
      refine qT rfl rfl rfl (o_fa ?_)
      refine qT rfl rfl rfl (o_ld ?_)
      refine qT rfl rfl rfl (o_neI ?_)
      refine q0 rfl (o_pickF ?_)
      refine q0 rfl (o_move ?_)
      refine qI rfl rfl rfl wl_ (fun hg18 => ?_) (fun hg18 => ?_)
      · have g18 : (decide (((t).n) ≠ ((u).n))) = false := hg18
        try simp only [sC, bne_iff_ne, beq_iff_eq, ne_eq] at g18
        refine o_fa ?_
        refine qT rfl rfl rfl (o_ld ?_)
        refine qT rfl rfl rfl (o_fa ?_)
        refine qT rfl rfl rfl (o_ld ?_)
        refine qT rfl rfl rfl (o_neS ?_)
        refine q0 rfl (o_pickF ?_)
        refine q0 rfl (o_move ?_)
        refine qI rfl rfl rfl wl_ (fun hg25 => ?_) (fun hg25 => ?_)
        · have g25 : (!(((t).name).toList == ((u).name).toList)) = false := hg25
          try simp only [sC, bne_iff_ne, beq_iff_eq, ne_eq] at g25
          refine o_fa ?_
          refine qT rfl rfl rfl (o_ld ?_)
          refine qT rfl rfl rfl (o_fa ?_)
          refine qT rfl rfl rfl (o_ld ?_)
          refine qT rfl rfl rfl (o_call Try.call29 (rsameC ((t).r) vr_t ((u).r) vr_u ) (fun x30 => ?_))
          refine qT rfl rfl rfl (o_not ?_)
          refine q0 rfl (o_pickF ?_)
          refine q0 rfl (o_move ?_)
          refine qI rfl rfl rfl wl_ (fun hg33 => ?_) (fun hg33 => ?_)
          · have g33 : (!(decide (((t).r) = ((u).r)))) = false := hg33
            try simp only [sC, bne_iff_ne, beq_iff_eq, ne_eq] at g33
            refine o_fa ?_
            refine qT rfl rfl rfl (o_ld ?_)
            refine qT rfl rfl rfl (o_fa ?_)
            refine qT rfl rfl rfl (o_ld ?_)
            refine qT rfl rfl rfl (o_call Try.call35 (rlists ((t).kids) vk_t ((u).kids) vk_u (fun k hk => (by obtain ⟨p, hp, e⟩ := kid_mem_parts hk; exact e ▸ ih p hp))) (fun x38 => ?_))
            refine qT rfl rfl rfl (o_not ?_)
            refine q0 rfl (o_pickF ?_)
            refine q0 rfl (o_move ?_)
            refine qI rfl rfl rfl wl_ (fun hg41 => ?_) (fun hg41 => ?_)
            · have g41 : (!(decide (((t).kids) = ((u).kids)))) = false := hg41
              try simp only [sC, bne_iff_ne, beq_iff_eq, ne_eq] at g41
              refine o_fa ?_
              refine qT rfl rfl rfl (o_ld ?_)
              refine qT rfl rfl rfl (o_len ?_)
              refine qT rfl rfl rfl (o_fa ?_)
              refine qT rfl rfl rfl (o_ld ?_)
              refine qT rfl rfl rfl (o_len ?_)
              refine qT rfl rfl rfl (o_neI ?_)
              refine q0 rfl (o_pickF ?_)
              refine rg_nil ?_
              exact hK _ ⟨rfl, rfl, dn_, trivial⟩
            · have g41 : (!(decide (((t).kids) = ((u).kids)))) = true := hg41
              try simp only [sC, bne_iff_ne, beq_iff_eq, ne_eq] at g41
              refine qF rfl rfl rfl ?_
              refine qF rfl rfl rfl ?_
              refine qF rfl rfl rfl ?_
              refine qF rfl rfl rfl ?_
              refine qF rfl rfl rfl ?_
              refine qF rfl rfl rfl ?_
              refine q0 rfl (o_pickT ?_)
              refine rg_nil ?_
              exact hK _ ⟨rfl, rfl, dn_, trivial⟩
          · have g33 : (!(decide (((t).r) = ((u).r)))) = true := hg33
            try simp only [sC, bne_iff_ne, beq_iff_eq, ne_eq] at g33
            refine qF rfl rfl rfl ?_
            refine qF rfl rfl rfl ?_
            refine qF rfl rfl rfl ?_
            refine qF rfl rfl rfl ?_
            refine qF rfl rfl rfl ?_
            refine q0 rfl (o_pickT ?_)
            refine q0 rfl (o_move ?_)
            refine qF rfl rfl rfl ?_
            refine qF rfl rfl rfl ?_
            refine qF rfl rfl rfl ?_
            refine qF rfl rfl rfl ?_
            refine qF rfl rfl rfl ?_
            refine qF rfl rfl rfl ?_
            refine qF rfl rfl rfl ?_
            refine q0 rfl (o_pickT ?_)
            refine rg_nil ?_
            exact hK _ ⟨rfl, rfl, dn_, trivial⟩
        · have g25 : (!(((t).name).toList == ((u).name).toList)) = true := hg25
          try simp only [sC, bne_iff_ne, beq_iff_eq, ne_eq] at g25
          refine qF rfl rfl rfl ?_
          refine qF rfl rfl rfl ?_
          refine qF rfl rfl rfl ?_
          refine qF rfl rfl rfl ?_
          refine qF rfl rfl rfl ?_
          refine q0 rfl (o_pickT ?_)
          refine q0 rfl (o_move ?_)
          refine qF rfl rfl rfl ?_
          refine qF rfl rfl rfl ?_
          refine qF rfl rfl rfl ?_
          refine qF rfl rfl rfl ?_
          refine qF rfl rfl rfl ?_
          refine qF rfl rfl rfl ?_
          refine q0 rfl (o_pickT ?_)
          refine q0 rfl (o_move ?_)
          refine qF rfl rfl rfl ?_
          refine qF rfl rfl rfl ?_
          refine qF rfl rfl rfl ?_
          refine qF rfl rfl rfl ?_
          refine qF rfl rfl rfl ?_
          refine qF rfl rfl rfl ?_
          refine qF rfl rfl rfl ?_
          refine q0 rfl (o_pickT ?_)
          refine rg_nil ?_
          exact hK _ ⟨rfl, rfl, dn_, trivial⟩
      · have g18 : (decide (((t).n) ≠ ((u).n))) = true := hg18
        try simp only [sC, bne_iff_ne, beq_iff_eq, ne_eq] at g18
        refine qF rfl rfl rfl ?_
        refine qF rfl rfl rfl ?_
        refine qF rfl rfl rfl ?_
        refine qF rfl rfl rfl ?_
        refine q0 rfl (o_pickT ?_)
        refine q0 rfl (o_move ?_)
        refine qF rfl rfl rfl ?_
        refine qF rfl rfl rfl ?_
        refine qF rfl rfl rfl ?_
        refine qF rfl rfl rfl ?_
        refine qF rfl rfl rfl ?_
        refine qF rfl rfl rfl ?_
        refine q0 rfl (o_pickT ?_)
        refine q0 rfl (o_move ?_)
        refine qF rfl rfl rfl ?_
        refine qF rfl rfl rfl ?_
        refine qF rfl rfl rfl ?_
        refine qF rfl rfl rfl ?_
        refine qF rfl rfl rfl ?_
        refine qF rfl rfl rfl ?_
        refine q0 rfl (o_pickT ?_)
        refine q0 rfl (o_move ?_)
        refine qF rfl rfl rfl ?_
        refine qF rfl rfl rfl ?_
        refine qF rfl rfl rfl ?_
        refine qF rfl rfl rfl ?_
        refine qF rfl rfl rfl ?_
        refine qF rfl rfl rfl ?_
        refine qF rfl rfl rfl ?_
        refine q0 rfl (o_pickT ?_)
        refine rg_nil ?_
        exact hK _ ⟨rfl, rfl, dn_, trivial⟩
    · have g11 : (decide (((t).kind) ≠ ((u).kind))) = true := hg11
      try simp only [sC, bne_iff_ne, beq_iff_eq, ne_eq] at g11
      refine qF rfl rfl rfl ?_
      refine qF rfl rfl rfl ?_
      refine qF rfl rfl rfl ?_
      refine qF rfl rfl rfl ?_
      refine q0 rfl (o_pickT ?_)
      refine q0 rfl (o_move ?_)
      refine qF rfl rfl rfl ?_
      refine qF rfl rfl rfl ?_
      refine qF rfl rfl rfl ?_
      refine qF rfl rfl rfl ?_
      refine qF rfl rfl rfl ?_
      refine q0 rfl (o_pickT ?_)
      refine q0 rfl (o_move ?_)
      refine qF rfl rfl rfl ?_
      refine qF rfl rfl rfl ?_
      refine qF rfl rfl rfl ?_
      refine qF rfl rfl rfl ?_
      refine qF rfl rfl rfl ?_
      refine qF rfl rfl rfl ?_
      refine q0 rfl (o_pickT ?_)
      refine q0 rfl (o_move ?_)
      refine qF rfl rfl rfl ?_
      refine qF rfl rfl rfl ?_
      refine qF rfl rfl rfl ?_
      refine qF rfl rfl rfl ?_
      refine qF rfl rfl rfl ?_
      refine qF rfl rfl rfl ?_
      refine q0 rfl (o_pickT ?_)
      refine q0 rfl (o_move ?_)
      refine qF rfl rfl rfl ?_
      refine qF rfl rfl rfl ?_
      refine qF rfl rfl rfl ?_
      refine qF rfl rfl rfl ?_
      refine qF rfl rfl rfl ?_
      refine qF rfl rfl rfl ?_
      refine qF rfl rfl rfl ?_
      refine q0 rfl (o_pickT ?_)
      refine rg_nil ?_
      exact hK _ ⟨rfl, rfl, dn_, trivial⟩
  · refine go_condI (fun h49 => ?_) (fun h49 => ?_)
    · have c49 : ((((((decide (((t).kind) ≠ ((u).kind))) || (decide (((t).n) ≠ ((u).n)))) || (!(((t).name).toList == ((u).name).toList))) || (!(decide (((t).r) = ((u).r))))) || (!(decide (((t).kids) = ((u).kids))))) || (decide (((t).sys.length : Int) ≠ ((u).sys.length : Int)))) = true := h49
      try simp only [sC, bne_iff_ne, beq_iff_eq, ne_eq] at c49
      refine go_seq ?_
      refine go_region ⟨_, Try.func13⟩ rfl ?_
      refine q0 rfl (o_assign ?_)
      refine rg_nil ?_
      refine ret1 Try.func13 Try.results13 wn_ () (by simp only [decide_eq_false (fun h : t = u => by subst h; simp at h49)]) (fun w hs => hs.none)
    · have c49 : ((((((decide (((t).kind) ≠ ((u).kind))) || (decide (((t).n) ≠ ((u).n)))) || (!(((t).name).toList == ((u).name).toList))) || (!(decide (((t).r) = ((u).r))))) || (!(decide (((t).kids) = ((u).kids))))) || (decide (((t).sys.length : Int) ≠ ((u).sys.length : Int)))) = false := h49
      try simp only [sC, bne_iff_ne, beq_iff_eq, ne_eq] at c49
      obtain ⟨hq1, hq2, hq3, hq4, hq5, hq6⟩ : t.kind = u.kind ∧ t.n = u.n ∧ t.name = u.name ∧ t.r = u.r ∧ t.kids = u.kids ∧ t.sys.length = u.sys.length := by have h := h49; simp only [Bool.or_eq_false_iff, Bool.not_eq_false', decide_eq_false_iff_not, ne_eq, Decidable.not_not, bytes_eq, decide_eq_true_eq, and_assoc] at h; obtain ⟨h1, h2, h3, h4, h5, h6⟩ := h; exact ⟨h1, h2, h3, h4, h5, by omega⟩
      refine go_skip ?_
      refine go_seq ?_
      refine go_seq ?_
      refine go_region ⟨_, Try.func13⟩ rfl ?_
      refine q0 rfl (o_assign ?_)
      refine rg_nil ?_
      refine go_block ?_
      refine go_loopE (X := Nat) (fun s_ => s_ ≤ t.sys.length ∧ ∀ j, j < s_ → t.sys.getD j br0 = u.sys.getD j br0) (fun s_ => [(2, .pointer (some ⟨b2, 0, none⟩)), (3, .pointer (some ⟨b3, 0, none⟩)), (5, .int .i64 ((s_ : Int)))]) (fun s_ G_ => G_) (fun s_ => [boxR b3 (tc u vr_u vk_u vs_u) 26, boxR b2 (tc t vr_t vk_t vs_t) 26]) (fun s_ => t.sys.length - s_) (0) (⟨by omega, fun j h => absurd h (Nat.not_lt_zero j)⟩) (by exact ⟨rfl, rfl, rfl, trivial⟩) ?_ ?_
      · exact fun w hs => hs
      · intro i base0 ⟨hi, hsm⟩ next0
        refine go_seq ?_
        refine go_seq ?_
        refine go_region ⟨_, Try.func13⟩ rfl ?_
        refine q0 rfl (o_move ?_)
        refine q0 rfl (o_fa ?_)
        refine q0 rfl (o_ld ?_)
        refine q0 rfl (o_len ?_)
        refine q0 rfl (o_lss ?_)
        refine rg_nil ?_
        refine go_condI (fun h54 => ?_) (fun h54 => ?_)
        · have c54 : (decide ((i : Int) < ((t).sys.length : Int))) = true := h54
          try simp only [sC, bne_iff_ne, beq_iff_eq, ne_eq] at c54
          refine go_skip ?_
          refine go_seq ?_
          refine go_block ?_
          refine go_seq ?_
          refine go_branch (bs := (t).sys) (a := vs_t) (VF := VF4) (VK := VK4) i (by omega) ?_
          refine go_openCL (l := (((t).sys).getD i br0).face) (a := VF4 i) (fun hl9 hA9 hU9 => ?_)
          refine go_openTL (ts := (((t).sys).getD i br0).kids) (a := VK4 i) (fun VR10 VK10 VS10 hl10 hA10 => ?_)
          refine go_branch (bs := (u).sys) (a := vs_u) (VF := VF8) (VK := VK8) i (by omega) ?_
          refine go_openCL (l := (((u).sys).getD i br0).face) (a := VF8 i) (fun hl11 hA11 hU11 => ?_)
          refine go_openTL (ts := (((u).sys).getD i br0).kids) (a := VK8 i) (fun VR12 VK12 VS12 hl12 hA12 => ?_)
          refine go_cutS ([(2, .pointer (some ⟨b2, 0, none⟩)), (3, .pointer (some ⟨b3, 0, none⟩)), (5, .int .i64 ((i : Int))), (86, .bool ((!(decide (((((t).sys).getD i br0).face) = ((((u).sys).getD i br0).face)))) || (!(decide (((((t).sys).getD i br0).kids) = ((((u).sys).getD i br0).kids))))))]) (fun hK => ?_) (fun base => ?_)
          · refine go_draw (pn := 1000000) (tn := false) (A := [0, 1, 0, 7, 15, 31, 0, 64, 0, 448, 960, 1984, 4095, 8191, 16383, 32767, 65535, 32767, 262143, 524287, 1048575, 32767, 2129919, 32767, 14712831, 31490047, 65044479, 134217727, 268435455, 536870911]) (l := [0, 1, 2, 3, 4, 5, 6, 7, 8, 9, 10, 11, 12, 13, 14, 15, 16, 17, 18, 19, 20, 21, 22, 23, 24, 25, 26, 27, 28, 29]) (fin := []) Tab.mixed ⟨_, Try.func13⟩ (by decide +kernel) ?_
            refine n0 rfl (v_fa ?_)
            refine n0 rfl (v_ld ?_)
            refine n0 rfl (v_move ?_)
            obtain ⟨bk13, o13, hav13⟩ := hA4 (by omega)
            refine n0 rfl (v_ixN ?_ (j := i))
            refine n0 rfl (v_fa ?_)
            refine n0 rfl (v_ldBf ?_)
            refine n0 rfl (v_fa ?_)
            refine n0 rfl (v_ld ?_)
            refine n0 rfl (v_move ?_)
            obtain ⟨bk14, o14, hav14⟩ := hA8 (by omega)
            refine n0 rfl (v_ixN ?_ (j := i))
            refine n0 rfl (v_fa ?_)
            refine n0 rfl (v_ldBf ?_)
            refine n0 rfl (v_call Try.call29 (rsameC ((((t).sys).getD i br0).face) (VF4 i) ((((u).sys).getD i br0).face) (VF8 i) ) (fun x69 => ?_))
            refine n0 rfl (v_not ?_)
            refine n0 rfl (v_move ?_)
            refine nI rfl rfl rfl wl_ (fun hg71 => ?_) (fun hg71 => ?_)
            · have g71 : (!(decide (((((t).sys).getD i br0).face) = ((((u).sys).getD i br0).face)))) = false := hg71
              try simp only [sC, bne_iff_ne, beq_iff_eq, ne_eq] at g71
              refine v_fa ?_
              refine nT rfl rfl rfl (v_ld ?_)
              refine nT rfl rfl rfl (v_move ?_)
              refine nT rfl rfl rfl (v_ixN ?_ (j := i))
              refine nT rfl rfl rfl (v_fa ?_)
              refine nT rfl rfl rfl (v_ldBf ?_)
              refine nT rfl rfl rfl (v_fa ?_)
              refine nT rfl rfl rfl (v_ld ?_)
              refine nT rfl rfl rfl (v_move ?_)
              refine nT rfl rfl rfl (v_ixN ?_ (j := i))
              refine nT rfl rfl rfl (v_fa ?_)
              refine nT rfl rfl rfl (v_ldBf ?_)
              refine nT rfl rfl rfl (v_call Try.call35 (rlists ((((t).sys).getD i br0).kids) (VK4 i) ((((u).sys).getD i br0).kids) (VK8 i) (fun k hk => (by obtain ⟨p, hp, e⟩ := sys_mem_parts (getD_mem (show i < t.sys.length by omega)) hk; exact e ▸ ih p hp))) (fun x84 => ?_))
              refine nT rfl rfl rfl (v_not ?_)
              refine n0 rfl (v_pickF ?_)
              refine NV.done ?_
              refine rg_nil ?_
              exact hK _ ⟨rfl, rfl, rfl, dn_, trivial⟩
            · have g71 : (!(decide (((((t).sys).getD i br0).face) = ((((u).sys).getD i br0).face)))) = true := hg71
              try simp only [sC, bne_iff_ne, beq_iff_eq, ne_eq] at g71
              refine nF rfl rfl rfl ?_
              refine nF rfl rfl rfl ?_
              refine nF rfl rfl rfl ?_
              refine nF rfl rfl rfl ?_
              refine nF rfl rfl rfl ?_
              refine nF rfl rfl rfl ?_
              refine nF rfl rfl rfl ?_
              refine nF rfl rfl rfl ?_
              refine nF rfl rfl rfl ?_
              refine nF rfl rfl rfl ?_
              refine nF rfl rfl rfl ?_
              refine nF rfl rfl rfl ?_
              refine nF rfl rfl rfl ?_
              refine n0 rfl (v_pickT ?_)
              refine NV.done ?_
              refine rg_nil ?_
              exact hK _ ⟨rfl, rfl, rfl, dn_, trivial⟩
          · refine go_condI (fun h86 => ?_) (fun h86 => ?_)
            · have c86 : ((!(decide (((((t).sys).getD i br0).face) = ((((u).sys).getD i br0).face)))) || (!(decide (((((t).sys).getD i br0).kids) = ((((u).sys).getD i br0).kids))))) = true := h86
              try simp only [sC, bne_iff_ne, beq_iff_eq, ne_eq] at c86
              refine go_seq ?_
              refine go_region ⟨_, Try.func13⟩ rfl ?_
              refine q0 rfl (o_assign ?_)
              refine rg_nil ?_
              refine ret1 Try.func13 Try.results13 wn_ () (by simp only [decide_eq_false (fun h : t = u => by subst h; simp at h86)]) (fun w hs => hs.none)
            · have c86 : ((!(decide (((((t).sys).getD i br0).face) = ((((u).sys).getD i br0).face)))) || (!(decide (((((t).sys).getD i br0).kids) = ((((u).sys).getD i br0).kids))))) = false := h86
              try simp only [sC, bne_iff_ne, beq_iff_eq, ne_eq] at c86
              refine go_skip ?_
              refine go_inBlock ?_
              refine go_region ⟨_, Try.func13⟩ rfl ?_
              refine q0 rfl (o_move ?_)
              refine q0 rfl (o_add ?_)
              refine q0 rfl (o_assign ?_)
              refine rg_nil ?_
              refine go_state (fun w hs => ?_) (next0 (i + 1) _ (⟨by omega, fun j hj => by rcases Nat.lt_succ_iff_lt_or_eq.mp hj with h | h; exact hsm j h; subst h; exact Br.ext'.mpr (by simpa using h86)⟩) (by omega) ⟨rfl, rfl, rfl, trivial⟩)
              exact (((hs.less (by simp +contextual)).perm perm1).perm perm1)
        · have c54 : (decide ((i : Int) < ((t).sys.length : Int))) = false := h54
          try simp only [sC, bne_iff_ne, beq_iff_eq, ne_eq] at c54
          refine go_exit rfl ?_
          refine go_seq ?_
          refine go_region ⟨_, Try.func13⟩ rfl ?_
          refine q0 rfl (o_assign ?_)
          refine rg_nil ?_
          refine ret1 Try.func13 Try.results13 wn_ () (by simp only [decide_eq_true (T.ext'.mpr ⟨hq1, hq2, hq3, hq4, hq5, list_eq_of (d := br0) hq6 (fun j hj => hsm j (by omega))⟩ : t = u)]) (fun w hs => hs.none)
theorem rsame : ∀ (t u : T) vr vk vs vr' vk' vs', Spec Try.prog 13 #[.agg (tc t vr vk vs).toArray, .agg (tc u vr' vk' vs').toArray] [RT t vr vk vs, RT u vr' vk' vs'] [] (fun _ : Unit => .bool (decide (t = u))) (fun _ => []) (fun _ => []) := fun t => (T.ind fun t ih u vr vk vs vr' vk' vs' => rsame_walk t vr vk vs u vr' vk' vs' ih : ∀ t : T, SameR t) t
theorem rsameI (t u : T) (h : t = u) : ∀ vr vk vs vr' vk' vs', Spec Try.prog 13 #[.agg (tc t vr vk vs).toArray, .agg (tc u vr' vk' vs').toArray] [RT t vr vk vs, RT u vr' vk' vs'] [] (fun _ : Unit => .bool true) (fun _ => []) (fun _ => []) := fun vr vk vs vr' vk' vs' => by
  have h1 := rsame t u vr vk vs vr' vk' vs'
  rw [decide_eq_true h] at h1
  exact h1
end Go.Hy
namespace Go.Hy
set_option linter.unusedVariables false
set_option linter.unusedSimpArgs false
set_option linter.unusedSectionVars false
open Go.Proofs
set_option linter.unusedVariables false
set_option linter.unusedSimpArgs false
set_option maxRecDepth 100000
theorem in_lit {n : Int} (h : 0 ≤ n) (h2 : n ≤ 1000) : in64 n := by unfold in64; omega
end Go.Hy
namespace Go.Hy
set_option linter.unusedVariables false
set_option linter.unusedSimpArgs false
set_option linter.unusedSectionVars false
open Go.Proofs
set_option linter.unusedVariables false
set_option linter.unusedSimpArgs false
set_option maxRecDepth 100000
abbrev BulkAt (t : T) : Prop := ∀ (most : Int) vr vk vs, 0 ≤ most → most ≤ 1000000 → Spec Try.prog 28 #[.agg (tc t vr vk vs).toArray, .int .i64 most] [RT t vr vk vs] [] (fun x : {x : Int // BulkIs t (bulk t) most x} => .int .i64 x.1) (fun _ => []) (fun _ => [])
theorem bulk_walk (t : T) (ih : ∀ p, p ∈ parts t → BulkAt p.1) (most : Int) (vr vk vs : SH) (h0 : 0 ≤ most) (hm : most ≤ 1000000) : Spec Try.prog 28 #[.agg (tc t vr vk vs).toArray, .int .i64 most] [RT t vr vk vs] [] (fun x : {x : Int // BulkIs t (bulk t) most x} => .int .i64 x.1) (fun _ => []) (fun _ => []) := by
  refine spec_go (args := [.agg (tc t vr vk vs).toArray, .int .i64 most]) Try.func28 Try.ntmps28 rfl (by exact Nat.le_of_ble_eq_true rfl) fun B hB => ?_
  refine go_open (fun hk hn hnm => ?_)
  refine go_openCL (l := t.r) (a := vr) (fun hlr hAr hUr => ?_)
  refine go_openTL (ts := t.kids) (fun VR VK VS hl1 hA1 => ?_)
  refine go_openBL (bs := t.sys) (fun VF VK2 hl2 hA2 => ?_)
  refine go_seq ?_
  refine go_region ⟨_, Try.func28⟩ rfl ?_
  refine q0 rfl (o_box fun b2 => ?_)
  refine q0 rfl (o_assign ?_)
  refine rg_nil ?_
  refine go_seq ?_
  refine go_seq ?_
  refine go_cutS ([(1, .int .i64 most), (2, .pointer (some ⟨b2, 0, none⟩)), (20, .bool (decide (most < (t.r.length : Int)) || decide (most < (t.name.size : Int))))]) (fun hK => ?_) (fun base => ?_)
  · refine go_region ⟨_, Try.func28⟩ rfl ?_
    refine q0 rfl (o_fa ?_)
    refine q0 rfl (o_ld ?_)
    refine q0 rfl (o_len ?_)
    refine q0 rfl (o_move ?_)
    refine q0 rfl (o_gtr ?_)
    refine q0 rfl (o_move ?_)
    refine qI rfl rfl rfl wl_ (fun hg14 => o_fa ?_) (fun hg14 => ?_)
    · refine qT rfl rfl rfl (o_ld ?_)
      refine qT rfl rfl rfl (o_lenStr ?_)
      refine qT rfl rfl rfl (o_move ?_)
      refine qT rfl rfl rfl (o_gtr ?_)
      refine q0 rfl (o_pickF ?_)
      refine rg_nil ?_
      exact hK _ ⟨rfl, rfl, (by (conv => lhs; whnf); first | (simp_all [Bool.and_assoc]; done) | (simp_all [Bool.and_assoc]; omega)), trivial⟩
    · refine qF rfl rfl rfl ?_
      refine qF rfl rfl rfl ?_
      refine qF rfl rfl rfl ?_
      refine qF rfl rfl rfl ?_
      refine q0 rfl (o_pickT ?_)
      refine rg_nil ?_
      exact hK _ ⟨rfl, rfl, (by (conv => lhs; whnf); first | (simp_all [Bool.and_assoc]; done) | (simp_all [Bool.and_assoc]; omega)), trivial⟩
  · refine go_condI (fun h20 => ?_) (fun h20 => ?_)
    · have hb : most < (t.r.length : Int) ∨ most < (t.name.size : Int) := by simpa using h20
      refine go_seq ?_
      refine go_region ⟨_, Try.func28⟩ rfl ?_
      refine q0 rfl (o_move ?_)
      refine q0 rfl (o_add ?_)
      refine q0 rfl (o_assign ?_)
      refine rg_nil ?_
      refine ret1 Try.func28 Try.results28 wn_ ⟨most + 1, by unfold BulkIs; have h9 := bK_le t 0; rw [bK_zero] at h9; omega⟩ rfl (fun w hs => hs.none)
    · have hb : (t.r.length : Int) ≤ most ∧ (t.name.size : Int) ≤ most := by simpa using h20
      have hge1 := bK_le t 0
      rw [bK_zero] at hge1
      refine go_skip ?_
      refine go_seq ?_
      refine go_region ⟨_, Try.func28⟩ rfl ?_
      refine q0 rfl (o_fa ?_)
      refine q0 rfl (o_ld ?_)
      refine q0 rfl (o_len ?_)
      refine q0 rfl (o_add ?_)
      refine q0 rfl (o_fa ?_)
      refine q0 rfl (o_ld ?_)
      refine q0 rfl (o_lenStr ?_)
      refine q0 rfl (o_add ?_)
      refine q0 rfl (o_assign ?_)
      refine rg_nil ?_
      refine go_seq ?_
      refine go_seq ?_
      refine go_region ⟨_, Try.func28⟩ rfl ?_
      refine q0 rfl (o_assign ?_)
      refine rg_nil ?_
      refine go_block ?_
      refine go_loopI (X := Nat × Int) (fun s => s.1 ≤ t.kids.length ∧ BulkIs t (bK t s.1) most s.2) (fun s => [(1, .int .i64 most), (2, .pointer (some ⟨b2, 0, none⟩)), (5, .int .i64 s.2), (6, .int .i64 (s.1 : Int))]) (fun s => [TLx t.kids vk VR VK VS, BLx t.sys vs VF VK2]) (fun s => [boxR b2 (tc t vr vk vs) 26]) (fun s => t.kids.length - s.1) ((0, 1 + (t.r.length : Int) + (t.name.size : Int))) (⟨Nat.zero_le _, by unfold BulkIs; rw [bK_zero]; simp only; omega⟩) (by exact ⟨rfl, rfl, rfl, rfl, trivial⟩) ?_ ?_
      · exact fun w hs => hs.less (by simp +contextual)
      · intro ⟨i, n⟩ base0 ⟨hi, hn0⟩ next0
        dsimp only at hi hn0 next0 ⊢
        refine go_seq ?_
        refine go_seq ?_
        refine go_cutS ([(1, .int .i64 most), (2, .pointer (some ⟨b2, 0, none⟩)), (5, .int .i64 n), (6, .int .i64 (i : Int)), (40, .bool (decide ((i : Int) < (t.kids.length : Int)) && decide (n ≤ most)))]) (fun hK => ?_) (fun base => ?_)
        · refine go_region ⟨_, Try.func28⟩ rfl ?_
          refine q0 rfl (o_move ?_)
          refine q0 rfl (o_fa ?_)
          refine q0 rfl (o_ld ?_)
          refine q0 rfl (o_len ?_)
          refine q0 rfl (o_lss ?_)
          refine q0 rfl (o_move ?_)
          refine qI rfl rfl rfl wl_ (fun hg36 => o_move ?_) (fun hg36 => ?_)
          · refine qT rfl rfl rfl (o_move ?_)
            refine qT rfl rfl rfl (o_leq ?_)
            refine q0 rfl (o_pickT ?_)
            refine rg_nil ?_
            exact hK _ ⟨rfl, rfl, rfl, rfl, (by (conv => lhs; whnf); first | (simp_all [Bool.and_assoc]; done) | (simp_all [Bool.and_assoc]; omega)), trivial⟩
          · refine qF rfl rfl rfl ?_
            refine qF rfl rfl rfl ?_
            refine q0 rfl (o_pickF ?_)
            refine rg_nil ?_
            exact hK _ ⟨rfl, rfl, rfl, rfl, (by (conv => lhs; whnf); first | (simp_all [Bool.and_assoc]; done) | (simp_all [Bool.and_assoc]; omega)), trivial⟩
        · refine go_condI (fun h40 => ?_) (fun h40 => ?_)
          · have hlt' : (i : Int) < (t.kids.length : Int) ∧ n ≤ most := by simpa using h40
            have hlt : i < t.kids.length := by omega
            obtain ⟨bk, o, hav⟩ := hA1 (by omega)
            refine go_kid (ts := t.kids) (a := vk) i hlt ?_
            obtain ⟨hz1, hz2, hz3⟩ := hn0
            refine go_skip ?_
            refine go_seq ?_
            refine go_block ?_
            refine go_region ⟨_, Try.func28⟩ rfl ?_
            refine q0 rfl (o_move ?_)
            refine q0 rfl (o_fa ?_)
            refine q0 rfl (o_ld ?_)
            refine q0 rfl (o_move ?_)
            refine q0 rfl (o_ixN ?_)
            refine q0 rfl (o_ldT ?_)
            refine q0 rfl (o_move ?_)
            refine q0 rfl (o_move ?_)
            refine q0 rfl (o_sub ?_)
            refine q0 rfl (o_call Try.call28 (ih (t.kids.getD i t0, _, _) (parts_mem (parts_kid t i hlt)) (most - n) _ _ _ (by omega) (by omega)) (fun x52 => ?_))
            have hx := x52.2
            unfold BulkIs at hx
            refine q0 rfl (o_add ?_)
            refine q0 rfl (o_assign ?_)
            refine rg_nil ?_
            refine go_inBlock ?_
            refine go_region ⟨_, Try.func28⟩ rfl ?_
            refine q0 rfl (o_move ?_)
            refine q0 rfl (o_add ?_)
            refine q0 rfl (o_assign ?_)
            refine rg_nil ?_
            have hnn : BulkIs t (bK t (i + 1)) most (n + x52.1) := by (have h9 := bK_le t (i + 1); rw [bK_succ hlt] at h9 ⊢; unfold BulkIs; simp only at hx; omega)
            refine go_state (fun w hs => ?_) (next0 (i + 1, n + x52.1) _ ⟨hlt, hnn⟩ (by simp only; omega) ⟨rfl, rfl, rfl, rfl, trivial⟩)
            exact (hs.less (by simp +contextual))
          · have hge : ¬ ((i : Int) < (t.kids.length : Int) ∧ n ≤ most) := by simpa using h40
            have hnS : BulkIs t (bS t 0) most n := by (unfold BulkIs at hn0 ⊢; rw [bS_zero]; have h9 := bK_le t t.kids.length; rcases Nat.lt_or_ge i t.kids.length with h | h; omega; rw [show i = t.kids.length by omega] at hn0; exact hn0)
            refine go_exit rfl ?_
            refine go_seq ?_
            refine go_seq ?_
            refine go_region ⟨_, Try.func28⟩ rfl ?_
            refine q0 rfl (o_assign ?_)
            refine rg_nil ?_
            refine go_block ?_
            refine go_loopI (X := Nat × Int) (fun s => s.1 ≤ t.sys.length ∧ BulkIs t (bS t s.1) most s.2) (fun s => [(1, .int .i64 most), (2, .pointer (some ⟨b2, 0, none⟩)), (5, .int .i64 s.2), (7, .int .i64 (s.1 : Int))]) (fun s => [TLx t.kids vk VR VK VS, BLx t.sys vs VF VK2]) (fun s => [boxR b2 (tc t vr vk vs) 26]) (fun s => t.sys.length - s.1) ((0, n)) (⟨Nat.zero_le _, hnS⟩) (by exact ⟨rfl, rfl, rfl, rfl, trivial⟩) ?_ ?_
            · exact fun w hs => hs.less (by simp +contextual)
            · intro ⟨i2, n⟩ base1 ⟨hi2, hn2⟩ next1
              dsimp only at hi2 hn2 next1 ⊢
              refine go_seq ?_
              refine go_seq ?_
              refine go_cutS ([(1, .int .i64 most), (2, .pointer (some ⟨b2, 0, none⟩)), (5, .int .i64 n), (7, .int .i64 (i2 : Int)), (63, .bool (decide ((i2 : Int) < (t.sys.length : Int)) && decide (n ≤ most)))]) (fun hK => ?_) (fun base => ?_)
              · refine go_region ⟨_, Try.func28⟩ rfl ?_
                refine q0 rfl (o_move ?_)
                refine q0 rfl (o_fa ?_)
                refine q0 rfl (o_ld ?_)
                refine q0 rfl (o_len ?_)
                refine q0 rfl (o_lss ?_)
                refine q0 rfl (o_move ?_)
                refine qI rfl rfl rfl wl_ (fun hg59 => o_move ?_) (fun hg59 => ?_)
                · refine qT rfl rfl rfl (o_move ?_)
                  refine qT rfl rfl rfl (o_leq ?_)
                  refine q0 rfl (o_pickT ?_)
                  refine rg_nil ?_
                  exact hK _ ⟨rfl, rfl, rfl, rfl, (by (conv => lhs; whnf); first | (simp_all [Bool.and_assoc]; done) | (simp_all [Bool.and_assoc]; omega)), trivial⟩
                · refine qF rfl rfl rfl ?_
                  refine qF rfl rfl rfl ?_
                  refine q0 rfl (o_pickF ?_)
                  refine rg_nil ?_
                  exact hK _ ⟨rfl, rfl, rfl, rfl, (by (conv => lhs; whnf); first | (simp_all [Bool.and_assoc]; done) | (simp_all [Bool.and_assoc]; omega)), trivial⟩
              · refine go_condI (fun h63 => ?_) (fun h63 => ?_)
                · have hlt' : (i2 : Int) < (t.sys.length : Int) ∧ n ≤ most := by simpa using h63
                  have hlt2 : i2 < t.sys.length := by omega
                  obtain ⟨bk2, o2, hav2⟩ := hA2 (by omega)
                  refine go_branch (bs := t.sys) (a := vs) i2 hlt2 ?_
                  refine go_openCL (l := (t.sys.getD i2 br0).face) (a := VF i2) (fun hlf hAf hUf => ?_)
                  refine go_openTL (ts := (t.sys.getD i2 br0).kids) (a := VK2 i2) (fun VR3 VK3 VS3 hl3 hA3 => ?_)
                  obtain ⟨hz1, hz2, hz3⟩ := hn2
                  have hj0 := bJ_le (j := 0) hlt2
                  rw [bJ_zero] at hj0
                  refine go_skip ?_
                  refine go_seq ?_
                  refine go_block ?_
                  refine go_seq ?_
                  refine go_seq ?_
                  refine go_region ⟨_, Try.func28⟩ rfl ?_
                  refine q0 rfl (o_fa ?_)
                  refine q0 rfl (o_ld ?_)
                  refine q0 rfl (o_move ?_)
                  refine q0 rfl (o_ixN ?_)
                  refine q0 rfl (o_fa ?_)
                  refine q0 rfl (o_ldBf ?_)
                  refine q0 rfl (o_len ?_)
                  refine q0 rfl (o_move ?_)
                  refine q0 rfl (o_gtr ?_)
                  refine rg_nil ?_
                  refine go_condI (fun h74 => ?_) (fun h74 => ?_)
                  · have hbf := of_decide_eq_true h74
                    refine go_seq ?_
                    refine go_region ⟨_, Try.func28⟩ rfl ?_
                    refine q0 rfl (o_move ?_)
                    refine q0 rfl (o_add ?_)
                    refine q0 rfl (o_assign ?_)
                    refine rg_nil ?_
                    refine ret1 Try.func28 Try.results28 wn_ ⟨most + 1, by unfold BulkIs; omega⟩ rfl (fun w hs => hs.none)
                  · have hbf := of_decide_eq_false h74
                    refine go_skip ?_
                    refine go_seq ?_
                    refine go_region ⟨_, Try.func28⟩ rfl ?_
                    refine q0 rfl (o_move ?_)
                    refine q0 rfl (o_add ?_)
                    refine q0 rfl (o_fa ?_)
                    refine q0 rfl (o_ld ?_)
                    refine q0 rfl (o_move ?_)
                    refine q0 rfl (o_ixN ?_)
                    refine q0 rfl (o_fa ?_)
                    refine q0 rfl (o_ldBf ?_)
                    refine q0 rfl (o_len ?_)
                    refine q0 rfl (o_add ?_)
                    refine q0 rfl (o_assign ?_)
                    refine rg_nil ?_
                    refine go_seq ?_
                    refine go_region ⟨_, Try.func28⟩ rfl ?_
                    refine q0 rfl (o_assign ?_)
                    refine rg_nil ?_
                    refine go_block ?_
                    refine go_loopI (X := Nat × Int) (fun s => s.1 ≤ (t.sys.getD i2 br0).kids.length ∧ BulkIs t (bJ t i2 s.1) most s.2) (fun s => [(1, .int .i64 most), (2, .pointer (some ⟨b2, 0, none⟩)), (5, .int .i64 s.2), (7, .int .i64 (i2 : Int)), (8, .int .i64 (s.1 : Int))]) (fun s => TLx (t.sys.getD i2 br0).kids (VK2 i2) VR3 VK3 VS3 :: [TLx t.kids vk VR VK VS, BLx t.sys vs VF VK2]) (fun s => [boxR b2 (tc t vr vk vs) 26]) (fun s => (t.sys.getD i2 br0).kids.length - s.1) ((0, n + 1 + ((t.sys.getD i2 br0).face.length : Int))) (⟨Nat.zero_le _, by (unfold BulkIs; rw [bJ_zero]; simp only; omega)⟩) (by exact ⟨rfl, rfl, rfl, rfl, rfl, trivial⟩) ?_ ?_
                    · exact fun w hs => hs.less (by simp +contextual)
                    · intro ⟨j, n⟩ base2 ⟨hj, hn3⟩ next2
                      dsimp only at hj hn3 next2 ⊢
                      refine go_seq ?_
                      refine go_seq ?_
                      refine go_cutS ([(1, .int .i64 most), (2, .pointer (some ⟨b2, 0, none⟩)), (5, .int .i64 n), (7, .int .i64 (i2 : Int)), (8, .int .i64 (j : Int)), (100, .bool (decide ((j : Int) < ((t.sys.getD i2 br0).kids.length : Int)) && decide (n ≤ most)))]) (fun hK => ?_) (fun base => ?_)
                      · refine go_region ⟨_, Try.func28⟩ rfl ?_
                        refine q0 rfl (o_move ?_)
                        refine q0 rfl (o_fa ?_)
                        refine q0 rfl (o_ld ?_)
                        refine q0 rfl (o_move ?_)
                        refine q0 rfl (o_ixN ?_)
                        refine q0 rfl (o_fa ?_)
                        refine q0 rfl (o_ldBf ?_)
                        refine q0 rfl (o_len ?_)
                        refine q0 rfl (o_lss ?_)
                        refine q0 rfl (o_move ?_)
                        refine qI rfl rfl rfl wl_ (fun hg96 => o_move ?_) (fun hg96 => ?_)
                        · refine qT rfl rfl rfl (o_move ?_)
                          refine qT rfl rfl rfl (o_leq ?_)
                          refine q0 rfl (o_pickT ?_)
                          refine rg_nil ?_
                          exact hK _ ⟨rfl, rfl, rfl, rfl, rfl, (by (conv => lhs; whnf); first | (simp_all [Bool.and_assoc]; done) | (simp_all [Bool.and_assoc]; omega)), trivial⟩
                        · refine qF rfl rfl rfl ?_
                          refine qF rfl rfl rfl ?_
                          refine q0 rfl (o_pickF ?_)
                          refine rg_nil ?_
                          exact hK _ ⟨rfl, rfl, rfl, rfl, rfl, (by (conv => lhs; whnf); first | (simp_all [Bool.and_assoc]; done) | (simp_all [Bool.and_assoc]; omega)), trivial⟩
                      · refine go_condI (fun h100 => ?_) (fun h100 => ?_)
                        · have hlt3' : (j : Int) < ((t.sys.getD i2 br0).kids.length : Int) ∧ n ≤ most := by simpa using h100
                          have hlt3 : j < (t.sys.getD i2 br0).kids.length := by omega
                          obtain ⟨bk3, o3, hav3⟩ := hA3 (by omega)
                          refine go_kid (ts := (t.sys.getD i2 br0).kids) (a := VK2 i2) j hlt3 ?_
                          obtain ⟨hy1, hy2, hy3⟩ := hn3
                          refine go_skip ?_
                          refine go_seq ?_
                          refine go_block ?_
                          refine go_region ⟨_, Try.func28⟩ rfl ?_
                          refine q0 rfl (o_move ?_)
                          refine q0 rfl (o_fa ?_)
                          refine q0 rfl (o_ld ?_)
                          refine q0 rfl (o_move ?_)
                          refine q0 rfl (o_ixN ?_)
                          refine q0 rfl (o_fa ?_)
                          refine q0 rfl (o_ldBf ?_)
                          refine q0 rfl (o_move ?_)
                          refine q0 rfl (o_ixN ?_)
                          refine q0 rfl (o_ldT ?_)
                          refine q0 rfl (o_move ?_)
                          refine q0 rfl (o_move ?_)
                          refine q0 rfl (o_sub ?_)
                          refine q0 rfl (o_call Try.call28 (ih ((t.sys.getD i2 br0).kids.getD j t0, _, _) (parts_mem (parts_sys t i2 j hlt2 hlt3)) (most - n) _ _ _ (by omega) (by omega)) (fun x116 => ?_))
                          have hx := x116.2
                          unfold BulkIs at hx
                          refine q0 rfl (o_add ?_)
                          refine q0 rfl (o_assign ?_)
                          refine rg_nil ?_
                          refine go_inBlock ?_
                          refine go_region ⟨_, Try.func28⟩ rfl ?_
                          refine q0 rfl (o_move ?_)
                          refine q0 rfl (o_add ?_)
                          refine q0 rfl (o_assign ?_)
                          refine rg_nil ?_
                          have hnn : BulkIs t (bJ t i2 (j + 1)) most (n + x116.1) := by (have h9 := bJ_le (j := j + 1) hlt2; rw [bJ_succ hlt3] at h9 ⊢; unfold BulkIs; simp only at hx; omega)
                          refine go_state (fun w hs => ?_) (next2 (j + 1, n + x116.1) _ ⟨hlt3, hnn⟩ (by simp only; omega) ⟨rfl, rfl, rfl, rfl, rfl, trivial⟩)
                          exact (hs.less (by simp +contextual))
                        · have hge3 : ¬ ((j : Int) < ((t.sys.getD i2 br0).kids.length : Int) ∧ n ≤ most) := by simpa using h100
                          have hnS2 : BulkIs t (bS t (i2 + 1)) most n := by (unfold BulkIs at hn3 ⊢; rw [bS_succ hlt2]; have h9 := bS_le t (i2 + 1); rw [bS_succ hlt2] at h9; rcases Nat.lt_or_ge j (t.sys.getD i2 br0).kids.length with h | h; omega; rw [show j = (t.sys.getD i2 br0).kids.length by omega] at hn3; exact hn3)
                          refine go_exit rfl ?_
                          refine go_inBlock ?_
                          refine go_region ⟨_, Try.func28⟩ rfl ?_
                          refine q0 rfl (o_move ?_)
                          refine q0 rfl (o_add ?_)
                          refine q0 rfl (o_assign ?_)
                          refine rg_nil ?_
                          refine go_state (fun w hs => ?_) (next1 (i2 + 1, n) _ ⟨hlt2, hnS2⟩ (by simp only; omega) ⟨rfl, rfl, rfl, rfl, trivial⟩)
                          exact (hs.less (by simp +contextual))
                · have hge2 : ¬ ((i2 : Int) < (t.sys.length : Int) ∧ n ≤ most) := by simpa using h63
                  have hfin : BulkIs t (bulk t) most n := by (unfold BulkIs at hn2 ⊢; rcases Nat.lt_or_ge i2 t.sys.length with h | h; omega; rw [show i2 = t.sys.length by omega, bS_all] at hn2; exact hn2)
                  refine go_exit rfl ?_
                  refine go_seq ?_
                  refine go_region ⟨_, Try.func28⟩ rfl ?_
                  refine q0 rfl (o_move ?_)
                  refine q0 rfl (o_assign ?_)
                  refine rg_nil ?_
                  refine ret1 Try.func28 Try.results28 wn_ ⟨n, hfin⟩ rfl (fun w hs => hs.none)
theorem bulk_spec : ∀ t : T, BulkAt t := T.ind fun t ih most vr vk vs h0 hm => bulk_walk t ih most vr vk vs h0 hm
end Go.Hy
namespace Go.Hy
set_option linter.unusedVariables false
set_option linter.unusedSimpArgs false
set_option linter.unusedSectionVars false
open Go.Proofs
set_option linter.unusedVariables false
set_option linter.unusedSimpArgs false
set_option maxRecDepth 100000
theorem liftVarsF (t : T) (vr vk vs : SH) (f b : Int) (ha : in64 f) (hb : in64 b) (hz : size t ≤ 1152921504606846) : Spec Try.prog 14 #[.agg (tc t vr vk vs).toArray, .int .i64 f, .int .i64 b] [RT t vr vk vs] [] (fun x : SH × SH × SH => .tuple #[.agg (tc (varsRes t f b).2 x.1 x.2.1 x.2.2).toArray, .int .i64 (varsRes t f b).1]) (fun x => [RT (varsRes t f b).2 x.1 x.2.1 x.2.2]) (fun _ => []) :=
  Spec.settleT tys (fun v => .tuple #[v, .int .i64 (varsRes t f b).1]) (vars_spec t vr vk vs f b ha hb hz) (fun ok w hs => vars_okT hb (ok_of (hs.facts _ List.mem_cons_self)))
theorem liftBothF (t : T) (vr vk vs : SH) (f b : Int) (ha : in64 f) (hb : in64 b) (hz : size t ≤ 1152921504606846) : Spec Try.prog 11 #[.agg (tc t vr vk vs).toArray, .int .i64 f, .int .i64 b] [RT t vr vk vs] [] (fun x : SH × SH × SH => .tuple #[.agg (tc (bothRes t f b).2 x.1 x.2.1 x.2.2).toArray, .int .i64 (bothRes t f b).1]) (fun x => [RT (bothRes t f b).2 x.1 x.2.1 x.2.2]) (fun _ => []) :=
  Spec.settleT tys (fun v => .tuple #[v, .int .i64 (bothRes t f b).1]) (both_spec t vr vk vs f b ha hb hz) (fun ok w hs => both_okT ha (ok_of (hs.facts _ List.mem_cons_self)))
end Go.Hy
namespace Go.Hy
set_option linter.unusedVariables false
set_option linter.unusedSimpArgs false
set_option linter.unusedSectionVars false
open Go.Proofs
set_option linter.unusedVariables false
set_option linter.unusedSimpArgs false
set_option maxRecDepth 100000
theorem liftVarsH (t : T) (vr vk vs : SH) (f b : Int) (ha : in64 f) (hb : in64 b) (hz : size t ≤ 1152921504606846) : Spec Try.prog 14 #[.agg (tc t vr vk vs).toArray, .int .i64 f, .int .i64 b] [RT t vr vk vs] [] (fun x : {x : (Int × T) × (SH × SH × SH) // x.1 = varsRes t f b} => .tuple #[.agg (tc x.1.1.2 x.1.2.1 x.1.2.2.1 x.1.2.2.2).toArray, .int .i64 x.1.1.1]) (fun x => [RT x.1.1.2 x.1.2.1 x.1.2.2.1 x.1.2.2.2]) (fun _ => []) :=
  Spec.hide (varsRes t f b) (val := fun (r : Int × T) (x : SH × SH × SH) => .tuple #[.agg (tc r.2 x.1 x.2.1 x.2.2).toArray, .int .i64 r.1]) (N := fun (r : Int × T) (x : SH × SH × SH) => [RT r.2 x.1 x.2.1 x.2.2]) (Ms1 := fun _ _ => []) (liftVarsF t vr vk vs f b ha hb hz)
theorem liftBothH (t : T) (vr vk vs : SH) (f b : Int) (ha : in64 f) (hb : in64 b) (hz : size t ≤ 1152921504606846) : Spec Try.prog 11 #[.agg (tc t vr vk vs).toArray, .int .i64 f, .int .i64 b] [RT t vr vk vs] [] (fun x : {x : (Int × T) × (SH × SH × SH) // x.1 = bothRes t f b} => .tuple #[.agg (tc x.1.1.2 x.1.2.1 x.1.2.2.1 x.1.2.2.2).toArray, .int .i64 x.1.1.1]) (fun x => [RT x.1.1.2 x.1.2.1 x.1.2.2.1 x.1.2.2.2]) (fun _ => []) :=
  Spec.hide (bothRes t f b) (val := fun (r : Int × T) (x : SH × SH × SH) => .tuple #[.agg (tc r.2 x.1 x.2.1 x.2.2).toArray, .int .i64 r.1]) (N := fun (r : Int × T) (x : SH × SH × SH) => [RT r.2 x.1 x.2.1 x.2.2]) (Ms1 := fun _ _ => []) (liftBothF t vr vk vs f b ha hb hz)
end Go.Hy
namespace Go.Hy
set_option linter.unusedVariables false
set_option linter.unusedSimpArgs false
set_option linter.unusedSectionVars false
open Go.Proofs
set_option linter.unusedVariables false
set_option linter.unusedSimpArgs false
set_option maxRecDepth 100000
theorem plugMore_spec (t : T) (vr_t vk_t vs_t : SH)  : Spec Try.prog 65 #[.agg (tc t vr_t vk_t vs_t).toArray] [RT t vr_t vk_t vs_t] [] (fun _ : Unit => .int .i64 ((more t.kind))) (fun _ : Unit => []) (fun _ : Unit => []) := by
  refine spec_go (args := [.agg (tc t vr_t vk_t vs_t).toArray]) Try.func65 Try.ntmps65 rfl (by exact Nat.le_of_ble_eq_true rfl) fun B hB => ?_
  refine go_open (t := t) (vr := vr_t) (vk := vk_t) (vs := vs_t) (fun hk1 hn1 hm1 => ?_)
  refine go_openCL (l := (t).r) (a := vr_t) (fun hl2 hA2 hU2 => ?_)
  refine go_openTL (ts := (t).kids) (a := vk_t) (fun VR3 VK3 VS3 hl3 hA3 => ?_)
  refine go_openBL (bs := (t).sys) (a := vs_t) (fun VF4 VK4 hl4 hA4 => ?_)
  refine go_seq ?_
  refine go_region ⟨_, Try.func65⟩ rfl ?_
  refine q0 rfl (o_box fun b1 => ?_)
  refine q0 rfl (o_assign ?_)
  refine rg_nil ?_
  refine go_seq ?_
  refine go_seq ?_
  refine go_region ⟨_, Try.func65⟩ rfl ?_
  refine q0 rfl (o_fa ?_)
  refine q0 rfl (o_ld ?_)
  refine q0 rfl (o_eqI ?_)
  refine rg_nil ?_
  refine go_condI (fun h5 => ?_) (fun h5 => ?_)
  · have c5 : (decide (((t).kind) = 15)) = true := h5
    try simp only [sC, bne_iff_ne, beq_iff_eq, ne_eq] at c5
    refine go_seq ?_
    refine go_region ⟨_, Try.func65⟩ rfl ?_
    refine q0 rfl (o_assign ?_)
    refine rg_nil ?_
    refine ret1 Try.func65 Try.results65 wn_ () (by rw [more, if_pos (by simpa using h5)]) (fun w hs => hs.none)
  · have c5 : (decide (((t).kind) = 15)) = false := h5
    try simp only [sC, bne_iff_ne, beq_iff_eq, ne_eq] at c5
    refine go_skip ?_
    refine go_seq ?_
    refine go_region ⟨_, Try.func65⟩ rfl ?_
    refine q0 rfl (o_assign ?_)
    refine rg_nil ?_
    refine ret1 Try.func65 Try.results65 wn_ () (by rw [more, if_neg (by simpa using h5)]) (fun w hs => hs.none)
abbrev PutF (n : Int) (u : T) (t : T) : Prop := ∀ (vr vk vs ur uk us : SH) (v d : Int), fineT t → (0 ≤ n ∧ n ≤ 1099511627776) → (0 ≤ v ∧ v + size t ≤ 1000000000) → (0 ≤ d ∧ d + size t ≤ 1000000000) → size u ≤ 20000 → SpecR Try.prog 29 53 #[.agg (tc t vr vk vs).toArray, .int .i64 n, .agg (tc u ur uk us).toArray, .int .i64 v, .int .i64 d] [RT t vr vk vs, RT u ur uk us] (trav (plugTr n u) t (v, d)) (fun (y : T) => fun x : SH × SH × SH => .agg (tc y x.1 x.2.1 x.2.2).toArray) (fun y x => [RT y x.1 x.2.1 x.2.2]) (fun _ _ => [])
set_option maxHeartbeats 4000000 in
theorem put_walk (t : T) (vr_t vk_t vs_t : SH) (n : Int) (u : T) (vr_u vk_u vs_u : SH) (v : Int) (d : Int) (ihk : ∀ k, k ∈ t.kids → PutF n u k) (ihs : ∀ b, b ∈ t.sys → ∀ k, k ∈ b.kids → PutF n u k) (hf : fineT t) (hn : 0 ≤ n ∧ n ≤ 1099511627776) (hv : 0 ≤ v ∧ v + size t ≤ 1000000000) (hd : 0 ≤ d ∧ d + size t ≤ 1000000000) (hzu : size u ≤ 20000) : SpecR Try.prog 29 53 #[.agg (tc t vr_t vk_t vs_t).toArray, .int .i64 (n), .agg (tc u vr_u vk_u vs_u).toArray, .int .i64 (v), .int .i64 (d)] [RT t vr_t vk_t vs_t, RT u vr_u vk_u vs_u] (trav (plugTr n u) t (v, d)) (fun (y : T) => fun x : SH × SH × SH => .agg (tc y x.1 x.2.1 x.2.2).toArray) (fun (y : T) => fun x : SH × SH × SH => [RT y x.1 x.2.1 x.2.2]) (fun (y : T) => fun x : SH × SH × SH => []) := by
  refine specR_go (args := [.agg (tc t vr_t vk_t vs_t).toArray, .int .i64 (n), .agg (tc u vr_u vk_u vs_u).toArray, .int .i64 (v), .int .i64 (d)]) Try.func53 Try.ntmps53 rfl (by exact Nat.le_of_ble_eq_true rfl) fun B hB => ?_
  refine go_open (t := t) (vr := vr_t) (vk := vk_t) (vs := vs_t) (fun hk1 hn1 hm1 => ?_)
  refine go_openCL (l := (t).r) (a := vr_t) (fun hl2 hA2 hU2 => ?_)
  refine go_openTL (ts := (t).kids) (a := vk_t) (fun VR3 VK3 VS3 hl3 hA3 => ?_)
  refine go_openBL (bs := (t).sys) (a := vs_t) (fun VF4 VK4 hl4 hA4 => ?_)
  have hpz := size_pos' t
  refine go_seq ?_
  refine go_region ⟨_, Try.func53⟩ rfl ?_
  refine q0 rfl (o_box fun b5 => ?_)
  refine q0 rfl (o_box fun b7 => ?_)
  refine q0 rfl (o_new fun b10 => ?_)
  refine rg_nil ?_
  refine go_seq ?_
  refine go_seq ?_
  refine go_state (fun w hs => ((((hs.perm perm1).perm perm1).perm perm2).settleBox hB)) ?_
  refine go_state (fun w hs => ((hs.perm perm1).settleBox hB)) ?_
  refine go_region ⟨_, Try.func53⟩ rfl ?_
  refine q0 rfl (o_fa ?_)
  refine q0 rfl (o_ldg ?_)
  refine q0 rfl (o_eqI ?_)
  refine rg_nil ?_
  refine go_condI (fun h25 => ?_) (fun h25 => ?_)
  · have c25 : (decide (((t).kind) = 1)) = true := h25
    try simp only [sC, bne_iff_ne, beq_iff_eq, ne_eq] at c25
    have hk1 : t.kind = 1 := by simpa using h25
    refine go_seq ?_
    refine go_block ?_
    refine go_seq ?_
    refine go_region ⟨_, Try.func53⟩ rfl ?_
    refine q0 rfl (o_fa ?_)
    refine q0 rfl (o_ldg ?_)
    refine q0 rfl (o_move ?_)
    refine q0 rfl (o_move ?_)
    refine q0 rfl (o_add ?_)
    refine q0 rfl (o_eqI ?_)
    refine q0 rfl (o_assign ?_)
    refine rg_nil ?_
    refine go_condI (fun h26 => ?_) (fun h26 => ?_)
    · have c26 : (decide (((t).n) = (n + v))) = true := h26
      try simp only [sC, bne_iff_ne, beq_iff_eq, ne_eq] at c26
      have hhit : t.n = n + v := by simpa using h26
      refine go_seq ?_
      refine go_region ⟨_, Try.func53⟩ rfl ?_
      refine q0 rfl (o_ldgs ?_)
      refine q0 rfl (o_move ?_)
      refine q0 rfl (o_move ?_)
      refine q0 rfl (o_call Try.call11 (liftBothH u vr_u vk_u vs_u v d om_ om_ om_) (fun x37 => ?_))
      refine q0 rfl (o_move ?_)
      refine q0 rfl (o_extract ?_)
      refine q0 rfl (o_extract ?_)
      refine q0 rfl (o_new fun b11 => ?_)
      refine q0 rfl (o_st ?_)
      refine q0 rfl (o_assign ?_)
      refine rg_nil ?_
      refine go_seq ?_
      refine go_seq ?_
      refine go_region ⟨_, Try.func53⟩ rfl ?_
      refine q0 rfl (o_move ?_)
      refine q0 rfl (o_neI ?_)
      refine rg_nil ?_
      refine go_condI (fun h41 => ?_) (fun h41 => ?_)
      · have c41 : (decide (x37.1.1.1 ≠ 0)) = true := h41
        try simp only [sC, bne_iff_ne, beq_iff_eq, ne_eq] at c41
        have hbad : trav (plugTr n u) t (v, d) = .bad x37.1.1.1 := (by have h9 : x37.1.1.1 ≠ 0 := (by simpa using h41); rw [x37.2] at h9 ⊢; exact plug_hit_bad hk1 hhit h9)
        refine go_region ⟨_, Try.func53⟩ rfl ?_
        refine q0 rfl (o_move ?_)
        refine q0 rfl (o_makeI ?_)
        refine q0 rfl (o_panic (endsR_bad (hbad)))
      · have c41 : (decide (x37.1.1.1 ≠ 0)) = false := h41
        try simp only [sC, bne_iff_ne, beq_iff_eq, ne_eq] at c41
        have hgood : trav (plugTr n u) t (v, d) = .ok x37.1.1.2 := (by have h9 : x37.1.1.1 = 0 := (by simpa using h41); rw [x37.2] at h9 ⊢; exact plug_hit hk1 hhit h9)
        refine go_skip ?_
        refine go_seq ?_
        refine go_region ⟨_, Try.func53⟩ rfl ?_
        refine q0 rfl (o_lds ?_)
        refine q0 rfl (o_st ?_)
        refine rg_nil ?_
        refine go_ok (a := x37.1.1.2) (hgood) ?_
        refine retC Try.func53 Try.results53 (x37.1.2.1, x37.1.2.2.1, x37.1.2.2.2) rfl mm_ rfl rfl rfl rfl (fun w hs => hs.bare.less (by simp))
    · have c26 : (decide (((t).n) = (n + v))) = false := h26
      try simp only [sC, bne_iff_ne, beq_iff_eq, ne_eq] at c26
      have hhit : t.n ≠ n + v := by simpa using h26
      refine go_seq ?_
      refine go_region ⟨_, Try.func53⟩ rfl ?_
      refine q0 rfl (o_fa ?_)
      refine q0 rfl (o_ldg ?_)
      refine q0 rfl (o_move ?_)
      refine q0 rfl (o_move ?_)
      refine q0 rfl (o_add ?_)
      refine q0 rfl (o_gtr ?_)
      refine q0 rfl (o_assign ?_)
      refine rg_nil ?_
      refine go_condI (fun h45 => ?_) (fun h45 => ?_)
      · have c45 : (decide ((n + v) < ((t).n))) = true := h45
        try simp only [sC, bne_iff_ne, beq_iff_eq, ne_eq] at c45
        have habove : n + v < t.n := by simpa using h45
        refine go_seq ?_
        refine go_region ⟨_, Try.func53⟩ rfl ?_
        refine q0 rfl (o_fa ?_)
        refine q0 rfl (o_ldg ?_)
        refine q0 rfl (o_sub ?_)
        refine q0 rfl (o_build (cs := [.int .i64 (1), .int .i64 (((t).n) - 1), .string ((ByteArray.mk #[])), sl (none, 0) (0), sl (none, 0) (0), sl (none, 0) (0)]) ?_)
        refine q0 rfl (o_st ?_)
        refine rg_nil ?_
        refine go_ok (a := (T.mk 1 (t.n - 1) ⟨#[]⟩ [] [] [])) (plug_less hf hk1 habove) ?_
        have hfv := (fine_var hf hk1).2
        refine retC Try.func53 Try.results53 (nul, nul, nul) rfl mm_ rfl rfl rfl rfl (fun w hs => ((hs.leaf 1 (t.n - 1) ⟨#[]⟩ (in_lit (by omega) (by omega)) (by unfold in64 at hn1 ⊢; omega) (Nat.zero_le _)).bare.less (by simp)))
      · have c45 : (decide ((n + v) < ((t).n))) = false := h45
        try simp only [sC, bne_iff_ne, beq_iff_eq, ne_eq] at c45
        have hnab : ¬ n + v < t.n := (by simpa using h45)
        have hbelow : t.n < n + v := (by omega)
        refine go_skip ?_
        refine go_inBlock ?_
        refine go_seq ?_
        refine go_region ⟨_, Try.func53⟩ rfl ?_
        refine q0 rfl (o_ldgs ?_)
        refine q0 rfl (o_st ?_)
        refine rg_nil ?_
        refine go_ok (a := t) (plug_same hf hk1 hbelow) ?_
        refine retC Try.func53 Try.results53 (vr_t, vk_t, vs_t) rfl mm_ rfl rfl rfl rfl (fun w hs => hs.bare.less (by simp))
  · have c25 : (decide (((t).kind) = 1)) = false := h25
    try simp only [sC, bne_iff_ne, beq_iff_eq, ne_eq] at c25
    have hkn : t.kind ≠ 1 := by simpa using h25
    have hn0 := fine_zero hf hkn
    have hown : (plugTr n u).own (v, d) t.kind t.n t.name t.r = .ok (.inr (0, t.r)) := (by rw [plug_own_ne hkn, hn0])
    refine go_skip ?_
    refine go_seq ?_
    refine go_draw (pn := 1000000) (tn := true) (A := [0, 1, 0, 4, 0, 16, 48, 127, 0, 511]) (l := [0, 1, 2, 3, 4, 5, 6, 7, 8]) (fin := [9]) Tab.mixed ⟨_, Try.func53⟩ (by rfl) ?_
    refine n0 rfl (v_fa ?_)
    refine n0 rfl (f_ldg ?_)
    refine n0 rfl (v_fa ?_)
    refine n0 rfl (f_ldg ?_)
    refine n0 rfl (v_fa ?_)
    refine n0 rfl (f_ldg ?_)
    refine nv_conv [] [_] (fun _ _ _ hs => hs.rowS0 2 53) ?_
    refine n0 rfl (t_appCL (fun a63 => ?_) (by simp) (a := (none, 0)) (n' := 0) (b := vr_t) (ls := ((t).r)))
    refine nv_conv [_] [_] (fun _ _ _ hs => hs.appFlatC (l := []) (m := (t).r)) ?_
    rw [Nat.zero_add ((t).r).length]
    refine n0 rfl (v_build (cs := [.int .i64 ((t).kind), .int .i64 (0), .string ((t).name), sl a63 (((t).r).length), sl (none, 0) (0), sl (none, 0) (0)]) ?_)
    refine n0 rfl (v_new fun b13 => ?_)
    refine NV.done ?_
    refine q0 rfl (o_st ?_)
    refine rg_nil ?_
    refine go_seq ?_
    refine go_seq ?_
    refine go_region ⟨_, Try.func53⟩ rfl ?_
    refine q0 rfl (o_fa ?_)
    refine q0 rfl (o_ldg ?_)
    refine q0 rfl (o_len ?_)
    refine q0 rfl (o_move ?_)
    refine rg_nil ?_
    refine go_block ?_
    refine go_loopE (X := Nat × SH × List TP) (fun s_ => s_.1 ≤ t.kids.length ∧ travL (plugTr n u) t.kind 0 (t.kids.take s_.1) (v, d) = .ok (s_.2.2.map (·.1))) (fun s_ => [(1, .int .i64 (n)), (3, .int .i64 (v)), (4, .int .i64 (d)), (5, .pointer (some ⟨b5, 0, none⟩)), (7, .pointer (some ⟨b7, 0, none⟩)), (10, .pointer (some ⟨b10, 0, none⟩)), (13, .pointer (some ⟨b13, 0, none⟩)), (66, sl vk_t ((t).kids.length)), (67, .int .i64 (((t).kids.length : Int))), (68, .int .i64 ((s_.1 : Int)))]) (fun s_ G_ => AP s_.2.2 :: G_) (fun s_ => [rowS 6 26 s_.2.1 (s_.1) (tpFlat s_.2.2), boxR b13 [.int .i64 (t.kind), .int .i64 (0), .string (t.name), sl a63 (t.r.length), sl s_.2.1 (s_.1), sl (none, 0) (0)] 26, rowS 2 53 a63 (((t).r).length) (clFlat ((t).r)), boxR b10 [.int .i64 (0), .int .i64 (0), .string ((ByteArray.mk #[])), sl (none, 0) (0), sl (none, 0) (0), sl (none, 0) (0)] 26]) (fun s_ => t.kids.length - s_.1) (0, (none, 0), []) (⟨by omega, by rw [List.take_zero, travL_nil]; rfl⟩) (by exact ⟨rfl, rfl, rfl, rfl, rfl, rfl, rfl, rfl, rfl, rfl, trivial⟩) ?_ ?_
    · exact fun w hs => ((hs.rowS0 6 26).apNil)
    · intro ⟨i, a, ps⟩ base0 ⟨hi, hks⟩ next0
      dsimp only at  hi  hks  next0 ⊢
      refine go_seq ?_
      refine go_region ⟨_, Try.func53⟩ rfl ?_
      refine q0 rfl (o_lss ?_)
      refine rg_nil ?_
      refine go_seq ?_
      refine go_condI (fun h69 => ?_) (fun h69 => ?_)
      · have c69 : (decide ((i : Int) < ((t).kids.length : Int))) = true := h69
        try simp only [sC, bne_iff_ne, beq_iff_eq, ne_eq] at c69
        have hbi := binds_01 t.kind i
        have hsk := size_kid_lt (t := t) (i := i) (by omega)
        refine go_skip ?_
        refine go_seq ?_
        refine go_block ?_
        refine go_seq ?_
        refine go_kid (ts := (t).kids) (a := vk_t) (VR := VR3) (VK := VK3) (VS := VS3) i (by omega) ?_
        refine go_region ⟨_, Try.func53⟩ rfl ?_
        refine q0 rfl (o_move ?_)
        obtain ⟨bk5, o5, hav5⟩ := hA3 (by omega)
        refine q0 rfl (o_ixN ?_ (j := i))
        refine q0 rfl (o_ldT ?_)
        refine q0 rfl (o_new fun b15 => ?_)
        refine q0 rfl (o_assign ?_)
        refine q0 rfl (o_st ?_)
        refine rg_nil ?_
        refine go_seq ?_
        refine go_region ⟨_, Try.func53⟩ rfl ?_
        refine q0 rfl (o_fa ?_)
        refine q0 rfl (o_ldg ?_)
        refine q0 rfl (o_move ?_)
        refine q0 rfl (o_call Try.call44 (binds_spec ((t).kind) (i : Int) ) (fun x77 => ?_))
        refine q0 rfl (o_move ?_)
        refine q0 rfl (o_extract ?_)
        refine q0 rfl (o_extract ?_)
        refine q0 rfl (o_assign ?_)
        refine q0 rfl (o_assign ?_)
        refine rg_nil ?_
        refine go_res (trav (plugTr n u) (t.kids.getD i t0) ((v + (binds t.kind i).1), (d + (binds t.kind i).2))) (fun g15_11 hg15_11 => ?_) (fun e15_11 he15_11 => ?_)
        · refine go_draw (pn := 1000000) (tn := false) (A := [0, 1, 0, 0, 0, 0, 0, 96, 0, 0, 768, 2044, 4092, 8191, 16383, 32767]) (l := [0, 1, 2, 3, 4, 5, 6, 7, 8, 9, 10, 11, 12]) (fin := [13, 14, 15]) Tab.mixed ⟨_, Try.func53⟩ (by rfl) ?_
          refine n0 rfl (v_fa ?_)
          refine n0 rfl (v_ld ?_)
          refine n0 rfl (v_lds ?_)
          refine n0 rfl (v_move ?_)
          refine n0 rfl (f_ldgs ?_)
          refine n0 rfl (v_move ?_)
          refine n0 rfl (v_move ?_)
          refine n0 rfl (v_add ?_)
          refine n0 rfl (v_move ?_)
          refine n0 rfl (v_move ?_)
          refine n0 rfl (v_add ?_)
          refine n0 rfl (v_call Try.call53 (((ihk _ (getD_mem (show i < t.kids.length by omega))) (VR3 i) (VK3 i) (VS3 i) vr_u vk_u vs_u (v + ((binds ((t).kind) (i : Int)).1)) (d + ((binds ((t).kind) (i : Int)).2)) (fine_part hf (List.mem_of_getElem? (parts_kid t i (by omega)))) hn (by omega) (by omega) hzu).1 g15_11 hg15_11) (fun x91 => ?_))
          refine n0 rfl (v_lit1 fun b92 => ?_)
          refine NV.done ?_
          refine q0 rfl (o_appS (fun a93 => ?_) (a := a) (n' := i))
          refine rg_state (fun w hs => ((hs.perm perm1).drop).snocT) ?_
          refine q0 rfl (o_fa ?_)
          refine q0 rfl (o_stc ?_)
          refine rg_nil ?_
          refine go_inBlock ?_
          refine go_region ⟨_, Try.func53⟩ rfl ?_
          refine q0 rfl (o_add ?_)
          refine q0 rfl (o_move ?_)
          refine rg_nil ?_
          refine go_state (fun w hs => ?_) (next0 (i + 1, a93, ps ++ [(g15_11, x91.1, x91.2.1, x91.2.2)]) _ (⟨by omega, by rw [List.map_append, List.map_cons, List.map_nil]; exact trav_kid_ok (by omega) hks plug_kid hg15_11⟩) (by (try simp only); omega) ⟨rfl, rfl, rfl, rfl, rfl, rfl, rfl, rfl, rfl, rfl, trivial⟩)
          exact (((((((hs.apAdd (ps := ps) (t := g15_11) (vr := x91.1) (vk := x91.2.1) (vs := x91.2.2) mm_ mm_).less (by simp +contextual)).perm perm4).perm perm4).perm perm2).perm perm3).dropR (A := [_, _, _, _]))
        · refine go_draw (pn := 11) (tn := false) (A := [0, 1, 0, 0, 0, 0, 0, 96, 0, 0, 768, 2044, 4092, 8191, 16383, 32767]) (l := [0, 1, 2, 3, 4, 5, 6, 7, 8, 9, 10, 11, 12]) (fin := [13, 14, 15]) Tab.mixed ⟨_, Try.func53⟩ (by rfl) ?_
          refine n0 rfl (v_fa ?_)
          refine n0 rfl (v_ld ?_)
          refine n0 rfl (v_lds ?_)
          refine n0 rfl (v_move ?_)
          refine n0 rfl (f_ldgs ?_)
          refine n0 rfl (v_move ?_)
          refine n0 rfl (v_move ?_)
          refine n0 rfl (v_add ?_)
          refine n0 rfl (v_move ?_)
          refine n0 rfl (v_move ?_)
          refine n0 rfl (v_add ?_)
          refine n_pan rfl Try.call53 (((ihk _ (getD_mem (show i < t.kids.length by omega))) (VR3 i) (VK3 i) (VS3 i) vr_u vk_u vs_u (v + ((binds ((t).kind) (i : Int)).1)) (d + ((binds ((t).kind) (i : Int)).2)) (fine_part hf (List.mem_of_getElem? (parts_kid t i (by omega)))) hn (by omega) (by omega) hzu).2 e15_11 he15_11) (endsR_bad (trav_kid_bad hown (by omega) hks plug_kid he15_11))
      · have c69 : (decide ((i : Int) < ((t).kids.length : Int))) = false := h69
        try simp only [sC, bne_iff_ne, beq_iff_eq, ne_eq] at c69
        have hei : i = t.kids.length := by omega
        rw [hei, List.take_length] at hks
        have hkl : i = ps.length := by have h9 := travL_len hks; rw [List.length_map] at h9; omega
        have hmo := more_01 t.kind
        refine go_exit rfl ?_
        refine go_seq ?_
        refine go_seq ?_
        refine go_region ⟨_, Try.func53⟩ rfl ?_
        refine q0 rfl (o_fa ?_)
        refine q0 rfl (o_ldg ?_)
        refine q0 rfl (o_len ?_)
        refine q0 rfl (o_move ?_)
        refine rg_nil ?_
        refine go_block ?_
        refine go_loopE (X := Nat × SH × List BP) (fun s_ => s_.1 ≤ t.sys.length ∧ travB (plugTr n u) t.kind (t.sys.take s_.1) (v, d) = .ok (s_.2.2.map (·.1))) (fun s_ => [(1, .int .i64 (n)), (3, .int .i64 (v)), (4, .int .i64 (d)), (5, .pointer (some ⟨b5, 0, none⟩)), (7, .pointer (some ⟨b7, 0, none⟩)), (10, .pointer (some ⟨b10, 0, none⟩)), (13, .pointer (some ⟨b13, 0, none⟩)), (97, sl vs_t ((t).sys.length)), (98, .int .i64 (((t).sys.length : Int))), (99, .int .i64 ((s_.1 : Int)))]) (fun s_ G_ => BPs s_.2.2 :: G_) (fun s_ => [rowS 2 63 s_.2.1 (s_.1) (bpFlat s_.2.2), rowS 6 26 a (i) (tpFlat ps), boxR b13 [.int .i64 (t.kind), .int .i64 (0), .string (t.name), sl a63 (t.r.length), sl a (i), sl s_.2.1 (s_.1)] 26, rowS 2 53 a63 (((t).r).length) (clFlat ((t).r)), boxR b10 [.int .i64 (0), .int .i64 (0), .string ((ByteArray.mk #[])), sl (none, 0) (0), sl (none, 0) (0), sl (none, 0) (0)] 26]) (fun s_ => t.sys.length - s_.1) (0, (none, 0), []) (⟨by omega, by rw [List.take_zero, travB_nil]; rfl⟩) (by exact ⟨rfl, rfl, rfl, rfl, rfl, rfl, rfl, rfl, rfl, rfl, trivial⟩) ?_ ?_
        · exact fun w hs => ((hs.rowS0 2 63).bpNil)
        · intro ⟨s, a2, bs⟩ base1 ⟨hs1, hbs⟩ next1
          dsimp only at  hs1  hbs  next1 ⊢
          refine go_seq ?_
          refine go_region ⟨_, Try.func53⟩ rfl ?_
          refine q0 rfl (o_lss ?_)
          refine rg_nil ?_
          refine go_seq ?_
          refine go_condI (fun h100 => ?_) (fun h100 => ?_)
          · have c100 : (decide ((s : Int) < ((t).sys.length : Int))) = true := h100
            try simp only [sC, bne_iff_ne, beq_iff_eq, ne_eq] at c100
            have hslt : s < t.sys.length := by omega
            refine go_skip ?_
            refine go_seq ?_
            refine go_block ?_
            refine go_seq ?_
            refine go_branch (bs := (t).sys) (a := vs_t) (VF := VF4) (VK := VK4) s (by omega) ?_
            refine go_openCL (l := (((t).sys).getD s br0).face) (a := VF4 s) (fun hl6 hA6 hU6 => ?_)
            refine go_openTL (ts := (((t).sys).getD s br0).kids) (a := VK4 s) (fun VR7 VK7 VS7 hl7 hA7 => ?_)
            refine go_region ⟨_, Try.func53⟩ rfl ?_
            obtain ⟨bk8, o8, hav8⟩ := hA4 (by omega)
            refine q0 rfl (o_ixN ?_ (j := s))
            refine q0 rfl (o_ldB ?_)
            refine q0 rfl (o_new fun b19 => ?_)
            refine q0 rfl (o_st ?_)
            refine rg_nil ?_
            refine go_seq ?_
            refine go_region ⟨_, Try.func53⟩ rfl ?_
            refine q0 rfl (o_fa ?_)
            refine q0 rfl (o_ld ?_)
            refine rg_state (fun w hs => hs.rowS0 2 53) ?_
            refine q0 rfl (o_appCL (fun a105 => ?_) (by simp) (a := (none, 0)) (n' := 0) (b := (VF4 s)) (ls := ((((t).sys).getD s br0).face)))
            refine rg_state (fun w hs => hs.appFlatC (l := []) (m := (((t).sys).getD s br0).face)) ?_
            rw [Nat.zero_add ((((t).sys).getD s br0).face).length]
            refine q0 rfl (o_build (cs := [sl a105 (((((t).sys).getD s br0).face).length), sl (none, 0) (0)]) ?_)
            refine q0 rfl (o_new fun b20 => ?_)
            refine q0 rfl (o_st ?_)
            refine rg_nil ?_
            refine go_seq ?_
            refine go_seq ?_
            refine go_region ⟨_, Try.func53⟩ rfl ?_
            refine q0 rfl (o_fa ?_)
            refine q0 rfl (o_ld ?_)
            refine q0 rfl (o_len ?_)
            refine q0 rfl (o_move ?_)
            refine rg_nil ?_
            refine go_block ?_
            refine go_loopE (X := Nat × SH × List TP) (fun s_ => s_.1 ≤ (t.sys.getD s br0).kids.length ∧ travS (plugTr n u) t.kind ((t.sys.getD s br0).kids.take s_.1) (v, d) = .ok (s_.2.2.map (·.1))) (fun s_ => [(1, .int .i64 (n)), (3, .int .i64 (v)), (4, .int .i64 (d)), (5, .pointer (some ⟨b5, 0, none⟩)), (7, .pointer (some ⟨b7, 0, none⟩)), (10, .pointer (some ⟨b10, 0, none⟩)), (13, .pointer (some ⟨b13, 0, none⟩)), (20, .pointer (some ⟨b20, 0, none⟩)), (97, sl vs_t ((t).sys.length)), (98, .int .i64 (((t).sys.length : Int))), (99, .int .i64 ((s : Int))), (108, sl (VK4 s) ((((t).sys).getD s br0).kids.length)), (109, .int .i64 (((((t).sys).getD s br0).kids.length : Int))), (110, .int .i64 ((s_.1 : Int)))]) (fun s_ G_ => AP s_.2.2 :: G_) (fun s_ => [rowS 6 26 s_.2.1 (s_.1) (tpFlat s_.2.2), boxR b20 [sl a105 ((t.sys.getD s br0).face.length), sl s_.2.1 (s_.1)] 63, rowS 2 53 a105 (((((t).sys).getD s br0).face).length) (clFlat ((((t).sys).getD s br0).face)), boxR b19 (bc (((t).sys).getD s br0) (VF4 s) (VK4 s)) 63, rowS 2 63 a2 (s) (bpFlat bs), rowS 6 26 a (i) (tpFlat ps), boxR b13 [.int .i64 (t.kind), .int .i64 (0), .string (t.name), sl a63 (t.r.length), sl a (i), sl a2 (s)] 26, rowS 2 53 a63 (((t).r).length) (clFlat ((t).r)), boxR b10 [.int .i64 (0), .int .i64 (0), .string ((ByteArray.mk #[])), sl (none, 0) (0), sl (none, 0) (0), sl (none, 0) (0)] 26]) (fun s_ => (t.sys.getD s br0).kids.length - s_.1) (0, (none, 0), []) (⟨by omega, by rw [List.take_zero, travS_nil]; rfl⟩) (by exact ⟨rfl, rfl, rfl, rfl, rfl, rfl, rfl, rfl, rfl, rfl, rfl, rfl, rfl, rfl, trivial⟩) ?_ ?_
            · exact fun w hs => ((hs.rowS0 6 26).apNil)
            · intro ⟨k, a3, qs⟩ base2 ⟨hk1, hcs⟩ next2
              dsimp only at  hk1  hcs  next2 ⊢
              refine go_seq ?_
              refine go_region ⟨_, Try.func53⟩ rfl ?_
              refine q0 rfl (o_lss ?_)
              refine rg_nil ?_
              refine go_seq ?_
              refine go_condI (fun h111 => ?_) (fun h111 => ?_)
              · have c111 : (decide ((k : Int) < ((((t).sys).getD s br0).kids.length : Int))) = true := h111
                try simp only [sC, bne_iff_ne, beq_iff_eq, ne_eq] at c111
                have hsk := size_sys_lt (t := t) hslt (k := k) (by omega)
                refine go_skip ?_
                refine go_seq ?_
                refine go_block ?_
                refine go_seq ?_
                refine go_kid (ts := (((t).sys).getD s br0).kids) (a := VK4 s) (VR := VR7) (VK := VK7) (VS := VS7) k (by omega) ?_
                refine go_region ⟨_, Try.func53⟩ rfl ?_
                obtain ⟨bk9, o9, hav9⟩ := hA7 (by omega)
                refine q0 rfl (o_ixN ?_ (j := k))
                refine q0 rfl (o_ldT ?_)
                refine q0 rfl (o_new fun b22 => ?_)
                refine q0 rfl (o_st ?_)
                refine rg_nil ?_
                refine go_res (trav (plugTr n u) ((t.sys.getD s br0).kids.getD k t0) (v, (d + more t.kind))) (fun g24_10 hg24_10 => ?_) (fun e24_10 he24_10 => ?_)
                · refine go_draw (pn := 1000000) (tn := false) (A := [0, 1, 0, 0, 0, 0, 0, 0, 128, 448, 1020, 2044, 4095, 8191, 16383]) (l := [0, 1, 2, 3, 4, 5, 6, 7, 8, 9, 10, 11]) (fin := [12, 13, 14]) Tab.mixed ⟨_, Try.func53⟩ (by rfl) ?_
                  refine n0 rfl (v_fa ?_)
                  refine n0 rfl (v_ld ?_)
                  refine n0 rfl (v_lds ?_)
                  refine n0 rfl (v_move ?_)
                  refine n0 rfl (f_ldgs ?_)
                  refine n0 rfl (v_move ?_)
                  refine n0 rfl (v_move ?_)
                  refine n0 rfl (f_ldgs ?_)
                  refine n0 rfl (v_call Try.call65 (plugMore_spec t vr_t vk_t vs_t ) (fun x122 => ?_))
                  refine n0 rfl (v_add ?_)
                  refine n0 rfl (v_call Try.call53 (((ihs _ (getD_mem hslt) _ (getD_mem (show k < (t.sys.getD s br0).kids.length by omega))) (VR7 k) (VK7 k) (VS7 k) vr_u vk_u vs_u v (d + (more t.kind)) (fine_part hf (List.mem_of_getElem? (parts_sys t s k hslt (by omega)))) hn (by omega) (by omega) hzu).1 g24_10 hg24_10) (fun x124 => ?_))
                  refine n0 rfl (v_lit1 fun b125 => ?_)
                  refine NV.done ?_
                  refine q0 rfl (o_appS (fun a126 => ?_) (a := a3) (n' := k))
                  refine rg_state (fun w hs => ((hs.perm perm1).drop).snocT) ?_
                  refine q0 rfl (o_fa ?_)
                  refine q0 rfl (o_stc ?_)
                  refine rg_nil ?_
                  refine go_inBlock ?_
                  refine go_region ⟨_, Try.func53⟩ rfl ?_
                  refine q0 rfl (o_add ?_)
                  refine q0 rfl (o_move ?_)
                  refine rg_nil ?_
                  refine go_state (fun w hs => ?_) (next2 (k + 1, a126, qs ++ [(g24_10, x124.1, x124.2.1, x124.2.2)]) _ (⟨by omega, by rw [List.map_append, List.map_cons, List.map_nil]; exact travS_at_ok (by omega) hcs plug_kid (by rw [Int.add_zero]; exact hg24_10)⟩) (by (try simp only); omega) ⟨rfl, rfl, rfl, rfl, rfl, rfl, rfl, rfl, rfl, rfl, rfl, rfl, rfl, rfl, trivial⟩)
                  exact ((((((((((((hs.apAdd (ps := qs) (t := g24_10) (vr := x124.1) (vk := x124.2.1) (vs := x124.2.2) mm_ mm_).less (by simp +contextual)).perm perm9).perm perm9).perm perm9).perm perm9).perm perm9).perm perm9).perm perm9).perm perm7).perm perm8).dropR (A := [_, _, _, _, _, _, _, _, _]))
                · refine go_draw (pn := 10) (tn := false) (A := [0, 1, 0, 0, 0, 0, 0, 0, 128, 448, 1020, 2044, 4095, 8191, 16383]) (l := [0, 1, 2, 3, 4, 5, 6, 7, 8, 9, 10, 11]) (fin := [12, 13, 14]) Tab.mixed ⟨_, Try.func53⟩ (by rfl) ?_
                  refine n0 rfl (v_fa ?_)
                  refine n0 rfl (v_ld ?_)
                  refine n0 rfl (v_lds ?_)
                  refine n0 rfl (v_move ?_)
                  refine n0 rfl (f_ldgs ?_)
                  refine n0 rfl (v_move ?_)
                  refine n0 rfl (v_move ?_)
                  refine n0 rfl (f_ldgs ?_)
                  refine n0 rfl (v_call Try.call65 (plugMore_spec t vr_t vk_t vs_t ) (fun x122 => ?_))
                  refine n0 rfl (v_add ?_)
                  refine n_pan rfl Try.call53 (((ihs _ (getD_mem hslt) _ (getD_mem (show k < (t.sys.getD s br0).kids.length by omega))) (VR7 k) (VK7 k) (VS7 k) vr_u vk_u vs_u v (d + (more t.kind)) (fine_part hf (List.mem_of_getElem? (parts_sys t s k hslt (by omega)))) hn (by omega) (by omega) hzu).2 e24_10 he24_10) (endsR_bad (trav_sys_bad hown hks hslt hbs (.inr ⟨_, plug_face, travS_at_bad (by omega) hcs plug_kid (by rw [Int.add_zero]; exact he24_10)⟩)))
              · have c111 : (decide ((k : Int) < ((((t).sys).getD s br0).kids.length : Int))) = false := h111
                try simp only [sC, bne_iff_ne, beq_iff_eq, ne_eq] at c111
                have hek9 : k = (t.sys.getD s br0).kids.length := by omega
                have hcs2 := hcs
                rw [hek9, List.take_length] at hcs2
                have hek : k = (qs.map (·.1)).length := by rw [travS_len hcs2]; exact hek9
                refine go_ms (Ms' := [rowS 6 26 a3 ((qs.map (·.1)).length) (tpFlat qs), boxR b20 [sl a105 ((t.sys.getD s br0).face.length), sl a3 ((qs.map (·.1)).length)] 63, rowS 2 53 a105 (((((t).sys).getD s br0).face).length) (clFlat ((((t).sys).getD s br0).face)), boxR b19 (bc (((t).sys).getD s br0) (VF4 s) (VK4 s)) 63, rowS 2 63 a2 (s) (bpFlat bs), rowS 6 26 a (i) (tpFlat ps), boxR b13 [.int .i64 (t.kind), .int .i64 (0), .string (t.name), sl a63 (t.r.length), sl a (i), sl a2 (s)] 26, rowS 2 53 a63 (((t).r).length) (clFlat ((t).r)), boxR b10 [.int .i64 (0), .int .i64 (0), .string ((ByteArray.mk #[])), sl (none, 0) (0), sl (none, 0) (0), sl (none, 0) (0)] 26]) (by rw [hek]) ?_
                refine go_exit rfl ?_
                refine go_region ⟨_, Try.func53⟩ rfl ?_
                refine q0 rfl (o_fa ?_)
                refine q0 rfl (o_ld ?_)
                refine q0 rfl (o_lds ?_)
                refine q0 rfl (o_lit1 fun b132 => ?_)
                refine q0 rfl (o_appS (fun a133 => ?_) (a := a2) (n' := s))
                refine rg_state (fun w hs => ((hs.perm perm1).drop).snocB (b := (Br.mk (t.sys.getD s br0).face (qs.map (·.1)))) (vf := a105) (vk := a3)) ?_
                refine q0 rfl (o_fa ?_)
                refine q0 rfl (o_stc ?_)
                refine rg_nil ?_
                refine go_inBlock ?_
                refine go_region ⟨_, Try.func53⟩ rfl ?_
                refine q0 rfl (o_add ?_)
                refine q0 rfl (o_move ?_)
                refine rg_nil ?_
                refine go_state (fun w hs => ?_) (next1 (s + 1, a133, bs ++ [(Br.mk (t.sys.getD s br0).face (qs.map (·.1)), a105, a3)]) _ (⟨by omega, by rw [List.map_append, List.map_cons, List.map_nil]; exact travB_at_ok hslt hbs plug_face hcs2⟩) (by (try simp only); omega) ⟨rfl, rfl, rfl, rfl, rfl, rfl, rfl, rfl, rfl, rfl, trivial⟩)
                exact (((((((((((((((((((hs.perm perm8).perm perm8).perm perm8).perm perm8).perm perm7).perm perm6).perm perm6).perm perm7).perm perm8).settleCL (l := (t.sys.getD s br0).face) hB rfl (by first | rfl | simp) (by unfold reach at *; omega) hU6).settleTL (ps := qs) (ts := qs.map (·.1)) hB mm_ rfl rfl (by simp) (by unfold reach at *; omega)).bpAdd (ps := bs) (f := (t.sys.getD s br0).face) (ks := qs.map (·.1)) (vf := a105) (vk := a3) mm_ mm_ mm_).less (by simp +contextual)).perm perm6).perm perm6).perm perm2).perm perm6).perm perm4).dropR (A := [_, _, _, _, _]))
          · have c100 : (decide ((s : Int) < ((t).sys.length : Int))) = false := h100
            try simp only [sC, bne_iff_ne, beq_iff_eq, ne_eq] at c100
            have hes : s = t.sys.length := by omega
            rw [hes, List.take_length] at hbs
            have hbl : s = bs.length := by have h9 := plugB_all hbs; rw [List.length_map] at h9; omega
            refine go_exit rfl ?_
            refine go_seq ?_
            refine go_region ⟨_, Try.func53⟩ rfl ?_
            refine q0 rfl (o_lds ?_)
            refine q0 rfl (o_st ?_)
            refine rg_nil ?_
            refine go_ok (a := (T.mk t.kind 0 t.name t.r (ps.map (·.1)) (bs.map (·.1)))) (trav_ok_of hown hks hbs) ?_
            refine retC Try.func53 Try.results53 (a63, a, a2) rfl mm_ rfl rfl rfl (by simp only [tc, T.kind, T.n, T.name, T.r, T.kids, T.sys, List.length_map, hkl, hbl]; rfl) (fun w hs => ?_)
            have h1 := ((((((hs.perm perm3).perm perm1).perm perm2).perm perm3).perm perm4).settleCL (l := t.r) hB rfl (by first | rfl | simp) (by unfold reach at *; omega) hU2)
            have h2 := (h1.settleTL (ps := ps) (ts := ps.map (·.1)) hB mm_ rfl rfl hkl (by unfold reach at *; omega))
            have h3 := (h2.settleBL (ps := bs) (bs := bs.map (·.1)) hB mm_ rfl rfl hbl (by unfold reach at *; omega))
            exact ((h3.mkRT (k := t.kind) (n := 0) (nm := t.name) (r := t.r) (ks := ps.map (·.1)) (ss := bs.map (·.1)) (vr := a63) (vk := a) (vs := a2) hk1 (in_lit (by omega) (by omega)) hm1 mm_ mm_ mm_).bare.less (by simp))
end Go.Hy
namespace Go.Hy
set_option linter.unusedVariables false
set_option linter.unusedSimpArgs false
set_option linter.unusedSectionVars false
open Go.Proofs
set_option linter.unusedVariables false
set_option linter.unusedSimpArgs false
set_option maxRecDepth 100000
abbrev PcountAt (t : T) : Prop := ∀ (vr_t vk_t vs_t : SH) (n : Int), size t ≤ 1000000000 → 0 ≤ n ∧ n + size t ≤ 4000000000000 → Spec Try.prog 51 #[.agg (tc t vr_t vk_t vs_t).toArray, .int .i64 (n)] [RT t vr_t vk_t vs_t] [] (fun _ : Unit => .int .i64 (countT t n)) (fun _ : Unit => []) (fun _ : Unit => [])
theorem pcount_walk (t : T) (ihk : ∀ k, k ∈ t.kids → PcountAt k) (ihs : ∀ b, b ∈ t.sys → ∀ k, k ∈ b.kids → PcountAt k) (vr_t vk_t vs_t : SH) (n : Int) (hz : size t ≤ 1000000000) (hn : 0 ≤ n ∧ n + size t ≤ 4000000000000) : Spec Try.prog 51 #[.agg (tc t vr_t vk_t vs_t).toArray, .int .i64 (n)] [RT t vr_t vk_t vs_t] [] (fun _ : Unit => .int .i64 (countT t n)) (fun _ : Unit => []) (fun _ : Unit => []) := by
  refine spec_go (args := [.agg (tc t vr_t vk_t vs_t).toArray, .int .i64 (n)]) Try.func51 Try.ntmps51 rfl (by exact Nat.le_of_ble_eq_true rfl) fun B hB => ?_
  refine go_open (t := t) (vr := vr_t) (vk := vk_t) (vs := vs_t) (fun hk1 hn1 hm1 => ?_)
  refine go_openCL (l := (t).r) (a := vr_t) (fun hl2 hA2 hU2 => ?_)
  refine go_openTL (ts := (t).kids) (a := vk_t) (fun VR3 VK3 VS3 hl3 hA3 => ?_)
  refine go_openBL (bs := (t).sys) (a := vs_t) (fun VF4 VK4 hl4 hA4 => ?_)
  refine go_seq ?_
  refine go_region ⟨_, Try.func51⟩ rfl ?_
  refine q0 rfl (o_box fun b2 => ?_)
  refine q0 rfl (o_assign ?_)
  refine rg_nil ?_
  refine go_seq ?_
  refine go_seq ?_
  refine go_cutS ([(1, .int .i64 (n)), (2, .pointer (some ⟨b2, 0, none⟩)), (22, .bool ((decide (((t).kind) = 1)) && (decide (((t).n) = n))))]) (fun hK => ?_) (fun base => ?_)
  · refine go_region ⟨_, Try.func51⟩ rfl ?_
    refine q0 rfl (o_fa ?_)
    refine q0 rfl (o_ld ?_)
    refine q0 rfl (o_eqI ?_)
    refine q0 rfl (o_move ?_)
    refine qI rfl rfl rfl wl_ (fun hg17 => ?_) (fun hg17 => ?_)
    · have g17 : (decide (((t).kind) = 1)) = true := hg17
      try simp only [sC, bne_iff_ne, beq_iff_eq, ne_eq] at g17
      refine o_fa ?_
      refine qT rfl rfl rfl (o_ld ?_)
      refine qT rfl rfl rfl (o_move ?_)
      refine qT rfl rfl rfl (o_eqI ?_)
      refine q0 rfl (o_pickT ?_)
      refine rg_nil ?_
      exact hK _ ⟨rfl, rfl, dn_, trivial⟩
    · have g17 : (decide (((t).kind) = 1)) = false := hg17
      try simp only [sC, bne_iff_ne, beq_iff_eq, ne_eq] at g17
      refine qF rfl rfl rfl ?_
      refine qF rfl rfl rfl ?_
      refine qF rfl rfl rfl ?_
      refine q0 rfl (o_pickF ?_)
      refine rg_nil ?_
      exact hK _ ⟨rfl, rfl, dn_, trivial⟩
  · refine go_condI (fun h22 => ?_) (fun h22 => ?_)
    · have c22 : ((decide (((t).kind) = 1)) && (decide (((t).n) = n))) = true := h22
      try simp only [sC, bne_iff_ne, beq_iff_eq, ne_eq] at c22
      have hg : countT t n = 1 := (by rw [countT_eq, if_pos (by simpa using h22)])
      refine go_seq ?_
      refine go_region ⟨_, Try.func51⟩ rfl ?_
      refine q0 rfl (o_assign ?_)
      refine rg_nil ?_
      refine ret1 Try.func51 Try.results51 wn_ () (by rw [hg]) (fun w hs => hs.none)
    · have c22 : ((decide (((t).kind) = 1)) && (decide (((t).n) = n))) = false := h22
      try simp only [sC, bne_iff_ne, beq_iff_eq, ne_eq] at c22
      have hmiss : ¬ (t.kind = 1 ∧ t.n = n) := (by simpa using h22)
      refine go_skip ?_
      refine go_seq ?_
      refine go_region ⟨_, Try.func51⟩ rfl ?_
      refine q0 rfl (o_assign ?_)
      refine rg_nil ?_
      refine go_seq ?_
      refine go_seq ?_
      refine go_region ⟨_, Try.func51⟩ rfl ?_
      refine q0 rfl (o_fa ?_)
      refine q0 rfl (o_ld ?_)
      refine q0 rfl (o_len ?_)
      refine q0 rfl (o_move ?_)
      refine rg_nil ?_
      refine go_block ?_
      refine go_loopE (X := Nat) (fun s_ => s_ ≤ t.kids.length) (fun s_ => [(1, .int .i64 (n)), (2, .pointer (some ⟨b2, 0, none⟩)), (5, .int .i64 ((cntA t n s_))), (24, sl vk_t ((t).kids.length)), (25, .int .i64 (((t).kids.length : Int))), (26, .int .i64 ((s_ : Int)))]) (fun s_ G_ => G_) (fun s_ => [boxR b2 (tc t vr_t vk_t vs_t) 26]) (fun s_ => t.kids.length - s_) (0) (by omega) (by exact ⟨rfl, rfl, (by (conv => lhs; whnf); rw [cntA_zero]), rfl, rfl, rfl, trivial⟩) ?_ ?_
      · exact fun w hs => hs
      · intro i base0 hi0 next0
        refine go_seq ?_
        refine go_region ⟨_, Try.func51⟩ rfl ?_
        refine q0 rfl (o_lss ?_)
        refine rg_nil ?_
        refine go_seq ?_
        refine go_condI (fun h27 => ?_) (fun h27 => ?_)
        · have c27 : (decide ((i : Int) < ((t).kids.length : Int))) = true := h27
          try simp only [sC, bne_iff_ne, beq_iff_eq, ne_eq] at c27
          have hbi := binds_01 t.kind i
          have hsk := size_kid_lt (t := t) (i := i) (by omega)
          have hca := cntA_in t n i
          have hca2 := cntA_in t n (i + 1)
          rw [cntA_succ (by omega)] at hca2
          refine go_skip ?_
          refine go_seq ?_
          refine go_block ?_
          refine go_seq ?_
          refine go_kid (ts := (t).kids) (a := vk_t) (VR := VR3) (VK := VK3) (VS := VS3) i (by omega) ?_
          refine go_region ⟨_, Try.func51⟩ rfl ?_
          refine q0 rfl (o_move ?_)
          obtain ⟨bk5, o5, hav5⟩ := hA3 (by omega)
          refine q0 rfl (o_ixN ?_ (j := i))
          refine q0 rfl (o_ldT ?_)
          refine q0 rfl (o_new fun b7 => ?_)
          refine q0 rfl (o_assign ?_)
          refine q0 rfl (o_st ?_)
          refine rg_nil ?_
          refine go_seq ?_
          refine go_region ⟨_, Try.func51⟩ rfl ?_
          refine q0 rfl (o_fa ?_)
          refine q0 rfl (o_ld ?_)
          refine q0 rfl (o_move ?_)
          refine q0 rfl (o_call Try.call44 (binds_spec ((t).kind) (i : Int) ) (fun x35 => ?_))
          refine q0 rfl (o_move ?_)
          refine q0 rfl (o_extract ?_)
          refine q0 rfl (o_extract ?_)
          refine q0 rfl (o_assign ?_)
          refine q0 rfl (o_assign ?_)
          refine rg_nil ?_
          refine go_region ⟨_, Try.func51⟩ rfl ?_
          refine q0 rfl (o_move ?_)
          refine q0 rfl (o_lds ?_)
          refine q0 rfl (o_move ?_)
          refine q0 rfl (o_move ?_)
          refine q0 rfl (o_add ?_)
          refine q0 rfl (o_call Try.call51 ((ihk (((t).kids).getD i t0) (getD_mem (show i < ((t).kids).length by omega))) (VR3 i) (VK3 i) (VS3 i) (n + ((binds ((t).kind) (i : Int)).1)) (by omega) (by omega)) (fun x43 => ?_))
          refine q0 rfl (o_add ?_)
          refine q0 rfl (o_assign ?_)
          refine rg_nil ?_
          refine go_inBlock ?_
          refine go_region ⟨_, Try.func51⟩ rfl ?_
          refine q0 rfl (o_add ?_)
          refine q0 rfl (o_move ?_)
          refine rg_nil ?_
          refine go_state (fun w hs => ?_) (next0 (i + 1) _ (by omega) (by omega) ⟨rfl, rfl, (by (conv => lhs; whnf); rw [cntA_succ (by omega)]), rfl, rfl, rfl, trivial⟩)
          exact (((hs.less (by simp +contextual)).perm perm1).dropR (A := [_]))
        · have c27 : (decide ((i : Int) < ((t).kids.length : Int))) = false := h27
          try simp only [sC, bne_iff_ne, beq_iff_eq, ne_eq] at c27
          have hei : i = t.kids.length := by omega
          refine go_exit rfl ?_
          refine go_seq ?_
          refine go_seq ?_
          refine go_region ⟨_, Try.func51⟩ rfl ?_
          refine q0 rfl (o_fa ?_)
          refine q0 rfl (o_ld ?_)
          refine q0 rfl (o_len ?_)
          refine q0 rfl (o_move ?_)
          refine rg_nil ?_
          refine go_block ?_
          refine go_loopE (X := Nat) (fun s_ => s_ ≤ t.sys.length) (fun s_ => [(1, .int .i64 (n)), (5, .int .i64 ((cntB t n s_))), (47, sl vs_t ((t).sys.length)), (48, .int .i64 (((t).sys.length : Int))), (49, .int .i64 ((s_ : Int)))]) (fun s_ G_ => G_) (fun s_ => [boxR b2 (tc t vr_t vk_t vs_t) 26]) (fun s_ => t.sys.length - s_) (0) (by omega) (by exact ⟨rfl, (by (conv => lhs; whnf); rw [cntB_zero, ← hei]), rfl, rfl, rfl, trivial⟩) ?_ ?_
          · exact fun w hs => hs
          · intro s base1 hi1 next1
            refine go_seq ?_
            refine go_region ⟨_, Try.func51⟩ rfl ?_
            refine q0 rfl (o_lss ?_)
            refine rg_nil ?_
            refine go_seq ?_
            refine go_condI (fun h50 => ?_) (fun h50 => ?_)
            · have c50 : (decide ((s : Int) < ((t).sys.length : Int))) = true := h50
              try simp only [sC, bne_iff_ne, beq_iff_eq, ne_eq] at c50
              refine go_skip ?_
              refine go_seq ?_
              refine go_block ?_
              refine go_seq ?_
              refine go_branch (bs := (t).sys) (a := vs_t) (VF := VF4) (VK := VK4) s (by omega) ?_
              refine go_openCL (l := (((t).sys).getD s br0).face) (a := VF4 s) (fun hl6 hA6 hU6 => ?_)
              refine go_openTL (ts := (((t).sys).getD s br0).kids) (a := VK4 s) (fun VR7 VK7 VS7 hl7 hA7 => ?_)
              refine go_region ⟨_, Try.func51⟩ rfl ?_
              obtain ⟨bk8, o8, hav8⟩ := hA4 (by omega)
              refine q0 rfl (o_ixN ?_ (j := s))
              refine q0 rfl (o_ldB ?_)
              refine q0 rfl (o_new fun b11 => ?_)
              refine q0 rfl (o_st ?_)
              refine rg_nil ?_
              refine go_seq ?_
              refine go_region ⟨_, Try.func51⟩ rfl ?_
              refine q0 rfl (o_fa ?_)
              refine q0 rfl (o_ld ?_)
              refine q0 rfl (o_len ?_)
              refine q0 rfl (o_move ?_)
              refine rg_nil ?_
              refine go_block ?_
              refine go_loopE (X := Nat) (fun s_ => s_ ≤ (t.sys.getD s br0).kids.length) (fun s_ => [(1, .int .i64 (n)), (5, .int .i64 ((cntC t n s s_))), (47, sl vs_t ((t).sys.length)), (48, .int .i64 (((t).sys.length : Int))), (49, .int .i64 ((s : Int))), (54, sl (VK4 s) ((((t).sys).getD s br0).kids.length)), (55, .int .i64 (((((t).sys).getD s br0).kids.length : Int))), (56, .int .i64 ((s_ : Int)))]) (fun s_ G_ => G_) (fun s_ => [boxR b11 (bc (((t).sys).getD s br0) (VF4 s) (VK4 s)) 63, boxR b2 (tc t vr_t vk_t vs_t) 26]) (fun s_ => (t.sys.getD s br0).kids.length - s_) (0) (by omega) (by exact ⟨rfl, (by (conv => lhs; whnf); rw [cntC_zero]), rfl, rfl, rfl, rfl, rfl, rfl, trivial⟩) ?_ ?_
              · exact fun w hs => hs
              · intro k base2 hi2 next2
                refine go_seq ?_
                refine go_region ⟨_, Try.func51⟩ rfl ?_
                refine q0 rfl (o_lss ?_)
                refine rg_nil ?_
                refine go_seq ?_
                refine go_condI (fun h57 => ?_) (fun h57 => ?_)
                · have c57 : (decide ((k : Int) < ((((t).sys).getD s br0).kids.length : Int))) = true := h57
                  try simp only [sC, bne_iff_ne, beq_iff_eq, ne_eq] at c57
                  have hslt : s < t.sys.length := by omega
                  have hsk := size_sys_lt (t := t) hslt (k := k) (by omega)
                  have hca := cntC_in (t := t) (m := n) hslt k
                  have hca2 := cntC_in (t := t) (m := n) hslt (k + 1)
                  rw [cntC_succ (by omega)] at hca2
                  refine go_skip ?_
                  refine go_seq ?_
                  refine go_block ?_
                  refine go_seq ?_
                  refine go_kid (ts := (((t).sys).getD s br0).kids) (a := VK4 s) (VR := VR7) (VK := VK7) (VS := VS7) k (by omega) ?_
                  refine go_region ⟨_, Try.func51⟩ rfl ?_
                  obtain ⟨bk9, o9, hav9⟩ := hA7 (by omega)
                  refine q0 rfl (o_ixN ?_ (j := k))
                  refine q0 rfl (o_ldT ?_)
                  refine q0 rfl (o_new fun b13 => ?_)
                  refine q0 rfl (o_st ?_)
                  refine rg_nil ?_
                  refine go_region ⟨_, Try.func51⟩ rfl ?_
                  refine q0 rfl (o_move ?_)
                  refine q0 rfl (o_lds ?_)
                  refine q0 rfl (o_move ?_)
                  refine q0 rfl (o_call Try.call51 ((ihs (((t).sys).getD s br0) (getD_mem (show s < ((t).sys).length by omega)) (((((t).sys).getD s br0).kids).getD k t0) (getD_mem (show k < ((((t).sys).getD s br0).kids).length by omega))) (VR7 k) (VK7 k) (VS7 k) n (by omega) (by omega)) (fun x63 => ?_))
                  refine q0 rfl (o_add ?_)
                  refine q0 rfl (o_assign ?_)
                  refine rg_nil ?_
                  refine go_inBlock ?_
                  refine go_region ⟨_, Try.func51⟩ rfl ?_
                  refine q0 rfl (o_add ?_)
                  refine q0 rfl (o_move ?_)
                  refine rg_nil ?_
                  refine go_state (fun w hs => ?_) (next2 (k + 1) _ (by omega) (by omega) ⟨rfl, (by (conv => lhs; whnf); rw [cntC_succ (by omega)]), rfl, rfl, rfl, rfl, rfl, rfl, trivial⟩)
                  exact ((((hs.less (by simp +contextual)).perm perm2).perm perm2).dropR (A := [_, _]))
                · have c57 : (decide ((k : Int) < ((((t).sys).getD s br0).kids.length : Int))) = false := h57
                  try simp only [sC, bne_iff_ne, beq_iff_eq, ne_eq] at c57
                  have hek : k = (t.sys.getD s br0).kids.length := by omega
                  refine go_exit rfl ?_
                  refine go_inBlock ?_
                  refine go_region ⟨_, Try.func51⟩ rfl ?_
                  refine q0 rfl (o_add ?_)
                  refine q0 rfl (o_move ?_)
                  refine rg_nil ?_
                  refine go_state (fun w hs => ?_) (next1 (s + 1) _ (by omega) (by omega) ⟨rfl, (by (conv => lhs; whnf); rw [hek, cntC_all (by omega)]), rfl, rfl, rfl, trivial⟩)
                  exact (((hs.less (by simp +contextual)).perm perm1).dropR (A := [_]))
            · have c50 : (decide ((s : Int) < ((t).sys.length : Int))) = false := h50
              try simp only [sC, bne_iff_ne, beq_iff_eq, ne_eq] at c50
              have hes : s = t.sys.length := by omega
              refine go_exit rfl ?_
              refine go_seq ?_
              refine go_region ⟨_, Try.func51⟩ rfl ?_
              refine q0 rfl (o_move ?_)
              refine q0 rfl (o_assign ?_)
              refine rg_nil ?_
              refine ret1 Try.func51 Try.results51 wn_ () (by rw [hes, cntB_all hmiss]) (fun w hs => hs.none)
theorem pcount_spec : ∀ t : T, PcountAt t := T.ind' fun t ihk ihs vr_t vk_t vs_t n hz hn => pcount_walk t ihk ihs vr_t vk_t vs_t n hz hn
def plugCount (t : T) (n : Int) : Int × Int := if formedP t ≠ 0 then (0, formedP t) else if n < 0 then (0, 2) else (countT t (lid n), 0)
theorem plugCount_spec (t : T) (vr_t vk_t vs_t : SH) (n : Int) (hn : in64 n) (hz : size t ≤ 1152921504606846) : Spec Try.prog 50 #[.agg (tc t vr_t vk_t vs_t).toArray, .int .i64 (n)] [RT t vr_t vk_t vs_t] [] (fun _ : Unit => .tuple #[.int .i64 ((plugCount t n).1), .int .i64 ((plugCount t n).2)]) (fun _ : Unit => []) (fun _ : Unit => []) := by
  refine spec_go (args := [.agg (tc t vr_t vk_t vs_t).toArray, .int .i64 (n)]) Try.func50 Try.ntmps50 rfl (by exact Nat.le_of_ble_eq_true rfl) fun B hB => ?_
  refine go_seq ?_
  refine go_region ⟨_, Try.func50⟩ rfl ?_
  refine q0 rfl (o_box fun b2 => ?_)
  refine q0 rfl (o_assign ?_)
  refine q0 rfl (o_assign ?_)
  refine rg_nil ?_
  refine go_seq ?_
  refine go_seq ?_
  refine go_region ⟨_, Try.func50⟩ rfl ?_
  refine q0 rfl (o_lds ?_)
  refine q0 rfl (o_call Try.call10 (formed_spec t (.inr form_spec) vr_t vk_t vs_t om_) (fun x8 => ?_))
  refine q0 rfl (o_assign ?_)
  refine rg_nil ?_
  refine go_seq ?_
  refine go_region ⟨_, Try.func50⟩ rfl ?_
  refine q0 rfl (o_move ?_)
  refine q0 rfl (o_neI ?_)
  refine rg_nil ?_
  refine go_condI (fun h10 => ?_) (fun h10 => ?_)
  · have c10 : (decide ((formedP t) ≠ 0)) = true := h10
    try simp only [sC, bne_iff_ne, beq_iff_eq, ne_eq] at c10
    have hg : plugCount t n = (0, formedP t) := (by unfold plugCount; rw [if_pos (by simpa using h10)])
    refine go_seq ?_
    refine go_region ⟨_, Try.func50⟩ rfl ?_
    refine q0 rfl (o_move ?_)
    refine q0 rfl (o_assign ?_)
    refine q0 rfl (o_assign ?_)
    refine rg_nil ?_
    refine ret2 Try.func50 Try.results50 wn_ wn_ () (by rw [hg]) (fun w hs => hs.none)
  · have c10 : (decide ((formedP t) ≠ 0)) = false := h10
    try simp only [sC, bne_iff_ne, beq_iff_eq, ne_eq] at c10
    have hf0 : formedP t = 0 := (by simpa using h10)
    have hfz := formed_size hf0
    refine go_skip ?_
    refine go_seq ?_
    refine go_seq ?_
    refine go_region ⟨_, Try.func50⟩ rfl ?_
    refine q0 rfl (o_move ?_)
    refine q0 rfl (o_lss ?_)
    refine rg_nil ?_
    refine go_condI (fun h13 => ?_) (fun h13 => ?_)
    · have c13 : (decide (n < 0)) = true := h13
      try simp only [sC, bne_iff_ne, beq_iff_eq, ne_eq] at c13
      have hg : plugCount t n = (0, 2) := (by unfold plugCount; rw [if_neg (by simp [hf0]), if_pos (by simpa using h13)])
      refine go_seq ?_
      refine go_region ⟨_, Try.func50⟩ rfl ?_
      refine q0 rfl (o_assign ?_)
      refine q0 rfl (o_assign ?_)
      refine rg_nil ?_
      refine ret2 Try.func50 Try.results50 wn_ wn_ () (by rw [hg]) (fun w hs => hs.none)
    · have c13 : (decide (n < 0)) = false := h13
      try simp only [sC, bne_iff_ne, beq_iff_eq, ne_eq] at c13
      have hg : plugCount t n = (countT t (lid n), 0) := (by unfold plugCount; rw [if_neg (by simp [hf0]), if_neg (by simpa using h13)])
      have hlid : 0 ≤ lid n ∧ lid n ≤ 1099511627776 := (by unfold lid; split <;> omega)
      refine go_skip ?_
      refine go_seq ?_
      refine go_region ⟨_, Try.func50⟩ rfl ?_
      refine q0 rfl (o_lds ?_)
      refine q0 rfl (o_move ?_)
      refine q0 rfl (o_min ?_)
      refine q0 rfl (o_call Try.call51 (pcount_spec t vr_t vk_t vs_t (if 1099511627776 < n then 1099511627776 else n) (by omega) (by omega)) (fun x17 => ?_))
      refine q0 rfl (o_assign ?_)
      refine q0 rfl (o_assign ?_)
      refine rg_nil ?_
      refine ret2 Try.func50 Try.results50 wn_ wn_ () (by rw [hg]) (fun w hs => hs.none)
theorem putF {n : Int} {u : T} : ∀ t : T, PutF n u t := T.ind' fun t ihk ihs vr vk vs ur uk us v d h1 h2 h3 h4 h5 => put_walk t vr vk vs n u ur uk us v d ihk ihs h1 h2 h3 h4 h5
theorem plugAt_walk (t : T) (vr_t vk_t vs_t : SH) (n : Int) (u : T) (vr_u vk_u vs_u : SH) (hn : in64 n) (hz : size t ≤ 1152921504606846) (hzu : size u ≤ 1152921504606846) : Spec Try.prog 27 #[.agg (tc t vr_t vk_t vs_t).toArray, .int .i64 (n), .agg (tc u vr_u vk_u vs_u).toArray] [RT t vr_t vk_t vs_t, RT u vr_u vk_u vs_u] [] (fun x : SH × SH × SH => .tuple #[.agg (tc (plugRes t n u).2 x.1 x.2.1 x.2.2).toArray, .int .i64 (plugRes t n u).1]) (fun x : SH × SH × SH => [RT (plugRes t n u).2 x.1 x.2.1 x.2.2]) (fun x : SH × SH × SH => []) := by
  refine spec_go (args := [.agg (tc t vr_t vk_t vs_t).toArray, .int .i64 (n), .agg (tc u vr_u vk_u vs_u).toArray]) Try.func27 Try.ntmps27 rfl (by exact Nat.le_of_ble_eq_true rfl) fun B hB => ?_
  refine go_seq ?_
  refine go_region ⟨_, Try.func27⟩ rfl ?_
  refine q0 rfl (o_box fun b3 => ?_)
  refine q0 rfl (o_box fun b5 => ?_)
  refine q0 rfl (o_new fun b6 => ?_)
  refine q0 rfl (o_new fun b7 => ?_)
  refine rg_nil ?_
  refine go_seq ?_
  refine go_seq ?_
  refine go_region ⟨_, Try.func27⟩ rfl ?_
  refine q0 rfl (o_lds ?_)
  refine q0 rfl (o_call Try.call10 (formed_spec t (.inr form_spec) vr_t vk_t vs_t om_) (fun x11 => ?_))
  refine q0 rfl (o_assign ?_)
  refine rg_nil ?_
  refine go_seq ?_
  refine go_region ⟨_, Try.func27⟩ rfl ?_
  refine q0 rfl (o_move ?_)
  refine q0 rfl (o_neI ?_)
  refine rg_nil ?_
  refine go_condI (fun h13 => ?_) (fun h13 => ?_)
  · have c13 : (decide ((formedP t) ≠ 0)) = true := h13
    try simp only [sC, bne_iff_ne, beq_iff_eq, ne_eq] at c13
    have hg : plugRes t n u = (formedP t, t0) := plugRes_t (by simpa using h13)
    refine go_seq ?_
    refine go_region ⟨_, Try.func27⟩ rfl ?_
    refine q0 rfl (o_build (cs := [.int .i64 (0), .int .i64 (0), .string ((ByteArray.mk #[])), sl (none, 0) (0), sl (none, 0) (0), sl (none, 0) (0)]) ?_)
    refine q0 rfl (o_move ?_)
    refine q0 rfl (o_st ?_)
    refine q0 rfl (o_st ?_)
    refine rg_nil ?_
    refine retCC Try.func27 Try.results27 (nul, nul, nul) rfl rfl mm_ mm_ rfl rfl rfl rfl rfl (by show _ = Value.tuple #[.agg (tc (plugRes t n u).2 nul nul nul).toArray, .int .i64 (plugRes t n u).1]; rw [hg]; rfl) (fun w hs => ?_)
    exact (hs.bare.zeroRT.less (by rw [hg]; simp))
  · have c13 : (decide ((formedP t) ≠ 0)) = false := h13
    try simp only [sC, bne_iff_ne, beq_iff_eq, ne_eq] at c13
    have hf0 : formedP t = 0 := (by simpa using h13)
    have hfz := formed_size hf0
    have hfine := (formed_fine.mp hf0).2
    refine go_skip ?_
    refine go_seq ?_
    refine go_seq ?_
    refine go_region ⟨_, Try.func27⟩ rfl ?_
    refine q0 rfl (o_lds ?_)
    refine q0 rfl (o_call Try.call10 (formed_spec u (.inr form_spec) vr_u vk_u vs_u om_) (fun x17 => ?_))
    refine q0 rfl (o_assign ?_)
    refine rg_nil ?_
    refine go_seq ?_
    refine go_region ⟨_, Try.func27⟩ rfl ?_
    refine q0 rfl (o_move ?_)
    refine q0 rfl (o_neI ?_)
    refine rg_nil ?_
    refine go_condI (fun h19 => ?_) (fun h19 => ?_)
    · have c19 : (decide ((formedP u) ≠ 0)) = true := h19
      try simp only [sC, bne_iff_ne, beq_iff_eq, ne_eq] at c19
      have hg : plugRes t n u = (formedP u, t0) := plugRes_u hf0 (by simpa using h19)
      refine go_seq ?_
      refine go_region ⟨_, Try.func27⟩ rfl ?_
      refine q0 rfl (o_build (cs := [.int .i64 (0), .int .i64 (0), .string ((ByteArray.mk #[])), sl (none, 0) (0), sl (none, 0) (0), sl (none, 0) (0)]) ?_)
      refine q0 rfl (o_move ?_)
      refine q0 rfl (o_st ?_)
      refine q0 rfl (o_st ?_)
      refine rg_nil ?_
      refine retCC Try.func27 Try.results27 (nul, nul, nul) rfl rfl mm_ mm_ rfl rfl rfl rfl rfl (by show _ = Value.tuple #[.agg (tc (plugRes t n u).2 nul nul nul).toArray, .int .i64 (plugRes t n u).1]; rw [hg]; rfl) (fun w hs => ?_)
      exact (hs.bare.zeroRT.less (by rw [hg]; simp))
    · have c19 : (decide ((formedP u) ≠ 0)) = false := h19
      try simp only [sC, bne_iff_ne, beq_iff_eq, ne_eq] at c19
      have hfu : formedP u = 0 := (by simpa using h19)
      have hfzu := formed_size hfu
      refine go_skip ?_
      refine go_seq ?_
      refine go_seq ?_
      refine go_region ⟨_, Try.func27⟩ rfl ?_
      refine q0 rfl (o_move ?_)
      refine q0 rfl (o_lss ?_)
      refine rg_nil ?_
      refine go_condI (fun h23 => ?_) (fun h23 => ?_)
      · have c23 : (decide (n < 0)) = true := h23
        try simp only [sC, bne_iff_ne, beq_iff_eq, ne_eq] at c23
        have hg : plugRes t n u = (2, t0) := plugRes_n hf0 hfu (by simpa using h23)
        refine go_seq ?_
        refine go_region ⟨_, Try.func27⟩ rfl ?_
        refine q0 rfl (o_build (cs := [.int .i64 (0), .int .i64 (0), .string ((ByteArray.mk #[])), sl (none, 0) (0), sl (none, 0) (0), sl (none, 0) (0)]) ?_)
        refine q0 rfl (o_st ?_)
        refine q0 rfl (o_st ?_)
        refine rg_nil ?_
        refine retCC Try.func27 Try.results27 (nul, nul, nul) rfl rfl mm_ mm_ rfl rfl rfl rfl rfl (by show _ = Value.tuple #[.agg (tc (plugRes t n u).2 nul nul nul).toArray, .int .i64 (plugRes t n u).1]; rw [hg]; rfl) (fun w hs => ?_)
        exact (hs.bare.zeroRT.less (by rw [hg]; simp))
      · have c23 : (decide (n < 0)) = false := h23
        try simp only [sC, bne_iff_ne, beq_iff_eq, ne_eq] at c23
        have hn0 : ¬ n < 0 := (by simpa using h23)
        have hlid : 0 ≤ lid n ∧ lid n ≤ 1099511627776 := (by unfold lid; split <;> omega)
        have hcg := count_ge t (lid n)
        have hcl := count_le t (lid n)
        have hsu := size_pos' u
        have hm0 : 0 ≤ countT t (lid n) * ((size u : Int) - 1) := Int.mul_nonneg hcg (by omega)
        have hm1 : countT t (lid n) * ((size u : Int) - 1) ≤ 20000 * 20000 := Int.mul_le_mul (by omega) (by omega) (by omega) (by omega)
        have hm2 : 0 ≤ countT t (if 1099511627776 < n then 1099511627776 else n) * ((size u : Int) - 1) := hm0
        have hm3 : countT t (if 1099511627776 < n then 1099511627776 else n) * ((size u : Int) - 1) ≤ 20000 * 20000 := hm1
        refine go_skip ?_
        refine go_seq ?_
        refine go_region ⟨_, Try.func27⟩ rfl ?_
        refine q0 rfl (o_move ?_)
        refine q0 rfl (o_min ?_)
        refine q0 rfl (o_assign ?_)
        refine rg_nil ?_
        refine go_seq ?_
        refine go_seq ?_
        refine go_draw (pn := 1000000) (tn := false) (A := [0, 1, 0, 0, 15, 0, 63, 127, 255, 511, 1023]) (l := [0, 2, 3, 5, 1, 4, 6, 7, 8, 9, 10]) (fin := []) Tab.mixed ⟨_, Try.func27⟩ (by rfl) ?_
        refine n0 rfl (v_lds ?_)
        refine n0 rfl (v_lds ?_)
        refine n0 rfl (v_move ?_)
        refine n0 rfl (v_lds ?_)
        refine n0 rfl (v_call Try.call18 (size_spec t om_ vr_t vk_t vs_t) (fun x28 => ?_))
        refine n0 rfl (v_call Try.call51 (pcount_spec t vr_t vk_t vs_t (if 1099511627776 < n then 1099511627776 else n) (by omega) (by omega)) (fun x31 => ?_))
        refine n0 rfl (v_call Try.call18 (size_spec u om_ vr_u vk_u vs_u) (fun x33 => ?_))
        refine n0 rfl (v_sub ?_)
        refine n0 rfl (v_mul ?_)
        refine n0 rfl (v_add ?_)
        refine n0 rfl (v_gtr ?_)
        refine NV.done ?_
        refine rg_nil ?_
        refine go_condI (fun h37 => ?_) (fun h37 => ?_)
        · have c37 : (decide (20000 < ((size t : Int) + ((countT t (if 1099511627776 < n then 1099511627776 else n)) * ((size u : Int) - 1))))) = true := h37
          try simp only [sC, bne_iff_ne, beq_iff_eq, ne_eq] at c37
          have hg : plugRes t n u = (221, t0) := plugRes_size hf0 hfu hn0 (by simpa using h37)
          refine go_seq ?_
          refine go_region ⟨_, Try.func27⟩ rfl ?_
          refine q0 rfl (o_build (cs := [.int .i64 (0), .int .i64 (0), .string ((ByteArray.mk #[])), sl (none, 0) (0), sl (none, 0) (0), sl (none, 0) (0)]) ?_)
          refine q0 rfl (o_st ?_)
          refine q0 rfl (o_st ?_)
          refine rg_nil ?_
          refine retCC Try.func27 Try.results27 (nul, nul, nul) rfl rfl mm_ mm_ rfl rfl rfl rfl rfl (by show _ = Value.tuple #[.agg (tc (plugRes t n u).2 nul nul nul).toArray, .int .i64 (plugRes t n u).1]; rw [hg]; rfl) (fun w hs => ?_)
          exact (hs.bare.zeroRT.less (by rw [hg]; simp))
        · have c37 : (decide (20000 < ((size t : Int) + ((countT t (if 1099511627776 < n then 1099511627776 else n)) * ((size u : Int) - 1))))) = false := h37
          try simp only [sC, bne_iff_ne, beq_iff_eq, ne_eq] at c37
          have hfit : ¬ 20000 < (size t : Int) + countT t (lid n) * ((size u : Int) - 1) := (by simpa using h37)
          refine go_skip ?_
          refine go_seq ?_
          refine go_region ⟨_, Try.func27⟩ rfl ?_
          refine q0 rfl (o_func ?_)
          refine q0 rfl (o_defer ?_)
          refine rg_nil ?_
          refine go_seq ?_
          refine go_res (trav (plugTr (lid n) u) t (0, 0)) (fun g13_3 hg13_3 => ?_) (fun e13_3 he13_3 => ?_)
          · have hpsz := plug_size hfine hg13_3
            rw [show lid n + ((0, 0) : Int × Int).1 = lid n from Int.add_zero _] at hpsz
            have hgz : size g13_3 ≤ 20000 := by omega
            refine go_region ⟨_, Try.func27⟩ rfl ?_
            refine q0 rfl (o_lds ?_)
            refine q0 rfl (o_move ?_)
            refine q0 rfl (o_lds ?_)
            refine q0 rfl (o_call Try.call53 ((putF t vr_t vk_t vs_t vr_u vk_u vs_u 0 0 hfine hlid (by omega) (by omega) (by omega)).1 g13_3 hg13_3) (fun x43 => ?_))
            refine q0 rfl (o_st ?_)
            refine rg_nil ?_
            refine go_seq ?_
            refine go_seq ?_
            refine go_region ⟨_, Try.func27⟩ rfl ?_
            refine q0 rfl (o_lds ?_)
            refine q0 rfl (o_call Try.call54 (depth_spec g13_3 om_ x43.1 x43.2.1 x43.2.2) (fun x45 => ?_))
            refine q0 rfl (o_gtr ?_)
            refine rg_nil ?_
            refine go_condI (fun h46 => ?_) (fun h46 => ?_)
            · have c46 : (decide (200 < (depth g13_3 : Int))) = true := h46
              try simp only [sC, bne_iff_ne, beq_iff_eq, ne_eq] at c46
              have hg : plugRes t n u = (62, t0) := plugRes_deep hf0 hfu hn0 hfit hg13_3 (by have h9 : (200 : Int) < (depth g13_3 : Int) := (by simpa using h46); omega)
              refine go_seq ?_
              refine go_region ⟨_, Try.func27⟩ rfl ?_
              refine q0 rfl (o_build (cs := [.int .i64 (0), .int .i64 (0), .string ((ByteArray.mk #[])), sl (none, 0) (0), sl (none, 0) (0), sl (none, 0) (0)]) ?_)
              refine q0 rfl (o_st ?_)
              refine q0 rfl (o_st ?_)
              refine rg_nil ?_
              refine retDCC Try.func27 Try.results27 Try.call52 (plugAtN b6 b7) (nul, nul, nul) rfl rfl mm_ mm_ rfl rfl rfl rfl rfl (by show _ = Value.tuple #[.agg (tc (plugRes t n u).2 nul nul nul).toArray, .int .i64 (plugRes t n u).1]; rw [hg]; rfl) (fun w hs => ?_)
              exact (hs.bare.zeroRT.less (by rw [hg]; simp))
            · have c46 : (decide (200 < (depth g13_3 : Int))) = false := h46
              try simp only [sC, bne_iff_ne, beq_iff_eq, ne_eq] at c46
              have hg : plugRes t n u = (0, g13_3) := plugRes_ok hf0 hfu hn0 hfit hg13_3 (by have h9 : ¬ (200 : Int) < (depth g13_3 : Int) := (by simpa using h46); omega)
              refine go_skip ?_
              refine go_seq ?_
              refine go_region ⟨_, Try.func27⟩ rfl ?_
              refine q0 rfl (o_lds ?_)
              refine q0 rfl (o_st ?_)
              refine q0 rfl (o_st ?_)
              refine rg_nil ?_
              refine retDCC Try.func27 Try.results27 Try.call52 (plugAtN b6 b7) (x43.1, x43.2.1, x43.2.2) rfl rfl mm_ mm_ rfl rfl rfl rfl rfl (by show _ = Value.tuple #[.agg (tc (plugRes t n u).2 x43.1 x43.2.1 x43.2.2).toArray, .int .i64 (plugRes t n u).1]; rw [hg]; rfl) (fun w hs => ?_)
              exact (hs.bare.less (by rw [hg]; simp))
          · have hg := plugRes_bad hf0 hfu hn0 hfit he13_3
            refine go_region ⟨_, Try.func27⟩ rfl ?_
            refine q0 rfl (o_lds ?_)
            refine q0 rfl (o_move ?_)
            refine q0 rfl (o_lds ?_)
            refine q0 rfl (panDCC (Ms2 := [boxR b5 (tc u vr_u vk_u vs_u) 26, boxR b3 (tc t vr_t vk_t vs_t) 26]) (enterE rfl rfl Try.call53) ((putF t vr_t vk_t vs_t vr_u vk_u vs_u 0 0 hfine hlid (by omega) (by omega) (by omega)).2 e13_3 he13_3) (by simp) Try.func27 Try.results27 Try.call52 (plugAtP b6 b7 e13_3 []) rfl (by exact perm1) (nul, nul, nul) rfl rfl rfl rfl rfl rfl rfl (by show _ = Value.tuple #[.agg (tc (plugRes t n u).2 nul nul nul).toArray, .int .i64 (plugRes t n u).1]; rw [hg]; rfl) (fun w hs => by exact (hs.bare.zeroRT.less (by rw [hg]; simp))))
end Go.Hy
namespace Go.Hy
set_option linter.unusedVariables false
set_option linter.unusedSimpArgs false
set_option linter.unusedSectionVars false
open Go.Proofs
set_option linter.unusedVariables false
set_option linter.unusedSimpArgs false
set_option maxRecDepth 100000
theorem plugAtH (t : T) (vr vk vs : SH) (n : Int) (u : T) (ur uk us : SH) (hn : in64 n) (hz : size t ≤ 1152921504606846) (hzu : size u ≤ 1152921504606846) : Spec Try.prog 27 #[.agg (tc t vr vk vs).toArray, .int .i64 n, .agg (tc u ur uk us).toArray] [RT t vr vk vs, RT u ur uk us] [] (fun x : {x : (Int × T) × (SH × SH × SH) // x.1 = plugRes t n u} => .tuple #[.agg (tc x.1.1.2 x.1.2.1 x.1.2.2.1 x.1.2.2.2).toArray, .int .i64 x.1.1.1]) (fun x => [RT x.1.1.2 x.1.2.1 x.1.2.2.1 x.1.2.2.2]) (fun _ => []) :=
  Spec.hide (plugRes t n u) (val := fun (r : Int × T) (x : SH × SH × SH) => .tuple #[.agg (tc r.2 x.1 x.2.1 x.2.2).toArray, .int .i64 r.1]) (N := fun (r : Int × T) (x : SH × SH × SH) => [RT r.2 x.1 x.2.1 x.2.2]) (Ms1 := fun _ _ => []) (plugAt_walk t vr vk vs n u ur uk us hn hz hzu)
theorem ex_count : plugCount (aE (vE 1) (vE 1)) 1 = (2, 0) := by decide +kernel
theorem v12_spec (n : Int) (hn : in64 n) : Spec Try.prog 49 #[.int .i64 (n)] [] [] (fun _ : Unit => .agg (tc (vE n) nul nul nul).toArray) (fun _ : Unit => [RT (vE n) nul nul nul]) (fun _ : Unit => []) := by
  refine spec_go (args := [.int .i64 (n)]) Try.func49 Try.ntmps49 rfl (by exact Nat.le_of_ble_eq_true rfl) fun B hB => ?_
  refine go_seq ?_
  refine go_region ⟨_, Try.func49⟩ rfl ?_
  refine q0 rfl (o_new fun b2 => ?_)
  refine rg_nil ?_
  refine go_seq ?_
  refine go_region ⟨_, Try.func49⟩ rfl ?_
  refine q0 rfl (o_move ?_)
  refine q0 rfl (o_build (cs := [.int .i64 (1), .int .i64 (n), .string ((ByteArray.mk #[])), sl (none, 0) (0), sl (none, 0) (0), sl (none, 0) (0)]) ?_)
  refine q0 rfl (o_st ?_)
  refine rg_nil ?_
  refine retC Try.func49 Try.results49 () rfl mm_ rfl rfl rfl rfl (fun w hs => ((hs.leaf 1 n ⟨#[]⟩ (in_lit (by omega) (by omega)) hn (Nat.zero_le _)).bare.less (by simp [vE])))
theorem great12_spec (t : T) (vr_t vk_t vs_t : SH)  : Spec Try.prog 26 #[.agg (tc t vr_t vk_t vs_t).toArray] [RT t vr_t vk_t vs_t] [] (fun _ : Unit => .bool (decide (200 < bulk t))) (fun _ : Unit => []) (fun _ : Unit => []) := by
  refine spec_go (args := [.agg (tc t vr_t vk_t vs_t).toArray]) Try.func26 Try.ntmps26 rfl (by exact Nat.le_of_ble_eq_true rfl) fun B hB => ?_
  refine go_open (t := t) (vr := vr_t) (vk := vk_t) (vs := vs_t) (fun hk1 hn1 hm1 => ?_)
  refine go_openCL (l := (t).r) (a := vr_t) (fun hl2 hA2 hU2 => ?_)
  refine go_openTL (ts := (t).kids) (a := vk_t) (fun VR3 VK3 VS3 hl3 hA3 => ?_)
  refine go_openBL (bs := (t).sys) (a := vs_t) (fun VF4 VK4 hl4 hA4 => ?_)
  refine go_seq ?_
  refine go_region ⟨_, Try.func26⟩ rfl ?_
  refine q0 rfl (o_box fun b1 => ?_)
  refine q0 rfl (o_assign ?_)
  refine rg_nil ?_
  refine go_seq ?_
  refine go_region ⟨_, Try.func26⟩ rfl ?_
  refine q0 rfl (o_lds ?_)
  refine q0 rfl (o_call Try.call28 (bulk_spec t 200 vr_t vk_t vs_t (by omega) (by omega)) (fun x4 => ?_))
  have hx := x4.2
  unfold BulkIs at hx
  refine q0 rfl (o_gtr ?_)
  refine q0 rfl (o_assign ?_)
  refine rg_nil ?_
  refine ret1 Try.func26 Try.results26 wn_ () (congrArg Value.bool (decide_eq_decide.mpr (by omega))) (fun w hs => hs.none)
theorem works12_spec   : Spec Try.prog 25 #[] [] [] (fun _ : Unit => .bool (true)) (fun _ : Unit => []) (fun _ : Unit => []) := by
  refine spec_go (args := []) Try.func25 Try.ntmps25 rfl (by exact Nat.le_of_ble_eq_true rfl) fun B hB => ?_
  refine go_seq ?_
  refine go_region ⟨_, Try.func25⟩ rfl ?_
  refine q0 rfl (o_assign ?_)
  refine rg_nil ?_
  refine go_seq ?_
  refine go_region ⟨_, Try.func25⟩ rfl ?_
  refine q0 rfl (o_call Try.call49 (v12_spec 0 om_) (fun x8 => ?_))
  refine q0 rfl (o_call Try.call49 (v12_spec 1 om_) (fun x9 => ?_))
  refine q0 rfl (o_lit2 fun b10 => ?_)
  refine q0 rfl (o_build (cs := [.int .i64 (6), .int .i64 (0), .string ((ByteArray.mk #[])), sl (none, 0) (0), sl (some ⟨b10, 0, none⟩, 2) (2), sl (none, 0) (0)]) ?_)
  refine q0 rfl (o_build (cs := [.int .i64 (3), .int .i64 (0), .string ((ByteArray.mk #[])), sl (none, 0) (0), sl (none, 0) (0), sl (none, 0) (0)]) ?_)
  refine rg_state (Γ' := [RT (aE (vE 0) (vE 1)) nul (some ⟨b10, 0, none⟩, 2) nul, RT uE nul nul nul]) (Ms' := []) (fun w hs => ?_) ?_
  · exact ((((hs.lit2T (t := vE 0) (vr := nul) (vk := nul) (vs := nul) (u := vE 1) (ur := nul) (uk := nul) (us := nul) hB (by simp) (by simp) rfl).node 6 0 [vE 0, vE 1] (some ⟨b10, 0, none⟩, 2) (in_lit (by omega) (by omega)) (in_lit (by omega) (by omega)) (by simp)).leaf 3 0 ⟨#[]⟩ (in_lit (by omega) (by omega)) (in_lit (by omega) (by omega)) (Nat.zero_le _)).less (by simp [aE, lE, uE, vE]))
  refine q0 rfl (o_call Try.call27 ((by have h := plugAt_walk (aE (vE 0) (vE 1)) nul (some ⟨b10, 0, none⟩, 2) nul 0 uE nul nul nul (by unfold in64; omega) (by have h9 := ex_plug_size; omega) (by have h9 := ex_plug_size; omega); simp only [ex_plug1a, ex_plug1b] at h; exact h)) (fun x13 => ?_))
  refine q0 rfl (o_move ?_)
  refine q0 rfl (o_extract ?_)
  refine q0 rfl (o_extract ?_)
  refine q0 rfl (o_new fun b1 => ?_)
  refine q0 rfl (o_st ?_)
  refine q0 rfl (o_assign ?_)
  refine rg_nil ?_
  refine go_seq ?_
  refine go_region ⟨_, Try.func25⟩ rfl ?_
  refine q0 rfl (o_call Try.call49 (v12_spec 1 om_) (fun x17 => ?_))
  refine q0 rfl (o_call Try.call49 (v12_spec 0 om_) (fun x18 => ?_))
  refine q0 rfl (o_lit2 fun b19 => ?_)
  refine q0 rfl (o_build (cs := [.int .i64 (6), .int .i64 (0), .string ((ByteArray.mk #[])), sl (none, 0) (0), sl (some ⟨b19, 0, none⟩, 2) (2), sl (none, 0) (0)]) ?_)
  refine q0 rfl (o_lit1 fun b21 => ?_)
  refine q0 rfl (o_build (cs := [.int .i64 (5), .int .i64 (0), .string ((ByteArray.mk #[])), sl (none, 0) (0), sl (some ⟨b21, 0, none⟩, 1) (1), sl (none, 0) (0)]) ?_)
  refine q0 rfl (o_call Try.call49 (v12_spec 5 om_) (fun x23 => ?_))
  refine rg_state (Γ' := [RT (lE (aE (vE 1) (vE 0))) nul (some ⟨b21, 0, none⟩, 1) nul, RT (vE 5) nul nul nul, RT (aE uE (vE 0)) x13.1 x13.2.1 x13.2.2]) (Ms' := [boxR b1 (tc (aE uE (vE 0)) x13.1 x13.2.1 x13.2.2) 26]) (fun w hs => ?_) ?_
  · exact ((((((((hs.perm perm2).perm perm1).perm perm2).lit2T (t := vE 1) (vr := nul) (vk := nul) (vs := nul) (u := vE 0) (ur := nul) (uk := nul) (us := nul) hB (by simp) (by simp) rfl).node 6 0 [vE 1, vE 0] (some ⟨b19, 0, none⟩, 2) (in_lit (by omega) (by omega)) (in_lit (by omega) (by omega)) (by simp)).lit1T (t := (aE (vE 1) (vE 0))) (vr := nul) (vk := (some ⟨b19, 0, none⟩, 2)) (vs := nul) hB (by simp [aE]) rfl).node 5 0 [(aE (vE 1) (vE 0))] (some ⟨b21, 0, none⟩, 1) (in_lit (by omega) (by omega)) (in_lit (by omega) (by omega)) (by simp)).less (by simp [aE, lE, uE, vE]))
  refine q0 rfl (o_call Try.call27 ((by have h := plugAt_walk (lE (aE (vE 1) (vE 0))) nul (some ⟨b21, 0, none⟩, 1) nul 0 (vE 5) nul nul nul (by unfold in64; omega) (by have h9 := ex_plug_size; omega) (by have h9 := ex_plug_size; omega); simp only [ex_plug2a, ex_plug2b] at h; exact h)) (fun x24 => ?_))
  refine q0 rfl (o_move ?_)
  refine q0 rfl (o_extract ?_)
  refine q0 rfl (o_extract ?_)
  refine q0 rfl (o_new fun b3 => ?_)
  refine q0 rfl (o_st ?_)
  refine q0 rfl (o_assign ?_)
  refine rg_nil ?_
  refine go_seq ?_
  refine go_region ⟨_, Try.func25⟩ rfl ?_
  refine q0 rfl (o_call Try.call49 (v12_spec 1 om_) (fun x28 => ?_))
  refine q0 rfl (o_call Try.call49 (v12_spec 1 om_) (fun x29 => ?_))
  refine q0 rfl (o_lit2 fun b30 => ?_)
  refine q0 rfl (o_build (cs := [.int .i64 (6), .int .i64 (0), .string ((ByteArray.mk #[])), sl (none, 0) (0), sl (some ⟨b30, 0, none⟩, 2) (2), sl (none, 0) (0)]) ?_)
  refine rg_state (Γ' := [RT (aE (vE 1) (vE 1)) nul (some ⟨b30, 0, none⟩, 2) nul, RT (aE uE (vE 0)) x13.1 x13.2.1 x13.2.2, RT (lE (aE (vE 6) (vE 0))) x24.1 x24.2.1 x24.2.2]) (Ms' := [boxR b3 (tc (lE (aE (vE 6) (vE 0))) x24.1 x24.2.1 x24.2.2) 26, boxR b1 (tc (aE uE (vE 0)) x13.1 x13.2.1 x13.2.2) 26]) (fun w hs => ?_) ?_
  · exact ((((((hs.perm perm2).perm perm2).perm perm2).lit2T (t := vE 1) (vr := nul) (vk := nul) (vs := nul) (u := vE 1) (ur := nul) (uk := nul) (us := nul) hB (by simp) (by simp) rfl).node 6 0 [vE 1, vE 1] (some ⟨b30, 0, none⟩, 2) (in_lit (by omega) (by omega)) (in_lit (by omega) (by omega)) (by simp)).less (by simp [aE, lE, uE, vE]))
  refine q0 rfl (o_call Try.call50 ((by have h := plugCount_spec (aE (vE 1) (vE 1)) nul (some ⟨b30, 0, none⟩, 2) nul 1 (by unfold in64; omega) (by have h9 := ex_plug_size; omega); simp only [ex_count, true_and] at h; exact h)) (fun x32 => ?_))
  refine q0 rfl (o_move ?_)
  refine q0 rfl (o_extract ?_)
  refine q0 rfl (o_extract ?_)
  refine q0 rfl (o_assign ?_)
  refine q0 rfl (o_assign ?_)
  refine rg_nil ?_
  refine go_seq ?_
  refine go_cutS ([(0, .bool (true))]) (fun hK => ?_) (fun base => ?_)
  · refine go_draw (pn := 1000001) (tn := false) (A := [0, 1, 3, 7, 15, 31, 63, 127, 127, 127, 895, 1919, 4095, 8191, 16383, 32767, 32767, 98303, 229375, 491519, 1015807, 2064383, 4194303, 8388607, 16777215, 33554431, 67108863, 134217727, 268435455, 536870911, 1073741823, 2147483647, 4294967295]) (l := [0, 1, 2, 3, 4, 5, 6, 7, 8, 9, 10, 11, 12, 13, 14, 15, 16, 17, 18, 19, 20, 21, 22, 23, 24, 25, 26, 27, 28, 29, 30, 31, 32]) (fin := []) Tab.mixed ⟨_, Try.func25⟩ (by decide +kernel) ?_
    refine n0 rfl (v_move ?_)
    refine n0 rfl (v_eqIY ?_ (hp := by first | rfl | decide))
    refine n0 rfl (v_move ?_)
    refine nT rfl rfl rfl (v_move ?_)
    refine nT rfl rfl rfl (v_eqIY ?_ (hp := by first | rfl | decide))
    refine n0 rfl (v_pickT ?_)
    refine n0 rfl (v_move ?_)
    refine nT rfl rfl rfl (v_lds ?_)
    refine nT rfl rfl rfl (v_build (cs := [.int .i64 (3), .int .i64 (0), .string ((ByteArray.mk #[])), sl (none, 0) (0), sl (none, 0) (0), sl (none, 0) (0)]) ?_)
    refine nT rfl rfl rfl (v_call Try.call49 (v12_spec 0 om_) (fun x44 => ?_))
    refine nT rfl rfl rfl (w_lit2 (fun b => [RT (aE uE (vE 0)) nul (some ⟨b, 0, none⟩, 2) nul]) (fun b M w hs => ((((hs.leaf 3 0 ⟨#[]⟩ (in_lit (by omega) (by omega)) (in_lit (by omega) (by omega)) (Nat.zero_le _)).lit2T (t := uE) (vr := nul) (vk := nul) (vs := nul) (u := vE 0) (ur := nul) (uk := nul) (us := nul) hB (by simp [uE]) (by simp) rfl).node 6 0 [uE, vE 0] (some ⟨b, 0, none⟩, 2) (in_lit (by omega) (by omega)) (in_lit (by omega) (by omega)) (by simp)).less (by simp +contextual [aE]))) fun b45 => ?_)
    refine nT rfl rfl rfl (v_build (cs := [.int .i64 (6), .int .i64 (0), .string ((ByteArray.mk #[])), sl (none, 0) (0), sl (some ⟨b45, 0, none⟩, 2) (2), sl (none, 0) (0)]) ?_)
    refine nT rfl rfl rfl (v_call Try.call13 (rsameI (aE uE (vE 0)) (aE uE (vE 0)) rfl x13.1 x13.2.1 x13.2.2 nul (some ⟨b45, 0, none⟩, 2) nul) (fun x47 => ?_))
    refine n0 rfl (v_pickT ?_)
    refine n0 rfl (v_move ?_)
    refine nT rfl rfl rfl (v_lds ?_)
    refine nT rfl rfl rfl (v_call Try.call49 (v12_spec 6 om_) (fun x51 => ?_))
    refine nT rfl rfl rfl (v_call Try.call49 (v12_spec 0 om_) (fun x52 => ?_))
    refine nT rfl rfl rfl (w_lit2 (fun b => [RT (aE (vE 6) (vE 0)) nul (some ⟨b, 0, none⟩, 2) nul]) (fun b M w hs => (((hs.lit2T (t := vE 6) (vr := nul) (vk := nul) (vs := nul) (u := vE 0) (ur := nul) (uk := nul) (us := nul) hB (by simp) (by simp) rfl).node 6 0 [vE 6, vE 0] (some ⟨b, 0, none⟩, 2) (in_lit (by omega) (by omega)) (in_lit (by omega) (by omega)) (by simp)).less (by simp +contextual [aE]))) fun b53 => ?_)
    refine nT rfl rfl rfl (v_build (cs := [.int .i64 (6), .int .i64 (0), .string ((ByteArray.mk #[])), sl (none, 0) (0), sl (some ⟨b53, 0, none⟩, 2) (2), sl (none, 0) (0)]) ?_)
    refine nT rfl rfl rfl (w_lit1 (fun b => [RT (lE (aE (vE 6) (vE 0))) nul (some ⟨b, 0, none⟩, 1) nul]) (fun b M w hs => (((hs.lit1T (t := (aE (vE 6) (vE 0))) (vr := nul) (vk := (some ⟨b53, 0, none⟩, 2)) (vs := nul) hB (by simp [aE]) rfl).node 5 0 [(aE (vE 6) (vE 0))] (some ⟨b, 0, none⟩, 1) (in_lit (by omega) (by omega)) (in_lit (by omega) (by omega)) (by simp)).less (by simp +contextual [lE, aE]))) fun b55 => ?_)
    refine nT rfl rfl rfl (v_build (cs := [.int .i64 (5), .int .i64 (0), .string ((ByteArray.mk #[])), sl (none, 0) (0), sl (some ⟨b55, 0, none⟩, 1) (1), sl (none, 0) (0)]) ?_)
    refine nT rfl rfl rfl (v_call Try.call13 (rsameI (lE (aE (vE 6) (vE 0))) (lE (aE (vE 6) (vE 0))) rfl x24.1 x24.2.1 x24.2.2 nul (some ⟨b55, 0, none⟩, 1) nul) (fun x57 => ?_))
    refine n0 rfl (v_pickT ?_)
    refine n0 rfl (v_move ?_)
    refine nT rfl rfl rfl (v_move ?_)
    refine nT rfl rfl rfl (v_eqIY ?_ (hp := by first | rfl | decide))
    refine n0 rfl (v_pickT ?_)
    refine n0 rfl (v_move ?_)
    refine nT rfl rfl rfl (v_move ?_)
    refine nT rfl rfl rfl (v_eqIY ?_ (hp := by first | rfl | decide))
    refine n0 rfl (v_pickT ?_)
    refine n0 rfl (v_assign ?_)
    refine NV.done ?_
    refine rg_nil ?_
    exact go_state (fun w hs => (hs.less (by simp +contextual))) (hK _ ⟨(by first | rfl | ((conv => lhs; whnf); first | (simp_all [aE, lE, uE, vE, T.kids, T.kind, T.n, T.r]; done) | (simp_all [aE, lE, uE, vE, T.kids, T.kind, T.n, T.r]; omega))), trivial⟩)
  · refine ret1 Try.func25 Try.results25 wn_ () rfl (fun w hs => hs.none)
set_option maxHeartbeats 2000000 in
theorem plugLifts_spec (t : T) (vr_t vk_t vs_t : SH) (n : Int) (u : T) (vr_u vk_u vs_u : SH) (hn : in64 n) : Spec Try.prog 6 #[.agg (tc t vr_t vk_t vs_t).toArray, .int .i64 (n), .agg (tc u vr_u vk_u vs_u).toArray] [RT t vr_t vk_t vs_t, RT u vr_u vk_u vs_u] [] (fun _ : Unit => .bool (true)) (fun _ : Unit => []) (fun _ : Unit => []) := by
  refine spec_go (args := [.agg (tc t vr_t vk_t vs_t).toArray, .int .i64 (n), .agg (tc u vr_u vk_u vs_u).toArray]) Try.func6 Try.ntmps6 rfl (by exact Nat.le_of_ble_eq_true rfl) fun B hB => ?_
  have hst := size_le_bulk t
  have hsu := size_le_bulk u
  refine go_seq ?_
  refine go_region ⟨_, Try.func6⟩ rfl ?_
  refine q0 rfl (o_box fun b3 => ?_)
  refine q0 rfl (o_box fun b5 => ?_)
  refine q0 rfl (o_assign ?_)
  refine rg_nil ?_
  refine go_seq ?_
  refine go_seq ?_
  refine go_region ⟨_, Try.func6⟩ rfl ?_
  refine q0 rfl (o_call Try.call25 (works12_spec ) (fun x11 => ?_))
  refine q0 rfl (o_not ?_)
  refine rg_nil ?_
  refine go_condF ?_
  refine go_skip ?_
  refine go_seq ?_
  refine go_seq ?_
  refine go_cutS ([(1, .int .i64 (n)), (3, .pointer (some ⟨b3, 0, none⟩)), (5, .pointer (some ⟨b5, 0, none⟩)), (23, .bool (((decide (200 < bulk t)) || (decide (200 < bulk u))) || (decide ((formedP u) ≠ 0))))]) (fun hK => ?_) (fun base => ?_)
  · refine go_region ⟨_, Try.func6⟩ rfl ?_
    refine q0 rfl (o_lds ?_)
    refine q0 rfl (o_call Try.call26 (great12_spec t vr_t vk_t vs_t ) (fun x14 => ?_))
    refine q0 rfl (o_move ?_)
    refine qI rfl rfl rfl wl_ (fun hg15 => ?_) (fun hg15 => ?_)
    · have g15 : (decide (200 < bulk t)) = false := hg15
      try simp only [sC, bne_iff_ne, beq_iff_eq, ne_eq] at g15
      refine o_lds ?_
      refine qT rfl rfl rfl (o_call Try.call26 (great12_spec u vr_u vk_u vs_u ) (fun x17 => ?_))
      refine q0 rfl (o_pickF ?_)
      refine q0 rfl (o_move ?_)
      refine qI rfl rfl rfl wl_ (fun hg19 => ?_) (fun hg19 => ?_)
      · have g19 : (decide (200 < bulk u)) = false := hg19
        try simp only [sC, bne_iff_ne, beq_iff_eq, ne_eq] at g19
        refine o_lds ?_
        refine qT rfl rfl rfl (o_call Try.call10 (formed_spec u (.inr form_spec) vr_u vk_u vs_u om_) (fun x21 => ?_))
        refine qT rfl rfl rfl (o_neI ?_)
        refine q0 rfl (o_pickF ?_)
        refine rg_nil ?_
        exact hK _ ⟨rfl, rfl, rfl, dn_, trivial⟩
      · have g19 : (decide (200 < bulk u)) = true := hg19
        try simp only [sC, bne_iff_ne, beq_iff_eq, ne_eq] at g19
        refine qF rfl rfl rfl ?_
        refine qF rfl rfl rfl ?_
        refine q0 rfl (o_pickT ?_)
        refine rg_nil ?_
        exact hK _ ⟨rfl, rfl, rfl, dn_, trivial⟩
    · have g15 : (decide (200 < bulk t)) = true := hg15
      try simp only [sC, bne_iff_ne, beq_iff_eq, ne_eq] at g15
      refine qF rfl rfl rfl ?_
      refine q0 rfl (o_pickT ?_)
      refine q0 rfl (o_move ?_)
      refine qF rfl rfl rfl ?_
      refine qF rfl rfl rfl ?_
      refine qF rfl rfl rfl ?_
      refine q0 rfl (o_pickT ?_)
      refine rg_nil ?_
      exact hK _ ⟨rfl, rfl, rfl, dn_, trivial⟩
  · refine go_condI (fun h23 => ?_) (fun h23 => ?_)
    · have c23 : (((decide (200 < bulk t)) || (decide (200 < bulk u))) || (decide ((formedP u) ≠ 0))) = true := h23
      try simp only [sC, bne_iff_ne, beq_iff_eq, ne_eq] at c23
      refine go_seq ?_
      refine go_region ⟨_, Try.func6⟩ rfl ?_
      refine q0 rfl (o_assign ?_)
      refine rg_nil ?_
      refine ret1 Try.func6 Try.results6 wn_ () rfl (fun w hs => hs.none)
    · have c23 : (((decide (200 < bulk t)) || (decide (200 < bulk u))) || (decide ((formedP u) ≠ 0))) = false := h23
      try simp only [sC, bne_iff_ne, beq_iff_eq, ne_eq] at c23
      have hbt : bulk t ≤ 200 := by omega
      have hfu : formedP u = 0 := by omega
      refine go_skip ?_
      refine go_seq ?_
      refine go_region ⟨_, Try.func6⟩ rfl ?_
      refine q0 rfl (o_lds ?_)
      refine q0 rfl (o_move ?_)
      refine q0 rfl (o_call Try.call14 (liftVarsH t vr_t vk_t vs_t n 1 om_ om_ om_) (fun x27 => ?_))
      refine q0 rfl (o_move ?_)
      refine q0 rfl (o_extract ?_)
      refine q0 rfl (o_extract ?_)
      refine q0 rfl (o_new fun b7 => ?_)
      refine q0 rfl (o_st ?_)
      refine q0 rfl (o_assign ?_)
      refine rg_nil ?_
      have hvs := vars_size t n 1
      rw [← x27.2] at hvs
      refine go_seq ?_
      refine go_seq ?_
      refine go_region ⟨_, Try.func6⟩ rfl ?_
      refine q0 rfl (o_move ?_)
      refine q0 rfl (o_neI ?_)
      refine rg_nil ?_
      refine go_condI (fun h31 => ?_) (fun h31 => ?_)
      · have c31 : (decide (x27.1.1.1 ≠ 0)) = true := h31
        try simp only [sC, bne_iff_ne, beq_iff_eq, ne_eq] at c31
        refine go_seq ?_
        refine go_region ⟨_, Try.func6⟩ rfl ?_
        refine q0 rfl (o_assign ?_)
        refine rg_nil ?_
        refine ret1 Try.func6 Try.results6 wn_ () rfl (fun w hs => hs.none)
      · have c31 : (decide (x27.1.1.1 ≠ 0)) = false := h31
        try simp only [sC, bne_iff_ne, beq_iff_eq, ne_eq] at c31
        have hq := plug_lifts (n := n) hbt hfu (by rw [← x27.2]; simpa using h31)
        rw [← x27.2] at hq
        refine go_skip ?_
        refine go_seq ?_
        refine go_region ⟨_, Try.func6⟩ rfl ?_
        refine q0 rfl (o_lds ?_)
        refine q0 rfl (o_move ?_)
        refine q0 rfl (o_lds ?_)
        refine q0 rfl (o_call Try.call27 (plugAtH x27.1.1.2 x27.1.2.1 x27.1.2.2.1 x27.1.2.2.2 n u vr_u vk_u vs_u om_ om_ om_) (fun x36 => ?_))
        refine q0 rfl (o_move ?_)
        refine q0 rfl (o_extract ?_)
        refine q0 rfl (o_extract ?_)
        refine q0 rfl (o_new fun b9 => ?_)
        refine q0 rfl (o_st ?_)
        refine q0 rfl (o_assign ?_)
        refine rg_nil ?_
        refine go_seq ?_
        refine go_cutS ([(6, .bool ((decide (x36.1.1.1 = 0)) && (decide (x36.1.1.2 = t))))]) (fun hK => ?_) (fun base => ?_)
        · refine go_region ⟨_, Try.func6⟩ rfl ?_
          refine q0 rfl (o_move ?_)
          refine q0 rfl (o_eqI ?_)
          refine q0 rfl (o_move ?_)
          refine qI rfl rfl rfl wl_ (fun hg41 => ?_) (fun hg41 => ?_)
          · have g41 : (decide (x36.1.1.1 = 0)) = true := hg41
            try simp only [sC, bne_iff_ne, beq_iff_eq, ne_eq] at g41
            refine o_lds ?_
            refine qT rfl rfl rfl (o_lds ?_)
            refine qT rfl rfl rfl (o_call Try.call13 (rsame x36.1.1.2 t x36.1.2.1 x36.1.2.2.1 x36.1.2.2.2 vr_t vk_t vs_t) (fun x44 => ?_))
            refine q0 rfl (o_pickT ?_)
            refine q0 rfl (o_assign ?_)
            refine rg_nil ?_
            exact hK _ ⟨dn_, trivial⟩
          · have g41 : (decide (x36.1.1.1 = 0)) = false := hg41
            try simp only [sC, bne_iff_ne, beq_iff_eq, ne_eq] at g41
            refine qF rfl rfl rfl ?_
            refine qF rfl rfl rfl ?_
            refine q0 rfl (o_pickF ?_)
            refine q0 rfl (o_assign ?_)
            refine rg_nil ?_
            exact hK _ ⟨dn_, trivial⟩
        · refine ret1 Try.func6 Try.results6 wn_ () (by rw [x36.2, hq]; simp) (fun w hs => hs.none)
end Go.Hy
