/- Contracts of this program's functions and the laws that they need: a separation logic over the machine's rules, one theorem each (partly printed by a program of this repository). -/
import Derived.Test.YtceegbilhbhibaaGreatP2
import Derived.Test.YtceegbilhbhibaaGreatP3
import Derived.Test.YtceegbilhbhibaaGreatP4
import Derived.Test.YtceegbilhbhibaaGreatP5
import Derived.Test.YtceegbilhbhibaaGreatP6
import Derived.Test.YtceegbilhbhibaaGreatP7
import Derived.Test.YtceegbilhbhibaaGreatP8
import Derived.Test.YtceegbilhbhibaaGreatP9
set_option linter.unusedVariables false
set_option linter.unusedSimpArgs false
set_option linter.unusedSectionVars false
namespace Go.Hy
open Go.Proofs
set_option maxRecDepth 100000
theorem rlow_spec (l : List Cl) (a_l : SH) (d : Int) (h0 : 0 ≤ d) : Spec Tryz.prog 69 #[sl a_l (l.length), .int .i64 (d)] [CL l a_l] [] (fun _ : Unit => .bool ((within l d))) (fun _ : Unit => []) (fun _ : Unit => []) := by
  refine spec_go (args := [sl a_l (l.length), .int .i64 (d)]) Tryz.func69 Tryz.ntmps69 rfl (by exact Nat.le_of_ble_eq_true rfl) fun B hB => ?_
  refine go_openCL (l := l) (a := a_l) (fun hl1 hA1 hU1 => ?_); have hdl := fDims_lt l; refine go_seq ?_; refine go_region ⟨_, Tryz.func69⟩ rfl ?_; refine q0 rfl (o_assign ?_); refine rg_nil ?_; refine go_seq ?_; refine go_region ⟨_, Tryz.func69⟩ rfl ?_; refine q0 rfl (o_move ?_); refine q0 rfl (o_call Tryz.call87 (rfdims l a_l ) (fun x7 => ?_)); refine q0 rfl (o_call Tryz.call86 (rlist (fDims l) om_) (fun x8 => ?_)); refine q0 rfl (o_assign ?_); refine rg_nil ?_; refine go_openIL (l := (listM (fDims l))) (a := x8) (fun hl2 hA2 hU2 => ?_); refine go_seq ?_; refine go_cutS ([(4, .bool ((decide ((((listM (fDims l))).length : Int) = 0)) || (decide (((listM (fDims l)).getD ((listM (fDims l)).length - 1) 0) < d))))]) (fun hK => ?_) (fun base => ?_)
  · refine go_region ⟨_, Tryz.func69⟩ rfl ?_; refine q0 rfl (o_move ?_); refine q0 rfl (o_len ?_); refine q0 rfl (o_eqI ?_); refine q0 rfl (o_move ?_); refine qI rfl rfl rfl wl_ (fun hg12 => ?_) (fun hg12 => ?_)
    · have g12 : (decide ((((listM (fDims l))).length : Int) = 0)) = false := hg12
      try simp only [sC, bne_iff_ne, beq_iff_eq, ne_eq] at g12
      refine o_move ?_; refine qT rfl rfl rfl (o_move ?_); refine qT rfl rfl rfl (o_len ?_); refine qT rfl rfl rfl (o_sub ?_); obtain ⟨bk9, o9, hav9⟩ := hA2 (by omega); obtain ⟨bk3, o3, hav3⟩ := hA2 (by omega); refine qT rfl rfl rfl (o_ixN ?_ (j := (listM (fDims l)).length - 1) (hy := by (conv => lhs; whnf); congr 1; omega)); refine qT rfl rfl rfl (o_ldI ?_); refine qT rfl rfl rfl (o_move ?_); refine qT rfl rfl rfl (o_lss ?_); refine q0 rfl (o_pickF ?_); refine q0 rfl (o_assign ?_); refine rg_nil ?_; exact hK _ ⟨dn_, trivial⟩
    · have g12 : (decide ((((listM (fDims l))).length : Int) = 0)) = true := hg12
      try simp only [sC, bne_iff_ne, beq_iff_eq, ne_eq] at g12
      refine qF rfl rfl rfl ?_; refine qF rfl rfl rfl ?_; refine qF rfl rfl rfl ?_; refine qF rfl rfl rfl ?_; refine qF rfl rfl rfl ?_; refine qF rfl rfl rfl ?_; refine qF rfl rfl rfl ?_; refine q0 rfl (o_pickT ?_); refine q0 rfl (o_assign ?_); refine rg_nil ?_; exact hK _ ⟨dn_, trivial⟩
  · refine ret1 Tryz.func69 Tryz.results69 wn_ () (by rw [← low_within h0]; rfl) (fun w hs => hs.none)
theorem rname_spec (s : ByteArray) (hs : s.size ≤ cap47) : Spec Tryz.prog 66 #[.string (s)] [] [] (fun _ : Unit => .bool ((nameOK s))) (fun _ : Unit => []) (fun _ : Unit => []) := by
  refine spec_go (args := [.string (s)]) Tryz.func66 Tryz.ntmps66 rfl (by exact Nat.le_of_ble_eq_true rfl) fun B hB => ?_
  refine go_seq ?_; refine go_region ⟨_, Tryz.func66⟩ rfl ?_; refine q0 rfl (o_assign ?_); refine rg_nil ?_; refine go_seq ?_; refine go_seq ?_; refine go_region ⟨_, Tryz.func66⟩ rfl ?_; refine q0 rfl (o_assign ?_); refine rg_nil ?_; refine go_block ?_; refine go_loopE (X := Nat) (fun s_ => s_ ≤ s.size ∧ ∀ j, j < s_ → okAt s j = true) (fun s_ => [(0, .string (s)), (3, .int .i64 ((s_ : Int)))]) (fun s_ G_ => G_) (fun s_ => []) (fun s_ => s.size - s_) (0) (⟨by omega, fun j hj => by omega⟩) (by exact ⟨rfl, rfl, trivial⟩) ?_ ?_
  · exact fun w hs => hs
  · intro i base0 ⟨hi, hok⟩ next0; refine go_seq ?_; refine go_seq ?_; refine go_region ⟨_, Tryz.func66⟩ rfl ?_; refine q0 rfl (o_move ?_); refine q0 rfl (o_move ?_); refine q0 rfl (o_lenStr ?_); refine q0 rfl (o_lss ?_); refine rg_nil ?_; refine go_condI (fun h8 => ?_) (fun h8 => ?_)
    · have c8 : (decide ((i : Int) < ((s).size : Int))) = true := h8
      try simp only [sC, bne_iff_ne, beq_iff_eq, ne_eq] at c8
      obtain ⟨c, hc, hca⟩ := byte_at (show i < s.size by omega); refine go_skip ?_; refine go_seq ?_; refine go_block ?_; refine go_seq ?_; refine go_region ⟨_, Tryz.func66⟩ rfl ?_; refine q0 rfl (o_move ?_); refine q0 rfl (o_move ?_); refine q0 rfl (o_ixStr ?_ (c := c) (hc := hc)); refine q0 rfl (o_assign ?_); refine rg_nil ?_; refine go_seq ?_; refine go_seq ?_; refine go_cutS ([(0, .string (s)), (3, .int .i64 ((i : Int))), (4, .int .u8 ((c.toNat : Int))), (23, .bool (((decide (48 ≤ (c.toNat : Int))) && (decide ((c.toNat : Int) ≤ 57))) && (decide (0 < (i : Int)))))]) (fun hK => ?_) (fun base => ?_)
      · refine go_region ⟨_, Tryz.func66⟩ rfl ?_; refine q0 rfl (o_move ?_); refine q0 rfl (o_geq ?_); refine q0 rfl (o_move ?_); refine qI rfl rfl rfl wl_ (fun hg16 => ?_) (fun hg16 => ?_)
        · have g16 : (decide (48 ≤ (c.toNat : Int))) = true := hg16
          try simp only [sC, bne_iff_ne, beq_iff_eq, ne_eq] at g16
          refine o_move ?_; refine qT rfl rfl rfl (o_leq ?_); refine q0 rfl (o_pickT ?_); refine q0 rfl (o_move ?_); refine qI rfl rfl rfl wl_ (fun hg20 => ?_) (fun hg20 => ?_)
          · have g20 : (decide ((c.toNat : Int) ≤ 57)) = true := hg20
            try simp only [sC, bne_iff_ne, beq_iff_eq, ne_eq] at g20
            refine o_move ?_; refine qT rfl rfl rfl (o_gtr ?_); refine q0 rfl (o_pickT ?_); refine rg_nil ?_; exact hK _ ⟨rfl, rfl, rfl, dn_, trivial⟩
          · have g20 : (decide ((c.toNat : Int) ≤ 57)) = false := hg20
            try simp only [sC, bne_iff_ne, beq_iff_eq, ne_eq] at g20
            refine qF rfl rfl rfl ?_; refine q0 rfl (o_pickF ?_); refine rg_nil ?_; exact hK _ ⟨rfl, rfl, rfl, dn_, trivial⟩
        · have g16 : (decide (48 ≤ (c.toNat : Int))) = false := hg16
          try simp only [sC, bne_iff_ne, beq_iff_eq, ne_eq] at g16
          refine qF rfl rfl rfl ?_; refine q0 rfl (o_pickF ?_); refine q0 rfl (o_move ?_); refine qF rfl rfl rfl ?_; refine qF rfl rfl rfl ?_; refine q0 rfl (o_pickF ?_); refine rg_nil ?_; exact hK _ ⟨rfl, rfl, rfl, dn_, trivial⟩
      · refine go_condI (fun h23 => ?_) (fun h23 => ?_)
        · have c23 : (((decide (48 ≤ (c.toNat : Int))) && (decide ((c.toNat : Int) ≤ 57))) && (decide (0 < (i : Int)))) = true := h23
          try simp only [sC, bne_iff_ne, beq_iff_eq, ne_eq] at c23
          refine go_exit rfl ?_; refine go_region ⟨_, Tryz.func66⟩ rfl ?_; refine q0 rfl (o_move ?_); refine q0 rfl (o_add ?_); refine q0 rfl (o_assign ?_); refine rg_nil ?_; have hb : okAt s i = true := by rw [hca]; simp only [letter, digit, Bool.or_eq_true, Bool.and_eq_true, decide_eq_true_eq]; omega
          refine go_state (fun w hs => ?_) (next0 (i + 1) _ (⟨by omega, succ_inv hok hb⟩) (by omega) ⟨rfl, rfl, trivial⟩); exact (hs.less (by simp +contextual))
        · have c23 : (((decide (48 ≤ (c.toNat : Int))) && (decide ((c.toNat : Int) ≤ 57))) && (decide (0 < (i : Int)))) = false := h23
          try simp only [sC, bne_iff_ne, beq_iff_eq, ne_eq] at c23
          refine go_skip ?_; refine go_seq ?_; refine go_cutS ([(0, .string (s)), (3, .int .i64 ((i : Int))), (41, .bool (((decide ((c.toNat : Int) ≠ 95)) && ((decide ((c.toNat : Int) < 97)) || (decide (122 < (c.toNat : Int))))) && ((decide ((c.toNat : Int) < 65)) || (decide (90 < (c.toNat : Int))))))]) (fun hK => ?_) (fun base => ?_)
          · refine go_region ⟨_, Tryz.func66⟩ rfl ?_; refine q0 rfl (o_move ?_); refine q0 rfl (o_neI ?_); refine q0 rfl (o_move ?_); refine qI rfl rfl rfl wl_ (fun hg26 => ?_) (fun hg26 => ?_)
            · have g26 : (decide ((c.toNat : Int) ≠ 95)) = true := hg26
              try simp only [sC, bne_iff_ne, beq_iff_eq, ne_eq] at g26
              refine o_move ?_; refine qT rfl rfl rfl (o_lss ?_); refine qT rfl rfl rfl (o_move ?_); refine qI rfl rfl rfl wl_ (fun hg29 => ?_) (fun hg29 => ?_)
              · have g29 : (decide ((c.toNat : Int) < 97)) = false := hg29
                try simp only [sC, bne_iff_ne, beq_iff_eq, ne_eq] at g29
                refine o_move ?_; refine qT rfl rfl rfl (o_gtr ?_); refine qT rfl rfl rfl (o_pickF ?_); refine q0 rfl (o_pickT ?_); refine q0 rfl (o_move ?_); refine qI rfl rfl rfl wl_ (fun hg34 => ?_) (fun hg34 => ?_)
                · have g34 : (decide (122 < (c.toNat : Int))) = true := hg34
                  try simp only [sC, bne_iff_ne, beq_iff_eq, ne_eq] at g34
                  refine o_move ?_; refine qT rfl rfl rfl (o_lss ?_); refine qT rfl rfl rfl (o_move ?_); refine qI rfl rfl rfl wl_ (fun hg37 => ?_) (fun hg37 => ?_)
                  · have g37 : (decide ((c.toNat : Int) < 65)) = false := hg37
                    try simp only [sC, bne_iff_ne, beq_iff_eq, ne_eq] at g37
                    refine o_move ?_; refine qT rfl rfl rfl (o_gtr ?_); refine qT rfl rfl rfl (o_pickF ?_); refine q0 rfl (o_pickT ?_); refine rg_nil ?_; exact hK _ ⟨rfl, rfl, dn_, trivial⟩
                  · have g37 : (decide ((c.toNat : Int) < 65)) = true := hg37
                    try simp only [sC, bne_iff_ne, beq_iff_eq, ne_eq] at g37
                    refine qF rfl rfl rfl ?_; refine qT rfl rfl rfl (o_pickT ?_); refine q0 rfl (o_pickT ?_); refine rg_nil ?_; exact hK _ ⟨rfl, rfl, dn_, trivial⟩
                · have g34 : (decide (122 < (c.toNat : Int))) = false := hg34
                  try simp only [sC, bne_iff_ne, beq_iff_eq, ne_eq] at g34
                  refine qF rfl rfl rfl ?_; refine qF rfl rfl rfl ?_; refine qU rfl rfl rfl ?_; refine qU rfl rfl rfl ?_; refine qF rfl rfl rfl ?_; refine q0 rfl (o_pickF ?_); refine rg_nil ?_; exact hK _ ⟨rfl, rfl, dn_, trivial⟩
              · have g29 : (decide ((c.toNat : Int) < 97)) = true := hg29
                try simp only [sC, bne_iff_ne, beq_iff_eq, ne_eq] at g29
                refine qF rfl rfl rfl ?_; refine qT rfl rfl rfl (o_pickT ?_); refine q0 rfl (o_pickT ?_); refine q0 rfl (o_move ?_); refine qT rfl rfl rfl (o_move ?_); refine qT rfl rfl rfl (o_lss ?_); refine qT rfl rfl rfl (o_move ?_); refine qI rfl rfl rfl wl_ (fun hg37 => ?_) (fun hg37 => ?_)
                · have g37 : (decide ((c.toNat : Int) < 65)) = false := hg37
                  try simp only [sC, bne_iff_ne, beq_iff_eq, ne_eq] at g37
                  refine o_move ?_; refine qT rfl rfl rfl (o_gtr ?_); refine qT rfl rfl rfl (o_pickF ?_); refine q0 rfl (o_pickT ?_); refine rg_nil ?_; exact hK _ ⟨rfl, rfl, dn_, trivial⟩
                · have g37 : (decide ((c.toNat : Int) < 65)) = true := hg37
                  try simp only [sC, bne_iff_ne, beq_iff_eq, ne_eq] at g37
                  refine qF rfl rfl rfl ?_; refine qT rfl rfl rfl (o_pickT ?_); refine q0 rfl (o_pickT ?_); refine rg_nil ?_; exact hK _ ⟨rfl, rfl, dn_, trivial⟩
            · have g26 : (decide ((c.toNat : Int) ≠ 95)) = false := hg26
              try simp only [sC, bne_iff_ne, beq_iff_eq, ne_eq] at g26
              refine qF rfl rfl rfl ?_; refine qF rfl rfl rfl ?_; refine qU rfl rfl rfl ?_; refine qU rfl rfl rfl ?_; refine qF rfl rfl rfl ?_; refine q0 rfl (o_pickF ?_); refine q0 rfl (o_move ?_); refine qF rfl rfl rfl ?_; refine qF rfl rfl rfl ?_; refine qF rfl rfl rfl ?_; refine qU rfl rfl rfl ?_; refine qU rfl rfl rfl ?_; refine qF rfl rfl rfl ?_; refine q0 rfl (o_pickF ?_); refine rg_nil ?_; exact hK _ ⟨rfl, rfl, dn_, trivial⟩
          · refine go_condI (fun h41 => ?_) (fun h41 => ?_)
            · have c41 : (((decide ((c.toNat : Int) ≠ 95)) && ((decide ((c.toNat : Int) < 97)) || (decide (122 < (c.toNat : Int))))) && ((decide ((c.toNat : Int) < 65)) || (decide (90 < (c.toNat : Int))))) = true := h41
              try simp only [sC, bne_iff_ne, beq_iff_eq, ne_eq] at c41
              refine go_seq ?_; refine go_region ⟨_, Tryz.func66⟩ rfl ?_; refine q0 rfl (o_assign ?_); refine rg_nil ?_; have hb : okAt s i = false := by rw [hca]; simp only [letter, digit, Bool.or_eq_false_iff, Bool.and_eq_false_iff, decide_eq_false_iff_not]; omega
              refine ret1 Tryz.func66 Tryz.results66 wn_ () (by rw [nameOK_not (by omega) hb]) (fun w hs => hs.none)
            · have c41 : (((decide ((c.toNat : Int) ≠ 95)) && ((decide ((c.toNat : Int) < 97)) || (decide (122 < (c.toNat : Int))))) && ((decide ((c.toNat : Int) < 65)) || (decide (90 < (c.toNat : Int))))) = false := h41
              try simp only [sC, bne_iff_ne, beq_iff_eq, ne_eq] at c41
              refine go_skip ?_; refine go_inBlock ?_; refine go_region ⟨_, Tryz.func66⟩ rfl ?_; refine q0 rfl (o_move ?_); refine q0 rfl (o_add ?_); refine q0 rfl (o_assign ?_); refine rg_nil ?_; have hb : okAt s i = true := by rw [hca]; simp only [letter, digit, Bool.or_eq_true, Bool.and_eq_true, decide_eq_true_eq]; omega
              refine go_state (fun w hs => ?_) (next0 (i + 1) _ (⟨by omega, succ_inv hok hb⟩) (by omega) ⟨rfl, rfl, trivial⟩); exact (hs.less (by simp +contextual))
    · have c8 : (decide ((i : Int) < ((s).size : Int))) = false := h8
      try simp only [sC, bne_iff_ne, beq_iff_eq, ne_eq] at c8
      refine go_exit rfl ?_; refine go_seq ?_; refine go_region ⟨_, Tryz.func66⟩ rfl ?_; refine q0 rfl (o_move ?_); refine q0 rfl (o_lenStr ?_); refine q0 rfl (o_gtr ?_); refine q0 rfl (o_assign ?_); refine rg_nil ?_; have he : i = s.size := by omega
      refine ret1 Tryz.func66 Tryz.results66 wn_ () (by rw [nameOK_all (by rw [← he]; exact hok)]; exact congrArg Value.bool (by rw [Bool.eq_iff_iff, decide_eq_true_eq, bne_iff_ne]; omega)) (fun w hs => hs.none)
abbrev RallAt (t : T) : Prop := ∀ (vr_t vk_t vs_t : SH) (v : Int) (d : Int) (b : Bool), in64 v → 0 ≤ d → d + depth t ≤ 1152921504606846976 → Spec Tryz.prog 56 #[.agg (tc t vr_t vk_t vs_t).toArray, .int .i64 (v), .int .i64 (d), .bool (b)] [RT t vr_t vk_t vs_t] [] (fun _ : Unit => .bool ((allP t v d b))) (fun _ : Unit => []) (fun _ : Unit => [])
set_option maxHeartbeats 4000000 in
theorem rall_walk (t : T) (ihk : ∀ k, k ∈ t.kids → RallAt k) (ihs : ∀ b, b ∈ t.sys → ∀ k, k ∈ b.kids → RallAt k) (vr_t vk_t vs_t : SH) (v : Int) (d : Int) (b : Bool) (hv : in64 v) (hd : 0 ≤ d) (hl : d + depth t ≤ 1152921504606846976) : Spec Tryz.prog 56 #[.agg (tc t vr_t vk_t vs_t).toArray, .int .i64 (v), .int .i64 (d), .bool (b)] [RT t vr_t vk_t vs_t] [] (fun _ : Unit => .bool ((allP t v d b))) (fun _ : Unit => []) (fun _ : Unit => []) := by
  refine spec_go (args := [.agg (tc t vr_t vk_t vs_t).toArray, .int .i64 (v), .int .i64 (d), .bool (b)]) Tryz.func56 Tryz.ntmps56 rfl (by exact Nat.le_of_ble_eq_true rfl) fun B hB => ?_
  refine go_open (t := t) (vr := vr_t) (vk := vk_t) (vs := vs_t) (fun hk1 hn1 hm1 => ?_); refine go_openCL (l := (t).r) (a := vr_t) (fun hl2 hA2 hU2 => ?_); refine go_openTL (ts := (t).kids) (a := vk_t) (fun VR3 VK3 VS3 hl3 hA3 => ?_); refine go_openBL (bs := (t).sys) (a := vs_t) (fun VF4 VK4 hl4 hA4 => ?_); refine go_seq ?_; refine go_region ⟨_, Tryz.func56⟩ rfl ?_; refine q0 rfl (o_box fun b4 => ?_); refine q0 rfl (o_assign ?_); refine rg_nil ?_; refine go_seq ?_; refine go_seq ?_; refine go_cutS ([(1, .int .i64 (v)), (2, .int .i64 (d)), (3, .bool (b)), (4, .pointer (some ⟨b4, 0, none⟩)), (40, .bool (((b && (decide (24 < d))) || (decide ((kidsN ((t).kind)) ≠ ((t).kids.length : Int)))) || ((decide (0 < ((t).sys.length : Int))) && (decide ((partsN ((t).kind)) = 0)))))]) (fun hK => ?_) (fun base => ?_)
  · refine go_draw (pn := 1000000) (tn := false) (A := [0, 1, 3, 7, 15, 31, 63, 127, 255, 63, 575, 1599, 4095, 8191, 16383, 32767, 65535, 131071, 262143, 524287, 1048575, 2097151, 4194303, 8388607, 16777215, 33554431]) (l := [0, 1, 2, 3, 4, 5, 6, 7, 9, 10, 11, 8, 12, 13, 14, 15, 16, 17, 18, 19, 20, 21, 22, 23, 24, 25]) (fin := []) Tab.mixed ⟨_, Tryz.func56⟩ (by decide +kernel) ?_; refine n0 rfl (v_move ?_); refine n0 rfl (v_move ?_); refine nI rfl rfl rfl wl_ (fun hg16 => ?_) (fun hg16 => ?_)
    · have g16 : (b) = true := hg16
      try simp only [sC, bne_iff_ne, beq_iff_eq, ne_eq] at g16
      refine v_move ?_; refine nT rfl rfl rfl (v_gtr ?_); refine n0 rfl (v_pickT ?_); refine n0 rfl (v_move ?_); refine nI rfl rfl rfl wl_ (fun hg20 => ?_) (fun hg20 => ?_)
      · have g20 : (decide (24 < d)) = false := hg20
        try simp only [sC, bne_iff_ne, beq_iff_eq, ne_eq] at g20
        refine v_fa ?_; refine nT rfl rfl rfl (v_ld ?_); refine nT rfl rfl rfl (v_fa ?_); refine nT rfl rfl rfl (v_ld ?_); refine nT rfl rfl rfl (v_len ?_); refine nT rfl rfl rfl (v_call Tryz.call64 (rkids_spec ((t).kind) ) (fun x23 => ?_)); refine nT rfl rfl rfl (v_neI ?_); refine n0 rfl (v_pickF ?_); refine n0 rfl (v_move ?_); refine nI rfl rfl rfl wl_ (fun hg29 => ?_) (fun hg29 => ?_)
        · have g29 : (decide ((kidsN ((t).kind)) ≠ ((t).kids.length : Int))) = false := hg29
          try simp only [sC, bne_iff_ne, beq_iff_eq, ne_eq] at g29
          refine v_fa ?_; refine nT rfl rfl rfl (v_ld ?_); refine nT rfl rfl rfl (v_len ?_); refine nT rfl rfl rfl (v_gtr ?_); refine nT rfl rfl rfl (v_move ?_); refine nI rfl rfl rfl wl_ (fun hg34 => ?_) (fun hg34 => ?_)
          · have g34 : (decide (0 < ((t).sys.length : Int))) = true := hg34
            try simp only [sC, bne_iff_ne, beq_iff_eq, ne_eq] at g34
            refine v_fa ?_; refine nT rfl rfl rfl (v_ld ?_); refine nT rfl rfl rfl (v_call Tryz.call65 (rparts_spec ((t).kind) ) (fun x37 => ?_)); refine nT rfl rfl rfl (v_eqI ?_); refine nT rfl rfl rfl (v_pickT ?_); refine n0 rfl (v_pickF ?_); refine NV.done ?_; refine rg_nil ?_; exact hK _ ⟨rfl, rfl, rfl, rfl, dn_, trivial⟩
          · have g34 : (decide (0 < ((t).sys.length : Int))) = false := hg34
            try simp only [sC, bne_iff_ne, beq_iff_eq, ne_eq] at g34
            refine nF rfl rfl rfl ?_; refine nF rfl rfl rfl ?_; refine nF rfl rfl rfl ?_; refine nT rfl rfl rfl (v_pickF ?_); refine n0 rfl (v_pickF ?_); refine NV.done ?_; refine rg_nil ?_; exact hK _ ⟨rfl, rfl, rfl, rfl, dn_, trivial⟩
        · have g29 : (decide ((kidsN ((t).kind)) ≠ ((t).kids.length : Int))) = true := hg29
          try simp only [sC, bne_iff_ne, beq_iff_eq, ne_eq] at g29
          refine nF rfl rfl rfl ?_; refine nF rfl rfl rfl ?_; refine nF rfl rfl rfl ?_; refine nF rfl rfl rfl ?_; refine nU rfl rfl rfl ?_; refine nU rfl rfl rfl ?_; refine nU rfl rfl rfl ?_; refine nU rfl rfl rfl ?_; refine nF rfl rfl rfl ?_; refine n0 rfl (v_pickT ?_); refine NV.done ?_; refine rg_nil ?_; exact hK _ ⟨rfl, rfl, rfl, rfl, dn_, trivial⟩
      · have g20 : (decide (24 < d)) = true := hg20
        try simp only [sC, bne_iff_ne, beq_iff_eq, ne_eq] at g20
        refine nF rfl rfl rfl ?_; refine nF rfl rfl rfl ?_; refine nF rfl rfl rfl ?_; refine nF rfl rfl rfl ?_; refine nF rfl rfl rfl ?_; refine nF rfl rfl rfl ?_; refine n0 rfl (v_pickT ?_); refine n0 rfl (v_move ?_); refine nF rfl rfl rfl ?_; refine nF rfl rfl rfl ?_; refine nF rfl rfl rfl ?_; refine nF rfl rfl rfl ?_; refine nF rfl rfl rfl ?_; refine nU rfl rfl rfl ?_; refine nU rfl rfl rfl ?_; refine nU rfl rfl rfl ?_; refine nU rfl rfl rfl ?_; refine nF rfl rfl rfl ?_; refine n0 rfl (v_pickT ?_); refine NV.done ?_; refine rg_nil ?_; exact hK _ ⟨rfl, rfl, rfl, rfl, dn_, trivial⟩
    · have g16 : (b) = false := hg16
      try simp only [sC, bne_iff_ne, beq_iff_eq, ne_eq] at g16
      refine nF rfl rfl rfl ?_; refine n0 rfl (v_pickF ?_); refine n0 rfl (v_move ?_); refine nT rfl rfl rfl (v_fa ?_); refine nT rfl rfl rfl (v_ld ?_); refine nT rfl rfl rfl (v_fa ?_); refine nT rfl rfl rfl (v_ld ?_); refine nT rfl rfl rfl (v_len ?_); refine nT rfl rfl rfl (v_call Tryz.call64 (rkids_spec ((t).kind) ) (fun x23 => ?_)); refine nT rfl rfl rfl (v_neI ?_); refine n0 rfl (v_pickF ?_); refine n0 rfl (v_move ?_); refine nI rfl rfl rfl wl_ (fun hg29 => ?_) (fun hg29 => ?_)
      · have g29 : (decide ((kidsN ((t).kind)) ≠ ((t).kids.length : Int))) = false := hg29
        try simp only [sC, bne_iff_ne, beq_iff_eq, ne_eq] at g29
        refine v_fa ?_; refine nT rfl rfl rfl (v_ld ?_); refine nT rfl rfl rfl (v_len ?_); refine nT rfl rfl rfl (v_gtr ?_); refine nT rfl rfl rfl (v_move ?_); refine nI rfl rfl rfl wl_ (fun hg34 => ?_) (fun hg34 => ?_)
        · have g34 : (decide (0 < ((t).sys.length : Int))) = true := hg34
          try simp only [sC, bne_iff_ne, beq_iff_eq, ne_eq] at g34
          refine v_fa ?_; refine nT rfl rfl rfl (v_ld ?_); refine nT rfl rfl rfl (v_call Tryz.call65 (rparts_spec ((t).kind) ) (fun x37 => ?_)); refine nT rfl rfl rfl (v_eqI ?_); refine nT rfl rfl rfl (v_pickT ?_); refine n0 rfl (v_pickF ?_); refine NV.done ?_; refine rg_nil ?_; exact hK _ ⟨rfl, rfl, rfl, rfl, dn_, trivial⟩
        · have g34 : (decide (0 < ((t).sys.length : Int))) = false := hg34
          try simp only [sC, bne_iff_ne, beq_iff_eq, ne_eq] at g34
          refine nF rfl rfl rfl ?_; refine nF rfl rfl rfl ?_; refine nF rfl rfl rfl ?_; refine nT rfl rfl rfl (v_pickF ?_); refine n0 rfl (v_pickF ?_); refine NV.done ?_; refine rg_nil ?_; exact hK _ ⟨rfl, rfl, rfl, rfl, dn_, trivial⟩
      · have g29 : (decide ((kidsN ((t).kind)) ≠ ((t).kids.length : Int))) = true := hg29
        try simp only [sC, bne_iff_ne, beq_iff_eq, ne_eq] at g29
        refine nF rfl rfl rfl ?_; refine nF rfl rfl rfl ?_; refine nF rfl rfl rfl ?_; refine nF rfl rfl rfl ?_; refine nU rfl rfl rfl ?_; refine nU rfl rfl rfl ?_; refine nU rfl rfl rfl ?_; refine nU rfl rfl rfl ?_; refine nF rfl rfl rfl ?_; refine n0 rfl (v_pickT ?_); refine NV.done ?_; refine rg_nil ?_; exact hK _ ⟨rfl, rfl, rfl, rfl, dn_, trivial⟩
  · refine go_condI (fun h40 => ?_) (fun h40 => ?_)
    · have c40 : (((b && (decide (24 < d))) || (decide ((kidsN ((t).kind)) ≠ ((t).kids.length : Int)))) || ((decide (0 < ((t).sys.length : Int))) && (decide ((partsN ((t).kind)) = 0)))) = true := h40
      try simp only [sC, bne_iff_ne, beq_iff_eq, ne_eq] at c40
      have hno : ¬ Ahead t v d b := fun ha => by have h1 := ha.bound; have h2 := ha.kids; have h3 := ha.sys; simp at h40; rcases h40 with (h4 | h4) | h4 <;> first | exact h1 h4 | exact h4 h2 | omega
      refine go_seq ?_; refine go_region ⟨_, Tryz.func56⟩ rfl ?_; refine q0 rfl (o_assign ?_); refine rg_nil ?_; refine ret1 Tryz.func56 Tryz.results56 wn_ () (by congr 1; symm; first | exact all_no1 hv hd hno | exact all_no2 hv hd (i := i) (by omega) hno2 | exact all_no3 hv hd (i := i2) (by omega) hno3 | exact (all_steps hv hd).mpr ⟨ha, fun j hj => hok j (by omega), fun j hj => hok2 j (by omega)⟩) (fun w hs => hs.none)
    · have c40 : (((b && (decide (24 < d))) || (decide ((kidsN ((t).kind)) ≠ ((t).kids.length : Int)))) || ((decide (0 < ((t).sys.length : Int))) && (decide ((partsN ((t).kind)) = 0)))) = false := h40
      try simp only [sC, bne_iff_ne, beq_iff_eq, ne_eq] at c40
      have ha1 : ¬ (b = true ∧ 24 < d) ∧ kidsN t.kind = (t.kids.length : Int) ∧ (partsN t.kind = 0 → t.sys.length = 0) := by simp at h40; refine ⟨fun h => by have := h40.1.1 h.1; omega, h40.1.2, fun h => ?_⟩; apply Classical.byContradiction; intro hc; exact h40.2 (by omega) h
      refine go_skip ?_; refine go_seq ?_; refine go_seq ?_; refine go_region ⟨_, Tryz.func56⟩ rfl ?_; refine q0 rfl (o_fa ?_); refine q0 rfl (o_ld ?_); refine q0 rfl (o_eqI ?_); refine rg_nil ?_; refine go_cutP (if t.kind = 1 then 0 ≤ t.n ∧ (v < 0 ∨ t.n < v) else t.n = 0) ([(1, .int .i64 (v)), (2, .int .i64 (d)), (3, .bool (b)), (4, .pointer (some ⟨b4, 0, none⟩))]) (fun hK => ?_) (fun hN base => ?_)
      · refine go_condI (fun h43 => ?_) (fun h43 => ?_)
        · have c43 : (decide (((t).kind) = 1)) = true := h43
          try simp only [sC, bne_iff_ne, beq_iff_eq, ne_eq] at c43
          refine go_seq ?_; refine go_cutS ([(1, .int .i64 (v)), (2, .int .i64 (d)), (3, .bool (b)), (4, .pointer (some ⟨b4, 0, none⟩)), (56, .bool ((decide (((t).n) < 0)) || ((decide (0 ≤ v)) && (decide (v ≤ ((t).n))))))]) (fun hK => ?_) (fun base => ?_)
          · refine go_region ⟨_, Tryz.func56⟩ rfl ?_; refine q0 rfl (o_fa ?_); refine q0 rfl (o_ld ?_); refine q0 rfl (o_lss ?_); refine q0 rfl (o_move ?_); refine qI rfl rfl rfl wl_ (fun hg47 => ?_) (fun hg47 => ?_)
            · have g47 : (decide (((t).n) < 0)) = false := hg47
              try simp only [sC, bne_iff_ne, beq_iff_eq, ne_eq] at g47
              refine o_move ?_; refine qT rfl rfl rfl (o_geq ?_); refine qT rfl rfl rfl (o_move ?_); refine qI rfl rfl rfl wl_ (fun hg50 => ?_) (fun hg50 => ?_)
              · have g50 : (decide (0 ≤ v)) = true := hg50
                try simp only [sC, bne_iff_ne, beq_iff_eq, ne_eq] at g50
                refine o_fa ?_; refine qT rfl rfl rfl (o_ld ?_); refine qT rfl rfl rfl (o_move ?_); refine qT rfl rfl rfl (o_geq ?_); refine qT rfl rfl rfl (o_pickT ?_); refine q0 rfl (o_pickF ?_); refine rg_nil ?_; exact hK _ ⟨rfl, rfl, rfl, rfl, dn_, trivial⟩
              · have g50 : (decide (0 ≤ v)) = false := hg50
                try simp only [sC, bne_iff_ne, beq_iff_eq, ne_eq] at g50
                refine qF rfl rfl rfl ?_; refine qF rfl rfl rfl ?_; refine qF rfl rfl rfl ?_; refine qT rfl rfl rfl (o_pickF ?_); refine q0 rfl (o_pickF ?_); refine rg_nil ?_; exact hK _ ⟨rfl, rfl, rfl, rfl, dn_, trivial⟩
            · have g47 : (decide (((t).n) < 0)) = true := hg47
              try simp only [sC, bne_iff_ne, beq_iff_eq, ne_eq] at g47
              refine qF rfl rfl rfl ?_; refine qF rfl rfl rfl ?_; refine qU rfl rfl rfl ?_; refine qU rfl rfl rfl ?_; refine qU rfl rfl rfl ?_; refine qU rfl rfl rfl ?_; refine qF rfl rfl rfl ?_; refine q0 rfl (o_pickT ?_); refine rg_nil ?_; exact hK _ ⟨rfl, rfl, rfl, rfl, dn_, trivial⟩
          · refine go_condI (fun h56 => ?_) (fun h56 => ?_)
            · have c56 : ((decide (((t).n) < 0)) || ((decide (0 ≤ v)) && (decide (v ≤ ((t).n))))) = true := h56
              try simp only [sC, bne_iff_ne, beq_iff_eq, ne_eq] at c56
              have hno : ¬ Ahead t v d b := fun ha => by have h1 := ha.n1; rw [if_pos c43] at h1; simp at h56; omega
              refine go_seq ?_; refine go_region ⟨_, Tryz.func56⟩ rfl ?_; refine q0 rfl (o_assign ?_); refine rg_nil ?_; refine ret1 Tryz.func56 Tryz.results56 wn_ () (by congr 1; symm; first | exact all_no1 hv hd hno | exact all_no2 hv hd (i := i) (by omega) hno2 | exact all_no3 hv hd (i := i2) (by omega) hno3 | exact (all_steps hv hd).mpr ⟨ha, fun j hj => hok j (by omega), fun j hj => hok2 j (by omega)⟩) (fun w hs => hs.none)
            · have c56 : ((decide (((t).n) < 0)) || ((decide (0 ≤ v)) && (decide (v ≤ ((t).n))))) = false := h56
              try simp only [sC, bne_iff_ne, beq_iff_eq, ne_eq] at c56
              refine go_skip ?_; exact hK (by first | (rw [if_pos c43]; simp at c56; omega) | (rw [if_neg c43]; omega)) _ ⟨rfl, rfl, rfl, rfl, trivial⟩
        · have c43 : (decide (((t).kind) = 1)) = false := h43
          try simp only [sC, bne_iff_ne, beq_iff_eq, ne_eq] at c43
          refine go_seq ?_; refine go_region ⟨_, Tryz.func56⟩ rfl ?_; refine q0 rfl (o_fa ?_); refine q0 rfl (o_ld ?_); refine q0 rfl (o_neI ?_); refine rg_nil ?_; refine go_condI (fun h59 => ?_) (fun h59 => ?_)
          · have c59 : (decide (((t).n) ≠ 0)) = true := h59
            try simp only [sC, bne_iff_ne, beq_iff_eq, ne_eq] at c59
            have hno : ¬ Ahead t v d b := fun ha => by have h1 := ha.n1; rw [if_neg c43] at h1; exact c59 h1
            refine go_seq ?_; refine go_region ⟨_, Tryz.func56⟩ rfl ?_; refine q0 rfl (o_assign ?_); refine rg_nil ?_; refine ret1 Tryz.func56 Tryz.results56 wn_ () (by congr 1; symm; first | exact all_no1 hv hd hno | exact all_no2 hv hd (i := i) (by omega) hno2 | exact all_no3 hv hd (i := i2) (by omega) hno3 | exact (all_steps hv hd).mpr ⟨ha, fun j hj => hok j (by omega), fun j hj => hok2 j (by omega)⟩) (fun w hs => hs.none)
          · have c59 : (decide (((t).n) ≠ 0)) = false := h59
            try simp only [sC, bne_iff_ne, beq_iff_eq, ne_eq] at c59
            refine go_skip ?_; exact hK (by first | (rw [if_pos c43]; simp at c56; omega) | (rw [if_neg c43]; omega)) _ ⟨rfl, rfl, rfl, rfl, trivial⟩
      · refine go_seq ?_; refine go_seq ?_; refine go_cutS ([(1, .int .i64 (v)), (2, .int .i64 (d)), (3, .bool (b)), (4, .pointer (some ⟨b4, 0, none⟩)), (78, .bool (((decide (((t).kind) = 2)) && (!(nameOK ((t).name)))) || ((decide (((t).kind) ≠ 2)) && (!(((t).name).toList == (ByteArray.mk #[]).toList)))))]) (fun hK => ?_) (fun base => ?_)
        · refine go_region ⟨_, Tryz.func56⟩ rfl ?_; refine q0 rfl (o_fa ?_); refine q0 rfl (o_ld ?_); refine q0 rfl (o_eqI ?_); refine q0 rfl (o_move ?_); refine qI rfl rfl rfl wl_ (fun hg63 => ?_) (fun hg63 => ?_)
          · have g63 : (decide (((t).kind) = 2)) = true := hg63
            try simp only [sC, bne_iff_ne, beq_iff_eq, ne_eq] at g63
            refine o_fa ?_; refine qT rfl rfl rfl (o_ld ?_); refine qT rfl rfl rfl (o_call Tryz.call66 (rname_spec ((t).name) om_) (fun x66 => ?_)); refine qT rfl rfl rfl (o_not ?_); refine q0 rfl (o_pickT ?_); refine q0 rfl (o_move ?_); refine qI rfl rfl rfl wl_ (fun hg69 => ?_) (fun hg69 => ?_)
            · have g69 : (!(nameOK ((t).name))) = false := hg69
              try simp only [sC, bne_iff_ne, beq_iff_eq, ne_eq] at g69
              refine o_fa ?_; refine qT rfl rfl rfl (o_ld ?_); refine qT rfl rfl rfl (o_neI ?_); refine qT rfl rfl rfl (o_move ?_); refine qI rfl rfl rfl wl_ (fun hg73 => ?_) (fun hg73 => ?_)
              · have g73 : (decide (((t).kind) ≠ 2)) = true := hg73
                try simp only [sC, bne_iff_ne, beq_iff_eq, ne_eq] at g73
                refine o_fa ?_; refine qT rfl rfl rfl (o_ld ?_); refine qT rfl rfl rfl (o_neS ?_); refine qT rfl rfl rfl (o_pickT ?_); refine q0 rfl (o_pickF ?_); refine rg_nil ?_; exact hK _ ⟨rfl, rfl, rfl, rfl, dn_, trivial⟩
              · have g73 : (decide (((t).kind) ≠ 2)) = false := hg73
                try simp only [sC, bne_iff_ne, beq_iff_eq, ne_eq] at g73
                refine qF rfl rfl rfl ?_; refine qF rfl rfl rfl ?_; refine qT rfl rfl rfl (o_pickF ?_); refine q0 rfl (o_pickF ?_); refine rg_nil ?_; exact hK _ ⟨rfl, rfl, rfl, rfl, dn_, trivial⟩
            · have g69 : (!(nameOK ((t).name))) = true := hg69
              try simp only [sC, bne_iff_ne, beq_iff_eq, ne_eq] at g69
              refine qF rfl rfl rfl ?_; refine qF rfl rfl rfl ?_; refine qF rfl rfl rfl ?_; refine qU rfl rfl rfl ?_; refine qU rfl rfl rfl ?_; refine qU rfl rfl rfl ?_; refine qF rfl rfl rfl ?_; refine q0 rfl (o_pickT ?_); refine rg_nil ?_; exact hK _ ⟨rfl, rfl, rfl, rfl, dn_, trivial⟩
          · have g63 : (decide (((t).kind) = 2)) = false := hg63
            try simp only [sC, bne_iff_ne, beq_iff_eq, ne_eq] at g63
            refine qF rfl rfl rfl ?_; refine qF rfl rfl rfl ?_; refine qF rfl rfl rfl ?_; refine q0 rfl (o_pickF ?_); refine q0 rfl (o_move ?_); refine qT rfl rfl rfl (o_fa ?_); refine qT rfl rfl rfl (o_ld ?_); refine qT rfl rfl rfl (o_neI ?_); refine qT rfl rfl rfl (o_move ?_); refine qI rfl rfl rfl wl_ (fun hg73 => ?_) (fun hg73 => ?_)
            · have g73 : (decide (((t).kind) ≠ 2)) = true := hg73
              try simp only [sC, bne_iff_ne, beq_iff_eq, ne_eq] at g73
              refine o_fa ?_; refine qT rfl rfl rfl (o_ld ?_); refine qT rfl rfl rfl (o_neS ?_); refine qT rfl rfl rfl (o_pickT ?_); refine q0 rfl (o_pickF ?_); refine rg_nil ?_; exact hK _ ⟨rfl, rfl, rfl, rfl, dn_, trivial⟩
            · have g73 : (decide (((t).kind) ≠ 2)) = false := hg73
              try simp only [sC, bne_iff_ne, beq_iff_eq, ne_eq] at g73
              refine qF rfl rfl rfl ?_; refine qF rfl rfl rfl ?_; refine qT rfl rfl rfl (o_pickF ?_); refine q0 rfl (o_pickF ?_); refine rg_nil ?_; exact hK _ ⟨rfl, rfl, rfl, rfl, dn_, trivial⟩
        · refine go_condI (fun h78 => ?_) (fun h78 => ?_)
          · have c78 : (((decide (((t).kind) = 2)) && (!(nameOK ((t).name)))) || ((decide (((t).kind) ≠ 2)) && (!(((t).name).toList == (ByteArray.mk #[]).toList)))) = true := h78
            try simp only [sC, bne_iff_ne, beq_iff_eq, ne_eq] at c78
            have hno : ¬ Ahead t v d b := fun ha => by have h1 := ha.nm; clear hN ha1; by_cases hk : t.kind = 2 <;> simp [hk] at h1 h78 <;> simp [h1] at h78
            refine go_seq ?_; refine go_region ⟨_, Tryz.func56⟩ rfl ?_; refine q0 rfl (o_assign ?_); refine rg_nil ?_; refine ret1 Tryz.func56 Tryz.results56 wn_ () (by congr 1; symm; first | exact all_no1 hv hd hno | exact all_no2 hv hd (i := i) (by omega) hno2 | exact all_no3 hv hd (i := i2) (by omega) hno3 | exact (all_steps hv hd).mpr ⟨ha, fun j hj => hok j (by omega), fun j hj => hok2 j (by omega)⟩) (fun w hs => hs.none)
          · have c78 : (((decide (((t).kind) = 2)) && (!(nameOK ((t).name)))) || ((decide (((t).kind) ≠ 2)) && (!(((t).name).toList == (ByteArray.mk #[]).toList)))) = false := h78
            try simp only [sC, bne_iff_ne, beq_iff_eq, ne_eq] at c78
            have ha2 : if t.kind = 2 then nameOK t.name = true else (t.name.toList == (ByteArray.mk #[]).toList) = true := by by_cases hk : t.kind = 2 <;> simp [hk] at h78 ⊢ <;> exact h78
            refine go_skip ?_; refine go_seq ?_; refine go_seq ?_; refine go_region ⟨_, Tryz.func56⟩ rfl ?_; refine q0 rfl (o_fa ?_); refine q0 rfl (o_ld ?_); refine rg_nil ?_; refine go_cutP (if t.kind = 13 ∨ t.kind = 21 ∨ t.kind = 26 then fRight t.r = true else if t.kind = 14 then faceRight t.r = true else t.r.length = 0) ([(1, .int .i64 (v)), (2, .int .i64 (d)), (3, .bool (b)), (4, .pointer (some ⟨b4, 0, none⟩))]) (fun hK => ?_) (fun hR base => ?_)
            · refine go_block ?_; refine go_seq ?_; refine go_seq ?_; refine go_region ⟨_, Tryz.func56⟩ rfl ?_; refine q0 rfl (o_eqI ?_); refine q0 rfl (o_assign ?_); refine rg_nil ?_; refine go_condI (fun h85 => ?_) (fun h85 => ?_)
              · have c85 : (decide (((t).kind) = 13)) = true := h85
                try simp only [sC, bne_iff_ne, beq_iff_eq, ne_eq] at c85
                refine go_skip ?_; refine go_condT ?_; refine go_seq ?_; refine go_region ⟨_, Tryz.func56⟩ rfl ?_; refine q0 rfl (o_fa ?_); refine q0 rfl (o_ld ?_); refine q0 rfl (o_call Tryz.call67 (rfright ((t).r) vr_t ) (fun x91 => ?_)); refine q0 rfl (o_not ?_); refine rg_nil ?_; refine go_condI (fun h92 => ?_) (fun h92 => ?_)
                · have c92 : (!(fRight ((t).r))) = true := h92
                  try simp only [sC, bne_iff_ne, beq_iff_eq, ne_eq] at c92
                  have hno : ¬ Ahead t v d b := fun ha => by have h1 := ha.r; rw [if_pos (by omega)] at h1; simp [h1] at h92
                  refine go_seq ?_; refine go_region ⟨_, Tryz.func56⟩ rfl ?_; refine q0 rfl (o_assign ?_); refine rg_nil ?_; refine ret1 Tryz.func56 Tryz.results56 wn_ () (by congr 1; symm; first | exact all_no1 hv hd hno | exact all_no2 hv hd (i := i) (by omega) hno2 | exact all_no3 hv hd (i := i2) (by omega) hno3 | exact (all_steps hv hd).mpr ⟨ha, fun j hj => hok j (by omega), fun j hj => hok2 j (by omega)⟩) (fun w hs => hs.none)
                · have c92 : (!(fRight ((t).r))) = false := h92
                  try simp only [sC, bne_iff_ne, beq_iff_eq, ne_eq] at c92
                  refine go_skip ?_; refine go_inBlock ?_; exact hK (by first | (rw [if_pos (by omega)]; simpa using h92) | (rw [if_neg (by omega), if_pos (by omega)]; simpa using h98) | (rw [if_neg (by omega), if_neg (by omega)]; omega)) _ ⟨rfl, rfl, rfl, rfl, trivial⟩
              · have c85 : (decide (((t).kind) = 13)) = false := h85
                try simp only [sC, bne_iff_ne, beq_iff_eq, ne_eq] at c85
                refine go_seq ?_; refine go_region ⟨_, Tryz.func56⟩ rfl ?_; refine q0 rfl (o_eqI ?_); refine q0 rfl (o_assign ?_); refine rg_nil ?_; refine go_condI (fun h85 => ?_) (fun h85 => ?_)
                · have c85 : (decide (((t).kind) = 21)) = true := h85
                  try simp only [sC, bne_iff_ne, beq_iff_eq, ne_eq] at c85
                  refine go_skip ?_; refine go_condT ?_; refine go_seq ?_; refine go_region ⟨_, Tryz.func56⟩ rfl ?_; refine q0 rfl (o_fa ?_); refine q0 rfl (o_ld ?_); refine q0 rfl (o_call Tryz.call67 (rfright ((t).r) vr_t ) (fun x91 => ?_)); refine q0 rfl (o_not ?_); refine rg_nil ?_; refine go_condI (fun h92 => ?_) (fun h92 => ?_)
                  · have c92 : (!(fRight ((t).r))) = true := h92
                    try simp only [sC, bne_iff_ne, beq_iff_eq, ne_eq] at c92
                    have hno : ¬ Ahead t v d b := fun ha => by have h1 := ha.r; rw [if_pos (by omega)] at h1; simp [h1] at h92
                    refine go_seq ?_; refine go_region ⟨_, Tryz.func56⟩ rfl ?_; refine q0 rfl (o_assign ?_); refine rg_nil ?_; refine ret1 Tryz.func56 Tryz.results56 wn_ () (by congr 1; symm; first | exact all_no1 hv hd hno | exact all_no2 hv hd (i := i) (by omega) hno2 | exact all_no3 hv hd (i := i2) (by omega) hno3 | exact (all_steps hv hd).mpr ⟨ha, fun j hj => hok j (by omega), fun j hj => hok2 j (by omega)⟩) (fun w hs => hs.none)
                  · have c92 : (!(fRight ((t).r))) = false := h92
                    try simp only [sC, bne_iff_ne, beq_iff_eq, ne_eq] at c92
                    refine go_skip ?_; refine go_inBlock ?_; exact hK (by first | (rw [if_pos (by omega)]; simpa using h92) | (rw [if_neg (by omega), if_pos (by omega)]; simpa using h98) | (rw [if_neg (by omega), if_neg (by omega)]; omega)) _ ⟨rfl, rfl, rfl, rfl, trivial⟩
                · have c85 : (decide (((t).kind) = 21)) = false := h85
                  try simp only [sC, bne_iff_ne, beq_iff_eq, ne_eq] at c85
                  refine go_region ⟨_, Tryz.func56⟩ rfl ?_; refine q0 rfl (o_eqI ?_); refine q0 rfl (o_assign ?_); refine rg_nil ?_; refine go_condI (fun h85 => ?_) (fun h85 => ?_)
                  · have c85 : (decide (((t).kind) = 26)) = true := h85
                    try simp only [sC, bne_iff_ne, beq_iff_eq, ne_eq] at c85
                    refine go_seq ?_; refine go_region ⟨_, Tryz.func56⟩ rfl ?_; refine q0 rfl (o_fa ?_); refine q0 rfl (o_ld ?_); refine q0 rfl (o_call Tryz.call67 (rfright ((t).r) vr_t ) (fun x91 => ?_)); refine q0 rfl (o_not ?_); refine rg_nil ?_; refine go_condI (fun h92 => ?_) (fun h92 => ?_)
                    · have c92 : (!(fRight ((t).r))) = true := h92
                      try simp only [sC, bne_iff_ne, beq_iff_eq, ne_eq] at c92
                      have hno : ¬ Ahead t v d b := fun ha => by have h1 := ha.r; rw [if_pos (by omega)] at h1; simp [h1] at h92
                      refine go_seq ?_; refine go_region ⟨_, Tryz.func56⟩ rfl ?_; refine q0 rfl (o_assign ?_); refine rg_nil ?_; refine ret1 Tryz.func56 Tryz.results56 wn_ () (by congr 1; symm; first | exact all_no1 hv hd hno | exact all_no2 hv hd (i := i) (by omega) hno2 | exact all_no3 hv hd (i := i2) (by omega) hno3 | exact (all_steps hv hd).mpr ⟨ha, fun j hj => hok j (by omega), fun j hj => hok2 j (by omega)⟩) (fun w hs => hs.none)
                    · have c92 : (!(fRight ((t).r))) = false := h92
                      try simp only [sC, bne_iff_ne, beq_iff_eq, ne_eq] at c92
                      refine go_skip ?_; refine go_inBlock ?_; exact hK (by first | (rw [if_pos (by omega)]; simpa using h92) | (rw [if_neg (by omega), if_pos (by omega)]; simpa using h98) | (rw [if_neg (by omega), if_neg (by omega)]; omega)) _ ⟨rfl, rfl, rfl, rfl, trivial⟩
                  · have c85 : (decide (((t).kind) = 26)) = false := h85
                    try simp only [sC, bne_iff_ne, beq_iff_eq, ne_eq] at c85
                    refine go_seq ?_; refine go_region ⟨_, Tryz.func56⟩ rfl ?_; refine q0 rfl (o_eqI ?_); refine q0 rfl (o_assign ?_); refine rg_nil ?_; refine go_condI (fun h93 => ?_) (fun h93 => ?_)
                    · have c93 : (decide (((t).kind) = 14)) = true := h93
                      try simp only [sC, bne_iff_ne, beq_iff_eq, ne_eq] at c93
                      refine go_seq ?_; refine go_region ⟨_, Tryz.func56⟩ rfl ?_; refine q0 rfl (o_fa ?_); refine q0 rfl (o_ld ?_); refine q0 rfl (o_call Tryz.call68 (rfaceright ((t).r) vr_t ) (fun x97 => ?_)); refine q0 rfl (o_not ?_); refine rg_nil ?_; refine go_condI (fun h98 => ?_) (fun h98 => ?_)
                      · have c98 : (!(faceRight ((t).r))) = true := h98
                        try simp only [sC, bne_iff_ne, beq_iff_eq, ne_eq] at c98
                        have hno : ¬ Ahead t v d b := fun ha => by have h1 := ha.r; rw [if_neg (by omega), if_pos (by omega)] at h1; simp [h1] at h98
                        refine go_seq ?_; refine go_region ⟨_, Tryz.func56⟩ rfl ?_; refine q0 rfl (o_assign ?_); refine rg_nil ?_; refine ret1 Tryz.func56 Tryz.results56 wn_ () (by congr 1; symm; first | exact all_no1 hv hd hno | exact all_no2 hv hd (i := i) (by omega) hno2 | exact all_no3 hv hd (i := i2) (by omega) hno3 | exact (all_steps hv hd).mpr ⟨ha, fun j hj => hok j (by omega), fun j hj => hok2 j (by omega)⟩) (fun w hs => hs.none)
                      · have c98 : (!(faceRight ((t).r))) = false := h98
                        try simp only [sC, bne_iff_ne, beq_iff_eq, ne_eq] at c98
                        refine go_skip ?_; refine go_inBlock ?_; exact hK (by first | (rw [if_pos (by omega)]; simpa using h92) | (rw [if_neg (by omega), if_pos (by omega)]; simpa using h98) | (rw [if_neg (by omega), if_neg (by omega)]; omega)) _ ⟨rfl, rfl, rfl, rfl, trivial⟩
                    · have c93 : (decide (((t).kind) = 14)) = false := h93
                      try simp only [sC, bne_iff_ne, beq_iff_eq, ne_eq] at c93
                      refine go_seq ?_; refine go_region ⟨_, Tryz.func56⟩ rfl ?_; refine q0 rfl (o_fa ?_); refine q0 rfl (o_ld ?_); refine q0 rfl (o_len ?_); refine q0 rfl (o_gtr ?_); refine rg_nil ?_; refine go_condI (fun h84 => ?_) (fun h84 => ?_)
                      · have c84 : (decide (0 < ((t).r.length : Int))) = true := h84
                        try simp only [sC, bne_iff_ne, beq_iff_eq, ne_eq] at c84
                        have hno : ¬ Ahead t v d b := fun ha => by have h1 := ha.r; rw [if_neg (by omega), if_neg (by omega)] at h1; omega
                        refine go_seq ?_; refine go_region ⟨_, Tryz.func56⟩ rfl ?_; refine q0 rfl (o_assign ?_); refine rg_nil ?_; refine ret1 Tryz.func56 Tryz.results56 wn_ () (by congr 1; symm; first | exact all_no1 hv hd hno | exact all_no2 hv hd (i := i) (by omega) hno2 | exact all_no3 hv hd (i := i2) (by omega) hno3 | exact (all_steps hv hd).mpr ⟨ha, fun j hj => hok j (by omega), fun j hj => hok2 j (by omega)⟩) (fun w hs => hs.none)
                      · have c84 : (decide (0 < ((t).r.length : Int))) = false := h84
                        try simp only [sC, bne_iff_ne, beq_iff_eq, ne_eq] at c84
                        refine go_skip ?_; refine go_inBlock ?_; exact hK (by first | (rw [if_pos (by omega)]; simpa using h92) | (rw [if_neg (by omega), if_pos (by omega)]; simpa using h98) | (rw [if_neg (by omega), if_neg (by omega)]; omega)) _ ⟨rfl, rfl, rfl, rfl, trivial⟩
            · refine go_seq ?_; refine go_seq ?_; refine go_region ⟨_, Tryz.func56⟩ rfl ?_; refine q0 rfl (o_fa ?_); refine q0 rfl (o_ld ?_); refine q0 rfl (o_move ?_); refine q0 rfl (o_call Tryz.call69 (rlow_spec ((t).r) vr_t d om_) (fun x102 => ?_)); refine q0 rfl (o_not ?_); refine rg_nil ?_; refine go_condI (fun h103 => ?_) (fun h103 => ?_)
              · have c103 : (!(within ((t).r) d)) = true := h103
                try simp only [sC, bne_iff_ne, beq_iff_eq, ne_eq] at c103
                have hno : ¬ Ahead t v d b := fun ha => by have h1 := ha.low; simp [h1] at h103
                refine go_seq ?_; refine go_region ⟨_, Tryz.func56⟩ rfl ?_; refine q0 rfl (o_assign ?_); refine rg_nil ?_; refine ret1 Tryz.func56 Tryz.results56 wn_ () (by congr 1; symm; first | exact all_no1 hv hd hno | exact all_no2 hv hd (i := i) (by omega) hno2 | exact all_no3 hv hd (i := i2) (by omega) hno3 | exact (all_steps hv hd).mpr ⟨ha, fun j hj => hok j (by omega), fun j hj => hok2 j (by omega)⟩) (fun w hs => hs.none)
              · have c103 : (!(within ((t).r) d)) = false := h103
                try simp only [sC, bne_iff_ne, beq_iff_eq, ne_eq] at c103
                have ha : Ahead t v d b := ⟨ha1.1, ha1.2.1, ha1.2.2, hN, ha2, hR, by simpa using h103⟩; refine go_skip ?_; refine go_seq ?_; refine go_seq ?_; refine go_region ⟨_, Tryz.func56⟩ rfl ?_; refine q0 rfl (o_assign ?_); refine rg_nil ?_; refine go_block ?_; refine go_loopE (X := Nat) (fun s_ => s_ ≤ t.kids.length ∧ ∀ j, j < s_ → kidOK t v d b j = true) (fun s_ => [(1, .int .i64 (v)), (2, .int .i64 (d)), (3, .bool (b)), (4, .pointer (some ⟨b4, 0, none⟩)), (9, .int .i64 ((s_ : Int)))]) (fun s_ G_ => G_) (fun s_ => [boxR b4 (tc t vr_t vk_t vs_t) 26]) (fun s_ => t.kids.length - s_) (0) (⟨by omega, fun j hj => by omega⟩) (by exact ⟨rfl, rfl, rfl, rfl, rfl, trivial⟩) ?_ ?_
                · exact fun w hs => hs
                · intro i base0 ⟨hi, hok⟩ next0; refine go_seq ?_; refine go_seq ?_; refine go_region ⟨_, Tryz.func56⟩ rfl ?_; refine q0 rfl (o_move ?_); refine q0 rfl (o_fa ?_); refine q0 rfl (o_ld ?_); refine q0 rfl (o_len ?_); refine q0 rfl (o_lss ?_); refine rg_nil ?_; refine go_condI (fun h108 => ?_) (fun h108 => ?_)
                  · have c108 : (decide ((i : Int) < ((t).kids.length : Int))) = true := h108
                    try simp only [sC, bne_iff_ne, beq_iff_eq, ne_eq] at c108
                    have hkd := depth_kid (getD_mem (d := t0) (show i < t.kids.length by omega)); have hbi := binds_in t.kind (i : Int); unfold bindsIn at hbi; refine go_skip ?_; refine go_seq ?_; refine go_block ?_; refine go_seq ?_; refine go_region ⟨_, Tryz.func56⟩ rfl ?_; refine q0 rfl (o_fa ?_); refine q0 rfl (o_ld ?_); refine q0 rfl (o_move ?_); refine q0 rfl (o_call Tryz.call53 (rbinds_spec ((t).kind) (i : Int) ) (fun x115 => ?_)); refine q0 rfl (o_move ?_); refine q0 rfl (o_extract ?_); refine q0 rfl (o_extract ?_); refine q0 rfl (o_assign ?_); refine q0 rfl (o_assign ?_); refine rg_nil ?_; refine go_seq ?_; refine go_seq ?_; refine go_region ⟨_, Tryz.func56⟩ rfl ?_; refine q0 rfl (o_move ?_); refine q0 rfl (o_lss ?_); refine rg_nil ?_; refine go_cutS ([(1, .int .i64 (v)), (2, .int .i64 (d)), (3, .bool (b)), (4, .pointer (some ⟨b4, 0, none⟩)), (9, .int .i64 ((i : Int))), (10, .int .i64 ((if v < 0 then 0 else (binds t.kind (i : Int)).1))), (11, .int .i64 ((binds ((t).kind) (i : Int)).2))]) (fun hK => ?_) (fun base => ?_)
                    · refine go_condI (fun h119 => ?_) (fun h119 => ?_)
                      · have c119 : (decide (v < 0)) = true := h119
                        try simp only [sC, bne_iff_ne, beq_iff_eq, ne_eq] at c119
                        refine go_region ⟨_, Tryz.func56⟩ rfl ?_; refine q0 rfl (o_assign ?_); refine rg_nil ?_; exact hK _ ⟨rfl, rfl, rfl, rfl, rfl, (by (conv => lhs; whnf); first | rw [if_pos c119] | rw [if_neg c119]), rfl, trivial⟩
                      · have c119 : (decide (v < 0)) = false := h119
                        try simp only [sC, bne_iff_ne, beq_iff_eq, ne_eq] at c119
                        refine go_skip ?_; exact hK _ ⟨rfl, rfl, rfl, rfl, rfl, (by (conv => lhs; whnf); first | rw [if_pos c119] | rw [if_neg c119]), rfl, trivial⟩
                    · refine go_seq ?_; refine go_kid (ts := (t).kids) (a := vk_t) (VR := VR3) (VK := VK3) (VS := VS3) i (by omega) ?_; refine go_region ⟨_, Tryz.func56⟩ rfl ?_; refine q0 rfl (o_fa ?_); refine q0 rfl (o_ld ?_); refine q0 rfl (o_move ?_); obtain ⟨bk5, o5, hav5⟩ := hA3 (by omega); refine q0 rfl (o_ixN ?_ (j := i)); refine q0 rfl (o_ldT ?_); refine q0 rfl (o_move ?_); refine q0 rfl (o_move ?_); refine q0 rfl (o_addW ?_); refine q0 rfl (o_move ?_); refine q0 rfl (o_move ?_); refine q0 rfl (o_add ?_); refine q0 rfl (o_move ?_); refine q0 rfl (o_call Tryz.call56 ((ihk (((t).kids).getD i t0) (getD_mem (show i < ((t).kids).length by omega))) (VR3 i) (VK3 i) (VS3 i) (IntKind.i64.wrap (v + if v < 0 then 0 else (binds t.kind (i : Int)).1)) (d + ((binds ((t).kind) (i : Int)).2)) b (by first | assumption | exact wrap_in _ | (unfold in64; omega)) (by omega) (by omega)) (fun x132 => ?_)); refine q0 rfl (o_not ?_); refine rg_nil ?_; refine go_condI (fun h133 => ?_) (fun h133 => ?_)
                      · have c133 : (!(allP (((t).kids).getD i t0) (IntKind.i64.wrap (v + if v < 0 then 0 else (binds t.kind (i : Int)).1)) (d + ((binds ((t).kind) (i : Int)).2)) b)) = true := h133
                        try simp only [sC, bne_iff_ne, beq_iff_eq, ne_eq] at c133
                        have hno2 : kidOK t v d b i = false := by unfold kidOK; simpa using h133
                        refine go_seq ?_; refine go_region ⟨_, Tryz.func56⟩ rfl ?_; refine q0 rfl (o_assign ?_); refine rg_nil ?_; refine ret1 Tryz.func56 Tryz.results56 wn_ () (by congr 1; symm; first | exact all_no1 hv hd hno | exact all_no2 hv hd (i := i) (by omega) hno2 | exact all_no3 hv hd (i := i2) (by omega) hno3 | exact (all_steps hv hd).mpr ⟨ha, fun j hj => hok j (by omega), fun j hj => hok2 j (by omega)⟩) (fun w hs => hs.none)
                      · have c133 : (!(allP (((t).kids).getD i t0) (IntKind.i64.wrap (v + if v < 0 then 0 else (binds t.kind (i : Int)).1)) (d + ((binds ((t).kind) (i : Int)).2)) b)) = false := h133
                        try simp only [sC, bne_iff_ne, beq_iff_eq, ne_eq] at c133
                        refine go_skip ?_; refine go_inBlock ?_; refine go_region ⟨_, Tryz.func56⟩ rfl ?_; refine q0 rfl (o_move ?_); refine q0 rfl (o_add ?_); refine q0 rfl (o_assign ?_); refine rg_nil ?_; have hb : kidOK t v d b i = true := by unfold kidOK; simpa using h133
                        refine go_state (fun w hs => ?_) (next0 (i + 1) _ (⟨by omega, succ_inv hok hb⟩) (by omega) ⟨rfl, rfl, rfl, rfl, rfl, trivial⟩); exact (hs.less (by simp +contextual))
                  · have c108 : (decide ((i : Int) < ((t).kids.length : Int))) = false := h108
                    try simp only [sC, bne_iff_ne, beq_iff_eq, ne_eq] at c108
                    refine go_exit rfl ?_; refine go_seq ?_; refine go_seq ?_; refine go_region ⟨_, Tryz.func56⟩ rfl ?_; refine q0 rfl (o_assign ?_); refine rg_nil ?_; refine go_block ?_; refine go_loopE (X := Nat) (fun s_ => s_ ≤ t.sys.length ∧ ∀ j, j < s_ → brOK t v d b (t.sys.getD j br0) = true) (fun s_ => [(1, .int .i64 (v)), (2, .int .i64 (d)), (3, .bool (b)), (4, .pointer (some ⟨b4, 0, none⟩)), (12, .int .i64 ((s_ : Int)))]) (fun s_ G_ => G_) (fun s_ => [boxR b4 (tc t vr_t vk_t vs_t) 26]) (fun s_ => t.sys.length - s_) (0) (⟨by omega, fun j hj => by omega⟩) (by exact ⟨rfl, rfl, rfl, rfl, rfl, trivial⟩) ?_ ?_
                    · exact fun w hs => hs
                    · intro i2 base1 ⟨hi2, hok2⟩ next1; refine go_seq ?_; refine go_seq ?_; refine go_region ⟨_, Tryz.func56⟩ rfl ?_; refine q0 rfl (o_move ?_); refine q0 rfl (o_fa ?_); refine q0 rfl (o_ld ?_); refine q0 rfl (o_len ?_); refine q0 rfl (o_lss ?_); refine rg_nil ?_; refine go_condI (fun h138 => ?_) (fun h138 => ?_)
                      · have c138 : (decide ((i2 : Int) < ((t).sys.length : Int))) = true := h138
                        try simp only [sC, bne_iff_ne, beq_iff_eq, ne_eq] at c138
                        have hpb : 0 ≤ more t.kind ∧ more t.kind ≤ 1 := by unfold more; split <;> omega
                        refine go_skip ?_; refine go_seq ?_; refine go_block ?_; refine go_seq ?_; refine go_branch (bs := (t).sys) (a := vs_t) (VF := VF4) (VK := VK4) i2 (by omega) ?_; refine go_openCL (l := (((t).sys).getD i2 br0).face) (a := VF4 i2) (fun hl6 hA6 hU6 => ?_); refine go_openTL (ts := (((t).sys).getD i2 br0).kids) (a := VK4 i2) (fun VR7 VK7 VS7 hl7 hA7 => ?_); refine go_region ⟨_, Tryz.func56⟩ rfl ?_; refine q0 rfl (o_fa ?_); refine q0 rfl (o_ld ?_); refine q0 rfl (o_move ?_); obtain ⟨bk8, o8, hav8⟩ := hA4 (by omega); refine q0 rfl (o_ixN ?_ (j := i2)); refine q0 rfl (o_ldB ?_); refine q0 rfl (o_new fun b13 => ?_); refine q0 rfl (o_st ?_); refine rg_nil ?_; refine go_seq ?_; refine go_seq ?_; refine go_cutS ([(1, .int .i64 (v)), (2, .int .i64 (d)), (3, .bool (b)), (4, .pointer (some ⟨b4, 0, none⟩)), (12, .int .i64 ((i2 : Int))), (13, .pointer (some ⟨b13, 0, none⟩)), (165, .bool (((decide (((((t).sys).getD i2 br0).kids.length : Int) ≠ (partsN ((t).kind)))) || (!(faceRight ((((t).sys).getD i2 br0).face)))) || (!(within ((((t).sys).getD i2 br0).face) d))))]) (fun hK => ?_) (fun base => ?_)
                        · refine go_draw (pn := 1000000) (tn := false) (A := [0, 1, 3, 0, 8, 24, 63, 127, 255, 511, 1023, 2047, 4095, 8191, 16383, 32767, 16383, 131071, 262143, 524287]) (l := [0, 1, 2, 3, 4, 5, 6, 7, 8, 9, 10, 11, 12, 13, 14, 15, 16, 17, 18, 19]) (fin := []) Tab.mixed ⟨_, Tryz.func56⟩ (by decide +kernel) ?_; refine n0 rfl (v_fa ?_); refine n0 rfl (v_ld ?_); refine n0 rfl (v_len ?_); refine n0 rfl (v_fa ?_); refine n0 rfl (v_ld ?_); refine n0 rfl (v_call Tryz.call65 (rparts_spec ((t).kind) ) (fun x151 => ?_)); refine n0 rfl (v_neI ?_); refine n0 rfl (v_move ?_); refine nI rfl rfl rfl wl_ (fun hg153 => ?_) (fun hg153 => ?_)
                          · have g153 : (decide (((((t).sys).getD i2 br0).kids.length : Int) ≠ (partsN ((t).kind)))) = false := hg153
                            try simp only [sC, bne_iff_ne, beq_iff_eq, ne_eq] at g153
                            refine v_fa ?_; refine nT rfl rfl rfl (v_ld ?_); refine nT rfl rfl rfl (v_call Tryz.call68 (rfaceright ((((t).sys).getD i2 br0).face) (VF4 i2) ) (fun x156 => ?_)); refine nT rfl rfl rfl (v_not ?_); refine n0 rfl (v_pickF ?_); refine n0 rfl (v_move ?_); refine nI rfl rfl rfl wl_ (fun hg159 => ?_) (fun hg159 => ?_)
                            · have g159 : (!(faceRight ((((t).sys).getD i2 br0).face))) = false := hg159
                              try simp only [sC, bne_iff_ne, beq_iff_eq, ne_eq] at g159
                              refine v_fa ?_; refine nT rfl rfl rfl (v_ld ?_); refine nT rfl rfl rfl (v_move ?_); refine nT rfl rfl rfl (v_call Tryz.call69 (rlow_spec ((((t).sys).getD i2 br0).face) (VF4 i2) d om_) (fun x163 => ?_)); refine nT rfl rfl rfl (v_not ?_); refine n0 rfl (v_pickF ?_); refine NV.done ?_; refine rg_nil ?_; exact hK _ ⟨rfl, rfl, rfl, rfl, rfl, rfl, dn_, trivial⟩
                            · have g159 : (!(faceRight ((((t).sys).getD i2 br0).face))) = true := hg159
                              try simp only [sC, bne_iff_ne, beq_iff_eq, ne_eq] at g159
                              refine nF rfl rfl rfl ?_; refine nF rfl rfl rfl ?_; refine nF rfl rfl rfl ?_; refine nF rfl rfl rfl ?_; refine n0 rfl (v_pickT ?_); refine NV.done ?_; refine rg_nil ?_; exact hK _ ⟨rfl, rfl, rfl, rfl, rfl, rfl, dn_, trivial⟩
                          · have g153 : (decide (((((t).sys).getD i2 br0).kids.length : Int) ≠ (partsN ((t).kind)))) = true := hg153
                            try simp only [sC, bne_iff_ne, beq_iff_eq, ne_eq] at g153
                            refine nF rfl rfl rfl ?_; refine nF rfl rfl rfl ?_; refine nF rfl rfl rfl ?_; refine n0 rfl (v_pickT ?_); refine n0 rfl (v_move ?_); refine nF rfl rfl rfl ?_; refine nF rfl rfl rfl ?_; refine nF rfl rfl rfl ?_; refine nF rfl rfl rfl ?_; refine nF rfl rfl rfl ?_; refine n0 rfl (v_pickT ?_); refine NV.done ?_; refine rg_nil ?_; exact hK _ ⟨rfl, rfl, rfl, rfl, rfl, rfl, dn_, trivial⟩
                        · refine go_condI (fun h165 => ?_) (fun h165 => ?_)
                          · have c165 : (((decide (((((t).sys).getD i2 br0).kids.length : Int) ≠ (partsN ((t).kind)))) || (!(faceRight ((((t).sys).getD i2 br0).face)))) || (!(within ((((t).sys).getD i2 br0).face) d))) = true := h165
                            try simp only [sC, bne_iff_ne, beq_iff_eq, ne_eq] at c165
                            have hno : ownB t d (t.sys.getD i2 br0) = false := by unfold ownB; simp at h165; rcases h165 with (h4 | h4) | h4 <;> simp_all
                            have hno3 : brOK t v d b (t.sys.getD i2 br0) = false := by unfold brOK; rw [hno]; rfl
                            refine go_seq ?_; refine go_region ⟨_, Tryz.func56⟩ rfl ?_; refine q0 rfl (o_assign ?_); refine rg_nil ?_; refine ret1 Tryz.func56 Tryz.results56 wn_ () (by congr 1; symm; first | exact all_no1 hv hd hno | exact all_no2 hv hd (i := i) (by omega) hno2 | exact all_no3 hv hd (i := i2) (by omega) hno3 | exact (all_steps hv hd).mpr ⟨ha, fun j hj => hok j (by omega), fun j hj => hok2 j (by omega)⟩) (fun w hs => hs.none)
                          · have c165 : (((decide (((((t).sys).getD i2 br0).kids.length : Int) ≠ (partsN ((t).kind)))) || (!(faceRight ((((t).sys).getD i2 br0).face)))) || (!(within ((((t).sys).getD i2 br0).face) d))) = false := h165
                            try simp only [sC, bne_iff_ne, beq_iff_eq, ne_eq] at c165
                            have hob : ownB t d (t.sys.getD i2 br0) = true := by unfold ownB; simp at h165; simp_all
                            refine go_skip ?_; refine go_seq ?_; refine go_region ⟨_, Tryz.func56⟩ rfl ?_; refine q0 rfl (o_assign ?_); refine rg_nil ?_; refine go_block ?_; refine go_loopE (X := Nat) (fun s_ => s_ ≤ (t.sys.getD i2 br0).kids.length ∧ ∀ j, j < s_ → allP ((t.sys.getD i2 br0).kids.getD j t0) v (d + more t.kind) b = true) (fun s_ => [(1, .int .i64 (v)), (2, .int .i64 (d)), (3, .bool (b)), (4, .pointer (some ⟨b4, 0, none⟩)), (12, .int .i64 ((i2 : Int))), (13, .pointer (some ⟨b13, 0, none⟩)), (14, .int .i64 ((s_ : Int)))]) (fun s_ G_ => G_) (fun s_ => [boxR b13 (bc (((t).sys).getD i2 br0) (VF4 i2) (VK4 i2)) 58, boxR b4 (tc t vr_t vk_t vs_t) 26]) (fun s_ => (t.sys.getD i2 br0).kids.length - s_) (0) (⟨by omega, fun j hj => by omega⟩) (by exact ⟨rfl, rfl, rfl, rfl, rfl, rfl, rfl, trivial⟩) ?_ ?_
                            · exact fun w hs => hs
                            · intro k base2 ⟨hk3, hok3⟩ next2; refine go_seq ?_; refine go_seq ?_; refine go_region ⟨_, Tryz.func56⟩ rfl ?_; refine q0 rfl (o_move ?_); refine q0 rfl (o_fa ?_); refine q0 rfl (o_ld ?_); refine q0 rfl (o_len ?_); refine q0 rfl (o_lss ?_); refine rg_nil ?_; refine go_condI (fun h170 => ?_) (fun h170 => ?_)
                              · have c170 : (decide ((k : Int) < ((((t).sys).getD i2 br0).kids.length : Int))) = true := h170
                                try simp only [sC, bne_iff_ne, beq_iff_eq, ne_eq] at c170
                                have hsd : depth ((t.sys.getD i2 br0).kids.getD k t0) < depth t := by obtain ⟨p, hp, e⟩ := sys_mem_parts (getD_mem (d := br0) (show i2 < t.sys.length by omega)) (getD_mem (d := t0) (show k < (t.sys.getD i2 br0).kids.length by omega)); exact e ▸ depth_mem hp
                                refine go_skip ?_; refine go_seq ?_; refine go_block ?_; refine go_seq ?_; refine go_kid (ts := (((t).sys).getD i2 br0).kids) (a := VK4 i2) (VR := VR7) (VK := VK7) (VS := VS7) k (by omega) ?_; refine go_draw (pn := 1000000) (tn := false) (A := [0, 1, 0, 7, 15, 0, 0, 0, 128, 384, 960, 0, 4095, 8191]) (l := [0, 1, 2, 3, 4, 5, 6, 7, 8, 11, 9, 10, 12, 13]) (fin := []) Tab.mixed ⟨_, Tryz.func56⟩ (by rfl) ?_; refine n0 rfl (v_fa ?_); refine n0 rfl (v_ld ?_); refine n0 rfl (v_move ?_); obtain ⟨bk9, o9, hav9⟩ := hA7 (by omega); refine n0 rfl (v_ixN ?_ (j := k)); refine n0 rfl (v_ldT ?_); refine n0 rfl (v_move ?_); refine n0 rfl (v_move ?_); refine n0 rfl (v_fa ?_); refine n0 rfl (v_ld ?_); refine n0 rfl (v_move ?_); refine n0 rfl (v_call Tryz.call54 (rmore_spec ((t).kind) ) (fun x182 => ?_)); refine n0 rfl (v_add ?_); refine n0 rfl (v_call Tryz.call56 ((ihs (((t).sys).getD i2 br0) (getD_mem (show i2 < ((t).sys).length by omega)) (((((t).sys).getD i2 br0).kids).getD k t0) (getD_mem (show k < ((((t).sys).getD i2 br0).kids).length by omega))) (VR7 k) (VK7 k) (VS7 k) v (d + (more ((t).kind))) b (by first | assumption | exact wrap_in _ | (unfold in64; omega)) (by omega) (by omega)) (fun x185 => ?_)); refine n0 rfl (v_not ?_); refine NV.done ?_; refine rg_nil ?_; refine go_condI (fun h186 => ?_) (fun h186 => ?_)
                                · have c186 : (!(allP (((((t).sys).getD i2 br0).kids).getD k t0) v (d + (more ((t).kind))) b)) = true := h186
                                  try simp only [sC, bne_iff_ne, beq_iff_eq, ne_eq] at c186
                                  have hno3 : brOK t v d b (t.sys.getD i2 br0) = false := by unfold brOK; rw [all_false_at (d := t0) (i := k) (by omega) (by simpa using h186), Bool.and_false]
                                  refine go_seq ?_; refine go_region ⟨_, Tryz.func56⟩ rfl ?_; refine q0 rfl (o_assign ?_); refine rg_nil ?_; refine ret1 Tryz.func56 Tryz.results56 wn_ () (by congr 1; symm; first | exact all_no1 hv hd hno | exact all_no2 hv hd (i := i) (by omega) hno2 | exact all_no3 hv hd (i := i2) (by omega) hno3 | exact (all_steps hv hd).mpr ⟨ha, fun j hj => hok j (by omega), fun j hj => hok2 j (by omega)⟩) (fun w hs => hs.none)
                                · have c186 : (!(allP (((((t).sys).getD i2 br0).kids).getD k t0) v (d + (more ((t).kind))) b)) = false := h186
                                  try simp only [sC, bne_iff_ne, beq_iff_eq, ne_eq] at c186
                                  refine go_skip ?_; refine go_inBlock ?_; refine go_region ⟨_, Tryz.func56⟩ rfl ?_; refine q0 rfl (o_move ?_); refine q0 rfl (o_add ?_); refine q0 rfl (o_assign ?_); refine rg_nil ?_; have hb : allP ((t.sys.getD i2 br0).kids.getD k t0) v (d + more t.kind) b = true := by simpa using h186
                                  refine go_state (fun w hs => ?_) (next2 (k + 1) _ (⟨by omega, succ_inv hok3 hb⟩) (by omega) ⟨rfl, rfl, rfl, rfl, rfl, rfl, rfl, trivial⟩); exact (((hs.less (by simp +contextual)).perm perm1).perm perm1)
                              · have c170 : (decide ((k : Int) < ((((t).sys).getD i2 br0).kids.length : Int))) = false := h170
                                try simp only [sC, bne_iff_ne, beq_iff_eq, ne_eq] at c170
                                refine go_exit rfl ?_; refine go_inBlock ?_; refine go_region ⟨_, Tryz.func56⟩ rfl ?_; refine q0 rfl (o_move ?_); refine q0 rfl (o_add ?_); refine q0 rfl (o_assign ?_); refine rg_nil ?_; have hb : brOK t v d b (t.sys.getD i2 br0) = true := by unfold brOK; rw [hob, all_true_of (d := t0) (fun j hj => hok3 j (by omega))]; rfl
                                refine go_state (fun w hs => ?_) (next1 (i2 + 1) _ (⟨by omega, succ_inv hok2 hb⟩) (by omega) ⟨rfl, rfl, rfl, rfl, rfl, trivial⟩); exact (((hs.less (by simp +contextual)).perm perm1).dropR (A := [_]))
                      · have c138 : (decide ((i2 : Int) < ((t).sys.length : Int))) = false := h138
                        try simp only [sC, bne_iff_ne, beq_iff_eq, ne_eq] at c138
                        refine go_exit rfl ?_; refine go_seq ?_; refine go_region ⟨_, Tryz.func56⟩ rfl ?_; refine q0 rfl (o_assign ?_); refine rg_nil ?_; refine ret1 Tryz.func56 Tryz.results56 wn_ () (by congr 1; symm; first | exact all_no1 hv hd hno | exact all_no2 hv hd (i := i) (by omega) hno2 | exact all_no3 hv hd (i := i2) (by omega) hno3 | exact (all_steps hv hd).mpr ⟨ha, fun j hj => hok j (by omega), fun j hj => hok2 j (by omega)⟩) (fun w hs => hs.none)
theorem rall_spec : ∀ t : T, RallAt t := T.ind' fun t ihk ihs vr_t vk_t vs_t v d b hv hd hl => rall_walk t ihk ihs vr_t vk_t vs_t v d b hv hd hl
theorem rsized_spec (t : T) (vr_t vk_t vs_t : SH) (hz : size t ≤ 1152921504606846) : Spec Tryz.prog 55 #[.agg (tc t vr_t vk_t vs_t).toArray] [RT t vr_t vk_t vs_t] [] (fun _ : Unit => .int .i64 (sized t)) (fun _ : Unit => []) (fun _ : Unit => []) := by
  refine spec_go (args := [.agg (tc t vr_t vk_t vs_t).toArray]) Tryz.func55 Tryz.ntmps55 rfl (by exact Nat.le_of_ble_eq_true rfl) fun B hB => ?_
  refine go_open (t := t) (vr := vr_t) (vk := vk_t) (vs := vs_t) (fun hk1 hn1 hm1 => ?_); refine go_openCL (l := (t).r) (a := vr_t) (fun hl2 hA2 hU2 => ?_); refine go_openTL (ts := (t).kids) (a := vk_t) (fun VR3 VK3 VS3 hl3 hA3 => ?_); refine go_openBL (bs := (t).sys) (a := vs_t) (fun VF4 VK4 hl4 hA4 => ?_); refine go_seq ?_; refine go_region ⟨_, Tryz.func55⟩ rfl ?_; refine q0 rfl (o_box fun b1 => ?_); refine q0 rfl (o_assign ?_); refine rg_nil ?_; refine go_seq ?_; refine go_seq ?_; refine go_region ⟨_, Tryz.func55⟩ rfl ?_; refine q0 rfl (o_lds ?_); refine q0 rfl (o_call Tryz.call62 (rdepth_spec t om_ vr_t vk_t vs_t) (fun x4 => ?_)); refine q0 rfl (o_gtr ?_); refine rg_nil ?_; refine go_condI (fun h5 => ?_) (fun h5 => ?_)
  · have c5 : (decide (200 < (depth t : Int))) = true := h5
    try simp only [sC, bne_iff_ne, beq_iff_eq, ne_eq] at c5
    refine go_seq ?_; refine go_region ⟨_, Tryz.func55⟩ rfl ?_; refine q0 rfl (o_assign ?_); refine rg_nil ?_; refine ret1 Tryz.func55 Tryz.results55 wn_ () (by rw [sized, if_pos (by omega)]) (fun w hs => hs.none)
  · have c5 : (decide (200 < (depth t : Int))) = false := h5
    try simp only [sC, bne_iff_ne, beq_iff_eq, ne_eq] at c5
    refine go_skip ?_; refine go_seq ?_; refine go_seq ?_; refine go_region ⟨_, Tryz.func55⟩ rfl ?_; refine q0 rfl (o_lds ?_); refine q0 rfl (o_call Tryz.call63 (rsize_spec t om_ vr_t vk_t vs_t) (fun x7 => ?_)); refine q0 rfl (o_gtr ?_); refine rg_nil ?_; refine go_condI (fun h8 => ?_) (fun h8 => ?_)
    · have c8 : (decide (20000 < (size t : Int))) = true := h8
      try simp only [sC, bne_iff_ne, beq_iff_eq, ne_eq] at c8
      refine go_seq ?_; refine go_region ⟨_, Tryz.func55⟩ rfl ?_; refine q0 rfl (o_assign ?_); refine rg_nil ?_; refine ret1 Tryz.func55 Tryz.results55 wn_ () (by rw [sized, if_neg (by omega), if_pos (by omega)]) (fun w hs => hs.none)
    · have c8 : (decide (20000 < (size t : Int))) = false := h8
      try simp only [sC, bne_iff_ne, beq_iff_eq, ne_eq] at c8
      refine go_skip ?_; refine go_seq ?_; refine go_region ⟨_, Tryz.func55⟩ rfl ?_; refine q0 rfl (o_assign ?_); refine rg_nil ?_; refine ret1 Tryz.func55 Tryz.results55 wn_ () (by rw [sized, if_neg (by omega), if_neg (by omega)]) (fun w hs => hs.none)
theorem rright_spec (t : T) (vr_t vk_t vs_t : SH) (v : Int) (d : Int) (hv : in64 v) (hz : size t ≤ 1152921504606846) : Spec Tryz.prog 42 #[.agg (tc t vr_t vk_t vs_t).toArray, .int .i64 (v), .int .i64 (d)] [RT t vr_t vk_t vs_t] [] (fun _ : Unit => .int .i64 (rightP t v d)) (fun _ : Unit => []) (fun _ : Unit => []) := by
  refine spec_go (args := [.agg (tc t vr_t vk_t vs_t).toArray, .int .i64 (v), .int .i64 (d)]) Tryz.func42 Tryz.ntmps42 rfl (by exact Nat.le_of_ble_eq_true rfl) fun B hB => ?_
  refine go_open (t := t) (vr := vr_t) (vk := vk_t) (vs := vs_t) (fun hk1 hn1 hm1 => ?_); refine go_openCL (l := (t).r) (a := vr_t) (fun hl2 hA2 hU2 => ?_); refine go_openTL (ts := (t).kids) (a := vk_t) (fun VR3 VK3 VS3 hl3 hA3 => ?_); refine go_openBL (bs := (t).sys) (a := vs_t) (fun VF4 VK4 hl4 hA4 => ?_); have hds := depth_le_size t; refine go_seq ?_; refine go_region ⟨_, Tryz.func42⟩ rfl ?_; refine q0 rfl (o_box fun b3 => ?_); refine q0 rfl (o_assign ?_); refine rg_nil ?_; refine go_seq ?_; refine go_seq ?_; refine go_cutS ([(1, .int .i64 (v)), (2, .int .i64 (d)), (3, .pointer (some ⟨b3, 0, none⟩)), (17, .bool (((decide (v < 0)) || (decide (d < 0))) || (decide (24 < d))))]) (fun hK => ?_) (fun base => ?_)
  · refine go_region ⟨_, Tryz.func42⟩ rfl ?_; refine q0 rfl (o_move ?_); refine q0 rfl (o_lss ?_); refine q0 rfl (o_move ?_); refine qI rfl rfl rfl wl_ (fun hg10 => ?_) (fun hg10 => ?_)
    · have g10 : (decide (v < 0)) = false := hg10
      try simp only [sC, bne_iff_ne, beq_iff_eq, ne_eq] at g10
      refine o_move ?_; refine qT rfl rfl rfl (o_lss ?_); refine q0 rfl (o_pickF ?_); refine q0 rfl (o_move ?_); refine qI rfl rfl rfl wl_ (fun hg14 => ?_) (fun hg14 => ?_)
      · have g14 : (decide (d < 0)) = false := hg14
        try simp only [sC, bne_iff_ne, beq_iff_eq, ne_eq] at g14
        refine o_move ?_; refine qT rfl rfl rfl (o_gtr ?_); refine q0 rfl (o_pickF ?_); refine rg_nil ?_; exact hK _ ⟨rfl, rfl, rfl, dn_, trivial⟩
      · have g14 : (decide (d < 0)) = true := hg14
        try simp only [sC, bne_iff_ne, beq_iff_eq, ne_eq] at g14
        refine qF rfl rfl rfl ?_; refine q0 rfl (o_pickT ?_); refine rg_nil ?_; exact hK _ ⟨rfl, rfl, rfl, dn_, trivial⟩
    · have g10 : (decide (v < 0)) = true := hg10
      try simp only [sC, bne_iff_ne, beq_iff_eq, ne_eq] at g10
      refine qF rfl rfl rfl ?_; refine q0 rfl (o_pickT ?_); refine q0 rfl (o_move ?_); refine qF rfl rfl rfl ?_; refine qF rfl rfl rfl ?_; refine q0 rfl (o_pickT ?_); refine rg_nil ?_; exact hK _ ⟨rfl, rfl, rfl, dn_, trivial⟩
  · refine go_condI (fun h17 => ?_) (fun h17 => ?_)
    · have c17 : (((decide (v < 0)) || (decide (d < 0))) || (decide (24 < d))) = true := h17
      try simp only [sC, bne_iff_ne, beq_iff_eq, ne_eq] at c17
      refine go_seq ?_; refine go_region ⟨_, Tryz.func42⟩ rfl ?_; refine q0 rfl (o_assign ?_); refine rg_nil ?_; refine ret1 Tryz.func42 Tryz.results42 wn_ () (by rw [rightP, if_pos (by simpa using h17)]) (fun w hs => hs.none)
    · have c17 : (((decide (v < 0)) || (decide (d < 0))) || (decide (24 < d))) = false := h17
      try simp only [sC, bne_iff_ne, beq_iff_eq, ne_eq] at c17
      refine go_skip ?_; refine go_seq ?_; refine go_region ⟨_, Tryz.func42⟩ rfl ?_; refine q0 rfl (o_lds ?_); refine q0 rfl (o_call Tryz.call55 (rsized_spec t vr_t vk_t vs_t om_) (fun x19 => ?_)); refine q0 rfl (o_assign ?_); refine rg_nil ?_; refine go_seq ?_; refine go_seq ?_; refine go_cutS ([(7, .int .i64 (sized t)), (28, .bool ((decide ((sized t) = 0)) && (!(allP t v d true))))]) (fun hK => ?_) (fun base => ?_)
      · refine go_region ⟨_, Tryz.func42⟩ rfl ?_; refine q0 rfl (o_move ?_); refine q0 rfl (o_eqI ?_); refine q0 rfl (o_move ?_); refine qI rfl rfl rfl wl_ (fun hg22 => ?_) (fun hg22 => ?_)
        · have g22 : (decide ((sized t) = 0)) = true := hg22
          try simp only [sC, bne_iff_ne, beq_iff_eq, ne_eq] at g22
          refine o_lds ?_; refine qT rfl rfl rfl (o_move ?_); refine qT rfl rfl rfl (o_move ?_); refine qT rfl rfl rfl (o_call Tryz.call56 (rall_spec t vr_t vk_t vs_t v d true (by first | assumption | exact wrap_in _ | (unfold in64; omega)) (by omega) (by omega)) (fun x26 => ?_)); refine qT rfl rfl rfl (o_not ?_); refine q0 rfl (o_pickT ?_); refine rg_nil ?_; exact hK _ ⟨rfl, dn_, trivial⟩
        · have g22 : (decide ((sized t) = 0)) = false := hg22
          try simp only [sC, bne_iff_ne, beq_iff_eq, ne_eq] at g22
          refine qF rfl rfl rfl ?_; refine qF rfl rfl rfl ?_; refine qF rfl rfl rfl ?_; refine qF rfl rfl rfl ?_; refine q0 rfl (o_pickF ?_); refine rg_nil ?_; exact hK _ ⟨rfl, dn_, trivial⟩
      · refine go_cutS ([(7, .int .i64 ((if sized t ≠ 0 then sized t else if allP t v d true then 0 else 100)))]) (fun hK => ?_) (fun base => ?_)
        · refine go_condI (fun h28 => ?_) (fun h28 => ?_)
          · have c28 : ((decide ((sized t) = 0)) && (!(allP t v d true))) = true := h28
            try simp only [sC, bne_iff_ne, beq_iff_eq, ne_eq] at c28
            refine go_region ⟨_, Tryz.func42⟩ rfl ?_; refine q0 rfl (o_assign ?_); refine rg_nil ?_; exact hK _ ⟨(by (conv => lhs; whnf); by_cases hz : sized t = 0 <;> cases ha : allP t v d true <;> simp_all), trivial⟩
          · have c28 : ((decide ((sized t) = 0)) && (!(allP t v d true))) = false := h28
            try simp only [sC, bne_iff_ne, beq_iff_eq, ne_eq] at c28
            refine go_skip ?_; exact hK _ ⟨(by (conv => lhs; whnf); by_cases hz : sized t = 0 <;> cases ha : allP t v d true <;> simp_all), trivial⟩
        · refine go_seq ?_; refine go_region ⟨_, Tryz.func42⟩ rfl ?_; refine q0 rfl (o_move ?_); refine q0 rfl (o_assign ?_); refine rg_nil ?_; refine ret1 Tryz.func42 Tryz.results42 wn_ () (by rw [rightP, if_neg (show ¬ (decide (v < 0) || decide (d < 0) || decide (24 < d)) = true by rw [h17]; decide)]) (fun w hs => hs.none)
end Go.Hy
namespace Go.Hy
open Go.Proofs
set_option maxRecDepth 100000
theorem liftVarsH (t : T) (vr vk vs : SH) (f b : Int) (ha : in64 f) (hb : in64 b) (hz : size t ≤ 1152921504606846) : Spec Tryz.prog 25 #[.agg (tc t vr vk vs).toArray, .int .i64 f, .int .i64 b] [RT t vr vk vs] [] (fun x : {x : (Int × T) × (SH × SH × SH) // x.1 = varsRes t f b} => .tuple #[.agg (tc x.1.1.2 x.1.2.1 x.1.2.2.1 x.1.2.2.2).toArray, .int .i64 x.1.1.1]) (fun x => [RT x.1.1.2 x.1.2.1 x.1.2.2.1 x.1.2.2.2]) (fun _ => []) :=
  Spec.hide (varsRes t f b) (val := fun (r : Int × T) (x : SH × SH × SH) => .tuple #[.agg (tc r.2 x.1 x.2.1 x.2.2).toArray, .int .i64 r.1]) (N := fun (r : Int × T) (x : SH × SH × SH) => [RT r.2 x.1 x.2.1 x.2.2]) (Ms1 := fun _ _ => []) (liftVarsF t vr vk vs f b ha hb hz)
end Go.Hy
namespace Go.Hy
open Go.Proofs
set_option maxRecDepth 100000
theorem ctxRight_spec (ts : List T) (a_ts : SH) (d : Int) (hd : in64 d) (hz : ∀ t, t ∈ ts → size t ≤ 1152921504606846) : Spec Tryz.prog 21 #[.agg ([sl a_ts (ts.length), .int .i64 (d)] : List Value).toArray] [TL ts a_ts] [] (fun _ : Unit => .int .i64 (ctxRight ts d)) (fun _ : Unit => []) (fun _ : Unit => []) := by
  refine spec_go (args := [.agg ([sl a_ts (ts.length), .int .i64 (d)] : List Value).toArray]) Tryz.func21 Tryz.ntmps21 rfl (by exact Nat.le_of_ble_eq_true rfl) fun B hB => ?_
  refine go_seq ?_; refine go_region ⟨_, Tryz.func21⟩ rfl ?_; refine q0 rfl (o_box fun b1 => ?_); refine q0 rfl (o_assign ?_); refine rg_nil ?_; refine go_seq ?_; refine go_block ?_; refine go_seq ?_; refine go_cutS ([(1, .pointer (some ⟨b1, 0, none⟩)), (6, .bool ((decide (d < 0)) || (decide (24 < d))))]) (fun hK => ?_) (fun base => ?_)
  · refine go_region ⟨_, Tryz.func21⟩ rfl ?_; refine q0 rfl (o_fa ?_); refine q0 rfl (o_ld ?_); refine q0 rfl (o_lss ?_); refine q0 rfl (o_move ?_); refine qI rfl rfl rfl wl_ (fun hg10 => ?_) (fun hg10 => ?_)
    · have g10 : (decide (d < 0)) = false := hg10
      try simp only [sC, bne_iff_ne, beq_iff_eq, ne_eq] at g10
      refine o_fa ?_; refine qT rfl rfl rfl (o_ld ?_); refine qT rfl rfl rfl (o_gtr ?_); refine q0 rfl (o_pickF ?_); refine q0 rfl (o_assign ?_); refine rg_nil ?_; exact hK _ ⟨rfl, dn_, trivial⟩
    · have g10 : (decide (d < 0)) = true := hg10
      try simp only [sC, bne_iff_ne, beq_iff_eq, ne_eq] at g10
      refine qF rfl rfl rfl ?_; refine qF rfl rfl rfl ?_; refine q0 rfl (o_pickT ?_); refine q0 rfl (o_assign ?_); refine rg_nil ?_; exact hK _ ⟨rfl, dn_, trivial⟩
  · refine go_condI (fun h6 => ?_) (fun h6 => ?_)
    · have c6 : ((decide (d < 0)) || (decide (24 < d))) = true := h6
      try simp only [sC, bne_iff_ne, beq_iff_eq, ne_eq] at c6
      have hg : ctxRight ts d = 2 := (by unfold ctxRight; rw [if_pos (by have h9 := h6; simp at h9; omega)]); refine go_seq ?_; refine go_region ⟨_, Tryz.func21⟩ rfl ?_; refine q0 rfl (o_assign ?_); refine rg_nil ?_; refine ret1 Tryz.func21 Tryz.results21 wn_ () (by rw [hg]) (fun w hs => hs.none)
    · have c6 : ((decide (d < 0)) || (decide (24 < d))) = false := h6
      try simp only [sC, bne_iff_ne, beq_iff_eq, ne_eq] at c6
      have hdd : 0 ≤ d ∧ d ≤ 24 := (by have h9 := h6; simp at h9; omega); refine go_seq ?_; refine go_region ⟨_, Tryz.func21⟩ rfl ?_; refine q0 rfl (o_fa ?_); refine q0 rfl (o_ld ?_); refine q0 rfl (o_len ?_); refine q0 rfl (o_gtr ?_); refine q0 rfl (o_assign ?_); refine rg_nil ?_; refine go_condI (fun h15 => ?_) (fun h15 => ?_)
      · have c15 : (decide (200 < (ts.length : Int))) = true := h15
        try simp only [sC, bne_iff_ne, beq_iff_eq, ne_eq] at c15
        have hg : ctxRight ts d = 62 := (by unfold ctxRight; rw [if_neg (by omega), if_pos (by have h9 := h15; simp at h9; omega)]); refine go_seq ?_; refine go_region ⟨_, Tryz.func21⟩ rfl ?_; refine q0 rfl (o_assign ?_); refine rg_nil ?_; refine ret1 Tryz.func21 Tryz.results21 wn_ () (by rw [hg]) (fun w hs => hs.none)
      · have c15 : (decide (200 < (ts.length : Int))) = false := h15
        try simp only [sC, bne_iff_ne, beq_iff_eq, ne_eq] at c15
        have hll : ts.length ≤ 200 := (by have h9 := h15; simp at h9; omega); have hg0 : ctxRight ts d = ctxErr d ts := (by unfold ctxRight; rw [if_neg (by omega), if_neg (by omega)]); refine go_skip ?_; refine go_inBlock ?_; refine go_seq ?_; refine go_seq ?_; refine go_openTL (ts := ts) (a := a_ts) (fun VR1 VK1 VS1 hl1 hA1 => ?_); refine go_region ⟨_, Tryz.func21⟩ rfl ?_; refine q0 rfl (o_fa ?_); refine q0 rfl (o_ld ?_); refine q0 rfl (o_len ?_); refine q0 rfl (o_move ?_); refine rg_nil ?_; refine go_block ?_; refine go_loopE (X := Nat) (fun s_ => s_ ≤ ts.length ∧ ∀ j, j < s_ → rightP (ts.getD j t0) ((ts.length : Int) - 1 - j) d = 0) (fun s_ => [(1, .pointer (some ⟨b1, 0, none⟩)), (21, sl a_ts (ts.length)), (22, .int .i64 ((ts.length : Int))), (23, .int .i64 ((s_ : Int)))]) (fun s_ G_ => G_) (fun s_ => [boxR b1 [sl a_ts (ts.length), .int .i64 (d)] 41]) (fun s_ => ts.length - s_) (0) (⟨Nat.zero_le _, fun j hj => absurd hj (Nat.not_lt_zero _)⟩) (by exact ⟨rfl, rfl, rfl, rfl, trivial⟩) ?_ ?_
        · exact fun w hs => hs
        · intro i base0 ⟨hi, hok⟩ next0; refine go_seq ?_; refine go_region ⟨_, Tryz.func21⟩ rfl ?_; refine q0 rfl (o_lss ?_); refine rg_nil ?_; refine go_seq ?_; refine go_condI (fun h24 => ?_) (fun h24 => ?_)
          · have c24 : (decide ((i : Int) < (ts.length : Int))) = true := h24
            try simp only [sC, bne_iff_ne, beq_iff_eq, ne_eq] at c24
            have hzt := hz _ (getD_mem (d := t0) (show i < ts.length by omega)); refine go_skip ?_; refine go_seq ?_; refine go_block ?_; refine go_seq ?_; refine go_kid (ts := ts) (a := a_ts) (VR := VR1) (VK := VK1) (VS := VS1) i (by (first | assumption | omega)) ?_; refine go_region ⟨_, Tryz.func21⟩ rfl ?_; refine q0 rfl (o_move ?_); obtain ⟨bk2, o2, hav2⟩ := hA1 (by (first | assumption | omega)); refine q0 rfl (o_ixN ?_ (j := i)); refine q0 rfl (o_ldT ?_); refine q0 rfl (o_new fun b4 => ?_); refine q0 rfl (o_assign ?_); refine q0 rfl (o_st ?_); refine rg_nil ?_; refine go_seq ?_; refine go_region ⟨_, Tryz.func21⟩ rfl ?_; refine q0 rfl (o_lds ?_); refine q0 rfl (o_fa ?_); refine q0 rfl (o_ld ?_); refine q0 rfl (o_len ?_); refine q0 rfl (o_sub ?_); refine q0 rfl (o_move ?_); refine q0 rfl (o_sub ?_); refine q0 rfl (o_fa ?_); refine q0 rfl (o_ld ?_); refine q0 rfl (o_call Tryz.call38 (right_spec (ts.getD i t0) (.inr form_spec) (VR1 i) (VK1 i) (VS1 i) (((ts.length : Int) - 1) - (i : Int)) d om_ om_) (fun x37 => ?_)); refine q0 rfl (o_assign ?_); refine rg_nil ?_; refine go_seq ?_; refine go_region ⟨_, Tryz.func21⟩ rfl ?_; refine q0 rfl (o_move ?_); refine q0 rfl (o_neI ?_); refine rg_nil ?_; refine go_condI (fun h39 => ?_) (fun h39 => ?_)
            · have c39 : (decide ((rightP (ts.getD i t0) (((ts.length : Int) - 1) - (i : Int)) d) ≠ 0)) = true := h39
              try simp only [sC, bne_iff_ne, beq_iff_eq, ne_eq] at c39
              have hg : ctxRight ts d = rightP (ts.getD i t0) ((ts.length : Int) - 1 - i) d := (by rw [hg0]; exact ctxErr_bad (by omega) hok (by simpa using h39)); refine go_seq ?_; refine go_region ⟨_, Tryz.func21⟩ rfl ?_; refine q0 rfl (o_move ?_); refine q0 rfl (o_assign ?_); refine rg_nil ?_; refine ret1 Tryz.func21 Tryz.results21 wn_ () (by rw [hg]) (fun w hs => hs.none)
            · have c39 : (decide ((rightP (ts.getD i t0) (((ts.length : Int) - 1) - (i : Int)) d) ≠ 0)) = false := h39
              try simp only [sC, bne_iff_ne, beq_iff_eq, ne_eq] at c39
              refine go_skip ?_; refine go_inBlock ?_; refine go_region ⟨_, Tryz.func21⟩ rfl ?_; refine q0 rfl (o_add ?_); refine q0 rfl (o_move ?_); refine rg_nil ?_; refine go_state (fun w hs => ?_) (next0 (i + 1) _ (⟨by omega, fun j hj => by rcases Nat.lt_succ_iff_lt_or_eq.mp hj with h | h; exact hok j h; subst h; simpa using h39⟩) (by omega) ⟨rfl, rfl, rfl, rfl, trivial⟩); exact (((hs.less (by simp +contextual)).perm perm1).dropR (A := [_]))
          · have c24 : (decide ((i : Int) < (ts.length : Int))) = false := h24
            try simp only [sC, bne_iff_ne, beq_iff_eq, ne_eq] at c24
            have hg : ctxRight ts d = 0 := (by rw [hg0]; exact ctxErr_ok.mp (fun j hj => hok j (by omega))); refine go_exit rfl ?_; refine go_seq ?_; refine go_region ⟨_, Tryz.func21⟩ rfl ?_; refine q0 rfl (o_assign ?_); refine rg_nil ?_; refine ret1 Tryz.func21 Tryz.results21 wn_ () (by rw [hg]) (fun w hs => hs.none)
theorem eachF_spec (ts : List T) (a_ts : SH) (d : Int) (c9 : FuncId) (r : T → Int × T) (hcall9 : ∀ (args : Array Value) (w : World), (callFunc c9 args).run Tryz.prog w = .ok (.enter c9 args) w) (hdo : ∀ t, t ∈ ts → ∀ (vr vk vs : SH), Spec Tryz.prog c9 #[.agg (tc t vr vk vs).toArray] [RT t vr vk vs] [] (fun x : SH × SH × SH => .tuple #[.agg (tc (r t).2 x.1 x.2.1 x.2.2).toArray, .int .i64 (r t).1]) (fun x => [RT (r t).2 x.1 x.2.1 x.2.2]) (fun _ => [])) (hlen : ts.length ≤ 1000) : Spec Tryz.prog 39 #[.agg ([sl a_ts (ts.length), .int .i64 (d)] : List Value).toArray, .func (.func c9) #[] #[]] [TL ts a_ts] [] (fun x : SH => .tuple #[.agg #[sl x (eachR r ts).2.length, .int .i64 (if (eachR r ts).1 = 0 then d else 0)], .int .i64 (eachR r ts).1]) (fun x : SH => [TL (eachR r ts).2 x]) (fun x : SH => []) := by
  refine spec_go (args := [.agg ([sl a_ts (ts.length), .int .i64 (d)] : List Value).toArray, .func (.func c9) #[] #[]]) Tryz.func39 Tryz.ntmps39 rfl (by exact Nat.le_of_ble_eq_true rfl) fun B hB => ?_
  refine go_seq ?_; refine go_region ⟨_, Tryz.func39⟩ rfl ?_; refine q0 rfl (o_box fun b2 => ?_); refine q0 rfl (o_new fun b4 => ?_); refine q0 rfl (o_assign ?_); refine rg_nil ?_; refine go_seq ?_; refine go_region ⟨_, Tryz.func39⟩ rfl ?_; refine q0 rfl (o_fa ?_); refine q0 rfl (o_ld ?_); refine q0 rfl (o_build (cs := [sl (none, 0) (0), .int .i64 (d)]) ?_); refine q0 rfl (o_new fun b6 => ?_); refine q0 rfl (o_st ?_); refine rg_nil ?_; refine go_seq ?_; refine go_seq ?_; refine go_openTL (ts := ts) (a := a_ts) (fun VR1 VK1 VS1 hl1 hA1 => ?_); refine go_region ⟨_, Tryz.func39⟩ rfl ?_; refine q0 rfl (o_fa ?_); refine q0 rfl (o_ld ?_); refine q0 rfl (o_len ?_); refine q0 rfl (o_move ?_); refine rg_nil ?_; refine go_block ?_; refine go_loopE (X := Nat × SH × List TP) (fun s_ => s_.1 ≤ ts.length ∧ (∀ j, j < s_.1 → (r (ts.getD j t0)).1 = 0) ∧ s_.2.2.map (·.1) = (ts.take s_.1).map (fun t => (r t).2)) (fun s_ => [(1, .func (.func c9) #[] #[]), (4, .pointer (some ⟨b4, 0, none⟩)), (6, .pointer (some ⟨b6, 0, none⟩)), (15, sl a_ts (ts.length)), (16, .int .i64 ((ts.length : Int))), (17, .int .i64 ((s_.1 : Int)))]) (fun s_ G_ => AP s_.2.2 :: G_) (fun s_ => [rowS 6 26 s_.2.1 (s_.1) (tpFlat s_.2.2), boxR b6 [sl s_.2.1 (s_.1), .int .i64 (d)] 41, boxR b4 [sl (none, 0) (0), .int .i64 (0)] 41, boxR b2 [sl a_ts (ts.length), .int .i64 (d)] 41]) (fun s_ => ts.length - s_.1) (0, (none, 0), []) (⟨Nat.zero_le _, fun j hj => absurd hj (Nat.not_lt_zero _), rfl⟩) (by exact ⟨rfl, rfl, rfl, rfl, rfl, rfl, trivial⟩) ?_ ?_
  · exact fun w hs => ((hs.rowS0 6 26).apNil)
  · intro ⟨i, a, ps⟩ base0 ⟨hi, hok, hps⟩ next0; dsimp only at  hi  hok  hps  next0 ⊢; refine go_seq ?_; refine go_region ⟨_, Tryz.func39⟩ rfl ?_; refine q0 rfl (o_lss ?_); refine rg_nil ?_; refine go_seq ?_; refine go_condI (fun h18 => ?_) (fun h18 => ?_)
    · have c18 : (decide ((i : Int) < (ts.length : Int))) = true := h18
      try simp only [sC, bne_iff_ne, beq_iff_eq, ne_eq] at c18
      refine go_skip ?_; refine go_seq ?_; refine go_block ?_; refine go_seq ?_; refine go_kid (ts := ts) (a := a_ts) (VR := VR1) (VK := VK1) (VS := VS1) i (by (first | assumption | omega)) ?_; refine go_region ⟨_, Tryz.func39⟩ rfl ?_; obtain ⟨bk2, o2, hav2⟩ := hA1 (by (first | assumption | omega)); refine q0 rfl (o_ixN ?_ (j := i)); refine q0 rfl (o_ldT ?_); refine q0 rfl (o_new fun b8 => ?_); refine q0 rfl (o_st ?_); refine rg_nil ?_; refine go_seq ?_; refine go_region ⟨_, Tryz.func39⟩ rfl ?_; refine q0 rfl (o_move ?_); refine q0 rfl (o_lds ?_); refine q0 rfl (o_callC hcall9 (hdo _ (getD_mem (show i < ts.length by omega)) (VR1 i) (VK1 i) (VS1 i)) (cap := []) (fun x24 => ?_)); refine q0 rfl (o_move ?_); refine q0 rfl (o_extract ?_); refine q0 rfl (o_extract ?_); refine q0 rfl (o_new fun b9 => ?_); refine q0 rfl (o_st ?_); refine q0 rfl (o_assign ?_); refine rg_nil ?_; refine go_seq ?_; refine go_seq ?_; refine go_region ⟨_, Tryz.func39⟩ rfl ?_; refine q0 rfl (o_move ?_); refine q0 rfl (o_neI ?_); refine rg_nil ?_; refine go_condI (fun h28 => ?_) (fun h28 => ?_)
      · have c28 : (decide (((r (ts.getD i t0)).1) ≠ 0)) = true := h28
        try simp only [sC, bne_iff_ne, beq_iff_eq, ne_eq] at c28
        have hg : (eachR r ts) = ((r (ts.getD i t0)).1, []) := eachR_bad (by omega) hok (by simpa using h28); have hne : ¬ (r (ts.getD i t0)).1 = 0 := (by simpa using h28); refine go_seq ?_; refine go_region ⟨_, Tryz.func39⟩ rfl ?_; refine q0 rfl (o_build (cs := [sl (none, 0) (0), .int .i64 (0)]) ?_); refine q0 rfl (o_move ?_); refine q0 rfl (o_st ?_); refine q0 rfl (o_assign ?_); refine rg_nil ?_; refine retCT Tryz.func39 Tryz.results39 (none, 0) rfl mm_ rfl rfl rfl rfl (by rw [hg]; dsimp only; rw [if_neg hne]; rfl) (fun w hs => by rw [hg]; exact (hs.nilTL 0).bare.less (by simp))
      · have c28 : (decide (((r (ts.getD i t0)).1) ≠ 0)) = false := h28
        try simp only [sC, bne_iff_ne, beq_iff_eq, ne_eq] at c28
        refine go_skip ?_; refine go_region ⟨_, Tryz.func39⟩ rfl ?_; refine q0 rfl (o_fa ?_); refine q0 rfl (o_ld ?_); refine q0 rfl (o_lds ?_); refine q0 rfl (o_lit1 fun b34 => ?_); refine q0 rfl (o_appS (fun a35 => ?_) (a := a) (n' := i)); refine rg_state (fun w hs => ((hs.perm perm1).drop).snocT) ?_; refine q0 rfl (o_fa ?_); refine q0 rfl (o_stc ?_); refine rg_nil ?_; refine go_inBlock ?_; refine go_region ⟨_, Tryz.func39⟩ rfl ?_; refine q0 rfl (o_add ?_); refine q0 rfl (o_move ?_); refine rg_nil ?_; refine go_state (fun w hs => ?_) (next0 (i + 1, a35, ps ++ [((r (ts.getD i t0)).2, x24.1, x24.2.1, x24.2.2)]) _ (⟨by omega, fun j hj => by rcases Nat.lt_succ_iff_lt_or_eq.mp hj with h | h; exact hok j h; subst h; simpa using h28, by rw [List.map_append, hps, take_succ_getD (d := t0) (by omega), List.map_append]; rfl⟩) (by (try simp only); omega) ⟨rfl, rfl, rfl, rfl, rfl, rfl, trivial⟩); exact (((((((hs.apAdd (ps := ps) (t := (r (ts.getD i t0)).2) (vr := x24.1) (vk := x24.2.1) (vs := x24.2.2) mm_ mm_).less (by simp +contextual)).perm perm5).perm perm5).perm perm2).perm perm3).dropR (A := [_, _, _, _]))
    · have c18 : (decide ((i : Int) < (ts.length : Int))) = false := h18
      try simp only [sC, bne_iff_ne, beq_iff_eq, ne_eq] at c18
      have hie : i = ts.length := by omega
      have hg : (eachR r ts) = (0, ts.map fun t => (r t).2) := eachR_ok (fun j hj => hok j (by omega)); have hps2 : ps.map (·.1) = ts.map (fun t => (r t).2) := (by rw [hps, hie, List.take_length]); have hpl : i = ps.length := (by have h9 := congrArg List.length hps2; simp at h9; omega); refine go_exit rfl ?_; refine go_seq ?_; refine go_region ⟨_, Tryz.func39⟩ rfl ?_; refine q0 rfl (o_lds ?_); refine q0 rfl (o_st ?_); refine q0 rfl (o_assign ?_); refine rg_nil ?_; refine retCT Tryz.func39 Tryz.results39 a rfl mm_ rfl rfl rfl rfl (by rw [hg]; dsimp only; rw [if_pos rfl, ← hps2, List.length_map, ← hpl]; rfl) (fun w hs => ?_); rw [hg]; dsimp only; rw [← hps2]; exact ((((((hs.perm perm3).perm perm3).perm perm2).perm perm3).settleTL (ps := ps) (ts := ps.map (·.1)) hB mm_ rfl rfl hpl (by unfold reach at *; omega)).bare.less (by simp))
theorem ctxDone_spec (ts : List T) (a_ts : SH) (d : Int) (hd : in64 d) (hz : ∀ t, t ∈ ts → size t ≤ 1152921504606846) : Spec Tryz.prog 41 #[.agg ([sl a_ts (ts.length), .int .i64 (d)] : List Value).toArray] [TL ts a_ts] [] (fun x : SH => .tuple #[.agg #[sl x (doneR9 ts d).2.1.length, .int .i64 (doneR9 ts d).2.2], .int .i64 (doneR9 ts d).1]) (fun x : SH => [TL (doneR9 ts d).2.1 x]) (fun x : SH => []) := by
  refine spec_go (args := [.agg ([sl a_ts (ts.length), .int .i64 (d)] : List Value).toArray]) Tryz.func41 Tryz.ntmps41 rfl (by exact Nat.le_of_ble_eq_true rfl) fun B hB => ?_
  refine go_seq ?_; refine go_region ⟨_, Tryz.func41⟩ rfl ?_; refine q0 rfl (o_box fun b1 => ?_); refine q0 rfl (o_new fun b2 => ?_); refine q0 rfl (o_assign ?_); refine rg_nil ?_; refine go_seq ?_; refine go_seq ?_; refine go_region ⟨_, Tryz.func41⟩ rfl ?_; refine q0 rfl (o_lds ?_); refine q0 rfl (o_call Tryz.call21 (ctxRight_spec ts a_ts d hd hz) (fun x6 => ?_)); refine q0 rfl (o_assign ?_); refine rg_nil ?_; refine go_seq ?_; refine go_region ⟨_, Tryz.func41⟩ rfl ?_; refine q0 rfl (o_move ?_); refine q0 rfl (o_neI ?_); refine rg_nil ?_; refine go_condI (fun h8 => ?_) (fun h8 => ?_)
  · have c8 : (decide ((ctxRight ts d) ≠ 0)) = true := h8
    try simp only [sC, bne_iff_ne, beq_iff_eq, ne_eq] at c8
    have hg : (doneR9 ts d) = (ctxRight ts d, [], 0) := (by unfold doneR9; rw [if_pos (by simpa using h8)]); refine go_seq ?_; refine go_region ⟨_, Tryz.func41⟩ rfl ?_; refine q0 rfl (o_build (cs := [sl (none, 0) (0), .int .i64 (0)]) ?_); refine q0 rfl (o_move ?_); refine q0 rfl (o_st ?_); refine q0 rfl (o_assign ?_); refine rg_nil ?_; refine retCT Tryz.func41 Tryz.results41 (none, 0) rfl mm_ rfl rfl rfl rfl (by rw [hg]; rfl) (fun w hs => by rw [hg]; exact (hs.nilTL 0).bare.less (by simp))
  · have c8 : (decide ((ctxRight ts d) ≠ 0)) = false := h8
    try simp only [sC, bne_iff_ne, beq_iff_eq, ne_eq] at c8
    have hg : (doneR9 ts d) = (0, ts, d) := (by unfold doneR9; rw [if_neg (by simpa using h8)]); refine go_skip ?_; refine go_seq ?_; refine go_region ⟨_, Tryz.func41⟩ rfl ?_; refine q0 rfl (o_lds ?_); refine q0 rfl (o_st ?_); refine q0 rfl (o_assign ?_); refine rg_nil ?_; refine retCT Tryz.func41 Tryz.results41 a_ts rfl mm_ rfl rfl rfl rfl (by rw [hg]; rfl) (fun w hs => by rw [hg]; exact hs.bare.less (by simp))
theorem ctxType_spec (ts : List T) (a_ts : SH) (d : Int) (m : Nat) (hd : in64 d) (hz : ∀ t, t ∈ ts → size t ≤ 1152921504606846) (hm : m ≤ 100000) : Spec Tryz.prog 37 #[.agg ([sl a_ts (ts.length), .int .i64 (d)] : List Value).toArray, .int .i64 ((m : Int))] [TL ts a_ts] [] (fun x : SH × SH × SH => .tuple #[.agg (tc (typeR ts d (m : Int)).2 x.1 x.2.1 x.2.2).toArray, .int .i64 (typeR ts d (m : Int)).1]) (fun x : SH × SH × SH => [RT (typeR ts d (m : Int)).2 x.1 x.2.1 x.2.2]) (fun x : SH × SH × SH => []) := by
  refine spec_go (args := [.agg ([sl a_ts (ts.length), .int .i64 (d)] : List Value).toArray, .int .i64 ((m : Int))]) Tryz.func37 Tryz.ntmps37 rfl (by exact Nat.le_of_ble_eq_true rfl) fun B hB => ?_
  refine go_seq ?_; refine go_region ⟨_, Tryz.func37⟩ rfl ?_; refine q0 rfl (o_box fun b2 => ?_); refine q0 rfl (o_new fun b4 => ?_); refine q0 rfl (o_assign ?_); refine rg_nil ?_; refine go_seq ?_; refine go_seq ?_; refine go_region ⟨_, Tryz.func37⟩ rfl ?_; refine q0 rfl (o_lds ?_); refine q0 rfl (o_call Tryz.call21 (ctxRight_spec ts a_ts d hd hz) (fun x8 => ?_)); refine q0 rfl (o_assign ?_); refine rg_nil ?_; refine go_seq ?_; refine go_region ⟨_, Tryz.func37⟩ rfl ?_; refine q0 rfl (o_move ?_); refine q0 rfl (o_neI ?_); refine rg_nil ?_; refine go_condI (fun h10 => ?_) (fun h10 => ?_)
  · have c10 : (decide ((ctxRight ts d) ≠ 0)) = true := h10
    try simp only [sC, bne_iff_ne, beq_iff_eq, ne_eq] at c10
    have hg : (typeR ts d (m : Int)) = (ctxRight ts d, t0) := (by unfold typeR; rw [if_pos (by simpa using h10)]); refine go_seq ?_; refine go_region ⟨_, Tryz.func37⟩ rfl ?_; refine q0 rfl (o_build (cs := [.int .i64 (0), .int .i64 (0), .string ((ByteArray.mk #[])), sl (none, 0) (0), sl (none, 0) (0), sl (none, 0) (0)]) ?_); refine q0 rfl (o_move ?_); refine q0 rfl (o_st ?_); refine q0 rfl (o_assign ?_); refine rg_nil ?_; refine retCT Tryz.func37 Tryz.results37 (nul, nul, nul) rfl mm_ rfl rfl rfl rfl (by rw [hg]; rfl) (fun w hs => by rw [hg]; exact hs.bare.zeroRT.less (by simp))
  · have c10 : (decide ((ctxRight ts d) ≠ 0)) = false := h10
    try simp only [sC, bne_iff_ne, beq_iff_eq, ne_eq] at c10
    have hc0 : ctxRight ts d = 0 := (by simpa using h10); refine go_skip ?_; refine go_seq ?_; refine go_seq ?_; refine go_cutS ([(1, .int .i64 ((m : Int))), (2, .pointer (some ⟨b2, 0, none⟩)), (4, .pointer (some ⟨b4, 0, none⟩)), (21, .bool ((decide ((m : Int) < 0)) || (decide ((ts.length : Int) ≤ (m : Int)))))]) (fun hK => ?_) (fun base => ?_)
    · refine go_region ⟨_, Tryz.func37⟩ rfl ?_; refine q0 rfl (o_move ?_); refine q0 rfl (o_lss ?_); refine q0 rfl (o_move ?_); refine qI rfl rfl rfl wl_ (fun hg15 => ?_) (fun hg15 => ?_)
      · have g15 : (decide ((m : Int) < 0)) = false := hg15
        try simp only [sC, bne_iff_ne, beq_iff_eq, ne_eq] at g15
        refine o_move ?_; refine qT rfl rfl rfl (o_fa ?_); refine qT rfl rfl rfl (o_ld ?_); refine qT rfl rfl rfl (o_len ?_); refine qT rfl rfl rfl (o_geq ?_); refine q0 rfl (o_pickF ?_); refine rg_nil ?_; exact hK _ ⟨rfl, rfl, rfl, dn_, trivial⟩
      · have g15 : (decide ((m : Int) < 0)) = true := hg15
        try simp only [sC, bne_iff_ne, beq_iff_eq, ne_eq] at g15
        refine qF rfl rfl rfl ?_; refine qF rfl rfl rfl ?_; refine qF rfl rfl rfl ?_; refine qF rfl rfl rfl ?_; refine q0 rfl (o_pickT ?_); refine rg_nil ?_; exact hK _ ⟨rfl, rfl, rfl, dn_, trivial⟩
    · refine go_condI (fun h21 => ?_) (fun h21 => ?_)
      · have c21 : ((decide ((m : Int) < 0)) || (decide ((ts.length : Int) ≤ (m : Int)))) = true := h21
        try simp only [sC, bne_iff_ne, beq_iff_eq, ne_eq] at c21
        have hg : (typeR ts d (m : Int)) = (90, t0) := (by unfold typeR; rw [if_neg (by simp [hc0]), if_pos (by have h9 := h21; simp at h9; omega)]); refine go_seq ?_; refine go_region ⟨_, Tryz.func37⟩ rfl ?_; refine q0 rfl (o_build (cs := [.int .i64 (0), .int .i64 (0), .string ((ByteArray.mk #[])), sl (none, 0) (0), sl (none, 0) (0), sl (none, 0) (0)]) ?_); refine q0 rfl (o_st ?_); refine q0 rfl (o_assign ?_); refine rg_nil ?_; refine retCT Tryz.func37 Tryz.results37 (nul, nul, nul) rfl mm_ rfl rfl rfl rfl (by rw [hg]; rfl) (fun w hs => by rw [hg]; exact hs.bare.zeroRT.less (by simp))
      · have c21 : ((decide ((m : Int) < 0)) || (decide ((ts.length : Int) ≤ (m : Int)))) = false := h21
        try simp only [sC, bne_iff_ne, beq_iff_eq, ne_eq] at c21
        have hml : m < ts.length := (by have h9 := h21; simp at h9; omega); have hg : (typeR ts d (m : Int)) = varsRes (ts.getD m t0) 0 ((m : Int) + 1) := (by unfold typeR; rw [if_neg (by simp [hc0]), if_neg (by omega), Int.toNat_natCast]); have hzm := hz _ (getD_mem (d := t0) hml); refine go_skip ?_; refine go_seq ?_; refine go_openTL (ts := ts) (a := a_ts) (fun VR1 VK1 VS1 hl1 hA1 => ?_); refine go_kid (ts := ts) (a := a_ts) (VR := VR1) (VK := VK1) (VS := VS1) m (by (first | assumption | omega)) ?_; refine go_region ⟨_, Tryz.func37⟩ rfl ?_; refine q0 rfl (o_fa ?_); refine q0 rfl (o_ld ?_); refine q0 rfl (o_move ?_); obtain ⟨bk2, o2, hav2⟩ := hA1 (by (first | assumption | omega)); refine q0 rfl (o_ixN ?_ (j := m)); refine q0 rfl (o_ldT ?_); refine q0 rfl (o_move ?_); refine q0 rfl (o_add ?_); refine q0 rfl (o_call Tryz.call25 (liftVarsH (ts.getD m t0) (VR1 m) (VK1 m) (VS1 m) 0 ((m : Int) + 1) om_ om_ om_) (fun x30 => ?_)); refine q0 rfl (o_extract ?_); refine q0 rfl (o_extract ?_); refine q0 rfl (o_st ?_); refine q0 rfl (o_assign ?_); refine rg_nil ?_; rw [← x30.2] at hg; refine retCT Tryz.func37 Tryz.results37 (x30.1.2.1, x30.1.2.2.1, x30.1.2.2.2) rfl mm_ rfl rfl rfl rfl (by rw [hg]; rfl) (fun w hs => by rw [hg]; exact hs.bare.less (by simp))
end Go.Hy
namespace Go.Hy
open Go.Proofs
set_option maxRecDepth 100000
theorem works25_spec   : Spec Tryz.prog 15 #[] [] [] (fun _ : Unit => .bool (true)) (fun _ : Unit => []) (fun _ : Unit => []) := by
  refine spec_go (args := []) Tryz.func15 Tryz.ntmps15 rfl (by exact Nat.le_of_ble_eq_true rfl) fun B hB => ?_
  refine go_seq ?_; refine go_region ⟨_, Tryz.func15⟩ rfl ?_; refine q0 rfl (o_assign ?_); refine rg_nil ?_; refine go_seq ?_; refine go_region ⟨_, Tryz.func15⟩ rfl ?_; refine q0 rfl (o_build (cs := [.int .i64 (1), .int .i64 (0), .string ((ByteArray.mk #[])), sl (none, 0) (0), sl (none, 0) (0), sl (none, 0) (0)]) ?_); refine q0 rfl (o_build (cs := [.int .i64 (3), .int .i64 (0), .string ((ByteArray.mk #[])), sl (none, 0) (0), sl (none, 0) (0), sl (none, 0) (0)]) ?_); refine q0 rfl (o_lit2 fun b8 => ?_); refine q0 rfl (o_build (cs := [sl (some ⟨b8, 0, none⟩, 2) (2), .int .i64 (0)]) ?_); refine q0 rfl (o_new fun b1 => ?_); refine q0 rfl (o_st ?_); refine rg_nil ?_; refine go_seq ?_; refine go_region ⟨_, Tryz.func15⟩ rfl ?_; refine q0 rfl (o_lds ?_); refine rg_state (Γ' := [TL [vE 0, uE] (some ⟨b8, 0, none⟩, 2)]) (Ms' := [boxR b1 [sl (some ⟨b8, 0, none⟩, 2) (2), .int .i64 (0)] 41]) (fun w hs => ?_) ?_
  · exact (((((hs.perm perm1).leaf 1 0 ⟨#[]⟩ (in_lit (by omega) (by omega)) (in_lit (by omega) (by omega)) (Nat.zero_le _)).leaf 3 0 ⟨#[]⟩ (in_lit (by omega) (by omega)) (in_lit (by omega) (by omega)) (Nat.zero_le _)).lit2T (t := vE 0) (vr := nul) (vk := nul) (vs := nul) (u := uE) (ur := nul) (uk := nul) (us := nul) hB (by simp [vE, uE]) (by simp [vE, uE]) rfl).less (by simp))
  refine q0 rfl (o_call Tryz.call37 ((by have h := ctxType_spec [vE 0, uE] (some ⟨b8, 0, none⟩, 2) 0 0 (by unfold in64; omega) ex_ctx_size (by omega); simp only [ex_ctx0a, ex_ctx0b] at h; exact h)) (fun x12 => ?_)); refine q0 rfl (o_move ?_); refine q0 rfl (o_extract ?_); refine q0 rfl (o_extract ?_); refine q0 rfl (o_new fun b2 => ?_); refine q0 rfl (o_st ?_); refine q0 rfl (o_assign ?_); refine rg_nil ?_; refine go_seq ?_; refine go_region ⟨_, Tryz.func15⟩ rfl ?_; refine q0 rfl (o_lds ?_); refine q0 rfl (o_call Tryz.call37 ((by have h := ctxType_spec [vE 0, uE] (some ⟨b8, 0, none⟩, 2) 0 1 (by unfold in64; omega) ex_ctx_size (by omega); simp only [ex_ctx1a, ex_ctx1b] at h; exact h)) (fun x17 => ?_)); refine q0 rfl (o_move ?_); refine q0 rfl (o_extract ?_); refine q0 rfl (o_extract ?_); refine q0 rfl (o_new fun b4 => ?_); refine q0 rfl (o_st ?_); refine q0 rfl (o_assign ?_); refine rg_nil ?_; refine go_seq ?_; refine go_cutS ([(0, .bool (true))]) (fun hK => ?_) (fun base => ?_)
  · refine go_region ⟨_, Tryz.func15⟩ rfl ?_; refine q0 rfl (o_move ?_); refine q0 rfl (o_eqIY ?_ (hp := by first | rfl | decide)); refine q0 rfl (o_move ?_); refine qT rfl rfl rfl (o_fa ?_); refine qT rfl rfl rfl (o_ld ?_); refine qT rfl rfl rfl (o_eqIY ?_ (hp := by first | rfl | decide)); refine q0 rfl (o_pickT ?_); refine q0 rfl (o_move ?_); refine qT rfl rfl rfl (o_fa ?_); refine qT rfl rfl rfl (o_ld ?_); refine qT rfl rfl rfl (o_eqIY ?_ (hp := by first | rfl | decide)); refine q0 rfl (o_pickT ?_); refine q0 rfl (o_move ?_); refine qT rfl rfl rfl (o_move ?_); refine qT rfl rfl rfl (o_eqIY ?_ (hp := by first | rfl | decide)); refine q0 rfl (o_pickT ?_); refine q0 rfl (o_move ?_); refine qT rfl rfl rfl (o_fa ?_); refine qT rfl rfl rfl (o_ld ?_); refine qT rfl rfl rfl (o_eqIY ?_ (hp := by first | rfl | decide)); refine q0 rfl (o_pickT ?_); refine q0 rfl (o_assign ?_); refine rg_nil ?_; exact hK _ ⟨(by first | rfl | ((conv => lhs; whnf); first | (simp_all [uE, vE, T.kind, T.n]; done) | (simp_all [uE, vE, T.kind, T.n]; omega))), trivial⟩
  · refine ret1 Tryz.func15 Tryz.results15 wn_ () rfl (fun w hs => hs.none)
theorem great25_spec (ts : List T) (a_ts : SH) (d : Int) (t : T) (vr_t vk_t vs_t : SH)  : Spec Tryz.prog 14 #[.agg ([sl a_ts (ts.length), .int .i64 (d)] : List Value).toArray, .agg (tc t vr_t vk_t vs_t).toArray] [TL ts a_ts, RT t vr_t vk_t vs_t] [] (fun _ : Unit => .bool ((decide (300 < bulk (nodeT ts)) || decide (200 < bulk t)))) (fun _ : Unit => []) (fun _ : Unit => []) := by
  refine spec_go (args := [.agg ([sl a_ts (ts.length), .int .i64 (d)] : List Value).toArray, .agg (tc t vr_t vk_t vs_t).toArray]) Tryz.func14 Tryz.ntmps14 rfl (by exact Nat.le_of_ble_eq_true rfl) fun B hB => ?_
  refine go_seq ?_; refine go_region ⟨_, Tryz.func14⟩ rfl ?_; refine q0 rfl (o_box fun b2 => ?_); refine q0 rfl (o_box fun b3 => ?_); refine q0 rfl (o_assign ?_); refine rg_nil ?_; refine go_seq ?_; refine go_cutS ([(4, .bool ((decide (300 < bulk (nodeT ts))) || (decide (200 < bulk t))))]) (fun hK => ?_) (fun base => ?_)
  · refine go_region ⟨_, Tryz.func14⟩ rfl ?_; refine q0 rfl (o_fa ?_); refine q0 rfl (o_ld ?_); refine q0 rfl (o_build (cs := [.int .i64 (0), .int .i64 (0), .string ((ByteArray.mk #[])), sl (none, 0) (0), sl a_ts (ts.length), sl (none, 0) (0)]) ?_); refine rg_state (fun w hs => show St B (RT (nodeT ts) nul a_ts nul :: _) _ w from ((hs.node 0 0 ts a_ts (in_lit (by omega) (by omega)) (in_lit (by omega) (by omega)) (by simp)))) ?_; refine q0 rfl (o_call Tryz.call24 (bulk_spec (nodeT ts) 300 nul a_ts nul (by omega) (by omega)) (fun x8 => ?_)); refine q0 rfl (o_gtr ?_); rw [show (decide ((300 : Int) < x8.1)) = decide (300 < bulk (nodeT ts)) from decide_eq_decide.mpr (by have h9 := x8.2; unfold BulkIs at h9; omega)]; refine q0 rfl (o_move ?_); refine qI rfl rfl rfl wl_ (fun hg10 => ?_) (fun hg10 => ?_)
    · have g10 : (decide (300 < bulk (nodeT ts))) = false := hg10
      try simp only [sC, bne_iff_ne, beq_iff_eq, ne_eq] at g10
      refine o_lds ?_; refine qT rfl rfl rfl (o_call Tryz.call24 (bulk_spec t 200 vr_t vk_t vs_t (by omega) (by omega)) (fun x12 => ?_)); refine qT rfl rfl rfl (o_gtr ?_); rw [show (decide ((200 : Int) < x12.1)) = decide (200 < bulk t) from decide_eq_decide.mpr (by have h9 := x12.2; unfold BulkIs at h9; omega)]; refine q0 rfl (o_pickF ?_); refine q0 rfl (o_assign ?_); refine rg_nil ?_; exact go_state (fun w hs => (hs.less (by simp +contextual))) (hK _ ⟨dn_, trivial⟩)
    · have g10 : (decide (300 < bulk (nodeT ts))) = true := hg10
      try simp only [sC, bne_iff_ne, beq_iff_eq, ne_eq] at g10
      refine qF rfl rfl rfl ?_; refine qF rfl rfl rfl ?_; refine q0 rfl (o_pickT ?_); refine q0 rfl (o_assign ?_); refine rg_nil ?_; exact go_state (fun w hs => (hs.less (by simp +contextual))) (hK _ ⟨dn_, trivial⟩)
  · refine ret1 Tryz.func14 Tryz.results14 wn_ () (by first | rfl | (simp_all; done) | (simp_all; omega)) (fun w hs => hs.none)
end Go.Hy
namespace Go.Hy
open Go.Proofs
set_option maxRecDepth 100000
theorem rlistO (s : Nat) (hs : s < 4294967296) : Spec Tryz.prog 86 #[.int .u32 ((s : Nat) : Int)] [] [] (fun x : SH => sl x (listM s).length) (fun x : SH => []) (fun x : SH => [rowS 1 3 x (listM s).length (intFlat (listM s))]) := by
  refine spec_go (args := [.int .u32 ((s : Nat) : Int)]) Tryz.func86 Tryz.ntmps86 rfl (by exact Nat.le_of_ble_eq_true rfl) fun B hB => ?_
  refine go_seq ?_; refine go_region ⟨_, Tryz.func86⟩ rfl ?_; refine q0 rfl (o_assign ?_); refine rg_nil ?_; refine go_seq ?_; refine go_region ⟨_, Tryz.func86⟩ rfl ?_; refine q0 rfl (o_assign ?_); refine rg_nil ?_; refine go_seq ?_; refine go_seq ?_; refine go_region ⟨_, Tryz.func86⟩ rfl ?_; refine q0 rfl (o_assign ?_); refine rg_nil ?_; refine go_block ?_; refine go_loopE (X := Nat × SH) (fun s_ => s_.1 ≤ 24) (fun s_ => [(0, .int .u32 ((s : Nat) : Int)), (3, sl s_.2 ((listTo s s_.1).length)), (4, .int .i64 ((s_.1 : Int)))]) (fun s_ G_ => G_) (fun s_ => [rowS 1 3 s_.2 ((listTo s s_.1).length) (intFlat (listTo s s_.1))]) (fun s_ => 24 - s_.1) (0, (none, 0)) (by omega) (by exact ⟨rfl, rfl, rfl, trivial⟩) ?_ ?_
  · exact fun w hs => (hs.rowS0 1 3)
  · intro ⟨i, a⟩ base0 hi0 next0; dsimp only at hi0 next0 ⊢; have hln := listTo_len s i; refine go_seq ?_; refine go_seq ?_; refine go_region ⟨_, Tryz.func86⟩ rfl ?_; refine q0 rfl (o_move ?_); refine q0 rfl (o_lss ?_); refine rg_nil ?_; refine go_condI (fun h6 => ?_) (fun h6 => ?_)
    · have c6 : (decide ((i : Int) < 24)) = true := h6
      try simp only [sC, bne_iff_ne, beq_iff_eq, ne_eq] at c6
      refine go_skip ?_; refine go_seq ?_; refine go_block ?_; refine go_seq ?_; refine go_region ⟨_, Tryz.func86⟩ rfl ?_; refine q0 rfl (o_move ?_); refine q0 rfl (o_move ?_); refine q0 rfl (o_call Tryz.call109 (rhas s (i : Int) om_) (fun x11 => ?_)); refine rg_nil ?_; refine go_condI (fun h11 => ?_) (fun h11 => ?_)
      · have c11 : ((hasM s (i : Int))) = true := h11
        try simp only [sC, bne_iff_ne, beq_iff_eq, ne_eq] at c11
        refine go_region ⟨_, Tryz.func86⟩ rfl ?_; refine q0 rfl (o_move ?_); refine q0 rfl (o_move ?_); refine q0 rfl (o_lit1 fun b14 => ?_); refine q0 rfl (o_appS (fun a15 => ?_) (a := a) (n' := (listTo s i).length)); refine rg_state (fun w hs => ((hs.perm perm1).drop).snocI) ?_; refine q0 rfl (o_assign ?_); refine rg_nil ?_; refine go_inBlock ?_; refine go_region ⟨_, Tryz.func86⟩ rfl ?_; refine q0 rfl (o_move ?_); refine q0 rfl (o_add ?_); refine q0 rfl (o_assign ?_); refine rg_nil ?_; have hnx : listTo s (i + 1) = listTo s i ++ [(i : Int)] := by rw [listTo_succ, if_pos]; simp [hasM] at c11; exact c11.2
        refine go_state (fun w hs => ?_) (next0 (i + 1, a15) _ (by omega) (by (try simp only); omega) ⟨rfl, (by (conv => lhs; whnf); simp [sl, hnx]), rfl, trivial⟩); rw [hnx]; simpa using (hs.less (by simp +contextual))
      · have c11 : ((hasM s (i : Int))) = false := h11
        try simp only [sC, bne_iff_ne, beq_iff_eq, ne_eq] at c11
        refine go_skip ?_; refine go_inBlock ?_; refine go_region ⟨_, Tryz.func86⟩ rfl ?_; refine q0 rfl (o_move ?_); refine q0 rfl (o_add ?_); refine q0 rfl (o_assign ?_); refine rg_nil ?_; have hnx : listTo s (i + 1) = listTo s i := by rw [listTo_succ, if_neg]; simp [hasM] at c11; simp [c11 (by omega)]
        refine go_state (fun w hs => ?_) (next0 (i + 1, a) _ (by omega) (by (try simp only); omega) ⟨rfl, (by (conv => lhs; whnf); simp [sl, hnx]), rfl, trivial⟩); rw [hnx]; exact (hs.less (by simp +contextual))
    · have c6 : (decide ((i : Int) < 24)) = false := h6
      try simp only [sC, bne_iff_ne, beq_iff_eq, ne_eq] at c6
      refine go_exit rfl ?_; refine go_seq ?_; refine go_region ⟨_, Tryz.func86⟩ rfl ?_; refine q0 rfl (o_move ?_); refine q0 rfl (o_assign ?_); refine rg_nil ?_; have he : i = 24 := by omega
      subst he; refine ret1 Tryz.func86 Tryz.results86 wn_ a rfl (fun w hs => (hs.less (by simp)))
def shTo (f b : Int) (l : List Int) (k : Nat) : List Int := (l.take k).map (shI f b) ++ l.drop k
theorem shTo_zero (f b : Int) (l : List Int) : shTo f b l 0 = l := by simp [shTo]
theorem shTo_all (f b : Int) (l : List Int) : shTo f b l l.length = l.map (shI f b) := by simp [shTo]
theorem shTo_len (f b : Int) (l : List Int) (k : Nat) : (shTo f b l k).length = l.length := by simp [shTo]; omega
theorem shTo_get {f b : Int} {l : List Int} {k : Nat} (h : k < l.length) : (shTo f b l k).getD k 0 = l.getD k 0 := by
  unfold shTo; rw [List.getD_eq_getElem?_getD, List.getElem?_append_right (by simp; omega), List.length_map, List.length_take, Nat.min_eq_left (by omega), Nat.sub_self, List.getElem?_drop, Nat.add_zero, List.getD_eq_getElem?_getD]
theorem shTo_succ {f b : Int} {l : List Int} {k : Nat} (h : k < l.length) : shTo f b l (k + 1) = (shTo f b l k).set k (shI f b (l.getD k 0)) := by
  have h1 : ((l.take k).map (shI f b)).length = k := by simp; omega
  unfold shTo; rw [take_succ_getD (d := 0) h, List.map_append, drop_getD (d := 0) h, List.set_append_right _ _ (by omega), h1, Nat.sub_self]
  simp
theorem shTo_keep {f b : Int} {l : List Int} {k : Nat} (h : k < l.length) (h2 : l.getD k 0 < f) : shTo f b l (k + 1) = shTo f b l k := by
  have h1 : ((l.take k).map (shI f b)).length = k := by simp; omega
  unfold shTo; rw [take_succ_getD (d := 0) h, List.map_append, drop_getD (d := 0) h]; simp only [List.map_cons, List.map_nil, List.append_assoc, List.cons_append, List.nil_append]; rw [show shI f b (l.getD k 0) = l.getD k 0 from if_pos h2]
theorem rmlift (s : Nat) (f : Int) (b : Int) (hs : s < 4294967296) (hf : in64 f) (hb : in64 b) : Spec Tryz.prog 106 #[.int .u32 ((s : Nat) : Int), .int .i64 (f), .int .i64 (b)] [] [] (fun _ : Unit => .tuple #[.int .u32 (((maskLift s f b).2 : Nat) : Int), .int .i64 ((maskLift s f b).1)]) (fun _ : Unit => []) (fun _ : Unit => []) := by
  refine spec_go (args := [.int .u32 ((s : Nat) : Int), .int .i64 (f), .int .i64 (b)]) Tryz.func106 Tryz.ntmps106 rfl (by exact Nat.le_of_ble_eq_true rfl) fun B hB => ?_
  refine go_seq ?_; refine go_region ⟨_, Tryz.func106⟩ rfl ?_; refine q0 rfl (o_assign ?_); refine q0 rfl (o_assign ?_); refine rg_nil ?_; refine go_seq ?_; refine go_seq ?_; refine go_cutS ([(0, .int .u32 ((s : Nat) : Int)), (1, .int .i64 (f)), (2, .int .i64 (b)), (15, .bool ((decide (f < 0)) || (decide (b < 0))))]) (fun hK => ?_) (fun base => ?_)
  · refine go_region ⟨_, Tryz.func106⟩ rfl ?_; refine q0 rfl (o_move ?_); refine q0 rfl (o_lss ?_); refine q0 rfl (o_move ?_); refine qI rfl rfl rfl wl_ (fun hg12 => ?_) (fun hg12 => ?_)
    · have g12 : (decide (f < 0)) = false := hg12
      try simp only [sC, bne_iff_ne, beq_iff_eq, ne_eq] at g12
      refine o_move ?_; refine qT rfl rfl rfl (o_lss ?_); refine q0 rfl (o_pickF ?_); refine rg_nil ?_; exact hK _ ⟨rfl, rfl, rfl, dn_, trivial⟩
    · have g12 : (decide (f < 0)) = true := hg12
      try simp only [sC, bne_iff_ne, beq_iff_eq, ne_eq] at g12
      refine qF rfl rfl rfl ?_; refine q0 rfl (o_pickT ?_); refine rg_nil ?_; exact hK _ ⟨rfl, rfl, rfl, dn_, trivial⟩
  · refine go_condI (fun h15 => ?_) (fun h15 => ?_)
    · have c15 : ((decide (f < 0)) || (decide (b < 0))) = true := h15
      try simp only [sC, bne_iff_ne, beq_iff_eq, ne_eq] at c15
      have hg : maskLift s f b = (2, 0) := (by unfold maskLift; rw [if_pos (by simpa using h15)]); refine go_seq ?_; refine go_region ⟨_, Tryz.func106⟩ rfl ?_; refine q0 rfl (o_assign ?_); refine q0 rfl (o_assign ?_); refine rg_nil ?_; refine ret2 Tryz.func106 Tryz.results106 wn_ wn_ () (by rw [hg]; rfl) (fun w hs => hs.none)
    · have c15 : ((decide (f < 0)) || (decide (b < 0))) = false := h15
      try simp only [sC, bne_iff_ne, beq_iff_eq, ne_eq] at c15
      have h0 : 0 ≤ f ∧ 0 ≤ b := (by have h9 := h15; simp at h9; omega); refine go_skip ?_; refine go_seq ?_; refine go_region ⟨_, Tryz.func106⟩ rfl ?_; refine q0 rfl (o_move ?_); refine q0 rfl (o_call Tryz.call86 (rlistO s om_) (fun x17 => ?_)); refine q0 rfl (o_assign ?_); refine rg_nil ?_; refine go_seq ?_; refine go_seq ?_; refine go_region ⟨_, Tryz.func106⟩ rfl ?_; refine q0 rfl (o_assign ?_); refine rg_nil ?_; refine go_block ?_; refine go_loopE (X := Nat) (fun s_ => s_ ≤ (listM s).length ∧ ∀ j, j < s_ → (listM s).getD j 0 < f ∨ (listM s).getD j 0 + b < 24) (fun s_ => [(1, .int .i64 (f)), (2, .int .i64 (b)), (8, sl x17 ((listM s).length)), (9, .int .i64 ((s_ : Int)))]) (fun s_ G_ => G_) (fun s_ => [rowS 1 3 x17 ((listM s).length) (intFlat (shTo f b (listM s) s_))]) (fun s_ => (listM s).length - s_) (0) (⟨by omega, fun j hj => absurd hj (Nat.not_lt_zero _)⟩) (by exact ⟨rfl, rfl, rfl, rfl, trivial⟩) ?_ ?_
      · exact fun w hs => by rw [shTo_zero]; exact hs
      · intro k base0 ⟨hk, hok⟩ next0; have hsl := shTo_len f b (listM s) k; have hlm : (listM s).length ≤ 24 := listTo_len s 24; refine go_seq ?_; refine go_seq ?_; refine go_region ⟨_, Tryz.func106⟩ rfl ?_; refine q0 rfl (o_move ?_); refine q0 rfl (o_move ?_); refine q0 rfl (o_len ?_); refine q0 rfl (o_lss ?_); refine rg_nil ?_; refine go_condI (fun h21 => ?_) (fun h21 => ?_)
        · have c21 : (decide ((k : Int) < ((listM s).length : Int))) = true := h21
          try simp only [sC, bne_iff_ne, beq_iff_eq, ne_eq] at c21
          have hget := shTo_get (f := f) (b := b) (show k < (listM s).length by omega); have hxm : 0 ≤ (shTo f b (listM s) k).getD k 0 ∧ (shTo f b (listM s) k).getD k 0 < 24 := (by rw [hget]; exact listTo_in (s := s) (n := 24) (getD_mem (d := 0) (show k < (listM s).length by omega))); refine go_skip ?_; refine go_seq ?_; refine go_block ?_; refine go_seq ?_; refine go_seq ?_; refine go_know (fun w hs => hs.rowAddr (sz := 1) (e := 3) (a := x17) (n := ((listM s).length)) (xs := intFlat (shTo f b (listM s) k)) mm_ (by omega)) (fun hav1 => ?_); obtain ⟨bk1, hav1⟩ := hav1; refine go_region ⟨_, Tryz.func106⟩ rfl ?_; refine q0 rfl (o_move ?_); refine q0 rfl (o_move ?_); refine q0 rfl (o_ixN ?_ (j := k)); refine q0 rfl (o_ldRI ?_); refine q0 rfl (o_move ?_); refine q0 rfl (o_lss ?_); refine rg_nil ?_; refine go_condI (fun h29 => ?_) (fun h29 => ?_)
          · have c29 : (decide (((shTo f b (listM s) k).getD k 0) < f)) = true := h29
            try simp only [sC, bne_iff_ne, beq_iff_eq, ne_eq] at c29
            refine go_exit rfl ?_; refine go_region ⟨_, Tryz.func106⟩ rfl ?_; refine q0 rfl (o_move ?_); refine q0 rfl (o_add ?_); refine q0 rfl (o_assign ?_); refine rg_nil ?_; refine go_state (fun w hs => ?_) (next0 (k + 1) _ (⟨by omega, fun j hj => by rcases Nat.lt_succ_iff_lt_or_eq.mp hj with h | h; exact hok j h; subst h; exact .inl (by rw [← hget]; simpa using h29)⟩) (by omega) ⟨rfl, rfl, rfl, rfl, trivial⟩); rw [shTo_keep (by omega) (by rw [← hget]; simpa using h29)]; exact (hs.less (by simp +contextual))
          · have c29 : (decide (((shTo f b (listM s) k).getD k 0) < f)) = false := h29
            try simp only [sC, bne_iff_ne, beq_iff_eq, ne_eq] at c29
            refine go_skip ?_; refine go_seq ?_; refine go_seq ?_; refine go_region ⟨_, Tryz.func106⟩ rfl ?_; refine q0 rfl (o_move ?_); refine q0 rfl (o_move ?_); refine q0 rfl (o_move ?_); refine q0 rfl (o_ixN ?_ (j := k)); refine q0 rfl (o_ldRI ?_); refine q0 rfl (o_sub ?_); refine q0 rfl (o_geq ?_); refine rg_nil ?_; refine go_condI (fun h36 => ?_) (fun h36 => ?_)
            · have c36 : (decide ((24 - ((shTo f b (listM s) k).getD k 0)) ≤ b)) = true := h36
              try simp only [sC, bne_iff_ne, beq_iff_eq, ne_eq] at c36
              have hg : maskLift s f b = (10, 0) := mask_bad h0.1 h0.2 (getD_mem (d := 0) (show k < (listM s).length by omega)) (by rw [← hget]; omega) (by rw [← hget]; omega); refine go_seq ?_; refine go_region ⟨_, Tryz.func106⟩ rfl ?_; refine q0 rfl (o_assign ?_); refine q0 rfl (o_assign ?_); refine rg_nil ?_; refine ret2 Tryz.func106 Tryz.results106 wn_ wn_ () (by rw [hg]; rfl) (fun w hs => hs.none)
            · have c36 : (decide ((24 - ((shTo f b (listM s) k).getD k 0)) ≤ b)) = false := h36
              try simp only [sC, bne_iff_ne, beq_iff_eq, ne_eq] at c36
              refine go_skip ?_; refine go_region ⟨_, Tryz.func106⟩ rfl ?_; refine q0 rfl (o_move ?_); refine q0 rfl (o_move ?_); refine q0 rfl (o_move ?_); refine q0 rfl (o_move ?_); refine q0 rfl (o_ixN ?_ (j := k)); refine q0 rfl (o_ldRI ?_); refine q0 rfl (o_move ?_); refine q0 rfl (o_add ?_); refine q0 rfl (o_ixN ?_ (j := k)); refine q0 rfl (o_srI (((shTo f b (listM s) k).getD k 0) + b) ?_ (ls := (shTo f b (listM s) k)) (i' := k)); refine rg_nil ?_; refine go_inBlock ?_; refine go_region ⟨_, Tryz.func106⟩ rfl ?_; refine q0 rfl (o_move ?_); refine q0 rfl (o_add ?_); refine q0 rfl (o_assign ?_); refine rg_nil ?_; refine go_state (fun w hs => ?_) (next0 (k + 1) _ (⟨by omega, fun j hj => by rcases Nat.lt_succ_iff_lt_or_eq.mp hj with h | h; exact hok j h; subst h; exact .inr (by rw [← hget]; omega)⟩) (by omega) ⟨rfl, rfl, rfl, rfl, trivial⟩); rw [shTo_succ (by omega), show shI f b ((listM s).getD k 0) = (shTo f b (listM s) k).getD k 0 + b from by rw [hget]; exact if_neg (by rw [← hget]; omega)]; exact (hs.less (by simp +contextual))
        · have c21 : (decide ((k : Int) < ((listM s).length : Int))) = false := h21
          try simp only [sC, bne_iff_ne, beq_iff_eq, ne_eq] at c21
          have hke : k = (listM s).length := by omega
          have hall : ∀ x, x ∈ listM s → x < f ∨ x + b < 24 := fun x hx => (by obtain ⟨j, hj, rfl⟩ := mem_getD (d := 0) hx; exact hok j (by omega))
          have hg : maskLift s f b = (0, setM ((listM s).map (shI f b))) := mask_good h0.1 h0.2 hall; have hin : ∀ c, c ∈ shTo f b (listM s) k → 0 ≤ c ∧ c < 24 := fun c hc => (by rw [hke, shTo_all, List.mem_map] at hc; obtain ⟨y, hy, rfl⟩ := hc; have h8 := listTo_in hy; rcases hall y hy with h9 | h9 <;> (unfold shI; split <;> omega))
          have hval : shTo f b (listM s) k = (listM s).map (shI f b) := (by rw [hke, shTo_all]); refine go_exit rfl ?_; refine go_seq ?_; refine go_state (fun w hs => (hs.settleIL (l := shTo f b (listM s) k) hB rfl (shTo_len _ _ _ _).symm (by unfold reach; omega) (fun c hc => by have h9 := hin c hc; unfold in64; omega))) ?_; refine go_region ⟨_, Tryz.func106⟩ rfl ?_; refine q0 rfl (o_move ?_); refine q0 rfl (o_call Tryz.call110 ((by have h := rset (shTo f b (listM s) k) x17 (by rw [hsl]; omega) hin; rw [hsl] at h; exact h)) (fun x47 => ?_)); refine q0 rfl (o_assign ?_); refine q0 rfl (o_assign ?_); refine rg_nil ?_; refine ret2 Tryz.func106 Tryz.results106 wn_ wn_ () (by rw [hg, hval]) (fun w hs => hs.none)
end Go.Hy
namespace Go.Hy
open Go.Proofs
set_option maxRecDepth 100000
theorem rclift (c : Cl) (f : Int) (b : Int) (hc : u32 c) (hf : in64 f) (hb : in64 b) : Spec Tryz.prog 83 #[keyV c, .int .i64 (f), .int .i64 (b)] [] [] (fun _ : Unit => .tuple #[keyV ((clLift c f b).2), .int .i64 ((clLift c f b).1)]) (fun _ : Unit => []) (fun _ : Unit => []) := by
  refine spec_go (args := [keyV c, .int .i64 (f), .int .i64 (b)]) Tryz.func83 Tryz.ntmps83 rfl (by exact Nat.le_of_ble_eq_true rfl) fun B hB => ?_
  have hc1 := hc.1; have hc2 := hc.2; have hm1 := maskLift_lt c.pos f b; have hm2 := maskLift_lt c.neg f b; refine go_seq ?_; refine go_region ⟨_, Tryz.func83⟩ rfl ?_; refine q0 rfl (o_box fun b3 => ?_); refine q0 rfl (o_new fun b6 => ?_); refine q0 rfl (o_assign ?_); refine rg_nil ?_; refine go_seq ?_; refine go_seq ?_; refine go_region ⟨_, Tryz.func83⟩ rfl ?_; refine q0 rfl (o_lds ?_); refine q0 rfl (o_call Tryz.call105 (rcright c om_) (fun x12 => ?_)); refine q0 rfl (o_not ?_); refine rg_nil ?_; refine go_condI (fun h13 => ?_) (fun h13 => ?_)
  · have c13 : (!(right24 c)) = true := h13
    try simp only [sC, bne_iff_ne, beq_iff_eq, ne_eq] at c13
    have hg : clLift c f b = (2, cl0) := (by unfold clLift; rw [if_pos (by simpa using h13)]); refine go_seq ?_; refine go_region ⟨_, Tryz.func83⟩ rfl ?_; refine q0 rfl (o_build (cs := [.int .u32 ((((⟨0, 0⟩ : Cl)).pos : Nat) : Int), .int .u32 ((((⟨0, 0⟩ : Cl)).neg : Nat) : Int)]) ?_); refine q0 rfl (o_st ?_); refine q0 rfl (o_assign ?_); refine rg_nil ?_; refine retCT Tryz.func83 Tryz.results83 () rfl mm_ rfl rfl rfl rfl (by rw [hg]; rfl) (fun w hs => hs.none)
  · have c13 : (!(right24 c)) = false := h13
    try simp only [sC, bne_iff_ne, beq_iff_eq, ne_eq] at c13
    have hr : ¬ right24 c = false := (by simpa using h13); refine go_skip ?_; refine go_seq ?_; refine go_region ⟨_, Tryz.func83⟩ rfl ?_; refine q0 rfl (o_fa ?_); refine q0 rfl (o_ld ?_); refine q0 rfl (o_move ?_); refine q0 rfl (o_move ?_); refine q0 rfl (o_call Tryz.call106 (rmlift ((c).pos) f b om_ om_ om_) (fun x20 => ?_)); refine q0 rfl (o_move ?_); refine q0 rfl (o_extract ?_); refine q0 rfl (o_extract ?_); refine q0 rfl (o_assign ?_); refine q0 rfl (o_assign ?_); refine rg_nil ?_; refine go_seq ?_; refine go_seq ?_; refine go_region ⟨_, Tryz.func83⟩ rfl ?_; refine q0 rfl (o_move ?_); refine q0 rfl (o_neI ?_); refine rg_nil ?_; refine go_condI (fun h24 => ?_) (fun h24 => ?_)
    · have c24 : (decide (((maskLift ((c).pos) f b).1) ≠ 0)) = true := h24
      try simp only [sC, bne_iff_ne, beq_iff_eq, ne_eq] at c24
      have hg : clLift c f b = ((maskLift c.pos f b).1, cl0) := (by unfold clLift; rw [if_neg hr, if_pos (by simpa using h24)]); refine go_seq ?_; refine go_region ⟨_, Tryz.func83⟩ rfl ?_; refine q0 rfl (o_build (cs := [.int .u32 ((((⟨0, 0⟩ : Cl)).pos : Nat) : Int), .int .u32 ((((⟨0, 0⟩ : Cl)).neg : Nat) : Int)]) ?_); refine q0 rfl (o_move ?_); refine q0 rfl (o_st ?_); refine q0 rfl (o_assign ?_); refine rg_nil ?_; refine retCT Tryz.func83 Tryz.results83 () rfl mm_ rfl rfl rfl rfl (by rw [hg]; rfl) (fun w hs => hs.none)
    · have c24 : (decide (((maskLift ((c).pos) f b).1) ≠ 0)) = false := h24
      try simp only [sC, bne_iff_ne, beq_iff_eq, ne_eq] at c24
      have hp : ¬ (maskLift c.pos f b).1 ≠ 0 := (by simpa using h24); refine go_skip ?_; refine go_seq ?_; refine go_region ⟨_, Tryz.func83⟩ rfl ?_; refine q0 rfl (o_fa ?_); refine q0 rfl (o_ld ?_); refine q0 rfl (o_move ?_); refine q0 rfl (o_move ?_); refine q0 rfl (o_call Tryz.call106 (rmlift ((c).neg) f b om_ om_ om_) (fun x32 => ?_)); refine q0 rfl (o_move ?_); refine q0 rfl (o_extract ?_); refine q0 rfl (o_extract ?_); refine q0 rfl (o_assign ?_); refine q0 rfl (o_assign ?_); refine rg_nil ?_; refine go_seq ?_; refine go_seq ?_; refine go_region ⟨_, Tryz.func83⟩ rfl ?_; refine q0 rfl (o_move ?_); refine q0 rfl (o_neI ?_); refine rg_nil ?_; refine go_condI (fun h36 => ?_) (fun h36 => ?_)
      · have c36 : (decide (((maskLift ((c).neg) f b).1) ≠ 0)) = true := h36
        try simp only [sC, bne_iff_ne, beq_iff_eq, ne_eq] at c36
        have hg : clLift c f b = ((maskLift c.neg f b).1, cl0) := (by unfold clLift; rw [if_neg hr, if_neg hp, if_pos (by simpa using h36)]); refine go_seq ?_; refine go_region ⟨_, Tryz.func83⟩ rfl ?_; refine q0 rfl (o_build (cs := [.int .u32 ((((⟨0, 0⟩ : Cl)).pos : Nat) : Int), .int .u32 ((((⟨0, 0⟩ : Cl)).neg : Nat) : Int)]) ?_); refine q0 rfl (o_move ?_); refine q0 rfl (o_st ?_); refine q0 rfl (o_assign ?_); refine rg_nil ?_; refine retCT Tryz.func83 Tryz.results83 () rfl mm_ rfl rfl rfl rfl (by rw [hg]; rfl) (fun w hs => hs.none)
      · have c36 : (decide (((maskLift ((c).neg) f b).1) ≠ 0)) = false := h36
        try simp only [sC, bne_iff_ne, beq_iff_eq, ne_eq] at c36
        have hg : clLift c f b = (0, ⟨(maskLift c.pos f b).2, (maskLift c.neg f b).2⟩) := (by unfold clLift; rw [if_neg hr, if_neg hp, if_neg (by simpa using h36)]); refine go_skip ?_; refine go_seq ?_; refine go_region ⟨_, Tryz.func83⟩ rfl ?_; refine q0 rfl (o_move ?_); refine q0 rfl (o_move ?_); refine q0 rfl (o_build (cs := [.int .u32 ((((⟨(maskLift ((c).pos) f b).2, (maskLift ((c).neg) f b).2⟩ : Cl)).pos : Nat) : Int), .int .u32 ((((⟨(maskLift ((c).pos) f b).2, (maskLift ((c).neg) f b).2⟩ : Cl)).neg : Nat) : Int)]) ?_); refine q0 rfl (o_st ?_); refine q0 rfl (o_assign ?_); refine rg_nil ?_; refine retCT Tryz.func83 Tryz.results83 () rfl mm_ rfl rfl rfl rfl (by rw [hg]; rfl) (fun w hs => hs.none)
theorem rflift (l : List Cl) (a_l : SH) (f : Int) (b : Int) (hf : in64 f) (hb : in64 b) : Spec Tryz.prog 61 #[sl a_l (l.length), .int .i64 (f), .int .i64 (b)] [CL l a_l] [] (fun x : SH => .tuple #[sl x (formLift l f b).2.length, .int .i64 (formLift l f b).1]) (fun x : SH => [CL (formLift l f b).2 x]) (fun x : SH => []) := by
  refine spec_go (args := [sl a_l (l.length), .int .i64 (f), .int .i64 (b)]) Tryz.func61 Tryz.ntmps61 rfl (by exact Nat.le_of_ble_eq_true rfl) fun B hB => ?_
  refine go_openCL (l := l) (a := a_l) (fun hl1 hA1 hU1 => ?_); refine go_seq ?_; refine go_region ⟨_, Tryz.func61⟩ rfl ?_; refine q0 rfl (o_assign ?_); refine q0 rfl (o_assign ?_); refine rg_nil ?_; refine go_seq ?_; refine go_seq ?_; refine go_region ⟨_, Tryz.func61⟩ rfl ?_; refine q0 rfl (o_move ?_); refine q0 rfl (o_call Tryz.call67 (rfright l a_l ) (fun x13 => ?_)); refine q0 rfl (o_not ?_); refine rg_nil ?_; refine go_condI (fun h14 => ?_) (fun h14 => ?_)
  · have c14 : (!(fRight l)) = true := h14
    try simp only [sC, bne_iff_ne, beq_iff_eq, ne_eq] at c14
    have hg : formLift l f b = (2, []) := (by unfold formLift; rw [if_pos (by simpa using h14)]); refine go_seq ?_; refine go_region ⟨_, Tryz.func61⟩ rfl ?_; refine q0 rfl (o_assign ?_); refine q0 rfl (o_assign ?_); refine rg_nil ?_; refine ret2 Tryz.func61 Tryz.results61 wn_ wn_ (none, 0) (by rw [hg]; rfl) (fun w hs => by rw [hg]; exact (hs.nilCL 0).bare.less (by simp))
  · have c14 : (!(fRight l)) = false := h14
    try simp only [sC, bne_iff_ne, beq_iff_eq, ne_eq] at c14
    have hr : ¬ fRight l = false := (by simpa using h14); refine go_skip ?_; refine go_seq ?_; refine go_region ⟨_, Tryz.func61⟩ rfl ?_; refine q0 rfl (o_assign ?_); refine rg_nil ?_; refine go_seq ?_; refine go_seq ?_; refine go_region ⟨_, Tryz.func61⟩ rfl ?_; refine q0 rfl (o_assign ?_); refine rg_nil ?_; refine go_block ?_; refine go_loopE (X := Nat × SH) (fun s_ => s_.1 ≤ l.length ∧ ∀ j, j < s_.1 → (clLift (l.getD j cl0) f b).1 = 0) (fun s_ => [(0, sl a_l (l.length)), (1, .int .i64 (f)), (2, .int .i64 (b)), (8, sl s_.2 (s_.1)), (9, .int .i64 ((s_.1 : Int)))]) (fun s_ G_ => G_) (fun s_ => [rowS 2 55 s_.2 (s_.1) (clFlat ((l.take s_.1).map fun c => (clLift c f b).2))]) (fun s_ => l.length - s_.1) (0, (none, 0)) (⟨Nat.zero_le _, fun j hj => absurd hj (Nat.not_lt_zero _)⟩) (by exact ⟨rfl, rfl, rfl, rfl, rfl, trivial⟩) ?_ ?_
    · exact fun w hs => (hs.rowS0 2 55)
    · intro ⟨i, a⟩ base0 ⟨hi9, hok⟩ next0; dsimp only at  hi9  hok  next0 ⊢; refine go_seq ?_; refine go_seq ?_; refine go_region ⟨_, Tryz.func61⟩ rfl ?_; refine q0 rfl (o_move ?_); refine q0 rfl (o_move ?_); refine q0 rfl (o_len ?_); refine q0 rfl (o_lss ?_); refine rg_nil ?_; refine go_condI (fun h18 => ?_) (fun h18 => ?_)
      · have c18 : (decide ((i : Int) < (l.length : Int))) = true := h18
        try simp only [sC, bne_iff_ne, beq_iff_eq, ne_eq] at c18
        have hu := hU1 _ (getD_mem (d := cl0) (show i < l.length by omega)); refine go_skip ?_; refine go_seq ?_; refine go_block ?_; refine go_seq ?_; refine go_region ⟨_, Tryz.func61⟩ rfl ?_; refine q0 rfl (o_move ?_); refine q0 rfl (o_move ?_); obtain ⟨bk2, o2, hav2⟩ := hA1 (by omega); refine q0 rfl (o_ixN ?_ (j := i)); refine q0 rfl (o_ldC ?_); refine q0 rfl (o_move ?_); refine q0 rfl (o_move ?_); refine q0 rfl (o_call Tryz.call83 (rclift (l.getD i cl0) f b om_ om_ om_) (fun x28 => ?_)); refine q0 rfl (o_move ?_); refine q0 rfl (o_extract ?_); refine q0 rfl (o_extract ?_); refine q0 rfl (o_new fun b10 => ?_); refine q0 rfl (o_st ?_); refine q0 rfl (o_assign ?_); refine rg_nil ?_; refine go_seq ?_; refine go_seq ?_; refine go_region ⟨_, Tryz.func61⟩ rfl ?_; refine q0 rfl (o_move ?_); refine q0 rfl (o_neI ?_); refine rg_nil ?_; refine go_condI (fun h32 => ?_) (fun h32 => ?_)
        · have c32 : (decide (((clLift (l.getD i cl0) f b).1) ≠ 0)) = true := h32
          try simp only [sC, bne_iff_ne, beq_iff_eq, ne_eq] at c32
          have hfc : (foldC (fun c => clLift c f b) l) = ((clLift (l.getD i cl0) f b).1, []) := foldC_bad (by omega) hok (by simpa using h32); have hg : formLift l f b = ((clLift (l.getD i cl0) f b).1, []) := (by unfold formLift; rw [if_neg hr, if_pos (by rw [hfc]; simpa using h32), hfc]); refine go_seq ?_; refine go_region ⟨_, Tryz.func61⟩ rfl ?_; refine q0 rfl (o_move ?_); refine q0 rfl (o_assign ?_); refine q0 rfl (o_assign ?_); refine rg_nil ?_; refine ret2 Tryz.func61 Tryz.results61 wn_ wn_ (none, 0) (by rw [hg]; rfl) (fun w hs => by rw [hg]; exact (hs.nilCL 0).bare.less (by simp))
        · have c32 : (decide (((clLift (l.getD i cl0) f b).1) ≠ 0)) = false := h32
          try simp only [sC, bne_iff_ne, beq_iff_eq, ne_eq] at c32
          refine go_skip ?_; refine go_region ⟨_, Tryz.func61⟩ rfl ?_; refine q0 rfl (o_move ?_); refine q0 rfl (o_lds ?_); refine q0 rfl (o_lit1 fun b36 => ?_); refine q0 rfl (o_appS (fun a37 => ?_) (a := a) (n' := i)); refine rg_state (fun w hs => ((hs.perm perm1).drop).snocC (c := ((clLift (l.getD i cl0) f b).2))) ?_; refine q0 rfl (o_assign ?_); refine rg_nil ?_; refine go_inBlock ?_; refine go_region ⟨_, Tryz.func61⟩ rfl ?_; refine q0 rfl (o_move ?_); refine q0 rfl (o_add ?_); refine q0 rfl (o_assign ?_); refine rg_nil ?_; have hst : (l.take (i + 1)).map (fun c => (clLift c f b).2) = (l.take i).map (fun c => (clLift c f b).2) ++ [(clLift (l.getD i cl0) f b).2] := by rw [take_succ_getD (d := cl0) (by omega), List.map_append]; rfl
          refine go_state (fun w hs => ?_) (next0 (i + 1, a37) _ (⟨by omega, fun j hj => by rcases Nat.lt_succ_iff_lt_or_eq.mp hj with h | h; exact hok j h; subst h; simpa using h32⟩) (by omega) ⟨rfl, rfl, rfl, rfl, rfl, trivial⟩); rw [hst]; exact ((hs.less (by simp +contextual)).dropR (A := [_]))
      · have c18 : (decide ((i : Int) < (l.length : Int))) = false := h18
        try simp only [sC, bne_iff_ne, beq_iff_eq, ne_eq] at c18
        have hie : i = l.length := by omega
        have hfc : (foldC (fun c => clLift c f b) l) = (0, l.map fun c => (clLift c f b).2) := foldC_ok (fun j hj => hok j (by omega)); have hg : formLift l f b = leastF (l.map fun c => (clLift c f b).2) := (by unfold formLift; rw [if_neg hr, if_neg (by rw [hfc]; simp), hfc]); have htk : l.take i = l := (by rw [hie, List.take_length]); have hll : ((l.take i).map fun c => (clLift c f b).2).length = i := (by rw [List.length_map, htk, hie]); refine go_exit rfl ?_; refine go_seq ?_; refine go_state (fun w hs => (hs.settleCL (l := ((l.take i).map fun c => (clLift c f b).2)) hB rfl (by rw [List.length_map, List.length_take]; omega) (by unfold reach at *; omega) (fun c hc => by obtain ⟨d, _, rfl⟩ := List.mem_map.mp hc; exact clLift_u32 d f b))) ?_; refine go_region ⟨_, Tryz.func61⟩ rfl ?_; refine q0 rfl (o_move ?_); refine q0 rfl (o_call Tryz.call84 ((by have h := rleast ((l.take i).map fun c => (clLift c f b).2) a; rw [hll] at h; exact h)) (fun x39 => ?_)); refine q0 rfl (o_extract ?_); refine q0 rfl (o_extract ?_); refine q0 rfl (o_assign ?_); refine q0 rfl (o_assign ?_); refine rg_nil ?_; refine ret2 Tryz.func61 Tryz.results61 wn_ wn_ x39 (by rw [hg, htk]; rfl) (fun w hs => by rw [hg, ← htk]; exact hs.bare.less (by rw [htk]; simp))
theorem rrow (l : List Cl) (a_l : SH) (f : Int) (b : Int) (hf : in64 f) (hb : in64 b) : Spec Tryz.prog 52 #[sl a_l (l.length), .int .i64 (f), .int .i64 (b)] [CL l a_l] [] (fun x : SH => .tuple #[sl x (formLift l f b).2.length, .int .i64 (formLift l f b).1]) (fun x : SH => [CL (formLift l f b).2 x]) (fun x : SH => []) := by
  refine spec_go (args := [sl a_l (l.length), .int .i64 (f), .int .i64 (b)]) Tryz.func52 Tryz.ntmps52 rfl (by exact Nat.le_of_ble_eq_true rfl) fun B hB => ?_
  refine go_openCL (l := l) (a := a_l) (fun hl1 hA1 hU1 => ?_); refine go_seq ?_; refine go_region ⟨_, Tryz.func52⟩ rfl ?_; refine q0 rfl (o_assign ?_); refine q0 rfl (o_assign ?_); refine rg_nil ?_; refine go_seq ?_; refine go_seq ?_; refine go_region ⟨_, Tryz.func52⟩ rfl ?_; refine q0 rfl (o_move ?_); refine q0 rfl (o_len ?_); refine q0 rfl (o_eqI ?_); refine rg_nil ?_; refine go_condI (fun h10 => ?_) (fun h10 => ?_)
  · have c10 : (decide ((l.length : Int) = 0)) = true := h10
    try simp only [sC, bne_iff_ne, beq_iff_eq, ne_eq] at c10
    have hn : l = [] := List.eq_nil_of_length_eq_zero (by have h9 := h10; simp at h9; omega); have hg : formLift l f b = (0, []) := (by rw [hn, formLift_nil]); refine go_seq ?_; refine go_region ⟨_, Tryz.func52⟩ rfl ?_; refine q0 rfl (o_assign ?_); refine q0 rfl (o_assign ?_); refine rg_nil ?_; refine ret2 Tryz.func52 Tryz.results52 wn_ wn_ (none, 0) (by rw [hg]; rfl) (fun w hs => by rw [hg]; exact (hs.nilCL 0).bare.less (by simp))
  · have c10 : (decide ((l.length : Int) = 0)) = false := h10
    try simp only [sC, bne_iff_ne, beq_iff_eq, ne_eq] at c10
    refine go_skip ?_; refine go_seq ?_; refine go_region ⟨_, Tryz.func52⟩ rfl ?_; refine q0 rfl (o_move ?_); refine q0 rfl (o_move ?_); refine q0 rfl (o_move ?_); refine q0 rfl (o_call Tryz.call61 (rflift l a_l f b om_ om_) (fun x14 => ?_)); refine q0 rfl (o_extract ?_); refine q0 rfl (o_extract ?_); refine q0 rfl (o_assign ?_); refine q0 rfl (o_assign ?_); refine rg_nil ?_; refine ret2 Tryz.func52 Tryz.results52 wn_ wn_ x14 rfl (fun w hs => hs.bare.less (by simp))
theorem rrowH (l : List Cl) (a : SH) (f b : Int) (hf : in64 f) (hb : in64 b) : Spec Tryz.prog 52 #[sl a l.length, .int .i64 f, .int .i64 b] [CL l a] [] (fun x : {x : (Int × List Cl) × SH // x.1 = formLift l f b} => .tuple #[sl x.1.2 x.1.1.2.length, .int .i64 x.1.1.1]) (fun x => [CL x.1.1.2 x.1.2]) (fun _ => []) :=
  Spec.hide (formLift l f b) (val := fun (r : Int × List Cl) (x : SH) => .tuple #[sl x r.2.length, .int .i64 r.1]) (N := fun (r : Int × List Cl) (x : SH) => [CL r.2 x]) (Ms1 := fun _ _ => []) (rrow l a f b hf hb)
theorem rbad (e : Int) (he : 0 ≤ e ∧ e ≤ 1000000) : Spec Tryz.prog 51 #[.int .i64 (e)] [] [] (fun _ : Unit => .agg (tc (refT e) nul nul nul).toArray) (fun _ : Unit => [RT (refT e) nul nul nul]) (fun _ : Unit => []) := by
  refine spec_go (args := [.int .i64 (e)]) Tryz.func51 Tryz.ntmps51 rfl (by exact Nat.le_of_ble_eq_true rfl) fun B hB => ?_
  refine go_seq ?_; refine go_region ⟨_, Tryz.func51⟩ rfl ?_; refine q0 rfl (o_new fun b2 => ?_); refine rg_nil ?_; refine go_seq ?_; refine go_region ⟨_, Tryz.func51⟩ rfl ?_; refine q0 rfl (o_move ?_); refine q0 rfl (o_neg ?_); refine q0 rfl (o_build (cs := [.int .i64 (-e), .int .i64 (0), .string ((ByteArray.mk #[])), sl (none, 0) (0), sl (none, 0) (0), sl (none, 0) (0)]) ?_); refine q0 rfl (o_st ?_); refine rg_nil ?_; refine retC Tryz.func51 Tryz.results51 () rfl mm_ rfl rfl rfl rfl (fun w hs => ((hs.leaf (-e) 0 ⟨#[]⟩ (by unfold in64; omega) (in_lit (by omega) (by omega)) (Nat.zero_le _)).bare.less (by simp [refT])))
end Go.Hy
