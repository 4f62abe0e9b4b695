/- Contracts of this program's functions and the laws that they need: a separation logic over the machine's rules, one theorem each (partly printed by a program of this repository). -/
import Derived.Shelf.SlSortCmp.WholeK
import Derived.Shelf.SlGeneric
import Derived.Ground.SlsfProg
import Derived.Test.YtcofpfnnlageaaaGreatProg
import Derived.Test.YtcofpfnnlageaaaGreatP3
import Derived.Test.YtcofpfnnlageaaaGreatP4
import Derived.Test.YtcofpfnnlageaaaGreatP5
import Derived.Test.YtcofpfnnlageaaaGreatP6
import Derived.Test.YtcofpfnnlageaaaGreatP7
namespace Go.Hy
set_option linter.unusedVariables false
set_option linter.unusedSimpArgs false
set_option linter.unusedSectionVars false
open Go.Proofs
set_option linter.unusedVariables false
set_option linter.unusedSimpArgs false
set_option maxRecDepth 100000
theorem rlow_spec (l : List Cl) (a_l : SH) (d : Int) (h0 : 0 ≤ d) : Spec Tryz.prog 62 #[sl a_l (l.length), .int .i64 (d)] [CL l a_l] [] (fun _ : Unit => .bool ((within l d))) (fun _ : Unit => []) (fun _ : Unit => []) := by
  refine spec_go (args := [sl a_l (l.length), .int .i64 (d)]) Tryz.func62 Tryz.ntmps62 rfl (by exact Nat.le_of_ble_eq_true rfl) fun B hB => ?_
  refine go_openCL (l := l) (a := a_l) (fun hl1 hA1 hU1 => ?_)
  have hdl := fDims_lt l
  refine go_seq ?_
  refine go_region ⟨_, Tryz.func62⟩ rfl ?_
  refine q0 rfl (o_assign ?_)
  refine rg_nil ?_
  refine go_seq ?_
  refine go_region ⟨_, Tryz.func62⟩ rfl ?_
  refine q0 rfl (o_move ?_)
  refine q0 rfl (o_call Tryz.call77 (rfdims l a_l ) (fun x7 => ?_))
  refine q0 rfl (o_call Tryz.call84 (rlist (fDims l) om_) (fun x8 => ?_))
  refine q0 rfl (o_assign ?_)
  refine rg_nil ?_
  refine go_openIL (l := (listM (fDims l))) (a := x8) (fun hl2 hA2 hU2 => ?_)
  refine go_seq ?_
  refine go_cutS ([(4, .bool ((decide ((((listM (fDims l))).length : Int) = 0)) || (decide (((listM (fDims l)).getD ((listM (fDims l)).length - 1) 0) < d))))]) (fun hK => ?_) (fun base => ?_)
  · refine go_region ⟨_, Tryz.func62⟩ rfl ?_
    refine q0 rfl (o_move ?_)
    refine q0 rfl (o_len ?_)
    refine q0 rfl (o_eqI ?_)
    refine q0 rfl (o_move ?_)
    refine qI rfl rfl rfl wl_ (fun hg12 => ?_) (fun hg12 => ?_)
    · have g12 : (decide ((((listM (fDims l))).length : Int) = 0)) = false := hg12
      try simp only [sC, bne_iff_ne, beq_iff_eq, ne_eq] at g12
      refine o_move ?_
      refine qT rfl rfl rfl (o_move ?_)
      refine qT rfl rfl rfl (o_len ?_)
      refine qT rfl rfl rfl (o_sub ?_)
      obtain ⟨bk9, o9, hav9⟩ := hA2 (by omega)
      obtain ⟨bk3, o3, hav3⟩ := hA2 (by omega)
      refine qT rfl rfl rfl (o_ixN ?_ (j := (listM (fDims l)).length - 1) (hy := by (conv => lhs; whnf); congr 1; omega))
      refine qT rfl rfl rfl (o_ldI ?_)
      refine qT rfl rfl rfl (o_move ?_)
      refine qT rfl rfl rfl (o_lss ?_)
      refine q0 rfl (o_pickF ?_)
      refine q0 rfl (o_assign ?_)
      refine rg_nil ?_
      exact hK _ ⟨dn_, trivial⟩
    · have g12 : (decide ((((listM (fDims l))).length : Int) = 0)) = true := hg12
      try simp only [sC, bne_iff_ne, beq_iff_eq, ne_eq] at g12
      refine qF rfl rfl rfl ?_
      refine qF rfl rfl rfl ?_
      refine qF rfl rfl rfl ?_
      refine qF rfl rfl rfl ?_
      refine qF rfl rfl rfl ?_
      refine qF rfl rfl rfl ?_
      refine qF rfl rfl rfl ?_
      refine q0 rfl (o_pickT ?_)
      refine q0 rfl (o_assign ?_)
      refine rg_nil ?_
      exact hK _ ⟨dn_, trivial⟩
  · refine ret1 Tryz.func62 Tryz.results62 wn_ () (by rw [← low_within h0]; rfl) (fun w hs => hs.none)
theorem rname_spec (s : ByteArray) (hs : s.size ≤ cap47) : Spec Tryz.prog 59 #[.string (s)] [] [] (fun _ : Unit => .bool ((nameOK s))) (fun _ : Unit => []) (fun _ : Unit => []) := by
  refine spec_go (args := [.string (s)]) Tryz.func59 Tryz.ntmps59 rfl (by exact Nat.le_of_ble_eq_true rfl) fun B hB => ?_
  refine go_seq ?_
  refine go_region ⟨_, Tryz.func59⟩ rfl ?_
  refine q0 rfl (o_assign ?_)
  refine rg_nil ?_
  refine go_seq ?_
  refine go_seq ?_
  refine go_region ⟨_, Tryz.func59⟩ rfl ?_
  refine q0 rfl (o_assign ?_)
  refine rg_nil ?_
  refine go_block ?_
  refine go_loopE (X := Nat) (fun s_ => s_ ≤ s.size ∧ ∀ j, j < s_ → okAt s j = true) (fun s_ => [(0, .string (s)), (3, .int .i64 ((s_ : Int)))]) (fun s_ G_ => G_) (fun s_ => []) (fun s_ => s.size - s_) (0) (⟨by omega, fun j hj => by omega⟩) (by exact ⟨rfl, rfl, trivial⟩) ?_ ?_
  · exact fun w hs => hs
  · intro i base0 ⟨hi, hok⟩ next0
    refine go_seq ?_
    refine go_seq ?_
    refine go_region ⟨_, Tryz.func59⟩ rfl ?_
    refine q0 rfl (o_move ?_)
    refine q0 rfl (o_move ?_)
    refine q0 rfl (o_lenStr ?_)
    refine q0 rfl (o_lss ?_)
    refine rg_nil ?_
    refine go_condI (fun h8 => ?_) (fun h8 => ?_)
    · have c8 : (decide ((i : Int) < ((s).size : Int))) = true := h8
      try simp only [sC, bne_iff_ne, beq_iff_eq, ne_eq] at c8
      obtain ⟨c, hc, hca⟩ := byte_at (show i < s.size by omega)
      refine go_skip ?_
      refine go_seq ?_
      refine go_block ?_
      refine go_seq ?_
      refine go_region ⟨_, Tryz.func59⟩ rfl ?_
      refine q0 rfl (o_move ?_)
      refine q0 rfl (o_move ?_)
      refine q0 rfl (o_ixStr ?_ (c := c) (hc := hc))
      refine q0 rfl (o_assign ?_)
      refine rg_nil ?_
      refine go_seq ?_
      refine go_seq ?_
      refine go_cutS ([(0, .string (s)), (3, .int .i64 ((i : Int))), (4, .int .u8 ((c.toNat : Int))), (23, .bool (((decide (48 ≤ (c.toNat : Int))) && (decide ((c.toNat : Int) ≤ 57))) && (decide (0 < (i : Int)))))]) (fun hK => ?_) (fun base => ?_)
      · refine go_region ⟨_, Tryz.func59⟩ rfl ?_
        refine q0 rfl (o_move ?_)
        refine q0 rfl (o_geq ?_)
        refine q0 rfl (o_move ?_)
        refine qI rfl rfl rfl wl_ (fun hg16 => ?_) (fun hg16 => ?_)
        · have g16 : (decide (48 ≤ (c.toNat : Int))) = true := hg16
          try simp only [sC, bne_iff_ne, beq_iff_eq, ne_eq] at g16
          refine o_move ?_
          refine qT rfl rfl rfl (o_leq ?_)
          refine q0 rfl (o_pickT ?_)
          refine q0 rfl (o_move ?_)
          refine qI rfl rfl rfl wl_ (fun hg20 => ?_) (fun hg20 => ?_)
          · have g20 : (decide ((c.toNat : Int) ≤ 57)) = true := hg20
            try simp only [sC, bne_iff_ne, beq_iff_eq, ne_eq] at g20
            refine o_move ?_
            refine qT rfl rfl rfl (o_gtr ?_)
            refine q0 rfl (o_pickT ?_)
            refine rg_nil ?_
            exact hK _ ⟨rfl, rfl, rfl, dn_, trivial⟩
          · have g20 : (decide ((c.toNat : Int) ≤ 57)) = false := hg20
            try simp only [sC, bne_iff_ne, beq_iff_eq, ne_eq] at g20
            refine qF rfl rfl rfl ?_
            refine q0 rfl (o_pickF ?_)
            refine rg_nil ?_
            exact hK _ ⟨rfl, rfl, rfl, dn_, trivial⟩
        · have g16 : (decide (48 ≤ (c.toNat : Int))) = false := hg16
          try simp only [sC, bne_iff_ne, beq_iff_eq, ne_eq] at g16
          refine qF rfl rfl rfl ?_
          refine q0 rfl (o_pickF ?_)
          refine q0 rfl (o_move ?_)
          refine qF rfl rfl rfl ?_
          refine qF rfl rfl rfl ?_
          refine q0 rfl (o_pickF ?_)
          refine rg_nil ?_
          exact hK _ ⟨rfl, rfl, rfl, dn_, trivial⟩
      · refine go_condI (fun h23 => ?_) (fun h23 => ?_)
        · have c23 : (((decide (48 ≤ (c.toNat : Int))) && (decide ((c.toNat : Int) ≤ 57))) && (decide (0 < (i : Int)))) = true := h23
          try simp only [sC, bne_iff_ne, beq_iff_eq, ne_eq] at c23
          refine go_exit rfl ?_
          refine go_region ⟨_, Tryz.func59⟩ rfl ?_
          refine q0 rfl (o_move ?_)
          refine q0 rfl (o_add ?_)
          refine q0 rfl (o_assign ?_)
          refine rg_nil ?_
          have hb : okAt s i = true := by rw [hca]; simp only [letter, digit, Bool.or_eq_true, Bool.and_eq_true, decide_eq_true_eq]; omega
          refine go_state (fun w hs => ?_) (next0 (i + 1) _ (⟨by omega, succ_inv hok hb⟩) (by omega) ⟨rfl, rfl, trivial⟩)
          exact (hs.less (by simp +contextual))
        · have c23 : (((decide (48 ≤ (c.toNat : Int))) && (decide ((c.toNat : Int) ≤ 57))) && (decide (0 < (i : Int)))) = false := h23
          try simp only [sC, bne_iff_ne, beq_iff_eq, ne_eq] at c23
          refine go_skip ?_
          refine go_seq ?_
          refine go_cutS ([(0, .string (s)), (3, .int .i64 ((i : Int))), (41, .bool (((decide ((c.toNat : Int) ≠ 95)) && ((decide ((c.toNat : Int) < 97)) || (decide (122 < (c.toNat : Int))))) && ((decide ((c.toNat : Int) < 65)) || (decide (90 < (c.toNat : Int))))))]) (fun hK => ?_) (fun base => ?_)
          · refine go_region ⟨_, Tryz.func59⟩ rfl ?_
            refine q0 rfl (o_move ?_)
            refine q0 rfl (o_neI ?_)
            refine q0 rfl (o_move ?_)
            refine qI rfl rfl rfl wl_ (fun hg26 => ?_) (fun hg26 => ?_)
            · have g26 : (decide ((c.toNat : Int) ≠ 95)) = true := hg26
              try simp only [sC, bne_iff_ne, beq_iff_eq, ne_eq] at g26
              refine o_move ?_
              refine qT rfl rfl rfl (o_lss ?_)
              refine qT rfl rfl rfl (o_move ?_)
              refine qI rfl rfl rfl wl_ (fun hg29 => ?_) (fun hg29 => ?_)
              · have g29 : (decide ((c.toNat : Int) < 97)) = false := hg29
                try simp only [sC, bne_iff_ne, beq_iff_eq, ne_eq] at g29
                refine o_move ?_
                refine qT rfl rfl rfl (o_gtr ?_)
                refine qT rfl rfl rfl (o_pickF ?_)
                refine q0 rfl (o_pickT ?_)
                refine q0 rfl (o_move ?_)
                refine qI rfl rfl rfl wl_ (fun hg34 => ?_) (fun hg34 => ?_)
                · have g34 : (decide (122 < (c.toNat : Int))) = true := hg34
                  try simp only [sC, bne_iff_ne, beq_iff_eq, ne_eq] at g34
                  refine o_move ?_
                  refine qT rfl rfl rfl (o_lss ?_)
                  refine qT rfl rfl rfl (o_move ?_)
                  refine qI rfl rfl rfl wl_ (fun hg37 => ?_) (fun hg37 => ?_)
                  · have g37 : (decide ((c.toNat : Int) < 65)) = false := hg37
                    try simp only [sC, bne_iff_ne, beq_iff_eq, ne_eq] at g37
                    refine o_move ?_
                    refine qT rfl rfl rfl (o_gtr ?_)
                    refine qT rfl rfl rfl (o_pickF ?_)
                    refine q0 rfl (o_pickT ?_)
                    refine rg_nil ?_
                    exact hK _ ⟨rfl, rfl, dn_, trivial⟩
                  · have g37 : (decide ((c.toNat : Int) < 65)) = true := hg37
                    try simp only [sC, bne_iff_ne, beq_iff_eq, ne_eq] at g37
                    refine qF rfl rfl rfl ?_
                    refine qT rfl rfl rfl (o_pickT ?_)
                    refine q0 rfl (o_pickT ?_)
                    refine rg_nil ?_
                    exact hK _ ⟨rfl, rfl, dn_, trivial⟩
                · have g34 : (decide (122 < (c.toNat : Int))) = false := hg34
                  try simp only [sC, bne_iff_ne, beq_iff_eq, ne_eq] at g34
                  refine qF rfl rfl rfl ?_
                  refine qF rfl rfl rfl ?_
                  refine qU rfl rfl rfl ?_
                  refine qU rfl rfl rfl ?_
                  refine qF rfl rfl rfl ?_
                  refine q0 rfl (o_pickF ?_)
                  refine rg_nil ?_
                  exact hK _ ⟨rfl, rfl, dn_, trivial⟩
              · have g29 : (decide ((c.toNat : Int) < 97)) = true := hg29
                try simp only [sC, bne_iff_ne, beq_iff_eq, ne_eq] at g29
                refine qF rfl rfl rfl ?_
                refine qT rfl rfl rfl (o_pickT ?_)
                refine q0 rfl (o_pickT ?_)
                refine q0 rfl (o_move ?_)
                refine qT rfl rfl rfl (o_move ?_)
                refine qT rfl rfl rfl (o_lss ?_)
                refine qT rfl rfl rfl (o_move ?_)
                refine qI rfl rfl rfl wl_ (fun hg37 => ?_) (fun hg37 => ?_)
                · have g37 : (decide ((c.toNat : Int) < 65)) = false := hg37
                  try simp only [sC, bne_iff_ne, beq_iff_eq, ne_eq] at g37
                  refine o_move ?_
                  refine qT rfl rfl rfl (o_gtr ?_)
                  refine qT rfl rfl rfl (o_pickF ?_)
                  refine q0 rfl (o_pickT ?_)
                  refine rg_nil ?_
                  exact hK _ ⟨rfl, rfl, dn_, trivial⟩
                · have g37 : (decide ((c.toNat : Int) < 65)) = true := hg37
                  try simp only [sC, bne_iff_ne, beq_iff_eq, ne_eq] at g37
                  refine qF rfl rfl rfl ?_
                  refine qT rfl rfl rfl (o_pickT ?_)
                  refine q0 rfl (o_pickT ?_)
                  refine rg_nil ?_
                  exact hK _ ⟨rfl, rfl, dn_, trivial⟩
            · have g26 : (decide ((c.toNat : Int) ≠ 95)) = false := hg26
              try simp only [sC, bne_iff_ne, beq_iff_eq, ne_eq] at g26
              refine qF rfl rfl rfl ?_
              refine qF rfl rfl rfl ?_
              refine qU rfl rfl rfl ?_
              refine qU rfl rfl rfl ?_
              refine qF rfl rfl rfl ?_
              refine q0 rfl (o_pickF ?_)
              refine q0 rfl (o_move ?_)
              refine qF rfl rfl rfl ?_
              refine qF rfl rfl rfl ?_
              refine qF rfl rfl rfl ?_
              refine qU rfl rfl rfl ?_
              refine qU rfl rfl rfl ?_
              refine qF rfl rfl rfl ?_
              refine q0 rfl (o_pickF ?_)
              refine rg_nil ?_
              exact hK _ ⟨rfl, rfl, dn_, trivial⟩
          · refine go_condI (fun h41 => ?_) (fun h41 => ?_)
            · have c41 : (((decide ((c.toNat : Int) ≠ 95)) && ((decide ((c.toNat : Int) < 97)) || (decide (122 < (c.toNat : Int))))) && ((decide ((c.toNat : Int) < 65)) || (decide (90 < (c.toNat : Int))))) = true := h41
              try simp only [sC, bne_iff_ne, beq_iff_eq, ne_eq] at c41
              refine go_seq ?_
              refine go_region ⟨_, Tryz.func59⟩ rfl ?_
              refine q0 rfl (o_assign ?_)
              refine rg_nil ?_
              have hb : okAt s i = false := by rw [hca]; simp only [letter, digit, Bool.or_eq_false_iff, Bool.and_eq_false_iff, decide_eq_false_iff_not]; omega
              refine ret1 Tryz.func59 Tryz.results59 wn_ () (by rw [nameOK_not (by omega) hb]) (fun w hs => hs.none)
            · have c41 : (((decide ((c.toNat : Int) ≠ 95)) && ((decide ((c.toNat : Int) < 97)) || (decide (122 < (c.toNat : Int))))) && ((decide ((c.toNat : Int) < 65)) || (decide (90 < (c.toNat : Int))))) = false := h41
              try simp only [sC, bne_iff_ne, beq_iff_eq, ne_eq] at c41
              refine go_skip ?_
              refine go_inBlock ?_
              refine go_region ⟨_, Tryz.func59⟩ rfl ?_
              refine q0 rfl (o_move ?_)
              refine q0 rfl (o_add ?_)
              refine q0 rfl (o_assign ?_)
              refine rg_nil ?_
              have hb : okAt s i = true := by rw [hca]; simp only [letter, digit, Bool.or_eq_true, Bool.and_eq_true, decide_eq_true_eq]; omega
              refine go_state (fun w hs => ?_) (next0 (i + 1) _ (⟨by omega, succ_inv hok hb⟩) (by omega) ⟨rfl, rfl, trivial⟩)
              exact (hs.less (by simp +contextual))
    · have c8 : (decide ((i : Int) < ((s).size : Int))) = false := h8
      try simp only [sC, bne_iff_ne, beq_iff_eq, ne_eq] at c8
      refine go_exit rfl ?_
      refine go_seq ?_
      refine go_region ⟨_, Tryz.func59⟩ rfl ?_
      refine q0 rfl (o_move ?_)
      refine q0 rfl (o_lenStr ?_)
      refine q0 rfl (o_gtr ?_)
      refine q0 rfl (o_assign ?_)
      refine rg_nil ?_
      have he : i = s.size := by omega
      refine ret1 Tryz.func59 Tryz.results59 wn_ () (by rw [nameOK_all (by rw [← he]; exact hok)]; exact congrArg Value.bool (by rw [Bool.eq_iff_iff, decide_eq_true_eq, bne_iff_ne]; omega)) (fun w hs => hs.none)
abbrev RallAt (t : T) : Prop := ∀ (vr_t vk_t vs_t : SH) (v : Int) (d : Int) (b : Bool), in64 v → 0 ≤ d → d + depth t ≤ 1152921504606846976 → Spec Tryz.prog 32 #[.agg (tc t vr_t vk_t vs_t).toArray, .int .i64 (v), .int .i64 (d), .bool (b)] [RT t vr_t vk_t vs_t] [] (fun _ : Unit => .bool ((allP t v d b))) (fun _ : Unit => []) (fun _ : Unit => [])
set_option maxHeartbeats 4000000 in
theorem rall_walk (t : T) (ihk : ∀ k, k ∈ t.kids → RallAt k) (ihs : ∀ b, b ∈ t.sys → ∀ k, k ∈ b.kids → RallAt k) (vr_t vk_t vs_t : SH) (v : Int) (d : Int) (b : Bool) (hv : in64 v) (hd : 0 ≤ d) (hl : d + depth t ≤ 1152921504606846976) : Spec Tryz.prog 32 #[.agg (tc t vr_t vk_t vs_t).toArray, .int .i64 (v), .int .i64 (d), .bool (b)] [RT t vr_t vk_t vs_t] [] (fun _ : Unit => .bool ((allP t v d b))) (fun _ : Unit => []) (fun _ : Unit => []) := by
  refine spec_go (args := [.agg (tc t vr_t vk_t vs_t).toArray, .int .i64 (v), .int .i64 (d), .bool (b)]) Tryz.func32 Tryz.ntmps32 rfl (by exact Nat.le_of_ble_eq_true rfl) fun B hB => ?_
  refine go_open (t := t) (vr := vr_t) (vk := vk_t) (vs := vs_t) (fun hk1 hn1 hm1 => ?_)
  refine go_openCL (l := (t).r) (a := vr_t) (fun hl2 hA2 hU2 => ?_)
  refine go_openTL (ts := (t).kids) (a := vk_t) (fun VR3 VK3 VS3 hl3 hA3 => ?_)
  refine go_openBL (bs := (t).sys) (a := vs_t) (fun VF4 VK4 hl4 hA4 => ?_)
  refine go_seq ?_
  refine go_region ⟨_, Tryz.func32⟩ rfl ?_
  refine q0 rfl (o_box fun b4 => ?_)
  refine q0 rfl (o_assign ?_)
  refine rg_nil ?_
  refine go_seq ?_
  refine go_seq ?_
  refine go_cutS ([(1, .int .i64 (v)), (2, .int .i64 (d)), (3, .bool (b)), (4, .pointer (some ⟨b4, 0, none⟩)), (40, .bool (((b && (decide (24 < d))) || (decide ((kidsN ((t).kind)) ≠ ((t).kids.length : Int)))) || ((decide (0 < ((t).sys.length : Int))) && (decide ((partsN ((t).kind)) = 0)))))]) (fun hK => ?_) (fun base => ?_)
  · refine go_draw (tn := false) (A := [0, 1, 3, 7, 15, 31, 63, 127, 255, 63, 575, 1599, 4095, 8191, 16383, 32767, 65535, 131071, 262143, 524287, 1048575, 2097151, 4194303, 8388607, 16777215, 33554431]) (l := [0, 1, 2, 3, 4, 5, 6, 7, 9, 10, 11, 8, 12, 13, 14, 15, 16, 17, 18, 19, 20, 21, 22, 23, 24, 25]) (fin := []) Tab.mixed ⟨_, Tryz.func32⟩ (by rfl) ?_
    refine n0 rfl (v_move ?_)
    refine n0 rfl (v_move ?_)
    refine nI rfl rfl rfl wl_ (fun hg16 => ?_) (fun hg16 => ?_)
    · have g16 : (b) = true := hg16
      try simp only [sC, bne_iff_ne, beq_iff_eq, ne_eq] at g16
      refine v_move ?_
      refine nT rfl rfl rfl (v_gtr ?_)
      refine n0 rfl (v_pickT ?_)
      refine n0 rfl (v_move ?_)
      refine nI rfl rfl rfl wl_ (fun hg20 => ?_) (fun hg20 => ?_)
      · have g20 : (decide (24 < d)) = false := hg20
        try simp only [sC, bne_iff_ne, beq_iff_eq, ne_eq] at g20
        refine v_fa ?_
        refine nT rfl rfl rfl (v_ld ?_)
        refine nT rfl rfl rfl (v_fa ?_)
        refine nT rfl rfl rfl (v_ld ?_)
        refine nT rfl rfl rfl (v_len ?_)
        refine nT rfl rfl rfl (v_call Tryz.call57 (rkids_spec ((t).kind) ) (fun x23 => ?_))
        refine nT rfl rfl rfl (v_neI ?_)
        refine n0 rfl (v_pickF ?_)
        refine n0 rfl (v_move ?_)
        refine nI rfl rfl rfl wl_ (fun hg29 => ?_) (fun hg29 => ?_)
        · have g29 : (decide ((kidsN ((t).kind)) ≠ ((t).kids.length : Int))) = false := hg29
          try simp only [sC, bne_iff_ne, beq_iff_eq, ne_eq] at g29
          refine v_fa ?_
          refine nT rfl rfl rfl (v_ld ?_)
          refine nT rfl rfl rfl (v_len ?_)
          refine nT rfl rfl rfl (v_gtr ?_)
          refine nT rfl rfl rfl (v_move ?_)
          refine nI rfl rfl rfl wl_ (fun hg34 => ?_) (fun hg34 => ?_)
          · have g34 : (decide (0 < ((t).sys.length : Int))) = true := hg34
            try simp only [sC, bne_iff_ne, beq_iff_eq, ne_eq] at g34
            refine v_fa ?_
            refine nT rfl rfl rfl (v_ld ?_)
            refine nT rfl rfl rfl (v_call Tryz.call58 (rparts_spec ((t).kind) ) (fun x37 => ?_))
            refine nT rfl rfl rfl (v_eqI ?_)
            refine nT rfl rfl rfl (v_pickT ?_)
            refine n0 rfl (v_pickF ?_)
            refine NV.done ?_
            refine rg_nil ?_
            exact hK _ ⟨rfl, rfl, rfl, rfl, dn_, trivial⟩
          · have g34 : (decide (0 < ((t).sys.length : Int))) = false := hg34
            try simp only [sC, bne_iff_ne, beq_iff_eq, ne_eq] at g34
            refine nF rfl rfl rfl ?_
            refine nF rfl rfl rfl ?_
            refine nF rfl rfl rfl ?_
            refine nT rfl rfl rfl (v_pickF ?_)
            refine n0 rfl (v_pickF ?_)
            refine NV.done ?_
            refine rg_nil ?_
            exact hK _ ⟨rfl, rfl, rfl, rfl, dn_, trivial⟩
        · have g29 : (decide ((kidsN ((t).kind)) ≠ ((t).kids.length : Int))) = true := hg29
          try simp only [sC, bne_iff_ne, beq_iff_eq, ne_eq] at g29
          refine nF rfl rfl rfl ?_
          refine nF rfl rfl rfl ?_
          refine nF rfl rfl rfl ?_
          refine nF rfl rfl rfl ?_
          refine nU rfl rfl rfl ?_
          refine nU rfl rfl rfl ?_
          refine nU rfl rfl rfl ?_
          refine nU rfl rfl rfl ?_
          refine nF rfl rfl rfl ?_
          refine n0 rfl (v_pickT ?_)
          refine NV.done ?_
          refine rg_nil ?_
          exact hK _ ⟨rfl, rfl, rfl, rfl, dn_, trivial⟩
      · have g20 : (decide (24 < d)) = true := hg20
        try simp only [sC, bne_iff_ne, beq_iff_eq, ne_eq] at g20
        refine nF rfl rfl rfl ?_
        refine nF rfl rfl rfl ?_
        refine nF rfl rfl rfl ?_
        refine nF rfl rfl rfl ?_
        refine nF rfl rfl rfl ?_
        refine nF rfl rfl rfl ?_
        refine n0 rfl (v_pickT ?_)
        refine n0 rfl (v_move ?_)
        refine nF rfl rfl rfl ?_
        refine nF rfl rfl rfl ?_
        refine nF rfl rfl rfl ?_
        refine nF rfl rfl rfl ?_
        refine nF rfl rfl rfl ?_
        refine nU rfl rfl rfl ?_
        refine nU rfl rfl rfl ?_
        refine nU rfl rfl rfl ?_
        refine nU rfl rfl rfl ?_
        refine nF rfl rfl rfl ?_
        refine n0 rfl (v_pickT ?_)
        refine NV.done ?_
        refine rg_nil ?_
        exact hK _ ⟨rfl, rfl, rfl, rfl, dn_, trivial⟩
    · have g16 : (b) = false := hg16
      try simp only [sC, bne_iff_ne, beq_iff_eq, ne_eq] at g16
      refine nF rfl rfl rfl ?_
      refine n0 rfl (v_pickF ?_)
      refine n0 rfl (v_move ?_)
      refine nT rfl rfl rfl (v_fa ?_)
      refine nT rfl rfl rfl (v_ld ?_)
      refine nT rfl rfl rfl (v_fa ?_)
      refine nT rfl rfl rfl (v_ld ?_)
      refine nT rfl rfl rfl (v_len ?_)
      refine nT rfl rfl rfl (v_call Tryz.call57 (rkids_spec ((t).kind) ) (fun x23 => ?_))
      refine nT rfl rfl rfl (v_neI ?_)
      refine n0 rfl (v_pickF ?_)
      refine n0 rfl (v_move ?_)
      refine nI rfl rfl rfl wl_ (fun hg29 => ?_) (fun hg29 => ?_)
      · have g29 : (decide ((kidsN ((t).kind)) ≠ ((t).kids.length : Int))) = false := hg29
        try simp only [sC, bne_iff_ne, beq_iff_eq, ne_eq] at g29
        refine v_fa ?_
        refine nT rfl rfl rfl (v_ld ?_)
        refine nT rfl rfl rfl (v_len ?_)
        refine nT rfl rfl rfl (v_gtr ?_)
        refine nT rfl rfl rfl (v_move ?_)
        refine nI rfl rfl rfl wl_ (fun hg34 => ?_) (fun hg34 => ?_)
        · have g34 : (decide (0 < ((t).sys.length : Int))) = true := hg34
          try simp only [sC, bne_iff_ne, beq_iff_eq, ne_eq] at g34
          refine v_fa ?_
          refine nT rfl rfl rfl (v_ld ?_)
          refine nT rfl rfl rfl (v_call Tryz.call58 (rparts_spec ((t).kind) ) (fun x37 => ?_))
          refine nT rfl rfl rfl (v_eqI ?_)
          refine nT rfl rfl rfl (v_pickT ?_)
          refine n0 rfl (v_pickF ?_)
          refine NV.done ?_
          refine rg_nil ?_
          exact hK _ ⟨rfl, rfl, rfl, rfl, dn_, trivial⟩
        · have g34 : (decide (0 < ((t).sys.length : Int))) = false := hg34
          try simp only [sC, bne_iff_ne, beq_iff_eq, ne_eq] at g34
          refine nF rfl rfl rfl ?_
          refine nF rfl rfl rfl ?_
          refine nF rfl rfl rfl ?_
          refine nT rfl rfl rfl (v_pickF ?_)
          refine n0 rfl (v_pickF ?_)
          refine NV.done ?_
          refine rg_nil ?_
          exact hK _ ⟨rfl, rfl, rfl, rfl, dn_, trivial⟩
      · have g29 : (decide ((kidsN ((t).kind)) ≠ ((t).kids.length : Int))) = true := hg29
        try simp only [sC, bne_iff_ne, beq_iff_eq, ne_eq] at g29
        refine nF rfl rfl rfl ?_
        refine nF rfl rfl rfl ?_
        refine nF rfl rfl rfl ?_
        refine nF rfl rfl rfl ?_
        refine nU rfl rfl rfl ?_
        refine nU rfl rfl rfl ?_
        refine nU rfl rfl rfl ?_
        refine nU rfl rfl rfl ?_
        refine nF rfl rfl rfl ?_
        refine n0 rfl (v_pickT ?_)
        refine NV.done ?_
        refine rg_nil ?_
        exact hK _ ⟨rfl, rfl, rfl, rfl, dn_, trivial⟩
  · refine go_condI (fun h40 => ?_) (fun h40 => ?_)
    · have c40 : (((b && (decide (24 < d))) || (decide ((kidsN ((t).kind)) ≠ ((t).kids.length : Int)))) || ((decide (0 < ((t).sys.length : Int))) && (decide ((partsN ((t).kind)) = 0)))) = true := h40
      try simp only [sC, bne_iff_ne, beq_iff_eq, ne_eq] at c40
      have hno : ¬ Ahead t v d b := fun ha => by have h1 := ha.bound; have h2 := ha.kids; have h3 := ha.sys; simp at h40; rcases h40 with (h4 | h4) | h4 <;> first | exact h1 h4 | exact h4 h2 | omega
      refine go_seq ?_
      refine go_region ⟨_, Tryz.func32⟩ rfl ?_
      refine q0 rfl (o_assign ?_)
      refine rg_nil ?_
      refine ret1 Tryz.func32 Tryz.results32 wn_ () (by congr 1; symm; first | exact all_no1 hv hd hno | exact all_no2 hv hd (i := i) (by omega) hno2 | exact all_no3 hv hd (i := i2) (by omega) hno3 | exact (all_steps hv hd).mpr ⟨ha, fun j hj => hok j (by omega), fun j hj => hok2 j (by omega)⟩) (fun w hs => hs.none)
    · have c40 : (((b && (decide (24 < d))) || (decide ((kidsN ((t).kind)) ≠ ((t).kids.length : Int)))) || ((decide (0 < ((t).sys.length : Int))) && (decide ((partsN ((t).kind)) = 0)))) = false := h40
      try simp only [sC, bne_iff_ne, beq_iff_eq, ne_eq] at c40
      have ha1 : ¬ (b = true ∧ 24 < d) ∧ kidsN t.kind = (t.kids.length : Int) ∧ (partsN t.kind = 0 → t.sys.length = 0) := by simp at h40; refine ⟨fun h => by have := h40.1.1 h.1; omega, h40.1.2, fun h => ?_⟩; apply Classical.byContradiction; intro hc; exact h40.2 (by omega) h
      refine go_skip ?_
      refine go_seq ?_
      refine go_seq ?_
      refine go_region ⟨_, Tryz.func32⟩ rfl ?_
      refine q0 rfl (o_fa ?_)
      refine q0 rfl (o_ld ?_)
      refine q0 rfl (o_eqI ?_)
      refine rg_nil ?_
      refine go_cutP (if t.kind = 1 then 0 ≤ t.n ∧ (v < 0 ∨ t.n < v) else t.n = 0) ([(1, .int .i64 (v)), (2, .int .i64 (d)), (3, .bool (b)), (4, .pointer (some ⟨b4, 0, none⟩))]) (fun hK => ?_) (fun hN base => ?_)
      · refine go_condI (fun h43 => ?_) (fun h43 => ?_)
        · have c43 : (decide (((t).kind) = 1)) = true := h43
          try simp only [sC, bne_iff_ne, beq_iff_eq, ne_eq] at c43
          refine go_seq ?_
          refine go_cutS ([(1, .int .i64 (v)), (2, .int .i64 (d)), (3, .bool (b)), (4, .pointer (some ⟨b4, 0, none⟩)), (56, .bool ((decide (((t).n) < 0)) || ((decide (0 ≤ v)) && (decide (v ≤ ((t).n))))))]) (fun hK => ?_) (fun base => ?_)
          · refine go_region ⟨_, Tryz.func32⟩ rfl ?_
            refine q0 rfl (o_fa ?_)
            refine q0 rfl (o_ld ?_)
            refine q0 rfl (o_lss ?_)
            refine q0 rfl (o_move ?_)
            refine qI rfl rfl rfl wl_ (fun hg47 => ?_) (fun hg47 => ?_)
            · have g47 : (decide (((t).n) < 0)) = false := hg47
              try simp only [sC, bne_iff_ne, beq_iff_eq, ne_eq] at g47
              refine o_move ?_
              refine qT rfl rfl rfl (o_geq ?_)
              refine qT rfl rfl rfl (o_move ?_)
              refine qI rfl rfl rfl wl_ (fun hg50 => ?_) (fun hg50 => ?_)
              · have g50 : (decide (0 ≤ v)) = true := hg50
                try simp only [sC, bne_iff_ne, beq_iff_eq, ne_eq] at g50
                refine o_fa ?_
                refine qT rfl rfl rfl (o_ld ?_)
                refine qT rfl rfl rfl (o_move ?_)
                refine qT rfl rfl rfl (o_geq ?_)
                refine qT rfl rfl rfl (o_pickT ?_)
                refine q0 rfl (o_pickF ?_)
                refine rg_nil ?_
                exact hK _ ⟨rfl, rfl, rfl, rfl, dn_, trivial⟩
              · have g50 : (decide (0 ≤ v)) = false := hg50
                try simp only [sC, bne_iff_ne, beq_iff_eq, ne_eq] at g50
                refine qF rfl rfl rfl ?_
                refine qF rfl rfl rfl ?_
                refine qF rfl rfl rfl ?_
                refine qT rfl rfl rfl (o_pickF ?_)
                refine q0 rfl (o_pickF ?_)
                refine rg_nil ?_
                exact hK _ ⟨rfl, rfl, rfl, rfl, dn_, trivial⟩
            · have g47 : (decide (((t).n) < 0)) = true := hg47
              try simp only [sC, bne_iff_ne, beq_iff_eq, ne_eq] at g47
              refine qF rfl rfl rfl ?_
              refine qF rfl rfl rfl ?_
              refine qU rfl rfl rfl ?_
              refine qU rfl rfl rfl ?_
              refine qU rfl rfl rfl ?_
              refine qU rfl rfl rfl ?_
              refine qF rfl rfl rfl ?_
              refine q0 rfl (o_pickT ?_)
              refine rg_nil ?_
              exact hK _ ⟨rfl, rfl, rfl, rfl, dn_, trivial⟩
          · refine go_condI (fun h56 => ?_) (fun h56 => ?_)
            · have c56 : ((decide (((t).n) < 0)) || ((decide (0 ≤ v)) && (decide (v ≤ ((t).n))))) = true := h56
              try simp only [sC, bne_iff_ne, beq_iff_eq, ne_eq] at c56
              have hno : ¬ Ahead t v d b := fun ha => by have h1 := ha.n1; rw [if_pos c43] at h1; simp at h56; omega
              refine go_seq ?_
              refine go_region ⟨_, Tryz.func32⟩ rfl ?_
              refine q0 rfl (o_assign ?_)
              refine rg_nil ?_
              refine ret1 Tryz.func32 Tryz.results32 wn_ () (by congr 1; symm; first | exact all_no1 hv hd hno | exact all_no2 hv hd (i := i) (by omega) hno2 | exact all_no3 hv hd (i := i2) (by omega) hno3 | exact (all_steps hv hd).mpr ⟨ha, fun j hj => hok j (by omega), fun j hj => hok2 j (by omega)⟩) (fun w hs => hs.none)
            · have c56 : ((decide (((t).n) < 0)) || ((decide (0 ≤ v)) && (decide (v ≤ ((t).n))))) = false := h56
              try simp only [sC, bne_iff_ne, beq_iff_eq, ne_eq] at c56
              refine go_skip ?_
              exact hK (by first | (rw [if_pos c43]; simp at c56; omega) | (rw [if_neg c43]; omega)) _ ⟨rfl, rfl, rfl, rfl, trivial⟩
        · have c43 : (decide (((t).kind) = 1)) = false := h43
          try simp only [sC, bne_iff_ne, beq_iff_eq, ne_eq] at c43
          refine go_seq ?_
          refine go_region ⟨_, Tryz.func32⟩ rfl ?_
          refine q0 rfl (o_fa ?_)
          refine q0 rfl (o_ld ?_)
          refine q0 rfl (o_neI ?_)
          refine rg_nil ?_
          refine go_condI (fun h59 => ?_) (fun h59 => ?_)
          · have c59 : (decide (((t).n) ≠ 0)) = true := h59
            try simp only [sC, bne_iff_ne, beq_iff_eq, ne_eq] at c59
            have hno : ¬ Ahead t v d b := fun ha => by have h1 := ha.n1; rw [if_neg c43] at h1; exact c59 h1
            refine go_seq ?_
            refine go_region ⟨_, Tryz.func32⟩ rfl ?_
            refine q0 rfl (o_assign ?_)
            refine rg_nil ?_
            refine ret1 Tryz.func32 Tryz.results32 wn_ () (by congr 1; symm; first | exact all_no1 hv hd hno | exact all_no2 hv hd (i := i) (by omega) hno2 | exact all_no3 hv hd (i := i2) (by omega) hno3 | exact (all_steps hv hd).mpr ⟨ha, fun j hj => hok j (by omega), fun j hj => hok2 j (by omega)⟩) (fun w hs => hs.none)
          · have c59 : (decide (((t).n) ≠ 0)) = false := h59
            try simp only [sC, bne_iff_ne, beq_iff_eq, ne_eq] at c59
            refine go_skip ?_
            exact hK (by first | (rw [if_pos c43]; simp at c56; omega) | (rw [if_neg c43]; omega)) _ ⟨rfl, rfl, rfl, rfl, trivial⟩
      · refine go_seq ?_
        refine go_seq ?_
        refine go_cutS ([(1, .int .i64 (v)), (2, .int .i64 (d)), (3, .bool (b)), (4, .pointer (some ⟨b4, 0, none⟩)), (78, .bool (((decide (((t).kind) = 2)) && (!(nameOK ((t).name)))) || ((decide (((t).kind) ≠ 2)) && (!(((t).name).toList == (ByteArray.mk #[]).toList)))))]) (fun hK => ?_) (fun base => ?_)
        · refine go_region ⟨_, Tryz.func32⟩ rfl ?_
          refine q0 rfl (o_fa ?_)
          refine q0 rfl (o_ld ?_)
          refine q0 rfl (o_eqI ?_)
          refine q0 rfl (o_move ?_)
          refine qI rfl rfl rfl wl_ (fun hg63 => ?_) (fun hg63 => ?_)
          · have g63 : (decide (((t).kind) = 2)) = true := hg63
            try simp only [sC, bne_iff_ne, beq_iff_eq, ne_eq] at g63
            refine o_fa ?_
            refine qT rfl rfl rfl (o_ld ?_)
            refine qT rfl rfl rfl (o_call Tryz.call59 (rname_spec ((t).name) om_) (fun x66 => ?_))
            refine qT rfl rfl rfl (o_not ?_)
            refine q0 rfl (o_pickT ?_)
            refine q0 rfl (o_move ?_)
            refine qI rfl rfl rfl wl_ (fun hg69 => ?_) (fun hg69 => ?_)
            · have g69 : (!(nameOK ((t).name))) = false := hg69
              try simp only [sC, bne_iff_ne, beq_iff_eq, ne_eq] at g69
              refine o_fa ?_
              refine qT rfl rfl rfl (o_ld ?_)
              refine qT rfl rfl rfl (o_neI ?_)
              refine qT rfl rfl rfl (o_move ?_)
              refine qI rfl rfl rfl wl_ (fun hg73 => ?_) (fun hg73 => ?_)
              · have g73 : (decide (((t).kind) ≠ 2)) = true := hg73
                try simp only [sC, bne_iff_ne, beq_iff_eq, ne_eq] at g73
                refine o_fa ?_
                refine qT rfl rfl rfl (o_ld ?_)
                refine qT rfl rfl rfl (o_neS ?_)
                refine qT rfl rfl rfl (o_pickT ?_)
                refine q0 rfl (o_pickF ?_)
                refine rg_nil ?_
                exact hK _ ⟨rfl, rfl, rfl, rfl, dn_, trivial⟩
              · have g73 : (decide (((t).kind) ≠ 2)) = false := hg73
                try simp only [sC, bne_iff_ne, beq_iff_eq, ne_eq] at g73
                refine qF rfl rfl rfl ?_
                refine qF rfl rfl rfl ?_
                refine qT rfl rfl rfl (o_pickF ?_)
                refine q0 rfl (o_pickF ?_)
                refine rg_nil ?_
                exact hK _ ⟨rfl, rfl, rfl, rfl, dn_, trivial⟩
            · have g69 : (!(nameOK ((t).name))) = true := hg69
              try simp only [sC, bne_iff_ne, beq_iff_eq, ne_eq] at g69
              refine qF rfl rfl rfl ?_
              refine qF rfl rfl rfl ?_
              refine qF rfl rfl rfl ?_
              refine qU rfl rfl rfl ?_
              refine qU rfl rfl rfl ?_
              refine qU rfl rfl rfl ?_
              refine qF rfl rfl rfl ?_
              refine q0 rfl (o_pickT ?_)
              refine rg_nil ?_
              exact hK _ ⟨rfl, rfl, rfl, rfl, dn_, trivial⟩
          · have g63 : (decide (((t).kind) = 2)) = false := hg63
            try simp only [sC, bne_iff_ne, beq_iff_eq, ne_eq] at g63
            refine qF rfl rfl rfl ?_
            refine qF rfl rfl rfl ?_
            refine qF rfl rfl rfl ?_
            refine q0 rfl (o_pickF ?_)
            refine q0 rfl (o_move ?_)
            refine qT rfl rfl rfl (o_fa ?_)
            refine qT rfl rfl rfl (o_ld ?_)
            refine qT rfl rfl rfl (o_neI ?_)
            refine qT rfl rfl rfl (o_move ?_)
            refine qI rfl rfl rfl wl_ (fun hg73 => ?_) (fun hg73 => ?_)
            · have g73 : (decide (((t).kind) ≠ 2)) = true := hg73
              try simp only [sC, bne_iff_ne, beq_iff_eq, ne_eq] at g73
              refine o_fa ?_
              refine qT rfl rfl rfl (o_ld ?_)
              refine qT rfl rfl rfl (o_neS ?_)
              refine qT rfl rfl rfl (o_pickT ?_)
              refine q0 rfl (o_pickF ?_)
              refine rg_nil ?_
              exact hK _ ⟨rfl, rfl, rfl, rfl, dn_, trivial⟩
            · have g73 : (decide (((t).kind) ≠ 2)) = false := hg73
              try simp only [sC, bne_iff_ne, beq_iff_eq, ne_eq] at g73
              refine qF rfl rfl rfl ?_
              refine qF rfl rfl rfl ?_
              refine qT rfl rfl rfl (o_pickF ?_)
              refine q0 rfl (o_pickF ?_)
              refine rg_nil ?_
              exact hK _ ⟨rfl, rfl, rfl, rfl, dn_, trivial⟩
        · refine go_condI (fun h78 => ?_) (fun h78 => ?_)
          · have c78 : (((decide (((t).kind) = 2)) && (!(nameOK ((t).name)))) || ((decide (((t).kind) ≠ 2)) && (!(((t).name).toList == (ByteArray.mk #[]).toList)))) = true := h78
            try simp only [sC, bne_iff_ne, beq_iff_eq, ne_eq] at c78
            have hno : ¬ Ahead t v d b := fun ha => by have h1 := ha.nm; clear hN ha1; by_cases hk : t.kind = 2 <;> simp [hk] at h1 h78 <;> simp [h1] at h78
            refine go_seq ?_
            refine go_region ⟨_, Tryz.func32⟩ rfl ?_
            refine q0 rfl (o_assign ?_)
            refine rg_nil ?_
            refine ret1 Tryz.func32 Tryz.results32 wn_ () (by congr 1; symm; first | exact all_no1 hv hd hno | exact all_no2 hv hd (i := i) (by omega) hno2 | exact all_no3 hv hd (i := i2) (by omega) hno3 | exact (all_steps hv hd).mpr ⟨ha, fun j hj => hok j (by omega), fun j hj => hok2 j (by omega)⟩) (fun w hs => hs.none)
          · have c78 : (((decide (((t).kind) = 2)) && (!(nameOK ((t).name)))) || ((decide (((t).kind) ≠ 2)) && (!(((t).name).toList == (ByteArray.mk #[]).toList)))) = false := h78
            try simp only [sC, bne_iff_ne, beq_iff_eq, ne_eq] at c78
            have ha2 : if t.kind = 2 then nameOK t.name = true else (t.name.toList == (ByteArray.mk #[]).toList) = true := by by_cases hk : t.kind = 2 <;> simp [hk] at h78 ⊢ <;> exact h78
            refine go_skip ?_
            refine go_seq ?_
            refine go_seq ?_
            refine go_region ⟨_, Tryz.func32⟩ rfl ?_
            refine q0 rfl (o_fa ?_)
            refine q0 rfl (o_ld ?_)
            refine rg_nil ?_
            refine go_cutP (if t.kind = 13 ∨ t.kind = 21 ∨ t.kind = 26 then fRight t.r = true else if t.kind = 14 then faceRight t.r = true else t.r.length = 0) ([(1, .int .i64 (v)), (2, .int .i64 (d)), (3, .bool (b)), (4, .pointer (some ⟨b4, 0, none⟩))]) (fun hK => ?_) (fun hR base => ?_)
            · refine go_block ?_
              refine go_seq ?_
              refine go_seq ?_
              refine go_region ⟨_, Tryz.func32⟩ rfl ?_
              refine q0 rfl (o_eqI ?_)
              refine q0 rfl (o_assign ?_)
              refine rg_nil ?_
              refine go_condI (fun h85 => ?_) (fun h85 => ?_)
              · have c85 : (decide (((t).kind) = 13)) = true := h85
                try simp only [sC, bne_iff_ne, beq_iff_eq, ne_eq] at c85
                refine go_skip ?_
                refine go_condT ?_
                refine go_seq ?_
                refine go_region ⟨_, Tryz.func32⟩ rfl ?_
                refine q0 rfl (o_fa ?_)
                refine q0 rfl (o_ld ?_)
                refine q0 rfl (o_call Tryz.call60 (rfright ((t).r) vr_t ) (fun x91 => ?_))
                refine q0 rfl (o_not ?_)
                refine rg_nil ?_
                refine go_condI (fun h92 => ?_) (fun h92 => ?_)
                · have c92 : (!(fRight ((t).r))) = true := h92
                  try simp only [sC, bne_iff_ne, beq_iff_eq, ne_eq] at c92
                  have hno : ¬ Ahead t v d b := fun ha => by have h1 := ha.r; rw [if_pos (by omega)] at h1; simp [h1] at h92
                  refine go_seq ?_
                  refine go_region ⟨_, Tryz.func32⟩ rfl ?_
                  refine q0 rfl (o_assign ?_)
                  refine rg_nil ?_
                  refine ret1 Tryz.func32 Tryz.results32 wn_ () (by congr 1; symm; first | exact all_no1 hv hd hno | exact all_no2 hv hd (i := i) (by omega) hno2 | exact all_no3 hv hd (i := i2) (by omega) hno3 | exact (all_steps hv hd).mpr ⟨ha, fun j hj => hok j (by omega), fun j hj => hok2 j (by omega)⟩) (fun w hs => hs.none)
                · have c92 : (!(fRight ((t).r))) = false := h92
                  try simp only [sC, bne_iff_ne, beq_iff_eq, ne_eq] at c92
                  refine go_skip ?_
                  refine go_inBlock ?_
                  exact hK (by first | (rw [if_pos (by omega)]; simpa using h92) | (rw [if_neg (by omega), if_pos (by omega)]; simpa using h98) | (rw [if_neg (by omega), if_neg (by omega)]; omega)) _ ⟨rfl, rfl, rfl, rfl, trivial⟩
              · have c85 : (decide (((t).kind) = 13)) = false := h85
                try simp only [sC, bne_iff_ne, beq_iff_eq, ne_eq] at c85
                refine go_seq ?_
                refine go_region ⟨_, Tryz.func32⟩ rfl ?_
                refine q0 rfl (o_eqI ?_)
                refine q0 rfl (o_assign ?_)
                refine rg_nil ?_
                refine go_condI (fun h85 => ?_) (fun h85 => ?_)
                · have c85 : (decide (((t).kind) = 21)) = true := h85
                  try simp only [sC, bne_iff_ne, beq_iff_eq, ne_eq] at c85
                  refine go_skip ?_
                  refine go_condT ?_
                  refine go_seq ?_
                  refine go_region ⟨_, Tryz.func32⟩ rfl ?_
                  refine q0 rfl (o_fa ?_)
                  refine q0 rfl (o_ld ?_)
                  refine q0 rfl (o_call Tryz.call60 (rfright ((t).r) vr_t ) (fun x91 => ?_))
                  refine q0 rfl (o_not ?_)
                  refine rg_nil ?_
                  refine go_condI (fun h92 => ?_) (fun h92 => ?_)
                  · have c92 : (!(fRight ((t).r))) = true := h92
                    try simp only [sC, bne_iff_ne, beq_iff_eq, ne_eq] at c92
                    have hno : ¬ Ahead t v d b := fun ha => by have h1 := ha.r; rw [if_pos (by omega)] at h1; simp [h1] at h92
                    refine go_seq ?_
                    refine go_region ⟨_, Tryz.func32⟩ rfl ?_
                    refine q0 rfl (o_assign ?_)
                    refine rg_nil ?_
                    refine ret1 Tryz.func32 Tryz.results32 wn_ () (by congr 1; symm; first | exact all_no1 hv hd hno | exact all_no2 hv hd (i := i) (by omega) hno2 | exact all_no3 hv hd (i := i2) (by omega) hno3 | exact (all_steps hv hd).mpr ⟨ha, fun j hj => hok j (by omega), fun j hj => hok2 j (by omega)⟩) (fun w hs => hs.none)
                  · have c92 : (!(fRight ((t).r))) = false := h92
                    try simp only [sC, bne_iff_ne, beq_iff_eq, ne_eq] at c92
                    refine go_skip ?_
                    refine go_inBlock ?_
                    exact hK (by first | (rw [if_pos (by omega)]; simpa using h92) | (rw [if_neg (by omega), if_pos (by omega)]; simpa using h98) | (rw [if_neg (by omega), if_neg (by omega)]; omega)) _ ⟨rfl, rfl, rfl, rfl, trivial⟩
                · have c85 : (decide (((t).kind) = 21)) = false := h85
                  try simp only [sC, bne_iff_ne, beq_iff_eq, ne_eq] at c85
                  refine go_region ⟨_, Tryz.func32⟩ rfl ?_
                  refine q0 rfl (o_eqI ?_)
                  refine q0 rfl (o_assign ?_)
                  refine rg_nil ?_
                  refine go_condI (fun h85 => ?_) (fun h85 => ?_)
                  · have c85 : (decide (((t).kind) = 26)) = true := h85
                    try simp only [sC, bne_iff_ne, beq_iff_eq, ne_eq] at c85
                    refine go_seq ?_
                    refine go_region ⟨_, Tryz.func32⟩ rfl ?_
                    refine q0 rfl (o_fa ?_)
                    refine q0 rfl (o_ld ?_)
                    refine q0 rfl (o_call Tryz.call60 (rfright ((t).r) vr_t ) (fun x91 => ?_))
                    refine q0 rfl (o_not ?_)
                    refine rg_nil ?_
                    refine go_condI (fun h92 => ?_) (fun h92 => ?_)
                    · have c92 : (!(fRight ((t).r))) = true := h92
                      try simp only [sC, bne_iff_ne, beq_iff_eq, ne_eq] at c92
                      have hno : ¬ Ahead t v d b := fun ha => by have h1 := ha.r; rw [if_pos (by omega)] at h1; simp [h1] at h92
                      refine go_seq ?_
                      refine go_region ⟨_, Tryz.func32⟩ rfl ?_
                      refine q0 rfl (o_assign ?_)
                      refine rg_nil ?_
                      refine ret1 Tryz.func32 Tryz.results32 wn_ () (by congr 1; symm; first | exact all_no1 hv hd hno | exact all_no2 hv hd (i := i) (by omega) hno2 | exact all_no3 hv hd (i := i2) (by omega) hno3 | exact (all_steps hv hd).mpr ⟨ha, fun j hj => hok j (by omega), fun j hj => hok2 j (by omega)⟩) (fun w hs => hs.none)
                    · have c92 : (!(fRight ((t).r))) = false := h92
                      try simp only [sC, bne_iff_ne, beq_iff_eq, ne_eq] at c92
                      refine go_skip ?_
                      refine go_inBlock ?_
                      exact hK (by first | (rw [if_pos (by omega)]; simpa using h92) | (rw [if_neg (by omega), if_pos (by omega)]; simpa using h98) | (rw [if_neg (by omega), if_neg (by omega)]; omega)) _ ⟨rfl, rfl, rfl, rfl, trivial⟩
                  · have c85 : (decide (((t).kind) = 26)) = false := h85
                    try simp only [sC, bne_iff_ne, beq_iff_eq, ne_eq] at c85
                    refine go_seq ?_
                    refine go_region ⟨_, Tryz.func32⟩ rfl ?_
                    refine q0 rfl (o_eqI ?_)
                    refine q0 rfl (o_assign ?_)
                    refine rg_nil ?_
                    refine go_condI (fun h93 => ?_) (fun h93 => ?_)
                    · have c93 : (decide (((t).kind) = 14)) = true := h93
                      try simp only [sC, bne_iff_ne, beq_iff_eq, ne_eq] at c93
                      refine go_seq ?_
                      refine go_region ⟨_, Tryz.func32⟩ rfl ?_
                      refine q0 rfl (o_fa ?_)
                      refine q0 rfl (o_ld ?_)
                      refine q0 rfl (o_call Tryz.call61 (rfaceright ((t).r) vr_t ) (fun x97 => ?_))
                      refine q0 rfl (o_not ?_)
                      refine rg_nil ?_
                      refine go_condI (fun h98 => ?_) (fun h98 => ?_)
                      · have c98 : (!(faceRight ((t).r))) = true := h98
                        try simp only [sC, bne_iff_ne, beq_iff_eq, ne_eq] at c98
                        have hno : ¬ Ahead t v d b := fun ha => by have h1 := ha.r; rw [if_neg (by omega), if_pos (by omega)] at h1; simp [h1] at h98
                        refine go_seq ?_
                        refine go_region ⟨_, Tryz.func32⟩ rfl ?_
                        refine q0 rfl (o_assign ?_)
                        refine rg_nil ?_
                        refine ret1 Tryz.func32 Tryz.results32 wn_ () (by congr 1; symm; first | exact all_no1 hv hd hno | exact all_no2 hv hd (i := i) (by omega) hno2 | exact all_no3 hv hd (i := i2) (by omega) hno3 | exact (all_steps hv hd).mpr ⟨ha, fun j hj => hok j (by omega), fun j hj => hok2 j (by omega)⟩) (fun w hs => hs.none)
                      · have c98 : (!(faceRight ((t).r))) = false := h98
                        try simp only [sC, bne_iff_ne, beq_iff_eq, ne_eq] at c98
                        refine go_skip ?_
                        refine go_inBlock ?_
                        exact hK (by first | (rw [if_pos (by omega)]; simpa using h92) | (rw [if_neg (by omega), if_pos (by omega)]; simpa using h98) | (rw [if_neg (by omega), if_neg (by omega)]; omega)) _ ⟨rfl, rfl, rfl, rfl, trivial⟩
                    · have c93 : (decide (((t).kind) = 14)) = false := h93
                      try simp only [sC, bne_iff_ne, beq_iff_eq, ne_eq] at c93
                      refine go_seq ?_
                      refine go_region ⟨_, Tryz.func32⟩ rfl ?_
                      refine q0 rfl (o_fa ?_)
                      refine q0 rfl (o_ld ?_)
                      refine q0 rfl (o_len ?_)
                      refine q0 rfl (o_gtr ?_)
                      refine rg_nil ?_
                      refine go_condI (fun h84 => ?_) (fun h84 => ?_)
                      · have c84 : (decide (0 < ((t).r.length : Int))) = true := h84
                        try simp only [sC, bne_iff_ne, beq_iff_eq, ne_eq] at c84
                        have hno : ¬ Ahead t v d b := fun ha => by have h1 := ha.r; rw [if_neg (by omega), if_neg (by omega)] at h1; omega
                        refine go_seq ?_
                        refine go_region ⟨_, Tryz.func32⟩ rfl ?_
                        refine q0 rfl (o_assign ?_)
                        refine rg_nil ?_
                        refine ret1 Tryz.func32 Tryz.results32 wn_ () (by congr 1; symm; first | exact all_no1 hv hd hno | exact all_no2 hv hd (i := i) (by omega) hno2 | exact all_no3 hv hd (i := i2) (by omega) hno3 | exact (all_steps hv hd).mpr ⟨ha, fun j hj => hok j (by omega), fun j hj => hok2 j (by omega)⟩) (fun w hs => hs.none)
                      · have c84 : (decide (0 < ((t).r.length : Int))) = false := h84
                        try simp only [sC, bne_iff_ne, beq_iff_eq, ne_eq] at c84
                        refine go_skip ?_
                        refine go_inBlock ?_
                        exact hK (by first | (rw [if_pos (by omega)]; simpa using h92) | (rw [if_neg (by omega), if_pos (by omega)]; simpa using h98) | (rw [if_neg (by omega), if_neg (by omega)]; omega)) _ ⟨rfl, rfl, rfl, rfl, trivial⟩
            · refine go_seq ?_
              refine go_seq ?_
              refine go_region ⟨_, Tryz.func32⟩ rfl ?_
              refine q0 rfl (o_fa ?_)
              refine q0 rfl (o_ld ?_)
              refine q0 rfl (o_move ?_)
              refine q0 rfl (o_call Tryz.call62 (rlow_spec ((t).r) vr_t d om_) (fun x102 => ?_))
              refine q0 rfl (o_not ?_)
              refine rg_nil ?_
              refine go_condI (fun h103 => ?_) (fun h103 => ?_)
              · have c103 : (!(within ((t).r) d)) = true := h103
                try simp only [sC, bne_iff_ne, beq_iff_eq, ne_eq] at c103
                have hno : ¬ Ahead t v d b := fun ha => by have h1 := ha.low; simp [h1] at h103
                refine go_seq ?_
                refine go_region ⟨_, Tryz.func32⟩ rfl ?_
                refine q0 rfl (o_assign ?_)
                refine rg_nil ?_
                refine ret1 Tryz.func32 Tryz.results32 wn_ () (by congr 1; symm; first | exact all_no1 hv hd hno | exact all_no2 hv hd (i := i) (by omega) hno2 | exact all_no3 hv hd (i := i2) (by omega) hno3 | exact (all_steps hv hd).mpr ⟨ha, fun j hj => hok j (by omega), fun j hj => hok2 j (by omega)⟩) (fun w hs => hs.none)
              · have c103 : (!(within ((t).r) d)) = false := h103
                try simp only [sC, bne_iff_ne, beq_iff_eq, ne_eq] at c103
                have ha : Ahead t v d b := ⟨ha1.1, ha1.2.1, ha1.2.2, hN, ha2, hR, by simpa using h103⟩
                refine go_skip ?_
                refine go_seq ?_
                refine go_seq ?_
                refine go_region ⟨_, Tryz.func32⟩ rfl ?_
                refine q0 rfl (o_assign ?_)
                refine rg_nil ?_
                refine go_block ?_
                refine go_loopE (X := Nat) (fun s_ => s_ ≤ t.kids.length ∧ ∀ j, j < s_ → kidOK t v d b j = true) (fun s_ => [(1, .int .i64 (v)), (2, .int .i64 (d)), (3, .bool (b)), (4, .pointer (some ⟨b4, 0, none⟩)), (9, .int .i64 ((s_ : Int)))]) (fun s_ G_ => G_) (fun s_ => [boxR b4 (tc t vr_t vk_t vs_t) 26]) (fun s_ => t.kids.length - s_) (0) (⟨by omega, fun j hj => by omega⟩) (by exact ⟨rfl, rfl, rfl, rfl, rfl, trivial⟩) ?_ ?_
                · exact fun w hs => hs
                · intro i base0 ⟨hi, hok⟩ next0
                  refine go_seq ?_
                  refine go_seq ?_
                  refine go_region ⟨_, Tryz.func32⟩ rfl ?_
                  refine q0 rfl (o_move ?_)
                  refine q0 rfl (o_fa ?_)
                  refine q0 rfl (o_ld ?_)
                  refine q0 rfl (o_len ?_)
                  refine q0 rfl (o_lss ?_)
                  refine rg_nil ?_
                  refine go_condI (fun h108 => ?_) (fun h108 => ?_)
                  · have c108 : (decide ((i : Int) < ((t).kids.length : Int))) = true := h108
                    try simp only [sC, bne_iff_ne, beq_iff_eq, ne_eq] at c108
                    have hkd := depth_kid (getD_mem (d := t0) (show i < t.kids.length by omega))
                    have hbi := binds_in t.kind (i : Int)
                    unfold bindsIn at hbi
                    refine go_skip ?_
                    refine go_seq ?_
                    refine go_block ?_
                    refine go_seq ?_
                    refine go_region ⟨_, Tryz.func32⟩ rfl ?_
                    refine q0 rfl (o_fa ?_)
                    refine q0 rfl (o_ld ?_)
                    refine q0 rfl (o_move ?_)
                    refine q0 rfl (o_call Tryz.call39 (rbinds_spec ((t).kind) (i : Int) ) (fun x115 => ?_))
                    refine q0 rfl (o_move ?_)
                    refine q0 rfl (o_extract ?_)
                    refine q0 rfl (o_extract ?_)
                    refine q0 rfl (o_assign ?_)
                    refine q0 rfl (o_assign ?_)
                    refine rg_nil ?_
                    refine go_seq ?_
                    refine go_seq ?_
                    refine go_region ⟨_, Tryz.func32⟩ rfl ?_
                    refine q0 rfl (o_move ?_)
                    refine q0 rfl (o_lss ?_)
                    refine rg_nil ?_
                    refine go_cutS ([(1, .int .i64 (v)), (2, .int .i64 (d)), (3, .bool (b)), (4, .pointer (some ⟨b4, 0, none⟩)), (9, .int .i64 ((i : Int))), (10, .int .i64 ((if v < 0 then 0 else (binds t.kind (i : Int)).1))), (11, .int .i64 ((binds ((t).kind) (i : Int)).2))]) (fun hK => ?_) (fun base => ?_)
                    · refine go_condI (fun h119 => ?_) (fun h119 => ?_)
                      · have c119 : (decide (v < 0)) = true := h119
                        try simp only [sC, bne_iff_ne, beq_iff_eq, ne_eq] at c119
                        refine go_region ⟨_, Tryz.func32⟩ rfl ?_
                        refine q0 rfl (o_assign ?_)
                        refine rg_nil ?_
                        exact hK _ ⟨rfl, rfl, rfl, rfl, rfl, (by (conv => lhs; whnf); first | rw [if_pos c119] | rw [if_neg c119]), rfl, trivial⟩
                      · have c119 : (decide (v < 0)) = false := h119
                        try simp only [sC, bne_iff_ne, beq_iff_eq, ne_eq] at c119
                        refine go_skip ?_
                        exact hK _ ⟨rfl, rfl, rfl, rfl, rfl, (by (conv => lhs; whnf); first | rw [if_pos c119] | rw [if_neg c119]), rfl, trivial⟩
                    · refine go_seq ?_
                      refine go_kid (ts := (t).kids) (a := vk_t) (VR := VR3) (VK := VK3) (VS := VS3) i (by omega) ?_
                      refine go_region ⟨_, Tryz.func32⟩ rfl ?_
                      refine q0 rfl (o_fa ?_)
                      refine q0 rfl (o_ld ?_)
                      refine q0 rfl (o_move ?_)
                      obtain ⟨bk5, o5, hav5⟩ := hA3 (by omega)
                      refine q0 rfl (o_ixN ?_ (j := i))
                      refine q0 rfl (o_ldT ?_)
                      refine q0 rfl (o_move ?_)
                      refine q0 rfl (o_move ?_)
                      refine q0 rfl (o_addW ?_)
                      refine q0 rfl (o_move ?_)
                      refine q0 rfl (o_move ?_)
                      refine q0 rfl (o_add ?_)
                      refine q0 rfl (o_move ?_)
                      refine q0 rfl (o_call Tryz.call32 ((ihk (((t).kids).getD i t0) (getD_mem (show i < ((t).kids).length by omega))) (VR3 i) (VK3 i) (VS3 i) (IntKind.i64.wrap (v + if v < 0 then 0 else (binds t.kind (i : Int)).1)) (d + ((binds ((t).kind) (i : Int)).2)) b (by first | assumption | exact wrap_in _ | (unfold in64; omega)) (by omega) (by omega)) (fun x132 => ?_))
                      refine q0 rfl (o_not ?_)
                      refine rg_nil ?_
                      refine go_condI (fun h133 => ?_) (fun h133 => ?_)
                      · have c133 : (!(allP (((t).kids).getD i t0) (IntKind.i64.wrap (v + if v < 0 then 0 else (binds t.kind (i : Int)).1)) (d + ((binds ((t).kind) (i : Int)).2)) b)) = true := h133
                        try simp only [sC, bne_iff_ne, beq_iff_eq, ne_eq] at c133
                        have hno2 : kidOK t v d b i = false := by unfold kidOK; simpa using h133
                        refine go_seq ?_
                        refine go_region ⟨_, Tryz.func32⟩ rfl ?_
                        refine q0 rfl (o_assign ?_)
                        refine rg_nil ?_
                        refine ret1 Tryz.func32 Tryz.results32 wn_ () (by congr 1; symm; first | exact all_no1 hv hd hno | exact all_no2 hv hd (i := i) (by omega) hno2 | exact all_no3 hv hd (i := i2) (by omega) hno3 | exact (all_steps hv hd).mpr ⟨ha, fun j hj => hok j (by omega), fun j hj => hok2 j (by omega)⟩) (fun w hs => hs.none)
                      · have c133 : (!(allP (((t).kids).getD i t0) (IntKind.i64.wrap (v + if v < 0 then 0 else (binds t.kind (i : Int)).1)) (d + ((binds ((t).kind) (i : Int)).2)) b)) = false := h133
                        try simp only [sC, bne_iff_ne, beq_iff_eq, ne_eq] at c133
                        refine go_skip ?_
                        refine go_inBlock ?_
                        refine go_region ⟨_, Tryz.func32⟩ rfl ?_
                        refine q0 rfl (o_move ?_)
                        refine q0 rfl (o_add ?_)
                        refine q0 rfl (o_assign ?_)
                        refine rg_nil ?_
                        have hb : kidOK t v d b i = true := by unfold kidOK; simpa using h133
                        refine go_state (fun w hs => ?_) (next0 (i + 1) _ (⟨by omega, succ_inv hok hb⟩) (by omega) ⟨rfl, rfl, rfl, rfl, rfl, trivial⟩)
                        exact (hs.less (by simp +contextual))
                  · have c108 : (decide ((i : Int) < ((t).kids.length : Int))) = false := h108
                    try simp only [sC, bne_iff_ne, beq_iff_eq, ne_eq] at c108
                    refine go_exit rfl ?_
                    refine go_seq ?_
                    refine go_seq ?_
                    refine go_region ⟨_, Tryz.func32⟩ rfl ?_
                    refine q0 rfl (o_assign ?_)
                    refine rg_nil ?_
                    refine go_block ?_
                    refine go_loopE (X := Nat) (fun s_ => s_ ≤ t.sys.length ∧ ∀ j, j < s_ → brOK t v d b (t.sys.getD j br0) = true) (fun s_ => [(1, .int .i64 (v)), (2, .int .i64 (d)), (3, .bool (b)), (4, .pointer (some ⟨b4, 0, none⟩)), (12, .int .i64 ((s_ : Int)))]) (fun s_ G_ => G_) (fun s_ => [boxR b4 (tc t vr_t vk_t vs_t) 26]) (fun s_ => t.sys.length - s_) (0) (⟨by omega, fun j hj => by omega⟩) (by exact ⟨rfl, rfl, rfl, rfl, rfl, trivial⟩) ?_ ?_
                    · exact fun w hs => hs
                    · intro i2 base1 ⟨hi2, hok2⟩ next1
                      refine go_seq ?_
                      refine go_seq ?_
                      refine go_region ⟨_, Tryz.func32⟩ rfl ?_
                      refine q0 rfl (o_move ?_)
                      refine q0 rfl (o_fa ?_)
                      refine q0 rfl (o_ld ?_)
                      refine q0 rfl (o_len ?_)
                      refine q0 rfl (o_lss ?_)
                      refine rg_nil ?_
                      refine go_condI (fun h138 => ?_) (fun h138 => ?_)
                      · have c138 : (decide ((i2 : Int) < ((t).sys.length : Int))) = true := h138
                        try simp only [sC, bne_iff_ne, beq_iff_eq, ne_eq] at c138
                        have hpb : 0 ≤ more t.kind ∧ more t.kind ≤ 1 := by unfold more; split <;> omega
                        refine go_skip ?_
                        refine go_seq ?_
                        refine go_block ?_
                        refine go_seq ?_
                        refine go_branch (bs := (t).sys) (a := vs_t) (VF := VF4) (VK := VK4) i2 (by omega) ?_
                        refine go_openCL (l := (((t).sys).getD i2 br0).face) (a := VF4 i2) (fun hl6 hA6 hU6 => ?_)
                        refine go_openTL (ts := (((t).sys).getD i2 br0).kids) (a := VK4 i2) (fun VR7 VK7 VS7 hl7 hA7 => ?_)
                        refine go_region ⟨_, Tryz.func32⟩ rfl ?_
                        refine q0 rfl (o_fa ?_)
                        refine q0 rfl (o_ld ?_)
                        refine q0 rfl (o_move ?_)
                        obtain ⟨bk8, o8, hav8⟩ := hA4 (by omega)
                        refine q0 rfl (o_ixN ?_ (j := i2))
                        refine q0 rfl (o_ldB ?_)
                        refine q0 rfl (o_new fun b13 => ?_)
                        refine q0 rfl (o_st ?_)
                        refine rg_nil ?_
                        refine go_seq ?_
                        refine go_seq ?_
                        refine go_cutS ([(1, .int .i64 (v)), (2, .int .i64 (d)), (3, .bool (b)), (4, .pointer (some ⟨b4, 0, none⟩)), (12, .int .i64 ((i2 : Int))), (13, .pointer (some ⟨b13, 0, none⟩)), (165, .bool (((decide (((((t).sys).getD i2 br0).kids.length : Int) ≠ (partsN ((t).kind)))) || (!(faceRight ((((t).sys).getD i2 br0).face)))) || (!(within ((((t).sys).getD i2 br0).face) d))))]) (fun hK => ?_) (fun base => ?_)
                        · refine go_draw (tn := false) (A := [0, 1, 3, 0, 8, 24, 63, 127, 255, 511, 1023, 2047, 4095, 8191, 16383, 32767, 16383, 131071, 262143, 524287]) (l := [0, 1, 2, 3, 4, 5, 6, 7, 8, 9, 10, 11, 12, 13, 14, 15, 16, 17, 18, 19]) (fin := []) Tab.mixed ⟨_, Tryz.func32⟩ (by rfl) ?_
                          refine n0 rfl (v_fa ?_)
                          refine n0 rfl (v_ld ?_)
                          refine n0 rfl (v_len ?_)
                          refine n0 rfl (v_fa ?_)
                          refine n0 rfl (v_ld ?_)
                          refine n0 rfl (v_call Tryz.call58 (rparts_spec ((t).kind) ) (fun x151 => ?_))
                          refine n0 rfl (v_neI ?_)
                          refine n0 rfl (v_move ?_)
                          refine nI rfl rfl rfl wl_ (fun hg153 => ?_) (fun hg153 => ?_)
                          · have g153 : (decide (((((t).sys).getD i2 br0).kids.length : Int) ≠ (partsN ((t).kind)))) = false := hg153
                            try simp only [sC, bne_iff_ne, beq_iff_eq, ne_eq] at g153
                            refine v_fa ?_
                            refine nT rfl rfl rfl (v_ld ?_)
                            refine nT rfl rfl rfl (v_call Tryz.call61 (rfaceright ((((t).sys).getD i2 br0).face) (VF4 i2) ) (fun x156 => ?_))
                            refine nT rfl rfl rfl (v_not ?_)
                            refine n0 rfl (v_pickF ?_)
                            refine n0 rfl (v_move ?_)
                            refine nI rfl rfl rfl wl_ (fun hg159 => ?_) (fun hg159 => ?_)
                            · have g159 : (!(faceRight ((((t).sys).getD i2 br0).face))) = false := hg159
                              try simp only [sC, bne_iff_ne, beq_iff_eq, ne_eq] at g159
                              refine v_fa ?_
                              refine nT rfl rfl rfl (v_ld ?_)
                              refine nT rfl rfl rfl (v_move ?_)
                              refine nT rfl rfl rfl (v_call Tryz.call62 (rlow_spec ((((t).sys).getD i2 br0).face) (VF4 i2) d om_) (fun x163 => ?_))
                              refine nT rfl rfl rfl (v_not ?_)
                              refine n0 rfl (v_pickF ?_)
                              refine NV.done ?_
                              refine rg_nil ?_
                              exact hK _ ⟨rfl, rfl, rfl, rfl, rfl, rfl, dn_, trivial⟩
                            · have g159 : (!(faceRight ((((t).sys).getD i2 br0).face))) = true := hg159
                              try simp only [sC, bne_iff_ne, beq_iff_eq, ne_eq] at g159
                              refine nF rfl rfl rfl ?_
                              refine nF rfl rfl rfl ?_
                              refine nF rfl rfl rfl ?_
                              refine nF rfl rfl rfl ?_
                              refine n0 rfl (v_pickT ?_)
                              refine NV.done ?_
                              refine rg_nil ?_
                              exact hK _ ⟨rfl, rfl, rfl, rfl, rfl, rfl, dn_, trivial⟩
                          · have g153 : (decide (((((t).sys).getD i2 br0).kids.length : Int) ≠ (partsN ((t).kind)))) = true := hg153
                            try simp only [sC, bne_iff_ne, beq_iff_eq, ne_eq] at g153
                            refine nF rfl rfl rfl ?_
                            refine nF rfl rfl rfl ?_
                            refine nF rfl rfl rfl ?_
                            refine n0 rfl (v_pickT ?_)
                            refine n0 rfl (v_move ?_)
                            refine nF rfl rfl rfl ?_
                            refine nF rfl rfl rfl ?_
                            refine nF rfl rfl rfl ?_
                            refine nF rfl rfl rfl ?_
                            refine nF rfl rfl rfl ?_
                            refine n0 rfl (v_pickT ?_)
                            refine NV.done ?_
                            refine rg_nil ?_
                            exact hK _ ⟨rfl, rfl, rfl, rfl, rfl, rfl, dn_, trivial⟩
                        · refine go_condI (fun h165 => ?_) (fun h165 => ?_)
                          · have c165 : (((decide (((((t).sys).getD i2 br0).kids.length : Int) ≠ (partsN ((t).kind)))) || (!(faceRight ((((t).sys).getD i2 br0).face)))) || (!(within ((((t).sys).getD i2 br0).face) d))) = true := h165
                            try simp only [sC, bne_iff_ne, beq_iff_eq, ne_eq] at c165
                            have hno : ownB t d (t.sys.getD i2 br0) = false := by unfold ownB; simp at h165; rcases h165 with (h4 | h4) | h4 <;> simp_all
                            have hno3 : brOK t v d b (t.sys.getD i2 br0) = false := by unfold brOK; rw [hno]; rfl
                            refine go_seq ?_
                            refine go_region ⟨_, Tryz.func32⟩ rfl ?_
                            refine q0 rfl (o_assign ?_)
                            refine rg_nil ?_
                            refine ret1 Tryz.func32 Tryz.results32 wn_ () (by congr 1; symm; first | exact all_no1 hv hd hno | exact all_no2 hv hd (i := i) (by omega) hno2 | exact all_no3 hv hd (i := i2) (by omega) hno3 | exact (all_steps hv hd).mpr ⟨ha, fun j hj => hok j (by omega), fun j hj => hok2 j (by omega)⟩) (fun w hs => hs.none)
                          · have c165 : (((decide (((((t).sys).getD i2 br0).kids.length : Int) ≠ (partsN ((t).kind)))) || (!(faceRight ((((t).sys).getD i2 br0).face)))) || (!(within ((((t).sys).getD i2 br0).face) d))) = false := h165
                            try simp only [sC, bne_iff_ne, beq_iff_eq, ne_eq] at c165
                            have hob : ownB t d (t.sys.getD i2 br0) = true := by unfold ownB; simp at h165; simp_all
                            refine go_skip ?_
                            refine go_seq ?_
                            refine go_region ⟨_, Tryz.func32⟩ rfl ?_
                            refine q0 rfl (o_assign ?_)
                            refine rg_nil ?_
                            refine go_block ?_
                            refine go_loopE (X := Nat) (fun s_ => s_ ≤ (t.sys.getD i2 br0).kids.length ∧ ∀ j, j < s_ → allP ((t.sys.getD i2 br0).kids.getD j t0) v (d + more t.kind) b = true) (fun s_ => [(1, .int .i64 (v)), (2, .int .i64 (d)), (3, .bool (b)), (4, .pointer (some ⟨b4, 0, none⟩)), (12, .int .i64 ((i2 : Int))), (13, .pointer (some ⟨b13, 0, none⟩)), (14, .int .i64 ((s_ : Int)))]) (fun s_ G_ => G_) (fun s_ => [boxR b13 (bc (((t).sys).getD i2 br0) (VF4 i2) (VK4 i2)) 71, boxR b4 (tc t vr_t vk_t vs_t) 26]) (fun s_ => (t.sys.getD i2 br0).kids.length - s_) (0) (⟨by omega, fun j hj => by omega⟩) (by exact ⟨rfl, rfl, rfl, rfl, rfl, rfl, rfl, trivial⟩) ?_ ?_
                            · exact fun w hs => hs
                            · intro k base2 ⟨hk3, hok3⟩ next2
                              refine go_seq ?_
                              refine go_seq ?_
                              refine go_region ⟨_, Tryz.func32⟩ rfl ?_
                              refine q0 rfl (o_move ?_)
                              refine q0 rfl (o_fa ?_)
                              refine q0 rfl (o_ld ?_)
                              refine q0 rfl (o_len ?_)
                              refine q0 rfl (o_lss ?_)
                              refine rg_nil ?_
                              refine go_condI (fun h170 => ?_) (fun h170 => ?_)
                              · have c170 : (decide ((k : Int) < ((((t).sys).getD i2 br0).kids.length : Int))) = true := h170
                                try simp only [sC, bne_iff_ne, beq_iff_eq, ne_eq] at c170
                                have hsd : depth ((t.sys.getD i2 br0).kids.getD k t0) < depth t := by obtain ⟨p, hp, e⟩ := sys_mem_parts (getD_mem (d := br0) (show i2 < t.sys.length by omega)) (getD_mem (d := t0) (show k < (t.sys.getD i2 br0).kids.length by omega)); exact e ▸ depth_mem hp
                                refine go_skip ?_
                                refine go_seq ?_
                                refine go_block ?_
                                refine go_seq ?_
                                refine go_kid (ts := (((t).sys).getD i2 br0).kids) (a := VK4 i2) (VR := VR7) (VK := VK7) (VS := VS7) k (by omega) ?_
                                refine go_draw (tn := false) (A := [0, 1, 0, 7, 15, 0, 0, 0, 128, 384, 960, 0, 4095, 8191]) (l := [0, 1, 2, 3, 4, 5, 6, 7, 8, 11, 9, 10, 12, 13]) (fin := []) Tab.mixed ⟨_, Tryz.func32⟩ (by rfl) ?_
                                refine n0 rfl (v_fa ?_)
                                refine n0 rfl (v_ld ?_)
                                refine n0 rfl (v_move ?_)
                                obtain ⟨bk9, o9, hav9⟩ := hA7 (by omega)
                                refine n0 rfl (v_ixN ?_ (j := k))
                                refine n0 rfl (v_ldT ?_)
                                refine n0 rfl (v_move ?_)
                                refine n0 rfl (v_move ?_)
                                refine n0 rfl (v_fa ?_)
                                refine n0 rfl (v_ld ?_)
                                refine n0 rfl (v_move ?_)
                                refine n0 rfl (v_call Tryz.call51 (rmore_spec ((t).kind) ) (fun x182 => ?_))
                                refine n0 rfl (v_add ?_)
                                refine n0 rfl (v_call Tryz.call32 ((ihs (((t).sys).getD i2 br0) (getD_mem (show i2 < ((t).sys).length by omega)) (((((t).sys).getD i2 br0).kids).getD k t0) (getD_mem (show k < ((((t).sys).getD i2 br0).kids).length by omega))) (VR7 k) (VK7 k) (VS7 k) v (d + (more ((t).kind))) b (by first | assumption | exact wrap_in _ | (unfold in64; omega)) (by omega) (by omega)) (fun x185 => ?_))
                                refine n0 rfl (v_not ?_)
                                refine NV.done ?_
                                refine rg_nil ?_
                                refine go_condI (fun h186 => ?_) (fun h186 => ?_)
                                · have c186 : (!(allP (((((t).sys).getD i2 br0).kids).getD k t0) v (d + (more ((t).kind))) b)) = true := h186
                                  try simp only [sC, bne_iff_ne, beq_iff_eq, ne_eq] at c186
                                  have hno3 : brOK t v d b (t.sys.getD i2 br0) = false := by unfold brOK; rw [all_false_at (d := t0) (i := k) (by omega) (by simpa using h186), Bool.and_false]
                                  refine go_seq ?_
                                  refine go_region ⟨_, Tryz.func32⟩ rfl ?_
                                  refine q0 rfl (o_assign ?_)
                                  refine rg_nil ?_
                                  refine ret1 Tryz.func32 Tryz.results32 wn_ () (by congr 1; symm; first | exact all_no1 hv hd hno | exact all_no2 hv hd (i := i) (by omega) hno2 | exact all_no3 hv hd (i := i2) (by omega) hno3 | exact (all_steps hv hd).mpr ⟨ha, fun j hj => hok j (by omega), fun j hj => hok2 j (by omega)⟩) (fun w hs => hs.none)
                                · have c186 : (!(allP (((((t).sys).getD i2 br0).kids).getD k t0) v (d + (more ((t).kind))) b)) = false := h186
                                  try simp only [sC, bne_iff_ne, beq_iff_eq, ne_eq] at c186
                                  refine go_skip ?_
                                  refine go_inBlock ?_
                                  refine go_region ⟨_, Tryz.func32⟩ rfl ?_
                                  refine q0 rfl (o_move ?_)
                                  refine q0 rfl (o_add ?_)
                                  refine q0 rfl (o_assign ?_)
                                  refine rg_nil ?_
                                  have hb : allP ((t.sys.getD i2 br0).kids.getD k t0) v (d + more t.kind) b = true := by simpa using h186
                                  refine go_state (fun w hs => ?_) (next2 (k + 1) _ (⟨by omega, succ_inv hok3 hb⟩) (by omega) ⟨rfl, rfl, rfl, rfl, rfl, rfl, rfl, trivial⟩)
                                  exact (((hs.less (by simp +contextual)).perm perm1).perm perm1)
                              · have c170 : (decide ((k : Int) < ((((t).sys).getD i2 br0).kids.length : Int))) = false := h170
                                try simp only [sC, bne_iff_ne, beq_iff_eq, ne_eq] at c170
                                refine go_exit rfl ?_
                                refine go_inBlock ?_
                                refine go_region ⟨_, Tryz.func32⟩ rfl ?_
                                refine q0 rfl (o_move ?_)
                                refine q0 rfl (o_add ?_)
                                refine q0 rfl (o_assign ?_)
                                refine rg_nil ?_
                                have hb : brOK t v d b (t.sys.getD i2 br0) = true := by unfold brOK; rw [hob, all_true_of (d := t0) (fun j hj => hok3 j (by omega))]; rfl
                                refine go_state (fun w hs => ?_) (next1 (i2 + 1) _ (⟨by omega, succ_inv hok2 hb⟩) (by omega) ⟨rfl, rfl, rfl, rfl, rfl, trivial⟩)
                                exact (((hs.less (by simp +contextual)).perm perm1).dropR (A := [_]))
                      · have c138 : (decide ((i2 : Int) < ((t).sys.length : Int))) = false := h138
                        try simp only [sC, bne_iff_ne, beq_iff_eq, ne_eq] at c138
                        refine go_exit rfl ?_
                        refine go_seq ?_
                        refine go_region ⟨_, Tryz.func32⟩ rfl ?_
                        refine q0 rfl (o_assign ?_)
                        refine rg_nil ?_
                        refine ret1 Tryz.func32 Tryz.results32 wn_ () (by congr 1; symm; first | exact all_no1 hv hd hno | exact all_no2 hv hd (i := i) (by omega) hno2 | exact all_no3 hv hd (i := i2) (by omega) hno3 | exact (all_steps hv hd).mpr ⟨ha, fun j hj => hok j (by omega), fun j hj => hok2 j (by omega)⟩) (fun w hs => hs.none)
theorem rall_spec : ∀ t : T, RallAt t := T.ind' fun t ihk ihs vr_t vk_t vs_t v d b hv hd hl => rall_walk t ihk ihs vr_t vk_t vs_t v d b hv hd hl
theorem rsized_spec (t : T) (vr_t vk_t vs_t : SH) (hz : size t ≤ 1152921504606846) : Spec Tryz.prog 31 #[.agg (tc t vr_t vk_t vs_t).toArray] [RT t vr_t vk_t vs_t] [] (fun _ : Unit => .int .i64 (sized t)) (fun _ : Unit => []) (fun _ : Unit => []) := by
  refine spec_go (args := [.agg (tc t vr_t vk_t vs_t).toArray]) Tryz.func31 Tryz.ntmps31 rfl (by exact Nat.le_of_ble_eq_true rfl) fun B hB => ?_
  refine go_open (t := t) (vr := vr_t) (vk := vk_t) (vs := vs_t) (fun hk1 hn1 hm1 => ?_)
  refine go_openCL (l := (t).r) (a := vr_t) (fun hl2 hA2 hU2 => ?_)
  refine go_openTL (ts := (t).kids) (a := vk_t) (fun VR3 VK3 VS3 hl3 hA3 => ?_)
  refine go_openBL (bs := (t).sys) (a := vs_t) (fun VF4 VK4 hl4 hA4 => ?_)
  refine go_seq ?_
  refine go_region ⟨_, Tryz.func31⟩ rfl ?_
  refine q0 rfl (o_box fun b1 => ?_)
  refine q0 rfl (o_assign ?_)
  refine rg_nil ?_
  refine go_seq ?_
  refine go_seq ?_
  refine go_region ⟨_, Tryz.func31⟩ rfl ?_
  refine q0 rfl (o_lds ?_)
  refine q0 rfl (o_call Tryz.call55 (rdepth_spec t om_ vr_t vk_t vs_t) (fun x4 => ?_))
  refine q0 rfl (o_gtr ?_)
  refine rg_nil ?_
  refine go_condI (fun h5 => ?_) (fun h5 => ?_)
  · have c5 : (decide (200 < (depth t : Int))) = true := h5
    try simp only [sC, bne_iff_ne, beq_iff_eq, ne_eq] at c5
    refine go_seq ?_
    refine go_region ⟨_, Tryz.func31⟩ rfl ?_
    refine q0 rfl (o_assign ?_)
    refine rg_nil ?_
    refine ret1 Tryz.func31 Tryz.results31 wn_ () (by rw [sized, if_pos (by omega)]) (fun w hs => hs.none)
  · have c5 : (decide (200 < (depth t : Int))) = false := h5
    try simp only [sC, bne_iff_ne, beq_iff_eq, ne_eq] at c5
    refine go_skip ?_
    refine go_seq ?_
    refine go_seq ?_
    refine go_region ⟨_, Tryz.func31⟩ rfl ?_
    refine q0 rfl (o_lds ?_)
    refine q0 rfl (o_call Tryz.call56 (rsize_spec t om_ vr_t vk_t vs_t) (fun x7 => ?_))
    refine q0 rfl (o_gtr ?_)
    refine rg_nil ?_
    refine go_condI (fun h8 => ?_) (fun h8 => ?_)
    · have c8 : (decide (20000 < (size t : Int))) = true := h8
      try simp only [sC, bne_iff_ne, beq_iff_eq, ne_eq] at c8
      refine go_seq ?_
      refine go_region ⟨_, Tryz.func31⟩ rfl ?_
      refine q0 rfl (o_assign ?_)
      refine rg_nil ?_
      refine ret1 Tryz.func31 Tryz.results31 wn_ () (by rw [sized, if_neg (by omega), if_pos (by omega)]) (fun w hs => hs.none)
    · have c8 : (decide (20000 < (size t : Int))) = false := h8
      try simp only [sC, bne_iff_ne, beq_iff_eq, ne_eq] at c8
      refine go_skip ?_
      refine go_seq ?_
      refine go_region ⟨_, Tryz.func31⟩ rfl ?_
      refine q0 rfl (o_assign ?_)
      refine rg_nil ?_
      refine ret1 Tryz.func31 Tryz.results31 wn_ () (by rw [sized, if_neg (by omega), if_neg (by omega)]) (fun w hs => hs.none)
theorem rformed_spec (t : T) (vr_t vk_t vs_t : SH) (hz : size t ≤ 1152921504606846) : Spec Tryz.prog 8 #[.agg (tc t vr_t vk_t vs_t).toArray] [RT t vr_t vk_t vs_t] [] (fun _ : Unit => .int .i64 (formedP t)) (fun _ : Unit => []) (fun _ : Unit => []) := by
  refine spec_go (args := [.agg (tc t vr_t vk_t vs_t).toArray]) Tryz.func8 Tryz.ntmps8 rfl (by exact Nat.le_of_ble_eq_true rfl) fun B hB => ?_
  refine go_open (t := t) (vr := vr_t) (vk := vk_t) (vs := vs_t) (fun hk1 hn1 hm1 => ?_)
  refine go_openCL (l := (t).r) (a := vr_t) (fun hl2 hA2 hU2 => ?_)
  refine go_openTL (ts := (t).kids) (a := vk_t) (fun VR3 VK3 VS3 hl3 hA3 => ?_)
  refine go_openBL (bs := (t).sys) (a := vs_t) (fun VF4 VK4 hl4 hA4 => ?_)
  have hds := depth_le_size t
  refine go_seq ?_
  refine go_region ⟨_, Tryz.func8⟩ rfl ?_
  refine q0 rfl (o_box fun b1 => ?_)
  refine q0 rfl (o_assign ?_)
  refine rg_nil ?_
  refine go_seq ?_
  refine go_region ⟨_, Tryz.func8⟩ rfl ?_
  refine q0 rfl (o_lds ?_)
  refine q0 rfl (o_call Tryz.call31 (rsized_spec t vr_t vk_t vs_t om_) (fun x5 => ?_))
  refine q0 rfl (o_assign ?_)
  refine rg_nil ?_
  refine go_seq ?_
  refine go_seq ?_
  refine go_cutS ([(3, .int .i64 (sized t)), (12, .bool ((decide ((sized t) = 0)) && (!(allP t (-1) 24 false))))]) (fun hK => ?_) (fun base => ?_)
  · refine go_region ⟨_, Tryz.func8⟩ rfl ?_
    refine q0 rfl (o_move ?_)
    refine q0 rfl (o_eqI ?_)
    refine q0 rfl (o_move ?_)
    refine qI rfl rfl rfl wl_ (fun hg8 => ?_) (fun hg8 => ?_)
    · have g8 : (decide ((sized t) = 0)) = true := hg8
      try simp only [sC, bne_iff_ne, beq_iff_eq, ne_eq] at g8
      refine o_lds ?_
      refine qT rfl rfl rfl (o_call Tryz.call32 (rall_spec t vr_t vk_t vs_t (-1) 24 false (by first | assumption | exact wrap_in _ | (unfold in64; omega)) (by omega) (by omega)) (fun x10 => ?_))
      refine qT rfl rfl rfl (o_not ?_)
      refine q0 rfl (o_pickT ?_)
      refine rg_nil ?_
      exact hK _ ⟨rfl, dn_, trivial⟩
    · have g8 : (decide ((sized t) = 0)) = false := hg8
      try simp only [sC, bne_iff_ne, beq_iff_eq, ne_eq] at g8
      refine qF rfl rfl rfl ?_
      refine qF rfl rfl rfl ?_
      refine q0 rfl (o_pickF ?_)
      refine rg_nil ?_
      exact hK _ ⟨rfl, dn_, trivial⟩
  · refine go_cutS ([(3, .int .i64 ((if sized t ≠ 0 then sized t else if allP t (-1) 24 false then 0 else 100)))]) (fun hK => ?_) (fun base => ?_)
    · refine go_condI (fun h12 => ?_) (fun h12 => ?_)
      · have c12 : ((decide ((sized t) = 0)) && (!(allP t (-1) 24 false))) = true := h12
        try simp only [sC, bne_iff_ne, beq_iff_eq, ne_eq] at c12
        refine go_region ⟨_, Tryz.func8⟩ rfl ?_
        refine q0 rfl (o_assign ?_)
        refine rg_nil ?_
        exact hK _ ⟨(by (conv => lhs; whnf); by_cases hz : sized t = 0 <;> cases ha : allP t (-1) 24 false <;> simp_all), trivial⟩
      · have c12 : ((decide ((sized t) = 0)) && (!(allP t (-1) 24 false))) = false := h12
        try simp only [sC, bne_iff_ne, beq_iff_eq, ne_eq] at c12
        refine go_skip ?_
        exact hK _ ⟨(by (conv => lhs; whnf); by_cases hz : sized t = 0 <;> cases ha : allP t (-1) 24 false <;> simp_all), trivial⟩
    · refine go_seq ?_
      refine go_region ⟨_, Tryz.func8⟩ rfl ?_
      refine q0 rfl (o_move ?_)
      refine q0 rfl (o_assign ?_)
      refine rg_nil ?_
      refine ret1 Tryz.func8 Tryz.results8 wn_ () (by rw [formedP]) (fun w hs => hs.none)
end Go.Hy
namespace Go.Hy
set_option linter.unusedVariables false
set_option linter.unusedSimpArgs false
set_option linter.unusedSectionVars false
open Go.Proofs
set_option linter.unusedVariables false
set_option linter.unusedSimpArgs false
set_option maxRecDepth 100000
abbrev RcopyO (t : T) : Prop := ∀ vr vk vs, Spec Tryz.prog 16 #[.agg (tc t vr vk vs).toArray] [RT t vr vk vs] [] (fun x : {h : HT // h.er = t} => .agg (tc t x.1.vr x.1.vk x.1.vs).toArray) (fun _ => []) (fun x => [bigR (treeR tys x.1)])
theorem rcopyO_walk (t : T) (vr_t vk_t vs_t : SH) (ihk : ∀ k, k ∈ t.kids → RcopyO k) (ihs : ∀ b, b ∈ t.sys → ∀ k, k ∈ b.kids → RcopyO k) : Spec Tryz.prog 16 #[.agg (tc t vr_t vk_t vs_t).toArray] [RT t vr_t vk_t vs_t] [] (fun x : {h : HT // h.er = t} => .agg (tc t x.1.vr x.1.vk x.1.vs).toArray) (fun x : {h : HT // h.er = t} => []) (fun x : {h : HT // h.er = t} => [bigR (treeR tys x.1)]) := by
  refine spec_go (args := [.agg (tc t vr_t vk_t vs_t).toArray]) Tryz.func16 Tryz.ntmps16 rfl (by exact Nat.le_of_ble_eq_true rfl) fun B hB => ?_
  refine go_open (t := t) (vr := vr_t) (vk := vk_t) (vs := vs_t) (fun hk1 hn1 hm1 => ?_)
  refine go_openCL (l := (t).r) (a := vr_t) (fun hl2 hA2 hU2 => ?_)
  refine go_openTL (ts := (t).kids) (a := vk_t) (fun VR3 VK3 VS3 hl3 hA3 => ?_)
  refine go_openBL (bs := (t).sys) (a := vs_t) (fun VF4 VK4 hl4 hA4 => ?_)
  refine go_seq ?_
  refine go_region ⟨_, Tryz.func16⟩ rfl ?_
  refine q0 rfl (o_box fun b1 => ?_)
  refine q0 rfl (o_new fun b2 => ?_)
  refine rg_nil ?_
  refine go_seq ?_
  refine go_state (fun w hs => ((hs.perm perm1).settleBox hB)) ?_
  refine go_draw (tn := true) (A := [0, 1, 0, 4, 0, 16, 0, 0, 128, 448, 1023, 0, 4095]) (l := [0, 1, 2, 3, 4, 5, 7, 8, 6, 9, 10, 11]) (fin := [12]) Tab.mixed ⟨_, Tryz.func16⟩ (by rfl) ?_
  refine n0 rfl (v_fa ?_)
  refine n0 rfl (f_ldg ?_)
  refine n0 rfl (v_fa ?_)
  refine n0 rfl (f_ldg ?_)
  refine n0 rfl (v_fa ?_)
  refine n0 rfl (f_ldg ?_)
  refine n0 rfl (v_fa ?_)
  refine n0 rfl (f_ldg ?_)
  refine n0 rfl (v_lit0 fun b14 => ?_)
  refine nv_conv [_] [_] (fun _ _ _ hs => hs.boxRow (sz := 2) (m := 0) rfl (by decide)) ?_
  refine n0 rfl (t_appCL (fun a17 => ?_) (by simp) (a := (some ⟨b14, 0, none⟩, 0)) (n' := 0) (b := vr_t) (ls := ((t).r)))
  refine nv_conv [_] [_] (fun _ _ _ hs => hs.appFlatC (l := []) (m := (t).r)) ?_
  rw [Nat.zero_add ((t).r).length]
  refine n0 rfl (v_build (cs := [.int .i64 ((t).kind), .int .i64 ((t).n), .string ((t).name), sl a17 (((t).r).length), sl (none, 0) (0), sl (none, 0) (0)]) ?_)
  refine n0 rfl (v_new fun b3 => ?_)
  refine NV.done ?_
  refine q0 rfl (o_st ?_)
  refine rg_nil ?_
  refine go_seq ?_
  refine go_seq ?_
  refine go_region ⟨_, Tryz.func16⟩ rfl ?_
  refine q0 rfl (o_assign ?_)
  refine rg_nil ?_
  refine go_block ?_
  refine go_loopE (X := Nat × SH × List HT) (fun s_ => s_.1 ≤ t.kids.length ∧ s_.2.2.map HT.er = t.kids.take s_.1) (fun s_ => [(1, .pointer (some ⟨b1, 0, none⟩)), (2, .pointer (some ⟨b2, 0, none⟩)), (3, .pointer (some ⟨b3, 0, none⟩)), (4, .int .i64 ((s_.1 : Int)))]) (fun s_ G_ => G_) (fun s_ => [bigR (kidsR tys s_.2.2), rowS 6 26 s_.2.1 (s_.1) (tpFlat (s_.2.2.map HT.tp)), boxR b3 [.int .i64 (t.kind), .int .i64 (t.n), .string (t.name), sl a17 (t.r.length), sl s_.2.1 (s_.1), sl (none, 0) (0)] 26, rowS 2 89 a17 (((t).r).length) (clFlat ((t).r)), boxR b2 [.int .i64 (0), .int .i64 (0), .string ((ByteArray.mk #[])), sl (none, 0) (0), sl (none, 0) (0), sl (none, 0) (0)] 26]) (fun s_ => t.kids.length - s_.1) (0, (none, 0), []) (⟨by omega, rfl⟩) (by exact ⟨rfl, rfl, rfl, rfl, trivial⟩) ?_ ?_
  · exact fun w hs => ((hs.rowS0 6 26).bigNil)
  · intro ⟨i, a, ks⟩ base0 ⟨hi, hks⟩ next0
    dsimp only at  hi  hks  next0 ⊢
    refine go_seq ?_
    refine go_seq ?_
    refine go_region ⟨_, Tryz.func16⟩ rfl ?_
    refine q0 rfl (o_move ?_)
    refine q0 rfl (o_fa ?_)
    refine q0 rfl (o_ldg ?_)
    refine q0 rfl (o_len ?_)
    refine q0 rfl (o_lss ?_)
    refine rg_nil ?_
    refine go_condI (fun h23 => ?_) (fun h23 => ?_)
    · have c23 : (decide ((i : Int) < ((t).kids.length : Int))) = true := h23
      try simp only [sC, bne_iff_ne, beq_iff_eq, ne_eq] at c23
      refine go_skip ?_
      refine go_seq ?_
      refine go_block ?_
      refine go_kid (ts := (t).kids) (a := vk_t) (VR := VR3) (VK := VK3) (VS := VS3) i (by omega) ?_
      refine go_draw (tn := false) (A := [0, 1, 0, 4, 0, 28, 60, 124, 252, 511, 1023, 2047]) (l := [0, 1, 2, 3, 4, 5, 6, 7, 8]) (fin := [9, 10, 11]) Tab.mixed ⟨_, Tryz.func16⟩ (by rfl) ?_
      refine n0 rfl (v_fa ?_)
      refine n0 rfl (v_ld ?_)
      refine n0 rfl (v_fa ?_)
      refine n0 rfl (f_ldg ?_)
      refine n0 rfl (v_move ?_)
      obtain ⟨bk5, o5, hav5⟩ := hA3 (by omega)
      refine n0 rfl (v_ixN ?_ (j := i))
      refine n0 rfl (v_ldT ?_)
      refine n0 rfl (v_call Tryz.call16 (ihk _ (getD_mem (show i < t.kids.length by omega)) (VR3 i) (VK3 i) (VS3 i)) (fun x33 => ?_))
      refine n0 rfl (v_lit1 fun b34 => ?_)
      refine NV.done ?_
      refine q0 rfl (o_appS (fun a35 => ?_) (a := a) (n' := i))
      refine rg_state (fun w hs => ((hs.perm perm1).drop).snocT) ?_
      refine q0 rfl (o_fa ?_)
      refine q0 rfl (o_stc ?_)
      refine rg_nil ?_
      refine go_inBlock ?_
      refine go_region ⟨_, Tryz.func16⟩ rfl ?_
      refine q0 rfl (o_move ?_)
      refine q0 rfl (o_add ?_)
      refine q0 rfl (o_assign ?_)
      refine rg_nil ?_
      refine go_state (fun w hs => ?_) (next0 (i + 1, a35, ks ++ [x33.1]) _ (⟨by omega, by rw [List.map_append, hks, take_succ_getD (d := t0) (by omega)]; simp [x33.2]⟩) (by (try simp only); omega) ⟨rfl, rfl, rfl, rfl, trivial⟩)
      have e1 : (ks ++ [x33.1]).map HT.tp = ks.map HT.tp ++ [(t.kids.getD i t0, x33.1.vr, x33.1.vk, x33.1.vs)] := by simp only [List.map_append, List.map_cons, List.map_nil, HT.tp, x33.2]
      rw [e1]; exact (((((((((((((hs.less (by simp +contextual)).perm perm5).perm perm5).perm perm3).perm perm3).perm perm5).perm perm5).joinK).perm perm4).perm perm4).perm perm3).perm perm4).perm perm4)
    · have c23 : (decide ((i : Int) < ((t).kids.length : Int))) = false := h23
      try simp only [sC, bne_iff_ne, beq_iff_eq, ne_eq] at c23
      have hei : i = t.kids.length := by omega
      have hkk : ks.map HT.er = t.kids := by rw [hks, hei, List.take_length]
      refine go_ms (Ms' := [bigR (kidsR tys ks), rowS 6 26 a (t.kids.length) (tpFlat (ks.map HT.tp)), boxR b3 [.int .i64 (t.kind), .int .i64 (t.n), .string (t.name), sl a17 (t.r.length), sl a (t.kids.length), sl (none, 0) (0)] 26, rowS 2 89 a17 (((t).r).length) (clFlat ((t).r)), boxR b2 [.int .i64 (0), .int .i64 (0), .string ((ByteArray.mk #[])), sl (none, 0) (0), sl (none, 0) (0), sl (none, 0) (0)] 26]) (by rw [hei]) ?_
      refine go_exit rfl ?_
      refine go_seq ?_
      refine go_seq ?_
      refine go_region ⟨_, Tryz.func16⟩ rfl ?_
      refine q0 rfl (o_assign ?_)
      refine rg_nil ?_
      refine go_block ?_
      refine go_loopE (X := Nat × SH × List HB) (fun s_ => s_.1 ≤ t.sys.length ∧ s_.2.2.map HB.er = t.sys.take s_.1) (fun s_ => [(1, .pointer (some ⟨b1, 0, none⟩)), (2, .pointer (some ⟨b2, 0, none⟩)), (3, .pointer (some ⟨b3, 0, none⟩)), (5, .int .i64 ((s_.1 : Int)))]) (fun s_ G_ => G_) (fun s_ => [bigR (brsR tys s_.2.2), rowS 2 71 s_.2.1 (s_.1) (bpFlat (s_.2.2.map HB.bp)), bigR (kidsR tys ks), rowS 6 26 a (t.kids.length) (tpFlat (ks.map HT.tp)), boxR b3 [.int .i64 (t.kind), .int .i64 (t.n), .string (t.name), sl a17 (t.r.length), sl a (t.kids.length), sl s_.2.1 (s_.1)] 26, rowS 2 89 a17 (((t).r).length) (clFlat ((t).r)), boxR b2 [.int .i64 (0), .int .i64 (0), .string ((ByteArray.mk #[])), sl (none, 0) (0), sl (none, 0) (0), sl (none, 0) (0)] 26]) (fun s_ => t.sys.length - s_.1) (0, (none, 0), []) (⟨by omega, rfl⟩) (by exact ⟨rfl, rfl, rfl, rfl, trivial⟩) ?_ ?_
      · exact fun w hs => ((hs.rowS0 2 71).bigNil)
      · intro ⟨s, a2, bs⟩ base1 ⟨hs1, hbs⟩ next1
        dsimp only at  hs1  hbs  next1 ⊢
        refine go_seq ?_
        refine go_seq ?_
        refine go_region ⟨_, Tryz.func16⟩ rfl ?_
        refine q0 rfl (o_move ?_)
        refine q0 rfl (o_fa ?_)
        refine q0 rfl (o_ldg ?_)
        refine q0 rfl (o_len ?_)
        refine q0 rfl (o_lss ?_)
        refine rg_nil ?_
        refine go_condI (fun h41 => ?_) (fun h41 => ?_)
        · have c41 : (decide ((s : Int) < ((t).sys.length : Int))) = true := h41
          try simp only [sC, bne_iff_ne, beq_iff_eq, ne_eq] at c41
          refine go_skip ?_
          refine go_seq ?_
          refine go_block ?_
          refine go_seq ?_
          refine go_branch (bs := (t).sys) (a := vs_t) (VF := VF4) (VK := VK4) s (by omega) ?_
          refine go_openCL (l := (((t).sys).getD s br0).face) (a := VF4 s) (fun hl6 hA6 hU6 => ?_)
          refine go_openTL (ts := (((t).sys).getD s br0).kids) (a := VK4 s) (fun VR7 VK7 VS7 hl7 hA7 => ?_)
          refine go_region ⟨_, Tryz.func16⟩ rfl ?_
          refine q0 rfl (o_lit0 fun b44 => ?_)
          refine q0 rfl (o_fa ?_)
          refine q0 rfl (o_ldg ?_)
          refine q0 rfl (o_move ?_)
          obtain ⟨bk8, o8, hav8⟩ := hA4 (by omega)
          refine q0 rfl (o_ixN ?_ (j := s))
          refine q0 rfl (o_fa ?_)
          refine q0 rfl (o_ldBf ?_)
          refine rg_state (fun w hs => hs.boxRow (sz := 2) (m := 0) rfl (by decide)) ?_
          refine q0 rfl (o_appCL (fun a51 => ?_) (by simp) (a := (some ⟨b44, 0, none⟩, 0)) (n' := 0) (b := (VF4 s)) (ls := ((((t).sys).getD s br0).face)))
          refine rg_state (fun w hs => hs.appFlatC (l := []) (m := (((t).sys).getD s br0).face)) ?_
          rw [Nat.zero_add ((((t).sys).getD s br0).face).length]
          refine q0 rfl (o_build (cs := [sl a51 (((((t).sys).getD s br0).face).length), sl (none, 0) (0)]) ?_)
          refine q0 rfl (o_new fun b6 => ?_)
          refine q0 rfl (o_st ?_)
          refine rg_nil ?_
          refine go_seq ?_
          refine go_seq ?_
          refine go_region ⟨_, Tryz.func16⟩ rfl ?_
          refine q0 rfl (o_assign ?_)
          refine rg_nil ?_
          refine go_block ?_
          refine go_loopE (X := Nat × SH × List HT) (fun s_ => s_.1 ≤ (t.sys.getD s br0).kids.length ∧ s_.2.2.map HT.er = (t.sys.getD s br0).kids.take s_.1) (fun s_ => [(1, .pointer (some ⟨b1, 0, none⟩)), (2, .pointer (some ⟨b2, 0, none⟩)), (3, .pointer (some ⟨b3, 0, none⟩)), (5, .int .i64 ((s : Int))), (6, .pointer (some ⟨b6, 0, none⟩)), (7, .int .i64 ((s_.1 : Int)))]) (fun s_ G_ => G_) (fun s_ => [bigR (kidsR tys s_.2.2), rowS 6 26 s_.2.1 (s_.1) (tpFlat (s_.2.2.map HT.tp)), boxR b6 [sl a51 ((t.sys.getD s br0).face.length), sl s_.2.1 (s_.1)] 71, rowS 2 89 a51 (((((t).sys).getD s br0).face).length) (clFlat ((((t).sys).getD s br0).face)), bigR (brsR tys bs), rowS 2 71 a2 (s) (bpFlat (bs.map HB.bp)), bigR (kidsR tys ks), rowS 6 26 a (t.kids.length) (tpFlat (ks.map HT.tp)), boxR b3 [.int .i64 (t.kind), .int .i64 (t.n), .string (t.name), sl a17 (t.r.length), sl a (t.kids.length), sl a2 (s)] 26, rowS 2 89 a17 (((t).r).length) (clFlat ((t).r)), boxR b2 [.int .i64 (0), .int .i64 (0), .string ((ByteArray.mk #[])), sl (none, 0) (0), sl (none, 0) (0), sl (none, 0) (0)] 26]) (fun s_ => (t.sys.getD s br0).kids.length - s_.1) (0, (none, 0), []) (⟨by omega, rfl⟩) (by exact ⟨rfl, rfl, rfl, rfl, rfl, rfl, trivial⟩) ?_ ?_
          · exact fun w hs => ((hs.rowS0 6 26).bigNil)
          · intro ⟨k, a3, ls⟩ base2 ⟨hk1, hls⟩ next2
            dsimp only at  hk1  hls  next2 ⊢
            refine go_seq ?_
            refine go_seq ?_
            refine go_region ⟨_, Tryz.func16⟩ rfl ?_
            refine q0 rfl (o_move ?_)
            refine q0 rfl (o_fa ?_)
            refine q0 rfl (o_ldg ?_)
            refine q0 rfl (o_move ?_)
            refine q0 rfl (o_ixN ?_ (j := s))
            refine q0 rfl (o_fa ?_)
            refine q0 rfl (o_ldBf ?_)
            refine q0 rfl (o_len ?_)
            refine q0 rfl (o_lss ?_)
            refine rg_nil ?_
            refine go_condI (fun h61 => ?_) (fun h61 => ?_)
            · have c61 : (decide ((k : Int) < ((((t).sys).getD s br0).kids.length : Int))) = true := h61
              try simp only [sC, bne_iff_ne, beq_iff_eq, ne_eq] at c61
              refine go_skip ?_
              refine go_seq ?_
              refine go_block ?_
              refine go_kid (ts := (((t).sys).getD s br0).kids) (a := VK4 s) (VR := VR7) (VK := VK7) (VS := VS7) k (by omega) ?_
              refine go_draw (tn := false) (A := [0, 1, 0, 4, 0, 28, 60, 124, 0, 508, 1020, 2044, 4092, 8191, 16383, 32767]) (l := [0, 1, 2, 3, 4, 5, 6, 7, 8, 9, 10, 11, 12]) (fin := [13, 14, 15]) Tab.mixed ⟨_, Tryz.func16⟩ (by rfl) ?_
              refine n0 rfl (v_fa ?_)
              refine n0 rfl (v_ld ?_)
              refine n0 rfl (v_fa ?_)
              refine n0 rfl (f_ldg ?_)
              refine n0 rfl (v_move ?_)
              refine n0 rfl (v_ixN ?_ (j := s))
              refine n0 rfl (v_fa ?_)
              refine n0 rfl (v_ldBf ?_)
              refine n0 rfl (v_move ?_)
              obtain ⟨bk9, o9, hav9⟩ := hA7 (by omega)
              refine n0 rfl (v_ixN ?_ (j := k))
              refine n0 rfl (v_ldT ?_)
              refine n0 rfl (v_call Tryz.call16 (ihs _ (getD_mem (show s < t.sys.length by omega)) _ (getD_mem (show k < (t.sys.getD s br0).kids.length by omega)) (VR7 k) (VK7 k) (VS7 k)) (fun x75 => ?_))
              refine n0 rfl (v_lit1 fun b76 => ?_)
              refine NV.done ?_
              refine q0 rfl (o_appS (fun a77 => ?_) (a := a3) (n' := k))
              refine rg_state (fun w hs => ((hs.perm perm1).drop).snocT) ?_
              refine q0 rfl (o_fa ?_)
              refine q0 rfl (o_stc ?_)
              refine rg_nil ?_
              refine go_inBlock ?_
              refine go_region ⟨_, Tryz.func16⟩ rfl ?_
              refine q0 rfl (o_move ?_)
              refine q0 rfl (o_add ?_)
              refine q0 rfl (o_assign ?_)
              refine rg_nil ?_
              refine go_state (fun w hs => ?_) (next2 (k + 1, a77, ls ++ [x75.1]) _ (⟨by omega, by rw [List.map_append, hls, take_succ_getD (d := t0) (by omega)]; simp [x75.2]⟩) (by (try simp only); omega) ⟨rfl, rfl, rfl, rfl, rfl, rfl, trivial⟩)
              have e1 : (ls ++ [x75.1]).map HT.tp = ls.map HT.tp ++ [((t.sys.getD s br0).kids.getD k t0, x75.1.vr, x75.1.vk, x75.1.vs)] := by simp only [List.map_append, List.map_cons, List.map_nil, HT.tp, x75.2]
              rw [e1]; exact (((((((((((((((((((((((((hs.less (by simp +contextual)).perm perm11).perm perm11).perm perm11).perm perm11).perm perm11).perm perm11).perm perm11).perm perm11).perm perm9).perm perm9).perm perm11).perm perm11).joinK).perm perm10).perm perm10).perm perm10).perm perm10).perm perm10).perm perm10).perm perm10).perm perm10).perm perm9).perm perm10).perm perm10)
            · have c61 : (decide ((k : Int) < ((((t).sys).getD s br0).kids.length : Int))) = false := h61
              try simp only [sC, bne_iff_ne, beq_iff_eq, ne_eq] at c61
              have hek : k = (t.sys.getD s br0).kids.length := by omega
              have hll : ls.map HT.er = (t.sys.getD s br0).kids := by rw [hls, hek, List.take_length]
              refine go_ms (Ms' := [bigR (kidsR tys ls), rowS 6 26 a3 ((t.sys.getD s br0).kids.length) (tpFlat (ls.map HT.tp)), boxR b6 [sl a51 ((t.sys.getD s br0).face.length), sl a3 ((t.sys.getD s br0).kids.length)] 71, rowS 2 89 a51 (((((t).sys).getD s br0).face).length) (clFlat ((((t).sys).getD s br0).face)), bigR (brsR tys bs), rowS 2 71 a2 (s) (bpFlat (bs.map HB.bp)), bigR (kidsR tys ks), rowS 6 26 a (t.kids.length) (tpFlat (ks.map HT.tp)), boxR b3 [.int .i64 (t.kind), .int .i64 (t.n), .string (t.name), sl a17 (t.r.length), sl a (t.kids.length), sl a2 (s)] 26, rowS 2 89 a17 (((t).r).length) (clFlat ((t).r)), boxR b2 [.int .i64 (0), .int .i64 (0), .string ((ByteArray.mk #[])), sl (none, 0) (0), sl (none, 0) (0), sl (none, 0) (0)] 26]) (by rw [hek]) ?_
              refine go_exit rfl ?_
              refine go_region ⟨_, Tryz.func16⟩ rfl ?_
              refine q0 rfl (o_fa ?_)
              refine q0 rfl (o_ld ?_)
              refine q0 rfl (o_lds ?_)
              refine q0 rfl (o_lit1 fun b82 => ?_)
              refine q0 rfl (o_appS (fun a83 => ?_) (a := a2) (n' := s))
              refine rg_state (fun w hs => ((hs.perm perm1).drop).snocB) ?_
              refine q0 rfl (o_fa ?_)
              refine rg_state (fun w hs => hs.perm perm8) ?_
              refine q0 rfl (o_stc ?_)
              refine rg_nil ?_
              refine go_inBlock ?_
              refine go_region ⟨_, Tryz.func16⟩ rfl ?_
              refine q0 rfl (o_move ?_)
              refine q0 rfl (o_add ?_)
              refine q0 rfl (o_assign ?_)
              refine rg_nil ?_
              refine go_state (fun w hs => ?_) (next1 (s + 1, a83, bs ++ [HB.mk (t.sys.getD s br0).face a51 ls a3]) _ (⟨by omega, by rw [List.map_append, hbs, take_succ_getD (d := br0) (by omega)]; simp [HB.er, HT.erL_eq, hll, Br.eta]⟩) (by (try simp only); omega) ⟨rfl, rfl, rfl, rfl, trivial⟩)
              have e1 : (bs ++ [HB.mk (t.sys.getD s br0).face a51 ls a3]).map HB.bp = bs.map HB.bp ++ [(t.sys.getD s br0, a51, a3)] := by simp only [List.map_append, List.map_cons, List.map_nil, HB.bp, HB.er, HB.vf, HB.vk, HT.erL_eq, hll, Br.eta]
              rw [e1]; exact (((((((((((((((((((((hs.less (by simp +contextual)).perm perm10).perm perm10).perm perm10).perm perm10).perm perm8).perm perm6).perm perm6).perm perm10).perm perm8).perm perm9).perm perm10).joinB rfl (by have h9 := congrArg List.length hll; simp only [List.length_map] at h9; omega) rfl rfl).perm perm7).perm perm7).perm perm3).perm perm7).perm perm7).perm perm6).perm perm6).dropR (A := [_, _, _, _, _, _, _]))
        · have c41 : (decide ((s : Int) < ((t).sys.length : Int))) = false := h41
          try simp only [sC, bne_iff_ne, beq_iff_eq, ne_eq] at c41
          have hes : s = t.sys.length := by omega
          have hbb : bs.map HB.er = t.sys := by rw [hbs, hes, List.take_length]
          refine go_ms (Ms' := [bigR (brsR tys bs), rowS 2 71 a2 (t.sys.length) (bpFlat (bs.map HB.bp)), bigR (kidsR tys ks), rowS 6 26 a (t.kids.length) (tpFlat (ks.map HT.tp)), boxR b3 [.int .i64 (t.kind), .int .i64 (t.n), .string (t.name), sl a17 (t.r.length), sl a (t.kids.length), sl a2 (t.sys.length)] 26, rowS 2 89 a17 (((t).r).length) (clFlat ((t).r)), boxR b2 [.int .i64 (0), .int .i64 (0), .string ((ByteArray.mk #[])), sl (none, 0) (0), sl (none, 0) (0), sl (none, 0) (0)] 26]) (by rw [hes]) ?_
          refine go_exit rfl ?_
          refine go_seq ?_
          refine go_region ⟨_, Tryz.func16⟩ rfl ?_
          refine q0 rfl (o_lds ?_)
          refine q0 rfl (o_st ?_)
          refine rg_nil ?_
          have her : (HT.mk t.kind t.n t.name t.r a17 ks a bs a2).er = t := by simp only [HT.er, HT.erL_eq, HT.erB_eq]; rw [hkk, hbb, T.eta]
          have hkl : ks.length = t.kids.length := by rw [← hkk]; simp
          have hbl : bs.length = t.sys.length := by rw [← hbb]; simp
          refine retC Tryz.func16 Tryz.results16 ⟨(HT.mk t.kind t.n t.name t.r a17 ks a bs a2), her⟩ rfl mm_ rfl rfl rfl rfl (fun w hs => ?_)
          exact ((((((((((hs.less (by simp)).perm perm5).perm perm1).perm perm2).perm perm4).perm perm4).perm perm5).perm perm6).joinT (y := tys) (k := t.kind) (n := t.n) (nm := t.name) rfl hkl.symm hbl.symm rfl rfl rfl).dropR (A := [_]))
theorem rcopyO : ∀ t : T, RcopyO t := T.ind' fun t ihk ihs vr vk vs => rcopyO_walk t vr vk vs ihk ihs
end Go.Hy
namespace Go.Hy
set_option linter.unusedVariables false
set_option linter.unusedSimpArgs false
set_option linter.unusedSectionVars false
open Go.Proofs
set_option linter.unusedVariables false
set_option linter.unusedSimpArgs false
set_option maxRecDepth 100000
abbrev BulkAt (t : T) : Prop := ∀ (most : Int) vr vk vs, 0 ≤ most → most ≤ 1000000 → Spec Tryz.prog 30 #[.agg (tc t vr vk vs).toArray, .int .i64 most] [RT t vr vk vs] [] (fun x : {x : Int // BulkIs t (bulk t) most x} => .int .i64 x.1) (fun _ => []) (fun _ => [])
theorem bulk_walk (t : T) (ih : ∀ p, p ∈ parts t → BulkAt p.1) (most : Int) (vr vk vs : SH) (h0 : 0 ≤ most) (hm : most ≤ 1000000) : Spec Tryz.prog 30 #[.agg (tc t vr vk vs).toArray, .int .i64 most] [RT t vr vk vs] [] (fun x : {x : Int // BulkIs t (bulk t) most x} => .int .i64 x.1) (fun _ => []) (fun _ => []) := by
  refine spec_go (args := [.agg (tc t vr vk vs).toArray, .int .i64 most]) Tryz.func30 Tryz.ntmps30 rfl (by exact Nat.le_of_ble_eq_true rfl) fun B hB => ?_
  refine go_open (fun hk hn hnm => ?_)
  refine go_openCL (l := t.r) (a := vr) (fun hlr hAr hUr => ?_)
  refine go_openTL (ts := t.kids) (fun VR VK VS hl1 hA1 => ?_)
  refine go_openBL (bs := t.sys) (fun VF VK2 hl2 hA2 => ?_)
  refine go_seq ?_
  refine go_region ⟨_, Tryz.func30⟩ rfl ?_
  refine q0 rfl (o_box fun b2 => ?_)
  refine q0 rfl (o_assign ?_)
  refine rg_nil ?_
  refine go_seq ?_
  refine go_seq ?_
  refine go_cutS ([(1, .int .i64 most), (2, .pointer (some ⟨b2, 0, none⟩)), (20, .bool (decide (most < (t.r.length : Int)) || decide (most < (t.name.size : Int))))]) (fun hK => ?_) (fun base => ?_)
  · refine go_region ⟨_, Tryz.func30⟩ rfl ?_
    refine q0 rfl (o_fa ?_)
    refine q0 rfl (o_ld ?_)
    refine q0 rfl (o_len ?_)
    refine q0 rfl (o_move ?_)
    refine q0 rfl (o_gtr ?_)
    refine q0 rfl (o_move ?_)
    refine qI rfl rfl rfl wl_ (fun hg14 => o_fa ?_) (fun hg14 => ?_)
    · refine qT rfl rfl rfl (o_ld ?_)
      refine qT rfl rfl rfl (o_lenStr ?_)
      refine qT rfl rfl rfl (o_move ?_)
      refine qT rfl rfl rfl (o_gtr ?_)
      refine q0 rfl (o_pickF ?_)
      refine rg_nil ?_
      exact hK _ ⟨rfl, rfl, (by (conv => lhs; whnf); first | (simp_all [Bool.and_assoc]; done) | (simp_all [Bool.and_assoc]; omega)), trivial⟩
    · refine qF rfl rfl rfl ?_
      refine qF rfl rfl rfl ?_
      refine qF rfl rfl rfl ?_
      refine qF rfl rfl rfl ?_
      refine q0 rfl (o_pickT ?_)
      refine rg_nil ?_
      exact hK _ ⟨rfl, rfl, (by (conv => lhs; whnf); first | (simp_all [Bool.and_assoc]; done) | (simp_all [Bool.and_assoc]; omega)), trivial⟩
  · refine go_condI (fun h20 => ?_) (fun h20 => ?_)
    · have hb : most < (t.r.length : Int) ∨ most < (t.name.size : Int) := by simpa using h20
      refine go_seq ?_
      refine go_region ⟨_, Tryz.func30⟩ rfl ?_
      refine q0 rfl (o_move ?_)
      refine q0 rfl (o_add ?_)
      refine q0 rfl (o_assign ?_)
      refine rg_nil ?_
      refine ret1 Tryz.func30 Tryz.results30 wn_ ⟨most + 1, by unfold BulkIs; have h9 := bK_le t 0; rw [bK_zero] at h9; omega⟩ rfl (fun w hs => hs.none)
    · have hb : (t.r.length : Int) ≤ most ∧ (t.name.size : Int) ≤ most := by simpa using h20
      have hge1 := bK_le t 0
      rw [bK_zero] at hge1
      refine go_skip ?_
      refine go_seq ?_
      refine go_region ⟨_, Tryz.func30⟩ rfl ?_
      refine q0 rfl (o_fa ?_)
      refine q0 rfl (o_ld ?_)
      refine q0 rfl (o_len ?_)
      refine q0 rfl (o_add ?_)
      refine q0 rfl (o_fa ?_)
      refine q0 rfl (o_ld ?_)
      refine q0 rfl (o_lenStr ?_)
      refine q0 rfl (o_add ?_)
      refine q0 rfl (o_assign ?_)
      refine rg_nil ?_
      refine go_seq ?_
      refine go_seq ?_
      refine go_region ⟨_, Tryz.func30⟩ rfl ?_
      refine q0 rfl (o_assign ?_)
      refine rg_nil ?_
      refine go_block ?_
      refine go_loopI (X := Nat × Int) (fun s => s.1 ≤ t.kids.length ∧ BulkIs t (bK t s.1) most s.2) (fun s => [(1, .int .i64 most), (2, .pointer (some ⟨b2, 0, none⟩)), (5, .int .i64 s.2), (6, .int .i64 (s.1 : Int))]) (fun s => [TLx t.kids vk VR VK VS, BLx t.sys vs VF VK2]) (fun s => [boxR b2 (tc t vr vk vs) 26]) (fun s => t.kids.length - s.1) ((0, 1 + (t.r.length : Int) + (t.name.size : Int))) (⟨Nat.zero_le _, by unfold BulkIs; rw [bK_zero]; simp only; omega⟩) (by exact ⟨rfl, rfl, rfl, rfl, trivial⟩) ?_ ?_
      · exact fun w hs => hs.less (by simp +contextual)
      · intro ⟨i, n⟩ base0 ⟨hi, hn0⟩ next0
        dsimp only at hi hn0 next0 ⊢
        refine go_seq ?_
        refine go_seq ?_
        refine go_cutS ([(1, .int .i64 most), (2, .pointer (some ⟨b2, 0, none⟩)), (5, .int .i64 n), (6, .int .i64 (i : Int)), (40, .bool (decide ((i : Int) < (t.kids.length : Int)) && decide (n ≤ most)))]) (fun hK => ?_) (fun base => ?_)
        · refine go_region ⟨_, Tryz.func30⟩ rfl ?_
          refine q0 rfl (o_move ?_)
          refine q0 rfl (o_fa ?_)
          refine q0 rfl (o_ld ?_)
          refine q0 rfl (o_len ?_)
          refine q0 rfl (o_lss ?_)
          refine q0 rfl (o_move ?_)
          refine qI rfl rfl rfl wl_ (fun hg36 => o_move ?_) (fun hg36 => ?_)
          · refine qT rfl rfl rfl (o_move ?_)
            refine qT rfl rfl rfl (o_leq ?_)
            refine q0 rfl (o_pickT ?_)
            refine rg_nil ?_
            exact hK _ ⟨rfl, rfl, rfl, rfl, (by (conv => lhs; whnf); first | (simp_all [Bool.and_assoc]; done) | (simp_all [Bool.and_assoc]; omega)), trivial⟩
          · refine qF rfl rfl rfl ?_
            refine qF rfl rfl rfl ?_
            refine q0 rfl (o_pickF ?_)
            refine rg_nil ?_
            exact hK _ ⟨rfl, rfl, rfl, rfl, (by (conv => lhs; whnf); first | (simp_all [Bool.and_assoc]; done) | (simp_all [Bool.and_assoc]; omega)), trivial⟩
        · refine go_condI (fun h40 => ?_) (fun h40 => ?_)
          · have hlt' : (i : Int) < (t.kids.length : Int) ∧ n ≤ most := by simpa using h40
            have hlt : i < t.kids.length := by omega
            obtain ⟨bk, o, hav⟩ := hA1 (by omega)
            refine go_kid (ts := t.kids) (a := vk) i hlt ?_
            obtain ⟨hz1, hz2, hz3⟩ := hn0
            refine go_skip ?_
            refine go_seq ?_
            refine go_block ?_
            refine go_region ⟨_, Tryz.func30⟩ rfl ?_
            refine q0 rfl (o_move ?_)
            refine q0 rfl (o_fa ?_)
            refine q0 rfl (o_ld ?_)
            refine q0 rfl (o_move ?_)
            refine q0 rfl (o_ixN ?_)
            refine q0 rfl (o_ldT ?_)
            refine q0 rfl (o_move ?_)
            refine q0 rfl (o_move ?_)
            refine q0 rfl (o_sub ?_)
            refine q0 rfl (o_call Tryz.call30 (ih (t.kids.getD i t0, _, _) (parts_mem (parts_kid t i hlt)) (most - n) _ _ _ (by omega) (by omega)) (fun x52 => ?_))
            have hx := x52.2
            unfold BulkIs at hx
            refine q0 rfl (o_add ?_)
            refine q0 rfl (o_assign ?_)
            refine rg_nil ?_
            refine go_inBlock ?_
            refine go_region ⟨_, Tryz.func30⟩ rfl ?_
            refine q0 rfl (o_move ?_)
            refine q0 rfl (o_add ?_)
            refine q0 rfl (o_assign ?_)
            refine rg_nil ?_
            have hnn : BulkIs t (bK t (i + 1)) most (n + x52.1) := by (have h9 := bK_le t (i + 1); rw [bK_succ hlt] at h9 ⊢; unfold BulkIs; simp only at hx; omega)
            refine go_state (fun w hs => ?_) (next0 (i + 1, n + x52.1) _ ⟨hlt, hnn⟩ (by simp only; omega) ⟨rfl, rfl, rfl, rfl, trivial⟩)
            exact (hs.less (by simp +contextual))
          · have hge : ¬ ((i : Int) < (t.kids.length : Int) ∧ n ≤ most) := by simpa using h40
            have hnS : BulkIs t (bS t 0) most n := by (unfold BulkIs at hn0 ⊢; rw [bS_zero]; have h9 := bK_le t t.kids.length; rcases Nat.lt_or_ge i t.kids.length with h | h; omega; rw [show i = t.kids.length by omega] at hn0; exact hn0)
            refine go_exit rfl ?_
            refine go_seq ?_
            refine go_seq ?_
            refine go_region ⟨_, Tryz.func30⟩ rfl ?_
            refine q0 rfl (o_assign ?_)
            refine rg_nil ?_
            refine go_block ?_
            refine go_loopI (X := Nat × Int) (fun s => s.1 ≤ t.sys.length ∧ BulkIs t (bS t s.1) most s.2) (fun s => [(1, .int .i64 most), (2, .pointer (some ⟨b2, 0, none⟩)), (5, .int .i64 s.2), (7, .int .i64 (s.1 : Int))]) (fun s => [TLx t.kids vk VR VK VS, BLx t.sys vs VF VK2]) (fun s => [boxR b2 (tc t vr vk vs) 26]) (fun s => t.sys.length - s.1) ((0, n)) (⟨Nat.zero_le _, hnS⟩) (by exact ⟨rfl, rfl, rfl, rfl, trivial⟩) ?_ ?_
            · exact fun w hs => hs.less (by simp +contextual)
            · intro ⟨i2, n⟩ base1 ⟨hi2, hn2⟩ next1
              dsimp only at hi2 hn2 next1 ⊢
              refine go_seq ?_
              refine go_seq ?_
              refine go_cutS ([(1, .int .i64 most), (2, .pointer (some ⟨b2, 0, none⟩)), (5, .int .i64 n), (7, .int .i64 (i2 : Int)), (63, .bool (decide ((i2 : Int) < (t.sys.length : Int)) && decide (n ≤ most)))]) (fun hK => ?_) (fun base => ?_)
              · refine go_region ⟨_, Tryz.func30⟩ rfl ?_
                refine q0 rfl (o_move ?_)
                refine q0 rfl (o_fa ?_)
                refine q0 rfl (o_ld ?_)
                refine q0 rfl (o_len ?_)
                refine q0 rfl (o_lss ?_)
                refine q0 rfl (o_move ?_)
                refine qI rfl rfl rfl wl_ (fun hg59 => o_move ?_) (fun hg59 => ?_)
                · refine qT rfl rfl rfl (o_move ?_)
                  refine qT rfl rfl rfl (o_leq ?_)
                  refine q0 rfl (o_pickT ?_)
                  refine rg_nil ?_
                  exact hK _ ⟨rfl, rfl, rfl, rfl, (by (conv => lhs; whnf); first | (simp_all [Bool.and_assoc]; done) | (simp_all [Bool.and_assoc]; omega)), trivial⟩
                · refine qF rfl rfl rfl ?_
                  refine qF rfl rfl rfl ?_
                  refine q0 rfl (o_pickF ?_)
                  refine rg_nil ?_
                  exact hK _ ⟨rfl, rfl, rfl, rfl, (by (conv => lhs; whnf); first | (simp_all [Bool.and_assoc]; done) | (simp_all [Bool.and_assoc]; omega)), trivial⟩
              · refine go_condI (fun h63 => ?_) (fun h63 => ?_)
                · have hlt' : (i2 : Int) < (t.sys.length : Int) ∧ n ≤ most := by simpa using h63
                  have hlt2 : i2 < t.sys.length := by omega
                  obtain ⟨bk2, o2, hav2⟩ := hA2 (by omega)
                  refine go_branch (bs := t.sys) (a := vs) i2 hlt2 ?_
                  refine go_openCL (l := (t.sys.getD i2 br0).face) (a := VF i2) (fun hlf hAf hUf => ?_)
                  refine go_openTL (ts := (t.sys.getD i2 br0).kids) (a := VK2 i2) (fun VR3 VK3 VS3 hl3 hA3 => ?_)
                  obtain ⟨hz1, hz2, hz3⟩ := hn2
                  have hj0 := bJ_le (j := 0) hlt2
                  rw [bJ_zero] at hj0
                  refine go_skip ?_
                  refine go_seq ?_
                  refine go_block ?_
                  refine go_seq ?_
                  refine go_seq ?_
                  refine go_region ⟨_, Tryz.func30⟩ rfl ?_
                  refine q0 rfl (o_fa ?_)
                  refine q0 rfl (o_ld ?_)
                  refine q0 rfl (o_move ?_)
                  refine q0 rfl (o_ixN ?_)
                  refine q0 rfl (o_fa ?_)
                  refine q0 rfl (o_ldBf ?_)
                  refine q0 rfl (o_len ?_)
                  refine q0 rfl (o_move ?_)
                  refine q0 rfl (o_gtr ?_)
                  refine rg_nil ?_
                  refine go_condI (fun h74 => ?_) (fun h74 => ?_)
                  · have hbf := of_decide_eq_true h74
                    refine go_seq ?_
                    refine go_region ⟨_, Tryz.func30⟩ rfl ?_
                    refine q0 rfl (o_move ?_)
                    refine q0 rfl (o_add ?_)
                    refine q0 rfl (o_assign ?_)
                    refine rg_nil ?_
                    refine ret1 Tryz.func30 Tryz.results30 wn_ ⟨most + 1, by unfold BulkIs; omega⟩ rfl (fun w hs => hs.none)
                  · have hbf := of_decide_eq_false h74
                    refine go_skip ?_
                    refine go_seq ?_
                    refine go_region ⟨_, Tryz.func30⟩ rfl ?_
                    refine q0 rfl (o_move ?_)
                    refine q0 rfl (o_add ?_)
                    refine q0 rfl (o_fa ?_)
                    refine q0 rfl (o_ld ?_)
                    refine q0 rfl (o_move ?_)
                    refine q0 rfl (o_ixN ?_)
                    refine q0 rfl (o_fa ?_)
                    refine q0 rfl (o_ldBf ?_)
                    refine q0 rfl (o_len ?_)
                    refine q0 rfl (o_add ?_)
                    refine q0 rfl (o_assign ?_)
                    refine rg_nil ?_
                    refine go_seq ?_
                    refine go_region ⟨_, Tryz.func30⟩ rfl ?_
                    refine q0 rfl (o_assign ?_)
                    refine rg_nil ?_
                    refine go_block ?_
                    refine go_loopI (X := Nat × Int) (fun s => s.1 ≤ (t.sys.getD i2 br0).kids.length ∧ BulkIs t (bJ t i2 s.1) most s.2) (fun s => [(1, .int .i64 most), (2, .pointer (some ⟨b2, 0, none⟩)), (5, .int .i64 s.2), (7, .int .i64 (i2 : Int)), (8, .int .i64 (s.1 : Int))]) (fun s => TLx (t.sys.getD i2 br0).kids (VK2 i2) VR3 VK3 VS3 :: [TLx t.kids vk VR VK VS, BLx t.sys vs VF VK2]) (fun s => [boxR b2 (tc t vr vk vs) 26]) (fun s => (t.sys.getD i2 br0).kids.length - s.1) ((0, n + 1 + ((t.sys.getD i2 br0).face.length : Int))) (⟨Nat.zero_le _, by (unfold BulkIs; rw [bJ_zero]; simp only; omega)⟩) (by exact ⟨rfl, rfl, rfl, rfl, rfl, trivial⟩) ?_ ?_
                    · exact fun w hs => hs.less (by simp +contextual)
                    · intro ⟨j, n⟩ base2 ⟨hj, hn3⟩ next2
                      dsimp only at hj hn3 next2 ⊢
                      refine go_seq ?_
                      refine go_seq ?_
                      refine go_cutS ([(1, .int .i64 most), (2, .pointer (some ⟨b2, 0, none⟩)), (5, .int .i64 n), (7, .int .i64 (i2 : Int)), (8, .int .i64 (j : Int)), (100, .bool (decide ((j : Int) < ((t.sys.getD i2 br0).kids.length : Int)) && decide (n ≤ most)))]) (fun hK => ?_) (fun base => ?_)
                      · refine go_region ⟨_, Tryz.func30⟩ rfl ?_
                        refine q0 rfl (o_move ?_)
                        refine q0 rfl (o_fa ?_)
                        refine q0 rfl (o_ld ?_)
                        refine q0 rfl (o_move ?_)
                        refine q0 rfl (o_ixN ?_)
                        refine q0 rfl (o_fa ?_)
                        refine q0 rfl (o_ldBf ?_)
                        refine q0 rfl (o_len ?_)
                        refine q0 rfl (o_lss ?_)
                        refine q0 rfl (o_move ?_)
                        refine qI rfl rfl rfl wl_ (fun hg96 => o_move ?_) (fun hg96 => ?_)
                        · refine qT rfl rfl rfl (o_move ?_)
                          refine qT rfl rfl rfl (o_leq ?_)
                          refine q0 rfl (o_pickT ?_)
                          refine rg_nil ?_
                          exact hK _ ⟨rfl, rfl, rfl, rfl, rfl, (by (conv => lhs; whnf); first | (simp_all [Bool.and_assoc]; done) | (simp_all [Bool.and_assoc]; omega)), trivial⟩
                        · refine qF rfl rfl rfl ?_
                          refine qF rfl rfl rfl ?_
                          refine q0 rfl (o_pickF ?_)
                          refine rg_nil ?_
                          exact hK _ ⟨rfl, rfl, rfl, rfl, rfl, (by (conv => lhs; whnf); first | (simp_all [Bool.and_assoc]; done) | (simp_all [Bool.and_assoc]; omega)), trivial⟩
                      · refine go_condI (fun h100 => ?_) (fun h100 => ?_)
                        · have hlt3' : (j : Int) < ((t.sys.getD i2 br0).kids.length : Int) ∧ n ≤ most := by simpa using h100
                          have hlt3 : j < (t.sys.getD i2 br0).kids.length := by omega
                          obtain ⟨bk3, o3, hav3⟩ := hA3 (by omega)
                          refine go_kid (ts := (t.sys.getD i2 br0).kids) (a := VK2 i2) j hlt3 ?_
                          obtain ⟨hy1, hy2, hy3⟩ := hn3
                          refine go_skip ?_
                          refine go_seq ?_
                          refine go_block ?_
                          refine go_region ⟨_, Tryz.func30⟩ rfl ?_
                          refine q0 rfl (o_move ?_)
                          refine q0 rfl (o_fa ?_)
                          refine q0 rfl (o_ld ?_)
                          refine q0 rfl (o_move ?_)
                          refine q0 rfl (o_ixN ?_)
                          refine q0 rfl (o_fa ?_)
                          refine q0 rfl (o_ldBf ?_)
                          refine q0 rfl (o_move ?_)
                          refine q0 rfl (o_ixN ?_)
                          refine q0 rfl (o_ldT ?_)
                          refine q0 rfl (o_move ?_)
                          refine q0 rfl (o_move ?_)
                          refine q0 rfl (o_sub ?_)
                          refine q0 rfl (o_call Tryz.call30 (ih ((t.sys.getD i2 br0).kids.getD j t0, _, _) (parts_mem (parts_sys t i2 j hlt2 hlt3)) (most - n) _ _ _ (by omega) (by omega)) (fun x116 => ?_))
                          have hx := x116.2
                          unfold BulkIs at hx
                          refine q0 rfl (o_add ?_)
                          refine q0 rfl (o_assign ?_)
                          refine rg_nil ?_
                          refine go_inBlock ?_
                          refine go_region ⟨_, Tryz.func30⟩ rfl ?_
                          refine q0 rfl (o_move ?_)
                          refine q0 rfl (o_add ?_)
                          refine q0 rfl (o_assign ?_)
                          refine rg_nil ?_
                          have hnn : BulkIs t (bJ t i2 (j + 1)) most (n + x116.1) := by (have h9 := bJ_le (j := j + 1) hlt2; rw [bJ_succ hlt3] at h9 ⊢; unfold BulkIs; simp only at hx; omega)
                          refine go_state (fun w hs => ?_) (next2 (j + 1, n + x116.1) _ ⟨hlt3, hnn⟩ (by simp only; omega) ⟨rfl, rfl, rfl, rfl, rfl, trivial⟩)
                          exact (hs.less (by simp +contextual))
                        · have hge3 : ¬ ((j : Int) < ((t.sys.getD i2 br0).kids.length : Int) ∧ n ≤ most) := by simpa using h100
                          have hnS2 : BulkIs t (bS t (i2 + 1)) most n := by (unfold BulkIs at hn3 ⊢; rw [bS_succ hlt2]; have h9 := bS_le t (i2 + 1); rw [bS_succ hlt2] at h9; rcases Nat.lt_or_ge j (t.sys.getD i2 br0).kids.length with h | h; omega; rw [show j = (t.sys.getD i2 br0).kids.length by omega] at hn3; exact hn3)
                          refine go_exit rfl ?_
                          refine go_inBlock ?_
                          refine go_region ⟨_, Tryz.func30⟩ rfl ?_
                          refine q0 rfl (o_move ?_)
                          refine q0 rfl (o_add ?_)
                          refine q0 rfl (o_assign ?_)
                          refine rg_nil ?_
                          refine go_state (fun w hs => ?_) (next1 (i2 + 1, n) _ ⟨hlt2, hnS2⟩ (by simp only; omega) ⟨rfl, rfl, rfl, rfl, trivial⟩)
                          exact (hs.less (by simp +contextual))
                · have hge2 : ¬ ((i2 : Int) < (t.sys.length : Int) ∧ n ≤ most) := by simpa using h63
                  have hfin : BulkIs t (bulk t) most n := by (unfold BulkIs at hn2 ⊢; rcases Nat.lt_or_ge i2 t.sys.length with h | h; omega; rw [show i2 = t.sys.length by omega, bS_all] at hn2; exact hn2)
                  refine go_exit rfl ?_
                  refine go_seq ?_
                  refine go_region ⟨_, Tryz.func30⟩ rfl ?_
                  refine q0 rfl (o_move ?_)
                  refine q0 rfl (o_assign ?_)
                  refine rg_nil ?_
                  refine ret1 Tryz.func30 Tryz.results30 wn_ ⟨n, hfin⟩ rfl (fun w hs => hs.none)
theorem bulk_spec : ∀ t : T, BulkAt t := T.ind fun t ih most vr vk vs h0 hm => bulk_walk t ih most vr vk vs h0 hm
end Go.Hy
namespace Go.Hy
set_option linter.unusedVariables false
set_option linter.unusedSimpArgs false
set_option linter.unusedSectionVars false
open Go.Proofs
set_option linter.unusedVariables false
set_option linter.unusedSimpArgs false
set_option maxRecDepth 100000
theorem dimension_spec (i : Int) : Spec Tryz.prog 74 #[.int .i64 i] [] [] (fun _ : Unit => .bool (decide (0 ≤ i) && decide (i < 24))) (fun _ => []) (fun _ => []) := by
  refine spec_go (args := [.int .i64 i]) Tryz.func74 Tryz.ntmps74 rfl (by exact Nat.le_of_ble_eq_true rfl) fun B hB => ?_
  refine go_seq ?_
  refine go_region ⟨_, Tryz.func74⟩ rfl ?_
  refine q0 rfl (o_assign ?_)
  refine rg_nil ?_
  refine go_seq ?_
  refine go_region ⟨_, Tryz.func74⟩ rfl ?_
  refine q0 rfl (o_move ?_)
  refine q0 rfl (o_geq ?_)
  refine q0 rfl (o_move ?_)
  refine qI rfl rfl rfl wl_ (fun hg5 => o_move ?_) (fun hg5 => ?_)
  · refine qT rfl rfl rfl (o_lss ?_)
    refine q0 rfl (o_pickT ?_)
    refine q0 rfl (o_assign ?_)
    refine rg_nil ?_
    refine ret1 Tryz.func74 Tryz.results74 wn_ () (by first | (simp_all; done) | (simp_all; omega)) (fun w hs => hs.none)
  · refine qF rfl rfl rfl ?_
    refine q0 rfl (o_pickF ?_)
    refine q0 rfl (o_assign ?_)
    refine rg_nil ?_
    refine ret1 Tryz.func74 Tryz.results74 wn_ () (by first | (simp_all; done) | (simp_all; omega)) (fun w hs => hs.none)
theorem maskRight_spec (s : Nat) (hs : s < 4294967296) : Spec Tryz.prog 113 #[.int .u32 (s : Int)] [] [] (fun _ : Unit => .bool (decide (s < 16777216))) (fun _ => []) (fun _ => []) := by
  refine spec_go (args := [.int .u32 (s : Int)]) Tryz.func113 Tryz.ntmps113 rfl (by exact Nat.le_of_ble_eq_true rfl) fun B hB => ?_
  refine go_seq ?_
  refine go_region ⟨_, Tryz.func113⟩ rfl ?_
  refine q0 rfl (o_assign ?_)
  refine rg_nil ?_
  refine go_seq ?_
  refine go_region ⟨_, Tryz.func113⟩ rfl ?_
  refine q0 rfl (o_move ?_)
  refine q0 rfl (o_andNotU32 ?_ (b := 16777215))
  refine q0 rfl (o_eqI ?_ (b := 0))
  refine q0 rfl (o_assign ?_)
  refine rg_nil ?_
  refine ret1 Tryz.func113 Tryz.results113 wn_ () (by rw [andNot_zero hs]) (fun w hs => hs.none)
theorem withoutNone_spec (s : Nat) (hs : s < 4294967296) : Spec Tryz.prog 73 #[.int .u32 (s : Int), .int .i64 (-1)] [] [] (fun _ : Unit => .int .u32 ((s &&& 16777215 : Nat) : Int)) (fun _ => []) (fun _ => []) := by
  refine spec_go (args := [.int .u32 (s : Int), .int .i64 (-1)]) Tryz.func73 Tryz.ntmps73 rfl (by exact Nat.le_of_ble_eq_true rfl) fun B hB => ?_
  refine go_seq ?_
  refine go_region ⟨_, Tryz.func73⟩ rfl ?_
  refine q0 rfl (o_assign ?_)
  refine rg_nil ?_
  refine go_seq ?_
  refine go_region ⟨_, Tryz.func73⟩ rfl ?_
  refine q0 rfl (o_move ?_)
  refine q0 rfl (o_andU32 ?_ (b := 16777215))
  refine q0 rfl (o_assign ?_)
  refine rg_nil ?_
  refine go_seq ?_
  refine go_seq ?_
  refine go_region ⟨_, Tryz.func73⟩ rfl ?_
  refine q0 rfl (o_move ?_)
  refine q0 rfl (o_call Tryz.call74 (dimension_spec (-1)) (fun x8 => ?_))
  refine q0 rfl (o_not ?_)
  refine rg_nil ?_
  refine go_condI (fun h9 => ?_) (fun h9 => ?_)
  · refine go_seq ?_
    refine go_region ⟨_, Tryz.func73⟩ rfl ?_
    refine q0 rfl (o_move ?_)
    refine q0 rfl (o_assign ?_)
    refine rg_nil ?_
    refine ret1 Tryz.func73 Tryz.results73 wn_ () rfl (fun w hs => hs.none)
  · exact absurd h9 (by decide)
theorem fDims_spec : FDims := by
  intro l a
  refine spec_go (args := [sl a l.length]) Tryz.func40 Tryz.ntmps40 rfl (by exact Nat.le_of_ble_eq_true rfl) fun B hB => ?_
  refine go_openCL (l := l) (a := a) (fun hl1 hA1 hU1 => ?_)
  refine go_seq ?_
  refine go_region ⟨_, Tryz.func40⟩ rfl ?_
  refine q0 rfl (o_assign ?_)
  refine rg_nil ?_
  refine go_seq ?_
  refine go_region ⟨_, Tryz.func40⟩ rfl ?_
  refine q0 rfl (o_assign ?_)
  refine rg_nil ?_
  refine go_seq ?_
  refine go_seq ?_
  refine go_region ⟨_, Tryz.func40⟩ rfl ?_
  refine q0 rfl (o_move ?_)
  refine q0 rfl (o_len ?_)
  refine q0 rfl (o_move ?_)
  refine rg_nil ?_
  refine go_block ?_
  refine go_loopI (X := Nat) (fun i => i ≤ l.length) (fun i => [(3, .int .u32 (orUpto l i : Int)), (6, sl a l.length), (7, .int .i64 (l.length : Int)), (8, .int .i64 (i : Int))]) (fun i => [CL l a]) (fun i => []) (fun i => l.length - i) (0) (Nat.zero_le _) (by exact ⟨rfl, rfl, rfl, rfl, trivial⟩) ?_ ?_
  · exact fun w hs => hs.less (by simp)
  · intro i base0 hi next0
    refine go_seq ?_
    refine go_region ⟨_, Tryz.func40⟩ rfl ?_
    refine q0 rfl (o_lss ?_)
    refine rg_nil ?_
    refine go_seq ?_
    refine go_condI (fun h9 => ?_) (fun h9 => ?_)
    · have hlt : i < l.length := by have := of_decide_eq_true h9; omega
      obtain ⟨bk, o, hav⟩ := hA1 (by omega)
      have hu := hU1 _ (getD_mem (d := cl0) hlt)
      have hup := orUpto_lt hU1 i
      have hor : (l.getD i cl0).pos ||| (l.getD i cl0).neg < 4294967296 := Nat.or_lt_two_pow (n := 32) hu.1 hu.2
      refine go_skip ?_
      refine go_seq ?_
      refine go_block ?_
      refine go_seq ?_
      refine go_region ⟨_, Tryz.func40⟩ rfl ?_
      refine q0 rfl (o_ixN ?_)
      refine q0 rfl (o_ldC ?_)
      refine q0 rfl (o_new fun b5 => ?_)
      refine q0 rfl (o_st ?_)
      refine rg_nil ?_
      refine go_region ⟨_, Tryz.func40⟩ rfl ?_
      refine q0 rfl (o_move ?_)
      refine q0 rfl (o_fa ?_)
      refine q0 rfl (o_ld ?_)
      refine q0 rfl (o_fa ?_)
      refine q0 rfl (o_ld ?_)
      refine q0 rfl (o_orU32 ?_ (a := (l.getD i cl0).pos) (b := (l.getD i cl0).neg) (ha := hu.1) (hb := hu.2))
      refine q0 rfl (o_orU32 ?_ (a := orUpto l i) (b := (l.getD i cl0).pos ||| (l.getD i cl0).neg))
      refine q0 rfl (o_assign ?_)
      refine rg_nil ?_
      refine go_inBlock ?_
      refine go_region ⟨_, Tryz.func40⟩ rfl ?_
      refine q0 rfl (o_add ?_)
      refine q0 rfl (o_move ?_)
      refine rg_nil ?_
      refine go_state (fun w hs => ?_) (next0 (i + 1) _ hlt (by omega) ⟨by rw [orUpto_succ hlt]; rfl, rfl, rfl, rfl, trivial⟩)
      exact (hs.less (by simp)).bare
    · have hge : i = l.length := by have := of_decide_eq_false h9; omega
      refine go_exit rfl ?_
      refine go_seq ?_
      refine go_region ⟨_, Tryz.func40⟩ rfl ?_
      refine q0 rfl (o_move ?_)
      refine q0 rfl (o_call Tryz.call73 (withoutNone_spec (orUpto l i) (orUpto_lt hU1 i)) (fun x21 => ?_))
      refine q0 rfl (o_assign ?_)
      refine rg_nil ?_
      refine ret1 Tryz.func40 Tryz.results40 wn_ () (by rw [fDims_eq, ← hge]) (fun w hs => hs.none)
theorem clauseRight_spec (c : Cl) (hc : u32 c) : Spec Tryz.prog 106 #[.agg (clCells c).toArray] [] [] (fun _ : Unit => .bool (right24 c)) (fun _ => []) (fun _ => []) := by
  refine spec_go (args := [.agg (clCells c).toArray]) Tryz.func106 Tryz.ntmps106 rfl (by exact Nat.le_of_ble_eq_true rfl) fun B hB => ?_
  refine go_seq ?_
  refine go_region ⟨_, Tryz.func106⟩ rfl ?_
  refine q0 rfl (o_box fun b1 => ?_)
  refine q0 rfl (o_assign ?_)
  refine rg_nil ?_
  refine go_seq ?_
  refine go_region ⟨_, Tryz.func106⟩ rfl ?_
  refine q0 rfl (o_fa ?_)
  refine q0 rfl (o_ld ?_)
  refine q0 rfl (o_call Tryz.call113 (maskRight_spec c.pos hc.1) (fun x5 => ?_))
  refine q0 rfl (o_move ?_)
  refine qI rfl rfl rfl wl_ (fun hg6 => o_fa ?_) (fun hg6 => ?_)
  · refine qT rfl rfl rfl (o_ld ?_)
    refine qT rfl rfl rfl (o_call Tryz.call113 (maskRight_spec c.neg hc.2) (fun x9 => ?_))
    refine q0 rfl (o_pickT ?_)
    refine q0 rfl (o_assign ?_)
    refine rg_nil ?_
    refine ret1 Tryz.func106 Tryz.results106 wn_ () (by first | (simp_all [right24]; done) | (simp_all [right24]; intros; omega)) (fun w hs => hs.none)
  · refine qF rfl rfl rfl ?_
    refine qF rfl rfl rfl ?_
    refine q0 rfl (o_pickF ?_)
    refine q0 rfl (o_assign ?_)
    refine rg_nil ?_
    refine ret1 Tryz.func106 Tryz.results106 wn_ () (by first | (simp_all [right24]; done) | (simp_all [right24]; intros; omega)) (fun w hs => hs.none)
theorem clash_spec (c : Cl) (hc : u32 c) : Spec Tryz.prog 105 #[.agg (clCells c).toArray] [] [] (fun _ : Unit => .bool (clash c)) (fun _ => []) (fun _ => []) := by
  refine spec_go (args := [.agg (clCells c).toArray]) Tryz.func105 Tryz.ntmps105 rfl (by exact Nat.le_of_ble_eq_true rfl) fun B hB => ?_
  refine go_seq ?_
  refine go_region ⟨_, Tryz.func105⟩ rfl ?_
  refine q0 rfl (o_box fun b1 => ?_)
  refine q0 rfl (o_assign ?_)
  refine rg_nil ?_
  refine go_seq ?_
  refine go_region ⟨_, Tryz.func105⟩ rfl ?_
  refine q0 rfl (o_fa ?_)
  refine q0 rfl (o_ld ?_)
  refine q0 rfl (o_fa ?_)
  refine q0 rfl (o_ld ?_)
  refine q0 rfl (o_andU32 ?_ (a := c.pos) (b := c.neg) (ha := hc.1) (hb := hc.2))
  refine q0 rfl (o_neI ?_ (b := 0))
  refine q0 rfl (o_assign ?_)
  refine rg_nil ?_
  refine ret1 Tryz.func105 Tryz.results105 wn_ () (by simp only [clash]; congr 1; apply decide_eq_decide.mpr; omega) (fun w hs => hs.none)
theorem meet_spec (c d : Cl) (hc : u32 c) (hd : u32 d) : Spec Tryz.prog 114 #[.agg (clCells c).toArray, .agg (clCells d).toArray] [] [] (fun _ : Unit => .agg (clCells (meetC c d)).toArray) (fun _ => []) (fun _ => []) := by
  refine spec_go (args := [.agg (clCells c).toArray, .agg (clCells d).toArray]) Tryz.func114 Tryz.ntmps114 rfl (by exact Nat.le_of_ble_eq_true rfl) fun B hB => ?_
  refine go_seq ?_
  refine go_region ⟨_, Tryz.func114⟩ rfl ?_
  refine q0 rfl (o_box fun b2 => ?_)
  refine q0 rfl (o_box fun b3 => ?_)
  refine q0 rfl (o_new fun b4 => ?_)
  refine rg_nil ?_
  refine go_seq ?_
  refine go_region ⟨_, Tryz.func114⟩ rfl ?_
  refine q0 rfl (o_fa ?_)
  refine q0 rfl (o_ld ?_)
  refine q0 rfl (o_fa ?_)
  refine q0 rfl (o_ld ?_)
  refine q0 rfl (o_orU32 ?_ (a := c.pos) (b := d.pos) (ha := hc.1) (hb := hd.1))
  refine q0 rfl (o_fa ?_)
  refine q0 rfl (o_ld ?_)
  refine q0 rfl (o_fa ?_)
  refine q0 rfl (o_ld ?_)
  refine q0 rfl (o_orU32 ?_ (a := c.neg) (b := d.neg) (ha := hc.2) (hb := hd.2))
  refine q0 rfl (o_build (cs := clCells (meetC c d)) ?_)
  refine q0 rfl (o_st ?_)
  refine rg_nil ?_
  refine retC Tryz.func114 Tryz.results114 () rfl mm_ rfl rfl rfl rfl (fun w hs => hs.none)
theorem below_spec (c d : Cl) (hc : u32 c) (hd : u32 d) : Spec Tryz.prog 109 #[.agg (clCells c).toArray, .agg (clCells d).toArray] [] [] (fun _ : Unit => .bool (below c d)) (fun _ => []) (fun _ => []) := by
  refine spec_go (args := [.agg (clCells c).toArray, .agg (clCells d).toArray]) Tryz.func109 Tryz.ntmps109 rfl (by exact Nat.le_of_ble_eq_true rfl) fun B hB => ?_
  refine go_seq ?_
  refine go_region ⟨_, Tryz.func109⟩ rfl ?_
  refine q0 rfl (o_box fun b2 => ?_)
  refine q0 rfl (o_box fun b3 => ?_)
  refine q0 rfl (o_assign ?_)
  refine rg_nil ?_
  refine go_seq ?_
  refine go_draw (tn := false) (A := [0, 0, 3, 0, 15, 31]) (l := [0, 1, 3, 2, 4, 5]) (fin := []) Tab.mixed ⟨_, Tryz.func109⟩ (by rfl) ?_
  refine n0 rfl (v_lds ?_)
  refine n0 rfl (v_lds ?_)
  refine n0 rfl (v_lds ?_)
  refine n0 rfl (v_call Tryz.call114 (meet_spec c d hc hd) (fun x7 => ?_))
  refine n0 rfl (v_eqC ?_ (c := meetC c d) (c' := c))
  refine n0 rfl (v_assign ?_)
  refine NV.done ?_
  refine rg_nil ?_
  refine ret1 Tryz.func109 Tryz.results109 wn_ () (by rw [below_meet]) (fun w hs => hs.none)
end Go.Hy
/-
  DERIVED: THE SHELF's CONTRACTS AT THIS DUMP, IN PLAIN WORDS (tools/lay-plain.mjs out of 'TryzSort.lean', which tools/lay-shelf.mjs wrote): THE SAME DECLARATIONS UNDER THE SAME NAMES: 'import', 'namespace', 'open', 'def', 'theorem' AND NOTHING ELSE: no command of the shelf's: FOR A HAND-IN. Each laying: the table of numbers ('.._ren') and one theorem, a field a fact of the dump's own or the kernel's comparison; each contract: ONE APPLICATION.
-/
namespace Go.Proofs
set_option linter.unusedVariables false
set_option linter.unusedSimpArgs false
set_option linter.unusedSectionVars false
open Go.Shelf
def Tryz.sortL_ren : Go.Shelf.Ren := ⟨fun | 6 => 110 | 15 => 116 | 14 => 115 | 28 => 126 | 29 => 127 | 20 => 118 | 21 => 119 | 22 => 120 | 23 => 121 | 24 => 122 | 25 => 123 | 26 => 124 | 27 => 125 | 46 => 129 | 47 => 130 | 48 => 131 | 49 => 132 | 50 => 133 | 57 => 134 | n => n, fun | 22 => 22 | 24 => 89 | 25 => 114 | 3 => 3 | 39 => 97 | 0 => 0 | 53 => 31 | 55 => 105 | 4 => 4 | 46 => 122 | 45 => 121 | 50 => 126 | 5 => 5 | 9 => 9 | 66 => 130 | 70 => 134 | 76 => 136 | 77 => 68 | n => n, fun | n => n⟩
theorem Tryz.sortL : Go.Proofs.SlLaysF0.n6 Tryz.prog Tryz.sortL_ren := {
  mixed := by kernel_rfl
  f6 := ⟨Tryz.f110.name, by decide, Tryz.func110.trans (congrArg some (by kernel_rfl))⟩
  f14 := ⟨Tryz.f115.name, by decide, Tryz.func115.trans (congrArg some (by kernel_rfl))⟩
  f15 := Tryz.func116.trans (congrArg some (by kernel_rfl))
  f20 := ⟨Tryz.f118.name, by decide, Tryz.func118.trans (congrArg some (by kernel_rfl))⟩
  f21 := ⟨Tryz.f119.name, by decide, Tryz.func119.trans (congrArg some (by kernel_rfl))⟩
  f22 := ⟨Tryz.f120.name, by decide, Tryz.func120.trans (congrArg some (by kernel_rfl))⟩
  f23 := ⟨Tryz.f121.name, by decide, Tryz.func121.trans (congrArg some (by kernel_rfl))⟩
  f24 := ⟨Tryz.f122.name, by decide, Tryz.func122.trans (congrArg some (by kernel_rfl))⟩
  f25 := ⟨Tryz.f123.name, by decide, Tryz.func123.trans (congrArg some (by kernel_rfl))⟩
  f26 := ⟨Tryz.f124.name, by decide, Tryz.func124.trans (congrArg some (by kernel_rfl))⟩
  f27 := ⟨Tryz.f125.name, by decide, Tryz.func125.trans (congrArg some (by kernel_rfl))⟩
  f28 := Tryz.func126.trans (congrArg some (by kernel_rfl))
  f29 := Tryz.func127.trans (congrArg some (by kernel_rfl))
  f46 := ⟨Tryz.f129.name, by decide, Tryz.func129.trans (congrArg some (by kernel_rfl))⟩
  f47 := Tryz.func130.trans (congrArg some (by kernel_rfl))
  f48 := Tryz.func131.trans (congrArg some (by kernel_rfl))
  f49 := ⟨Tryz.f132.name, by decide, Tryz.func132.trans (congrArg some (by kernel_rfl))⟩
  f50 := ⟨Tryz.f133.name, by decide, Tryz.func133.trans (congrArg some (by kernel_rfl))⟩
  f57 := ⟨Tryz.f134.name, by decide, Tryz.func134.trans (congrArg some (by kernel_rfl))⟩
  t0 := Tryz.underlying0
  a0 := Tryz.isAgg0
  z0 := Tryz.sizeOf0
  v0 := Tryz.zeroValue0
  t3 := Tryz.underlying3
  a3 := Tryz.isAgg3
  z3 := Tryz.sizeOf3
  v3 := Tryz.zeroValue3
  t4 := Tryz.underlying4
  a4 := Tryz.isAgg4
  z4 := Tryz.sizeOf4
  v4 := Tryz.zeroValue4
  t5 := Tryz.underlying5
  a5 := Tryz.isAgg5
  z5 := Tryz.sizeOf5
  v5 := Tryz.zeroValue5
  t9 := Tryz.underlying9
  a9 := Tryz.isAgg9
  z9 := Tryz.sizeOf9
  v9 := Tryz.zeroValue9
  t22 := Tryz.underlying22
  a22 := Tryz.isAgg22
  z22 := Tryz.sizeOf22
  v22 := Tryz.zeroValue22
  t25 := Tryz.underlying114
  a25 := Tryz.isAgg114
  z25 := Tryz.sizeOf114
  v25 := Tryz.zeroValue114
  t39 := Tryz.underlying97
  a39 := Tryz.isAgg97
  z39 := Tryz.sizeOf97
  v39 := Tryz.zeroValue97
  t45 := Tryz.underlying121
  a45 := Tryz.isAgg121
  z45 := Tryz.sizeOf121
  v45 := Tryz.zeroValue121
  t46 := Tryz.underlying122
  a46 := Tryz.isAgg122
  z46 := Tryz.sizeOf122
  v46 := Tryz.zeroValue122
  t50 := Tryz.underlying126
  a50 := Tryz.isAgg126
  z50 := Tryz.sizeOf126
  v50 := Tryz.zeroValue126
  t53 := Tryz.underlying31
  a53 := Tryz.isAgg31
  z53 := Tryz.sizeOf31
  v53 := Tryz.zeroValue31
  t55 := Tryz.underlying105
  a55 := Tryz.isAgg105
  z55 := Tryz.sizeOf105
  v55 := Tryz.zeroValue105
  t66 := Tryz.underlying130
  a66 := Tryz.isAgg130
  z66 := Tryz.sizeOf130
  v66 := Tryz.zeroValue130
  t70 := Tryz.underlying134
  a70 := Tryz.isAgg134
  z70 := Tryz.sizeOf134
  v70 := Tryz.zeroValue134
  t76 := Tryz.underlying136
  a76 := Tryz.isAgg136
  z76 := Tryz.sizeOf136
  v76 := Tryz.zeroValue136
  t77 := Tryz.underlying68
  a77 := Tryz.isAgg68
  z77 := Tryz.sizeOf68
  v77 := Tryz.zeroValue68 }
end Go.Proofs
