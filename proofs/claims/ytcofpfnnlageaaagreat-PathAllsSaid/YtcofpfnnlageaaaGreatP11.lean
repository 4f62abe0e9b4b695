/- Contracts of this program's functions and the laws that they need: a separation logic over the machine's rules, one theorem each (partly printed by a program of this repository). -/
import Derived.Test.YtcofpfnnlageaaaGreatP4
import Derived.Test.YtcofpfnnlageaaaGreatP5
import Derived.Test.YtcofpfnnlageaaaGreatP6
import Derived.Test.YtcofpfnnlageaaaGreatP7
import Derived.Test.YtcofpfnnlageaaaGreatP8
import Derived.Test.YtcofpfnnlageaaaGreatP9
import Derived.Test.YtcofpfnnlageaaaGreatP10
namespace Go.Hy
set_option linter.unusedVariables false
set_option linter.unusedSimpArgs false
set_option linter.unusedSectionVars false
open Go.Proofs
set_option linter.unusedVariables false
set_option linter.unusedSimpArgs false
set_option maxRecDepth 100000
theorem putP_walk (t : T) (vr_t vk_t vs_t : SH) (p : List Int) (a_p : SH) (u : T) (vr_u vk_u vs_u : SH) (hz : size t ≤ 400000000) (hzu : size u ≤ 400000000) : Spec Tryz.prog 17 #[.agg (tc t vr_t vk_t vs_t).toArray, sl a_p (p.length), .agg (tc u vr_u vk_u vs_u).toArray] [RT t vr_t vk_t vs_t, IL p a_p, RT u vr_u vk_u vs_u] [] (fun x : SH × SH × SH => .tuple #[.agg (tc (putRes t p u).2 x.1 x.2.1 x.2.2).toArray, .int .i64 (putRes t p u).1]) (fun x : SH × SH × SH => [RT (putRes t p u).2 x.1 x.2.1 x.2.2]) (fun x : SH × SH × SH => []) := by
  refine spec_go (args := [.agg (tc t vr_t vk_t vs_t).toArray, sl a_p (p.length), .agg (tc u vr_u vk_u vs_u).toArray]) Tryz.func17 Tryz.ntmps17 rfl (by exact Nat.le_of_ble_eq_true rfl) fun B hB => ?_
  refine go_open (t := t) (vr := vr_t) (vk := vk_t) (vs := vs_t) (fun hk1 hn1 hm1 => ?_)
  refine go_openCL (l := (t).r) (a := vr_t) (fun hl2 hA2 hU2 => ?_)
  refine go_openTL (ts := (t).kids) (a := vk_t) (fun VR3 VK3 VS3 hl3 hA3 => ?_)
  refine go_openBL (bs := (t).sys) (a := vs_t) (fun VF4 VK4 hl4 hA4 => ?_)
  refine go_openIL (l := p) (a := a_p) (fun hl5 hA5 hU5 => ?_)
  refine go_open (t := u) (vr := vr_u) (vk := vk_u) (vs := vs_u) (fun hk6 hn6 hm6 => ?_)
  refine go_openCL (l := (u).r) (a := vr_u) (fun hl7 hA7 hU7 => ?_)
  refine go_openTL (ts := (u).kids) (a := vk_u) (fun VR8 VK8 VS8 hl8 hA8 => ?_)
  refine go_openBL (bs := (u).sys) (a := vs_u) (fun VF9 VK9 hl9 hA9 => ?_)
  refine go_know (p := okT t) (fun w hs => ok_of (hs.facts (RT t vr_t vk_t vs_t) (by simp))) (fun hokt => ?_)
  refine go_know (p := okT u) (fun w hs => ok_of (hs.facts (RT u vr_u vk_u vs_u) (by simp))) (fun hoku => ?_)
  refine go_seq ?_
  refine go_region ⟨_, Tryz.func17⟩ rfl ?_
  refine q0 rfl (o_box fun b3 => ?_)
  refine q0 rfl (o_box fun b5 => ?_)
  refine q0 rfl (o_new fun b6 => ?_)
  refine q0 rfl (o_assign ?_)
  refine rg_nil ?_
  refine go_seq ?_
  refine go_seq ?_
  refine go_region ⟨_, Tryz.func17⟩ rfl ?_
  refine q0 rfl (o_lds ?_)
  refine q0 rfl (o_lds ?_)
  refine q0 rfl (o_lit2 fun b15 => ?_)
  refine q0 rfl (o_len ?_)
  refine q0 rfl (o_move ?_)
  refine rg_nil ?_
  refine go_state (fun w hs => (((((hs.perm perm3).perm perm3).perm perm3).perm perm3).lit2T (t := t) (vr := vr_t) (vk := vk_t) (vs := vs_t) (u := u) (ur := vr_u) (uk := vk_u) (us := vs_u) hB (by simp) (by simp) rfl)) ?_
  refine go_openTL (ts := [t, u]) (a := (some ⟨b15, 0, none⟩, 2)) (fun VR10 VK10 VS10 hl10 hA10 => ?_)
  refine go_block ?_
  refine go_loopE (X := Nat) (fun s_ => s_ ≤ 2 ∧ ∀ j, j < s_ → formedP ([t, u].getD j t0) = 0) (fun s_ => [(1, sl a_p (p.length)), (3, .pointer (some ⟨b3, 0, none⟩)), (5, .pointer (some ⟨b5, 0, none⟩)), (6, .pointer (some ⟨b6, 0, none⟩)), (15, sl (some ⟨b15, 0, none⟩, 2) (2)), (16, .int .i64 ((2 : Int))), (17, .int .i64 ((s_ : Int)))]) (fun s_ G_ => G_) (fun s_ => [boxR b6 [.int .i64 (0), .int .i64 (0), .string ((ByteArray.mk #[])), sl (none, 0) (0), sl (none, 0) (0), sl (none, 0) (0)] 26, boxR b5 (tc u vr_u vk_u vs_u) 26, boxR b3 (tc t vr_t vk_t vs_t) 26]) (fun s_ => 2 - s_) (0) (⟨by omega, fun j hj => by omega⟩) (by exact ⟨rfl, rfl, rfl, rfl, rfl, rfl, rfl, trivial⟩) ?_ ?_
  · exact fun w hs => hs
  · intro i base0 ⟨hi, hok⟩ next0
    refine go_seq ?_
    refine go_region ⟨_, Tryz.func17⟩ rfl ?_
    refine q0 rfl (o_lss ?_)
    refine rg_nil ?_
    refine go_seq ?_
    refine go_condI (fun h18 => ?_) (fun h18 => ?_)
    · have c18 : (decide ((i : Int) < (2 : Int))) = true := h18
      try simp only [decide_eq_true_eq, decide_eq_false_iff_not, Bool.and_eq_true, Bool.or_eq_true, Bool.not_eq_true', Bool.and_eq_false_iff, Bool.or_eq_false_iff, Bool.not_eq_false', bne_iff_ne, beq_iff_eq, ne_eq, not_and, Decidable.not_not, Bool.true_and, Bool.and_true, Bool.false_or, Bool.or_false] at c18
      have hsz : size ([t, u].getD i t0) ≤ 400000000 := by rcases (show i = 0 ∨ i = 1 by omega) with h | h <;> subst h <;> simpa
      have hdz := depth_le_size ([t, u].getD i t0)
      refine go_skip ?_
      refine go_seq ?_
      refine go_block ?_
      refine go_seq ?_
      refine go_kid (ts := [t, u]) (a := (some ⟨b15, 0, none⟩, 2)) (VR := VR10) (VK := VK10) (VS := VS10) i (by (first | omega | (simp only [List.length_cons, List.length_nil]; omega))) ?_
      refine go_region ⟨_, Tryz.func17⟩ rfl ?_
      obtain ⟨bk11, o11, hav11⟩ := hA10 (by (first | omega | (simp only [List.length_cons, List.length_nil]; omega)))
      refine q0 rfl (o_ixN ?_ (j := i))
      refine q0 rfl (o_ldT ?_ (hlt := by simp only [List.length_cons, List.length_nil]; omega))
      refine q0 rfl (o_new fun b9 => ?_)
      refine q0 rfl (o_st ?_)
      refine rg_nil ?_
      refine go_seq ?_
      refine go_region ⟨_, Tryz.func17⟩ rfl ?_
      refine q0 rfl (o_lds ?_)
      refine q0 rfl (o_call Tryz.call45 (formed_spec (([t, u]).getD i t0) (.inr form_spec) (VR10 i) (VK10 i) (VS10 i) (by first | assumption | omega | (unfold in64 at *; omega) | (unfold reach at *; omega) | (simp_all; done))) (fun x22 => ?_))
      refine q0 rfl (o_assign ?_)
      refine rg_nil ?_
      refine go_seq ?_
      refine go_region ⟨_, Tryz.func17⟩ rfl ?_
      refine q0 rfl (o_move ?_)
      refine q0 rfl (o_neI ?_)
      refine rg_nil ?_
      refine go_condI (fun h24 => ?_) (fun h24 => ?_)
      · have c24 : (decide ((formedP (([t, u]).getD i t0)) ≠ 0)) = true := h24
        try simp only [decide_eq_true_eq, decide_eq_false_iff_not, Bool.and_eq_true, Bool.or_eq_true, Bool.not_eq_true', Bool.and_eq_false_iff, Bool.or_eq_false_iff, Bool.not_eq_false', bne_iff_ne, beq_iff_eq, ne_eq, not_and, Decidable.not_not, Bool.true_and, Bool.and_true, Bool.false_or, Bool.or_false] at c24
        have hgr : putRes t p u = (formedP ([t, u].getD i t0), t0) := by rcases (show i = 0 ∨ i = 1 by omega) with h | h; subst h; rw [putRes, if_pos (by simpa using h24)]; rfl; subst h; rw [putRes, if_neg (by have := hok 0 (by omega); simpa using this), if_pos (by simpa using h24)]; rfl
        refine go_seq ?_
        refine go_region ⟨_, Tryz.func17⟩ rfl ?_
        refine q0 rfl (o_build (cs := [.int .i64 (0), .int .i64 (0), .string ((ByteArray.mk #[])), sl (none, 0) (0), sl (none, 0) (0), sl (none, 0) (0)]) ?_)
        refine q0 rfl (o_move ?_)
        refine q0 rfl (o_st ?_)
        refine q0 rfl (o_assign ?_)
        refine rg_nil ?_
        -- leaf 0: .pointer (some ⟨b6, 0, none⟩); .int .i64 ((formedP (([t, u]).getD i t0)))
        refine retCT Tryz.func17 Tryz.results17 ((none, 0), (none, 0), (none, 0)) rfl (by first | ((repeat (first | exact List.mem_cons_self | apply List.mem_cons_of_mem)); done) | (simp only [List.nil_append, List.cons_append]; (repeat (first | exact List.mem_cons_self | apply List.mem_cons_of_mem)))) rfl rfl rfl rfl (by rw [hgr]; rfl) (fun w hs => by rw [hgr]; exact hs.bare.zeroRT.less (by simp))
      · have c24 : (decide ((formedP (([t, u]).getD i t0)) ≠ 0)) = false := h24
        try simp only [decide_eq_true_eq, decide_eq_false_iff_not, Bool.and_eq_true, Bool.or_eq_true, Bool.not_eq_true', Bool.and_eq_false_iff, Bool.or_eq_false_iff, Bool.not_eq_false', bne_iff_ne, beq_iff_eq, ne_eq, not_and, Decidable.not_not, Bool.true_and, Bool.and_true, Bool.false_or, Bool.or_false] at c24
        refine go_skip ?_
        refine go_inBlock ?_
        refine go_region ⟨_, Tryz.func17⟩ rfl ?_
        refine q0 rfl (o_add ?_)
        refine q0 rfl (o_move ?_)
        refine rg_nil ?_
        refine go_state (fun w hs => ?_) (next0 (i + 1) _ (⟨by omega, fun j hj => by rcases Nat.lt_succ_iff_lt_or_eq.mp hj with h | h; exact hok j h; subst h; simpa using h24⟩) (by omega) ⟨rfl, rfl, rfl, rfl, rfl, rfl, rfl, trivial⟩)
        exact (((((hs.less (by simp +contextual)).perm perm3).perm perm3).perm perm3).dropR (A := [_, _, _]))
    · have c18 : (decide ((i : Int) < (2 : Int))) = false := h18
      try simp only [decide_eq_true_eq, decide_eq_false_iff_not, Bool.and_eq_true, Bool.or_eq_true, Bool.not_eq_true', Bool.and_eq_false_iff, Bool.or_eq_false_iff, Bool.not_eq_false', bne_iff_ne, beq_iff_eq, ne_eq, not_and, Decidable.not_not, Bool.true_and, Bool.and_true, Bool.false_or, Bool.or_false] at c18
      have hf0 : formedP t = 0 := hok 0 (by omega)
      have hf1 : formedP u = 0 := hok 1 (by omega)
      refine go_exit rfl ?_
      refine go_seq ?_
      refine go_region ⟨_, Tryz.func17⟩ rfl ?_
      refine q0 rfl (o_lds ?_)
      refine q0 rfl (o_call Tryz.call36 (copyO t vr_t vk_t vs_t) (fun x29 => ?_))
      refine q0 rfl (o_new fun b11 => ?_)
      refine q0 rfl (o_st ?_)
      refine rg_nil ?_
      refine go_seq ?_
      refine go_seq ?_
      refine go_region ⟨_, Tryz.func17⟩ rfl ?_
      refine q0 rfl (o_move ?_)
      refine q0 rfl (o_lds ?_)
      refine q0 rfl (o_call Tryz.call36 (copyO u vr_u vk_u vs_u) (fun x32 => ?_))
      have hput := putO x29.1 p a_p x32.1 b11 0 (tc t x29.1.vr x29.1.vk x29.1.vs) 26 (by rw [x29.2]; rfl)
      rw [x29.2, x32.2] at hput
      refine rg_state (fun w hs => ((((((hs.perm perm5).perm perm5).perm perm5).perm perm3).perm perm5).perm perm5)) ?_
      refine q0 rfl (o_call Tryz.call46 (hput) (fun x33 => ?_))
      refine q0 rfl (o_not ?_)
      refine rg_nil ?_
      refine go_condI (fun h34 => ?_) (fun h34 => ?_)
      · have c34 : (!x33.1.isSome) = true := h34
        try simp only [decide_eq_true_eq, decide_eq_false_iff_not, Bool.and_eq_true, Bool.or_eq_true, Bool.not_eq_true', Bool.and_eq_false_iff, Bool.or_eq_false_iff, Bool.not_eq_false', bne_iff_ne, beq_iff_eq, ne_eq, not_and, Decidable.not_not, Bool.true_and, Bool.and_true, Bool.false_or, Bool.or_false] at c34
        have hn9 : x33.1 = none := by simpa using h34
        have hx9 : setP t p u = none := by have h8 := x33.2; rw [hn9] at h8; exact h8.symm
        have hgr : putRes t p u = (90, t0) := by rw [putRes, if_neg (by simp [hf0]), if_neg (by simp [hf1]), hx9]
        refine go_ms (Ms' := [boxR b6 [.int .i64 (0), .int .i64 (0), .string ((ByteArray.mk #[])), sl (none, 0) (0), sl (none, 0) (0), sl (none, 0) (0)] 26, boxR b5 (tc u vr_u vk_u vs_u) 26, boxR b3 (tc t vr_t vk_t vs_t) 26]) (by rw [hn9]; rfl) ?_
        refine go_seq ?_
        refine go_region ⟨_, Tryz.func17⟩ rfl ?_
        refine q0 rfl (o_build (cs := [.int .i64 (0), .int .i64 (0), .string ((ByteArray.mk #[])), sl (none, 0) (0), sl (none, 0) (0), sl (none, 0) (0)]) ?_)
        refine q0 rfl (o_st ?_)
        refine q0 rfl (o_assign ?_)
        refine rg_nil ?_
        -- leaf 1: .pointer (some ⟨b6, 0, none⟩); .int .i64 (90)
        refine retCT Tryz.func17 Tryz.results17 ((none, 0), (none, 0), (none, 0)) rfl (by first | ((repeat (first | exact List.mem_cons_self | apply List.mem_cons_of_mem)); done) | (simp only [List.nil_append, List.cons_append]; (repeat (first | exact List.mem_cons_self | apply List.mem_cons_of_mem)))) rfl rfl rfl rfl (by rw [hgr]; rfl) (fun w hs => by rw [hgr]; exact hs.bare.zeroRT.less (by simp))
      · have c34 : (!x33.1.isSome) = false := h34
        try simp only [decide_eq_true_eq, decide_eq_false_iff_not, Bool.and_eq_true, Bool.or_eq_true, Bool.not_eq_true', Bool.and_eq_false_iff, Bool.or_eq_false_iff, Bool.not_eq_false', bne_iff_ne, beq_iff_eq, ne_eq, not_and, Decidable.not_not, Bool.true_and, Bool.and_true, Bool.false_or, Bool.or_false] at c34
        obtain ⟨h9, hh9⟩ : ∃ h9, x33.1 = some h9 := Option.isSome_iff_exists.mp (by simpa using h34)
        have hx9 : setP t p u = some h9.er := by have h8 := x33.2; rw [hh9] at h8; exact h8.symm
        refine go_ms (Ms' := [boxR b11 (tc h9.er h9.vr h9.vk h9.vs) 26, bigR (treeR tys h9), boxR b6 [.int .i64 (0), .int .i64 (0), .string ((ByteArray.mk #[])), sl (none, 0) (0), sl (none, 0) (0), sl (none, 0) (0)] 26, boxR b5 (tc u vr_u vk_u vs_u) 26, boxR b3 (tc t vr_t vk_t vs_t) 26]) (by rw [hh9]; rfl) ?_
        refine go_state (fun w hs => St.settleT tys hB h9 (okT_setP p hokt hoku hx9) (((((((hs.perm perm4).perm perm4).perm perm4).perm perm3).perm perm4)).unpack)) ?_
        obtain ⟨s9, _, hs9⟩ := size_setP p hx9
        have hd9 := depth_le_size h9.er
        refine go_skip ?_
        refine go_seq ?_
        refine go_seq ?_
        refine go_region ⟨_, Tryz.func17⟩ rfl ?_
        refine q0 rfl (o_lds ?_)
        refine q0 rfl (o_call Tryz.call45 (formed_spec h9.er (.inr form_spec) h9.vr h9.vk h9.vs (by first | assumption | omega | (unfold in64 at *; omega) | (unfold reach at *; omega) | (simp_all; done))) (fun x37 => ?_))
        refine q0 rfl (o_assign ?_)
        refine rg_nil ?_
        refine go_seq ?_
        refine go_region ⟨_, Tryz.func17⟩ rfl ?_
        refine q0 rfl (o_move ?_)
        refine q0 rfl (o_neI ?_)
        refine rg_nil ?_
        refine go_condI (fun h39 => ?_) (fun h39 => ?_)
        · have c39 : (decide ((formedP h9.er) ≠ 0)) = true := h39
          try simp only [decide_eq_true_eq, decide_eq_false_iff_not, Bool.and_eq_true, Bool.or_eq_true, Bool.not_eq_true', Bool.and_eq_false_iff, Bool.or_eq_false_iff, Bool.not_eq_false', bne_iff_ne, beq_iff_eq, ne_eq, not_and, Decidable.not_not, Bool.true_and, Bool.and_true, Bool.false_or, Bool.or_false] at c39
          have hgr : putRes t p u = (formedP h9.er, t0) := by rw [putRes, if_neg (by simp [hf0]), if_neg (by simp [hf1]), hx9]; exact if_pos (by simpa using h39)
          refine go_seq ?_
          refine go_region ⟨_, Tryz.func17⟩ rfl ?_
          refine q0 rfl (o_build (cs := [.int .i64 (0), .int .i64 (0), .string ((ByteArray.mk #[])), sl (none, 0) (0), sl (none, 0) (0), sl (none, 0) (0)]) ?_)
          refine q0 rfl (o_move ?_)
          refine q0 rfl (o_st ?_)
          refine q0 rfl (o_assign ?_)
          refine rg_nil ?_
          -- leaf 2: .pointer (some ⟨b6, 0, none⟩); .int .i64 ((formedP h9.er))
          refine retCT Tryz.func17 Tryz.results17 ((none, 0), (none, 0), (none, 0)) rfl (by first | ((repeat (first | exact List.mem_cons_self | apply List.mem_cons_of_mem)); done) | (simp only [List.nil_append, List.cons_append]; (repeat (first | exact List.mem_cons_self | apply List.mem_cons_of_mem)))) rfl rfl rfl rfl (by rw [hgr]; rfl) (fun w hs => by rw [hgr]; exact hs.bare.zeroRT.less (by simp))
        · have c39 : (decide ((formedP h9.er) ≠ 0)) = false := h39
          try simp only [decide_eq_true_eq, decide_eq_false_iff_not, Bool.and_eq_true, Bool.or_eq_true, Bool.not_eq_true', Bool.and_eq_false_iff, Bool.or_eq_false_iff, Bool.not_eq_false', bne_iff_ne, beq_iff_eq, ne_eq, not_and, Decidable.not_not, Bool.true_and, Bool.and_true, Bool.false_or, Bool.or_false] at c39
          have hgr : putRes t p u = (0, h9.er) := by rw [putRes, if_neg (by simp [hf0]), if_neg (by simp [hf1]), hx9]; exact if_neg (by simpa using h39)
          refine go_skip ?_
          refine go_seq ?_
          refine go_region ⟨_, Tryz.func17⟩ rfl ?_
          refine q0 rfl (o_lds ?_)
          refine q0 rfl (o_st ?_)
          refine q0 rfl (o_assign ?_)
          refine rg_nil ?_
          -- leaf 3: .pointer (some ⟨b6, 0, none⟩); .int .i64 (0)
          refine retCT Tryz.func17 Tryz.results17 (h9.vr, h9.vk, h9.vs) rfl (by first | ((repeat (first | exact List.mem_cons_self | apply List.mem_cons_of_mem)); done) | (simp only [List.nil_append, List.cons_append]; (repeat (first | exact List.mem_cons_self | apply List.mem_cons_of_mem)))) rfl rfl rfl rfl (by rw [hgr]; rfl) (fun w hs => by rw [hgr]; exact hs.bare.less (by simp))
end Go.Hy
namespace Go.Hy
set_option linter.unusedVariables false
set_option linter.unusedSimpArgs false
set_option linter.unusedSectionVars false
open Go.Proofs
set_option linter.unusedVariables false
set_option linter.unusedSimpArgs false
set_option maxRecDepth 100000
theorem works30_spec   : Spec Tryz.prog 15 #[] [] [] (fun _ : Unit => .bool (true)) (fun _ : Unit => []) (fun _ : Unit => []) := by
  refine spec_go (args := []) Tryz.func15 Tryz.ntmps15 rfl (by exact Nat.le_of_ble_eq_true rfl) fun B hB => ?_
  refine go_seq ?_
  refine go_region ⟨_, Tryz.func15⟩ rfl ?_
  refine q0 rfl (o_assign ?_)
  refine rg_nil ?_
  refine go_seq ?_
  refine go_region ⟨_, Tryz.func15⟩ rfl ?_
  refine q0 rfl (o_build (cs := [.int .i64 (1), .int .i64 (0), .string ((ByteArray.mk #[])), sl (none, 0) (0), sl (none, 0) (0), sl (none, 0) (0)]) ?_)
  refine q0 rfl (o_new fun b1 => ?_)
  refine q0 rfl (o_st ?_)
  refine rg_nil ?_
  refine go_seq ?_
  refine go_region ⟨_, Tryz.func15⟩ rfl ?_
  refine q0 rfl (o_build (cs := [.int .i64 (1), .int .i64 (1), .string ((ByteArray.mk #[])), sl (none, 0) (0), sl (none, 0) (0), sl (none, 0) (0)]) ?_)
  refine q0 rfl (o_lds ?_)
  refine q0 rfl (o_lit1 fun b12 => ?_)
  refine q0 rfl (o_build (cs := [.int .i64 (5), .int .i64 (0), .string ((ByteArray.mk #[])), sl (none, 0) (0), sl (some ⟨b12, 0, none⟩, 1) (1), sl (none, 0) (0)]) ?_)
  refine q0 rfl (o_lit2 fun b14 => ?_)
  refine q0 rfl (o_build (cs := [.int .i64 (6), .int .i64 (0), .string ((ByteArray.mk #[])), sl (none, 0) (0), sl (some ⟨b14, 0, none⟩, 2) (2), sl (none, 0) (0)]) ?_)
  refine q0 rfl (o_new fun b2 => ?_)
  refine q0 rfl (o_st ?_)
  refine rg_nil ?_
  refine go_state (fun w hs => ?_) (?_ : GoT _ _ _ _ _ _ _ [RT exT nul (some ⟨b14, 0, none⟩, 2) nul] [boxR b2 (tc exT nul (some ⟨b14, 0, none⟩, 2) nul) 26])
  · have g1 := ((((((hs.perm perm3).perm perm1).perm perm2).perm perm3).leaf 1 0 ⟨#[]⟩ (in_lit (by omega) (by omega)) (in_lit (by omega) (by omega)) (Nat.zero_le _)).lit1T (t := varT 0) (vr := nul) (vk := nul) (vs := nul) hB (by simp [varT]) rfl).node 5 0 [varT 0] (some ⟨b12, 0, none⟩, 1) (in_lit (by omega) (by omega)) (in_lit (by omega) (by omega)) (by simp)
    have g3 := ((g1.leaf 1 1 ⟨#[]⟩ (in_lit (by omega) (by omega)) (in_lit (by omega) (by omega)) (Nat.zero_le _)).lit2T (t := varT 1) (vr := nul) (vk := nul) (vs := nul) (u := lamT (varT 0)) (ur := nul) (uk := (some ⟨b12, 0, none⟩, 1)) (us := nul) hB (by simp [varT]) (by simp [lamT]) rfl).node 6 0 [varT 1, lamT (varT 0)] (some ⟨b14, 0, none⟩, 2) (in_lit (by omega) (by omega)) (in_lit (by omega) (by omega)) (by simp)
    exact (g3.less (by simp [lamT, exT, varT])).dropR (A := [_])
  refine go_seq ?_
  refine go_region ⟨_, Tryz.func15⟩ rfl ?_
  refine q0 rfl (o_lds ?_)
  refine q0 rfl (o_call Tryz.call25 (allP_spec exT nul (some ⟨b14, 0, none⟩, 2) nul (by rw [ex_size.1]; omega)) (fun x18 => ?_))
  refine q0 rfl (o_move ?_)
  refine q0 rfl (o_extract ?_)
  refine q0 rfl (o_extract ?_)
  refine q0 rfl (o_assign ?_)
  refine q0 rfl (o_assign ?_)
  refine rg_nil ?_
  have hx18 : x18.1.2.map (fun z : IP => z.1) = [[], [0], [1], [1, 0]] := x18.2.trans ex_all
  have hl18 : x18.1.2.length = 4 := by have h9 := congrArg List.length hx18; simpa using h9
  have h18 : (x18.1.2.getD 3 ip0).1 = [1, 0] := by have h9 := getD_map (d := ip0) (e := ([] : List Int)) (f := fun z : IP => z.1) (l := x18.1.2) (i := 3) (by omega); rw [hx18] at h9; exact h9.symm
  refine go_seq ?_
  refine go_region ⟨_, Tryz.func15⟩ rfl ?_
  refine q0 rfl (o_lds ?_)
  refine q0 rfl (o_lit2 fun b23 => ?_)
  refine rg_state (fun w hs => (((hs.perm perm1).perm perm1).litI [1, 0] hB rfl (by decide) (by intro c hc; simp at hc; unfold in64; omega))) ?_
  have hget := getWalk exT nul (some ⟨b14, 0, none⟩, 2) nul [1, 0] (some ⟨b23, 0, none⟩, 2) (by rw [ex_size.1]; omega)
  simp only [ex_get1, ex_get2] at hget
  refine q0 rfl (o_call Tryz.call20 (hget) (fun x24 => ?_))
  refine q0 rfl (o_move ?_)
  refine q0 rfl (o_extract ?_)
  refine q0 rfl (o_extract ?_)
  refine q0 rfl (o_new fun b5 => ?_)
  refine q0 rfl (o_st ?_)
  refine q0 rfl (o_assign ?_)
  refine rg_nil ?_
  refine go_seq ?_
  refine go_region ⟨_, Tryz.func15⟩ rfl ?_
  refine q0 rfl (o_lds ?_)
  refine q0 rfl (o_lit1 fun b29 => ?_)
  refine q0 rfl (o_build (cs := [.int .i64 (3), .int .i64 (0), .string ((ByteArray.mk #[])), sl (none, 0) (0), sl (none, 0) (0), sl (none, 0) (0)]) ?_)
  refine rg_state (fun w hs => ((((hs.perm perm2).perm perm2).perm perm2).litI [0] hB rfl (by decide) (by intro c hc; simp at hc; unfold in64; omega))) ?_
  have hput := putP_walk exT nul (some ⟨b14, 0, none⟩, 2) nul [0] (some ⟨b29, 0, none⟩, 1) exU nul nul nul (by rw [ex_size.1]; omega) (by rw [ex_size.2]; omega)
  simp only [ex_put1, ex_put2] at hput
  refine rg_state (fun w hs => show St B (RT exU nul nul nul :: _) _ w from hs.leaf 3 0 ⟨#[]⟩ (in_lit (by omega) (by omega)) (in_lit (by omega) (by omega)) (Nat.zero_le _)) ?_
  refine q0 rfl (o_call Tryz.call17 (hput) (fun x31 => ?_))
  refine q0 rfl (o_move ?_)
  refine q0 rfl (o_extract ?_)
  refine q0 rfl (o_extract ?_)
  refine q0 rfl (o_new fun b7 => ?_)
  refine q0 rfl (o_st ?_)
  refine q0 rfl (o_assign ?_)
  refine rg_nil ?_
  refine go_open (t := exR) (vr := x31.1) (vk := x31.2.1) (vs := x31.2.2) (fun hk1 hn1 hm1 => ?_)
  refine go_openTL (ts := (exR).kids) (a := x31.2.1) (fun VR2 VK2 VS2 hl2 hA2 => ?_)
  refine go_seq ?_
  refine go_openRow (l := x18.1.2) (a := x18.1.1) (bt := 24) (F := ipCells) (E := ipE) (d := ip0) (by repeat (first | exact List.mem_cons_self | apply List.mem_cons_of_mem)) (fun hl3 hA3 => ?_)
  refine go_elem (l := x18.1.2) (a := x18.1.1) (bt := 24) (F := ipCells) (E := ipE) (d := ip0) (by repeat (first | exact List.mem_cons_self | apply List.mem_cons_of_mem)) 3 (by (first | omega | decide)) ?_
  refine go_kid (ts := (exR).kids) (a := x31.2.1) (VR := VR2) (VK := VK2) (VS := VS2) 0 (by (first | omega | decide)) ?_
  refine go_cutS ([(0, .bool (true))]) (fun hK => ?_) (fun base => ?_)
  · refine go_region ⟨_, Tryz.func15⟩ rfl ?_
    refine q0 rfl (o_move ?_)
    refine q0 rfl (o_eqI ?_)
    refine q0 rfl (o_move ?_)
    refine qI rfl rfl rfl (by conv => lhs; whnf) (fun hg36 => ?_) (fun hg36 => ?_)
    · have g36 : (decide ((formedP exT) = 0)) = true := hg36
      try simp only [decide_eq_true_eq, decide_eq_false_iff_not, Bool.and_eq_true, Bool.or_eq_true, Bool.not_eq_true', Bool.and_eq_false_iff, Bool.or_eq_false_iff, Bool.not_eq_false', bne_iff_ne, beq_iff_eq, ne_eq, not_and, Decidable.not_not, Bool.true_and, Bool.and_true, Bool.false_or, Bool.or_false] at g36
      refine o_move ?_
      refine qT rfl rfl rfl (o_len ?_)
      refine qT rfl rfl rfl (o_eqI ?_)
      refine q0 rfl (o_pickT ?_)
      refine q0 rfl (o_move ?_)
      refine qI rfl rfl rfl (by conv => lhs; whnf) (fun hg41 => ?_) (fun hg41 => ?_)
      · have g41 : (decide (((x18.1.2).length : Int) = 4)) = true := hg41
        try simp only [decide_eq_true_eq, decide_eq_false_iff_not, Bool.and_eq_true, Bool.or_eq_true, Bool.not_eq_true', Bool.and_eq_false_iff, Bool.or_eq_false_iff, Bool.not_eq_false', bne_iff_ne, beq_iff_eq, ne_eq, not_and, Decidable.not_not, Bool.true_and, Bool.and_true, Bool.false_or, Bool.or_false] at g41
        refine o_move ?_
        obtain ⟨bk4, o4, hav4⟩ := hA3 (by (first | omega | decide))
        refine qT rfl rfl rfl (o_ixN ?_ (j := 3))
        refine qT rfl rfl rfl (o_ldII ?_)
        refine qT rfl rfl rfl (o_lit2 fun b45 => ?_)
        refine rg_state (fun w hs => (((((hs.perm perm3).perm perm3).perm perm3).perm perm3).litI [1, 0] hB rfl (by decide) (by intro c hc; simp at hc; unfold in64; omega))) ?_
        refine qT rfl rfl rfl (o_call Tryz.call29 (ints_spec (((x18.1.2).getD 3 ip0).1) (((x18.1.2).getD 3 ip0).2) ([1, 0]) (some ⟨b45, 0, none⟩, [1, 0].length) ) (fun x46 => ?_))
        refine q0 rfl (o_pickT ?_)
        refine q0 rfl (o_move ?_)
        refine qI rfl rfl rfl (by conv => lhs; whnf) (fun hg48 => ?_) (fun hg48 => ?_)
        · have g48 : ((decide ((((x18.1.2).getD 3 ip0).1) = ([1, 0])))) = true := hg48
          try simp only [decide_eq_true_eq, decide_eq_false_iff_not, Bool.and_eq_true, Bool.or_eq_true, Bool.not_eq_true', Bool.and_eq_false_iff, Bool.or_eq_false_iff, Bool.not_eq_false', bne_iff_ne, beq_iff_eq, ne_eq, not_and, Decidable.not_not, Bool.true_and, Bool.and_true, Bool.false_or, Bool.or_false] at g48
          refine o_move ?_
          refine qT rfl rfl rfl (o_eqI ?_)
          refine q0 rfl (o_pickT ?_)
          refine q0 rfl (o_move ?_)
          refine qI rfl rfl rfl (by conv => lhs; whnf) (fun hg52 => ?_) (fun hg52 => ?_)
          · have g52 : (decide (0 = 0)) = true := hg52
            try simp only [decide_eq_true_eq, decide_eq_false_iff_not, Bool.and_eq_true, Bool.or_eq_true, Bool.not_eq_true', Bool.and_eq_false_iff, Bool.or_eq_false_iff, Bool.not_eq_false', bne_iff_ne, beq_iff_eq, ne_eq, not_and, Decidable.not_not, Bool.true_and, Bool.and_true, Bool.false_or, Bool.or_false] at g52
            refine o_fa ?_
            refine qT rfl rfl rfl (o_fa ?_)
            refine qT rfl rfl rfl (o_ld ?_)
            refine qT rfl rfl rfl (o_eqI ?_)
            refine q0 rfl (o_pickT ?_)
            refine q0 rfl (o_move ?_)
            refine qI rfl rfl rfl (by conv => lhs; whnf) (fun hg58 => ?_) (fun hg58 => ?_)
            · have g58 : (decide (((varT0).kind) = 1)) = true := hg58
              try simp only [decide_eq_true_eq, decide_eq_false_iff_not, Bool.and_eq_true, Bool.or_eq_true, Bool.not_eq_true', Bool.and_eq_false_iff, Bool.or_eq_false_iff, Bool.not_eq_false', bne_iff_ne, beq_iff_eq, ne_eq, not_and, Decidable.not_not, Bool.true_and, Bool.and_true, Bool.false_or, Bool.or_false] at g58
              refine o_fa ?_
              refine qT rfl rfl rfl (o_ld ?_)
              refine qT rfl rfl rfl (o_eqI ?_)
              refine q0 rfl (o_pickT ?_)
              refine q0 rfl (o_move ?_)
              refine qI rfl rfl rfl (by conv => lhs; whnf) (fun hg63 => ?_) (fun hg63 => ?_)
              · have g63 : (decide (1 = 1)) = true := hg63
                try simp only [decide_eq_true_eq, decide_eq_false_iff_not, Bool.and_eq_true, Bool.or_eq_true, Bool.not_eq_true', Bool.and_eq_false_iff, Bool.or_eq_false_iff, Bool.not_eq_false', bne_iff_ne, beq_iff_eq, ne_eq, not_and, Decidable.not_not, Bool.true_and, Bool.and_true, Bool.false_or, Bool.or_false] at g63
                refine o_move ?_
                refine qT rfl rfl rfl (o_eqI ?_)
                refine q0 rfl (o_pickT ?_)
                refine q0 rfl (o_move ?_)
                refine qI rfl rfl rfl (by conv => lhs; whnf) (fun hg67 => ?_) (fun hg67 => ?_)
                · have g67 : (decide (0 = 0)) = true := hg67
                  try simp only [decide_eq_true_eq, decide_eq_false_iff_not, Bool.and_eq_true, Bool.or_eq_true, Bool.not_eq_true', Bool.and_eq_false_iff, Bool.or_eq_false_iff, Bool.not_eq_false', bne_iff_ne, beq_iff_eq, ne_eq, not_and, Decidable.not_not, Bool.true_and, Bool.and_true, Bool.false_or, Bool.or_false] at g67
                  refine o_fa ?_
                  refine qT rfl rfl rfl (o_ld ?_)
                  refine qT rfl rfl rfl (o_len ?_)
                  refine qT rfl rfl rfl (o_eqI ?_)
                  refine q0 rfl (o_pickT ?_)
                  refine q0 rfl (o_move ?_)
                  refine qI rfl rfl rfl (by conv => lhs; whnf) (fun hg73 => ?_) (fun hg73 => ?_)
                  · have g73 : (decide (((exR).kids.length : Int) = 2)) = true := hg73
                    try simp only [decide_eq_true_eq, decide_eq_false_iff_not, Bool.and_eq_true, Bool.or_eq_true, Bool.not_eq_true', Bool.and_eq_false_iff, Bool.or_eq_false_iff, Bool.not_eq_false', bne_iff_ne, beq_iff_eq, ne_eq, not_and, Decidable.not_not, Bool.true_and, Bool.and_true, Bool.false_or, Bool.or_false] at g73
                    refine o_fa ?_
                    refine qT rfl rfl rfl (o_ld ?_)
                    obtain ⟨bk5, o5, hav5⟩ := hA2 (by (first | omega | decide))
                    refine qT rfl rfl rfl (o_ixN ?_ (j := 0))
                    refine qT rfl rfl rfl (o_fa ?_)
                    refine qT rfl rfl rfl (o_ldTf ?_)
                    refine qT rfl rfl rfl (o_eqI ?_)
                    refine q0 rfl (o_pickT ?_)
                    refine q0 rfl (o_assign ?_)
                    refine rg_nil ?_
                    exact go_state (fun w hs => (hs.less (by simp +contextual))) (hK _ ⟨(by first | rfl | ((conv => lhs; whnf); first | (simp_all [exR, exU, varT0, T.kids, T.kind, ex_formed, h18, hl18]; done) | (simp_all [exR, exU, varT0, T.kids, T.kind, ex_formed, h18, hl18]; omega))), trivial⟩)
                  · have g73 : (decide (((exR).kids.length : Int) = 2)) = false := hg73
                    try simp only [decide_eq_true_eq, decide_eq_false_iff_not, Bool.and_eq_true, Bool.or_eq_true, Bool.not_eq_true', Bool.and_eq_false_iff, Bool.or_eq_false_iff, Bool.not_eq_false', bne_iff_ne, beq_iff_eq, ne_eq, not_and, Decidable.not_not, Bool.true_and, Bool.and_true, Bool.false_or, Bool.or_false] at g73
                    refine qF rfl rfl rfl ?_
                    refine qF rfl rfl rfl ?_
                    refine qF rfl rfl rfl ?_
                    refine qF rfl rfl rfl ?_
                    refine qF rfl rfl rfl ?_
                    refine q0 rfl (o_pickF ?_)
                    refine q0 rfl (o_assign ?_)
                    refine rg_nil ?_
                    exact go_state (fun w hs => (hs.less (by simp +contextual))) (hK _ ⟨(by first | rfl | ((conv => lhs; whnf); first | (simp_all [exR, exU, varT0, T.kids, T.kind, ex_formed, h18, hl18]; done) | (simp_all [exR, exU, varT0, T.kids, T.kind, ex_formed, h18, hl18]; omega))), trivial⟩)
                · have g67 : (decide (0 = 0)) = false := hg67
                  try simp only [decide_eq_true_eq, decide_eq_false_iff_not, Bool.and_eq_true, Bool.or_eq_true, Bool.not_eq_true', Bool.and_eq_false_iff, Bool.or_eq_false_iff, Bool.not_eq_false', bne_iff_ne, beq_iff_eq, ne_eq, not_and, Decidable.not_not, Bool.true_and, Bool.and_true, Bool.false_or, Bool.or_false] at g67
                  refine qF rfl rfl rfl ?_
                  refine qF rfl rfl rfl ?_
                  refine qF rfl rfl rfl ?_
                  refine q0 rfl (o_pickF ?_)
                  refine q0 rfl (o_move ?_)
                  refine qF rfl rfl rfl ?_
                  refine qF rfl rfl rfl ?_
                  refine qF rfl rfl rfl ?_
                  refine qF rfl rfl rfl ?_
                  refine qF rfl rfl rfl ?_
                  refine qF rfl rfl rfl ?_
                  refine q0 rfl (o_pickF ?_)
                  refine q0 rfl (o_assign ?_)
                  refine rg_nil ?_
                  exact go_state (fun w hs => (hs.less (by simp +contextual))) (hK _ ⟨(by first | rfl | ((conv => lhs; whnf); first | (simp_all [exR, exU, varT0, T.kids, T.kind, ex_formed, h18, hl18]; done) | (simp_all [exR, exU, varT0, T.kids, T.kind, ex_formed, h18, hl18]; omega))), trivial⟩)
              · have g63 : (decide (1 = 1)) = false := hg63
                try simp only [decide_eq_true_eq, decide_eq_false_iff_not, Bool.and_eq_true, Bool.or_eq_true, Bool.not_eq_true', Bool.and_eq_false_iff, Bool.or_eq_false_iff, Bool.not_eq_false', bne_iff_ne, beq_iff_eq, ne_eq, not_and, Decidable.not_not, Bool.true_and, Bool.and_true, Bool.false_or, Bool.or_false] at g63
                refine qF rfl rfl rfl ?_
                refine q0 rfl (o_pickF ?_)
                refine q0 rfl (o_move ?_)
                refine qF rfl rfl rfl ?_
                refine qF rfl rfl rfl ?_
                refine qF rfl rfl rfl ?_
                refine qF rfl rfl rfl ?_
                refine q0 rfl (o_pickF ?_)
                refine q0 rfl (o_move ?_)
                refine qF rfl rfl rfl ?_
                refine qF rfl rfl rfl ?_
                refine qF rfl rfl rfl ?_
                refine qF rfl rfl rfl ?_
                refine qF rfl rfl rfl ?_
                refine qF rfl rfl rfl ?_
                refine q0 rfl (o_pickF ?_)
                refine q0 rfl (o_assign ?_)
                refine rg_nil ?_
                exact go_state (fun w hs => (hs.less (by simp +contextual))) (hK _ ⟨(by first | rfl | ((conv => lhs; whnf); first | (simp_all [exR, exU, varT0, T.kids, T.kind, ex_formed, h18, hl18]; done) | (simp_all [exR, exU, varT0, T.kids, T.kind, ex_formed, h18, hl18]; omega))), trivial⟩)
            · have g58 : (decide (((varT0).kind) = 1)) = false := hg58
              try simp only [decide_eq_true_eq, decide_eq_false_iff_not, Bool.and_eq_true, Bool.or_eq_true, Bool.not_eq_true', Bool.and_eq_false_iff, Bool.or_eq_false_iff, Bool.not_eq_false', bne_iff_ne, beq_iff_eq, ne_eq, not_and, Decidable.not_not, Bool.true_and, Bool.and_true, Bool.false_or, Bool.or_false] at g58
              refine qF rfl rfl rfl ?_
              refine qF rfl rfl rfl ?_
              refine q0 rfl (o_pickF ?_)
              refine q0 rfl (o_move ?_)
              refine qF rfl rfl rfl ?_
              refine qF rfl rfl rfl ?_
              refine q0 rfl (o_pickF ?_)
              refine q0 rfl (o_move ?_)
              refine qF rfl rfl rfl ?_
              refine qF rfl rfl rfl ?_
              refine qF rfl rfl rfl ?_
              refine qF rfl rfl rfl ?_
              refine q0 rfl (o_pickF ?_)
              refine q0 rfl (o_move ?_)
              refine qF rfl rfl rfl ?_
              refine qF rfl rfl rfl ?_
              refine qF rfl rfl rfl ?_
              refine qF rfl rfl rfl ?_
              refine qF rfl rfl rfl ?_
              refine qF rfl rfl rfl ?_
              refine q0 rfl (o_pickF ?_)
              refine q0 rfl (o_assign ?_)
              refine rg_nil ?_
              exact go_state (fun w hs => (hs.less (by simp +contextual))) (hK _ ⟨(by first | rfl | ((conv => lhs; whnf); first | (simp_all [exR, exU, varT0, T.kids, T.kind, ex_formed, h18, hl18]; done) | (simp_all [exR, exU, varT0, T.kids, T.kind, ex_formed, h18, hl18]; omega))), trivial⟩)
          · have g52 : (decide (0 = 0)) = false := hg52
            try simp only [decide_eq_true_eq, decide_eq_false_iff_not, Bool.and_eq_true, Bool.or_eq_true, Bool.not_eq_true', Bool.and_eq_false_iff, Bool.or_eq_false_iff, Bool.not_eq_false', bne_iff_ne, beq_iff_eq, ne_eq, not_and, Decidable.not_not, Bool.true_and, Bool.and_true, Bool.false_or, Bool.or_false] at g52
            refine qF rfl rfl rfl ?_
            refine qF rfl rfl rfl ?_
            refine qF rfl rfl rfl ?_
            refine q0 rfl (o_pickF ?_)
            refine q0 rfl (o_move ?_)
            refine qF rfl rfl rfl ?_
            refine qF rfl rfl rfl ?_
            refine qF rfl rfl rfl ?_
            refine q0 rfl (o_pickF ?_)
            refine q0 rfl (o_move ?_)
            refine qF rfl rfl rfl ?_
            refine qF rfl rfl rfl ?_
            refine q0 rfl (o_pickF ?_)
            refine q0 rfl (o_move ?_)
            refine qF rfl rfl rfl ?_
            refine qF rfl rfl rfl ?_
            refine qF rfl rfl rfl ?_
            refine qF rfl rfl rfl ?_
            refine q0 rfl (o_pickF ?_)
            refine q0 rfl (o_move ?_)
            refine qF rfl rfl rfl ?_
            refine qF rfl rfl rfl ?_
            refine qF rfl rfl rfl ?_
            refine qF rfl rfl rfl ?_
            refine qF rfl rfl rfl ?_
            refine qF rfl rfl rfl ?_
            refine q0 rfl (o_pickF ?_)
            refine q0 rfl (o_assign ?_)
            refine rg_nil ?_
            exact go_state (fun w hs => (hs.less (by simp +contextual))) (hK _ ⟨(by first | rfl | ((conv => lhs; whnf); first | (simp_all [exR, exU, varT0, T.kids, T.kind, ex_formed, h18, hl18]; done) | (simp_all [exR, exU, varT0, T.kids, T.kind, ex_formed, h18, hl18]; omega))), trivial⟩)
        · have g48 : ((decide ((((x18.1.2).getD 3 ip0).1) = ([1, 0])))) = false := hg48
          try simp only [decide_eq_true_eq, decide_eq_false_iff_not, Bool.and_eq_true, Bool.or_eq_true, Bool.not_eq_true', Bool.and_eq_false_iff, Bool.or_eq_false_iff, Bool.not_eq_false', bne_iff_ne, beq_iff_eq, ne_eq, not_and, Decidable.not_not, Bool.true_and, Bool.and_true, Bool.false_or, Bool.or_false] at g48
          refine qF rfl rfl rfl ?_
          refine q0 rfl (o_pickF ?_)
          refine q0 rfl (o_move ?_)
          refine qF rfl rfl rfl ?_
          refine qF rfl rfl rfl ?_
          refine qF rfl rfl rfl ?_
          refine qF rfl rfl rfl ?_
          refine q0 rfl (o_pickF ?_)
          refine q0 rfl (o_move ?_)
          refine qF rfl rfl rfl ?_
          refine qF rfl rfl rfl ?_
          refine qF rfl rfl rfl ?_
          refine q0 rfl (o_pickF ?_)
          refine q0 rfl (o_move ?_)
          refine qF rfl rfl rfl ?_
          refine qF rfl rfl rfl ?_
          refine q0 rfl (o_pickF ?_)
          refine q0 rfl (o_move ?_)
          refine qF rfl rfl rfl ?_
          refine qF rfl rfl rfl ?_
          refine qF rfl rfl rfl ?_
          refine qF rfl rfl rfl ?_
          refine q0 rfl (o_pickF ?_)
          refine q0 rfl (o_move ?_)
          refine qF rfl rfl rfl ?_
          refine qF rfl rfl rfl ?_
          refine qF rfl rfl rfl ?_
          refine qF rfl rfl rfl ?_
          refine qF rfl rfl rfl ?_
          refine qF rfl rfl rfl ?_
          refine q0 rfl (o_pickF ?_)
          refine q0 rfl (o_assign ?_)
          refine rg_nil ?_
          exact go_state (fun w hs => (hs.less (by simp +contextual))) (hK _ ⟨(by first | rfl | ((conv => lhs; whnf); first | (simp_all [exR, exU, varT0, T.kids, T.kind, ex_formed, h18, hl18]; done) | (simp_all [exR, exU, varT0, T.kids, T.kind, ex_formed, h18, hl18]; omega))), trivial⟩)
      · have g41 : (decide (((x18.1.2).length : Int) = 4)) = false := hg41
        try simp only [decide_eq_true_eq, decide_eq_false_iff_not, Bool.and_eq_true, Bool.or_eq_true, Bool.not_eq_true', Bool.and_eq_false_iff, Bool.or_eq_false_iff, Bool.not_eq_false', bne_iff_ne, beq_iff_eq, ne_eq, not_and, Decidable.not_not, Bool.true_and, Bool.and_true, Bool.false_or, Bool.or_false] at g41
        refine qF rfl rfl rfl ?_
        refine qF rfl rfl rfl ?_
        refine qF rfl rfl rfl ?_
        refine qF rfl rfl rfl ?_
        refine q0 rfl (o_pickF ?_)
        refine q0 rfl (o_move ?_)
        refine qF rfl rfl rfl ?_
        refine qF rfl rfl rfl ?_
        refine q0 rfl (o_pickF ?_)
        refine q0 rfl (o_move ?_)
        refine qF rfl rfl rfl ?_
        refine qF rfl rfl rfl ?_
        refine qF rfl rfl rfl ?_
        refine qF rfl rfl rfl ?_
        refine q0 rfl (o_pickF ?_)
        refine q0 rfl (o_move ?_)
        refine qF rfl rfl rfl ?_
        refine qF rfl rfl rfl ?_
        refine qF rfl rfl rfl ?_
        refine q0 rfl (o_pickF ?_)
        refine q0 rfl (o_move ?_)
        refine qF rfl rfl rfl ?_
        refine qF rfl rfl rfl ?_
        refine q0 rfl (o_pickF ?_)
        refine q0 rfl (o_move ?_)
        refine qF rfl rfl rfl ?_
        refine qF rfl rfl rfl ?_
        refine qF rfl rfl rfl ?_
        refine qF rfl rfl rfl ?_
        refine q0 rfl (o_pickF ?_)
        refine q0 rfl (o_move ?_)
        refine qF rfl rfl rfl ?_
        refine qF rfl rfl rfl ?_
        refine qF rfl rfl rfl ?_
        refine qF rfl rfl rfl ?_
        refine qF rfl rfl rfl ?_
        refine qF rfl rfl rfl ?_
        refine q0 rfl (o_pickF ?_)
        refine q0 rfl (o_assign ?_)
        refine rg_nil ?_
        exact hK _ ⟨(by first | rfl | ((conv => lhs; whnf); first | (simp_all [exR, exU, varT0, T.kids, T.kind, ex_formed, h18, hl18]; done) | (simp_all [exR, exU, varT0, T.kids, T.kind, ex_formed, h18, hl18]; omega))), trivial⟩
    · have g36 : (decide ((formedP exT) = 0)) = false := hg36
      try simp only [decide_eq_true_eq, decide_eq_false_iff_not, Bool.and_eq_true, Bool.or_eq_true, Bool.not_eq_true', Bool.and_eq_false_iff, Bool.or_eq_false_iff, Bool.not_eq_false', bne_iff_ne, beq_iff_eq, ne_eq, not_and, Decidable.not_not, Bool.true_and, Bool.and_true, Bool.false_or, Bool.or_false] at g36
      refine qF rfl rfl rfl ?_
      refine qF rfl rfl rfl ?_
      refine q0 rfl (o_pickF ?_)
      refine q0 rfl (o_move ?_)
      refine qF rfl rfl rfl ?_
      refine qF rfl rfl rfl ?_
      refine qF rfl rfl rfl ?_
      refine qF rfl rfl rfl ?_
      refine qF rfl rfl rfl ?_
      refine q0 rfl (o_pickF ?_)
      refine q0 rfl (o_move ?_)
      refine qF rfl rfl rfl ?_
      refine qF rfl rfl rfl ?_
      refine q0 rfl (o_pickF ?_)
      refine q0 rfl (o_move ?_)
      refine qF rfl rfl rfl ?_
      refine qF rfl rfl rfl ?_
      refine qF rfl rfl rfl ?_
      refine qF rfl rfl rfl ?_
      refine q0 rfl (o_pickF ?_)
      refine q0 rfl (o_move ?_)
      refine qF rfl rfl rfl ?_
      refine qF rfl rfl rfl ?_
      refine qF rfl rfl rfl ?_
      refine q0 rfl (o_pickF ?_)
      refine q0 rfl (o_move ?_)
      refine qF rfl rfl rfl ?_
      refine qF rfl rfl rfl ?_
      refine q0 rfl (o_pickF ?_)
      refine q0 rfl (o_move ?_)
      refine qF rfl rfl rfl ?_
      refine qF rfl rfl rfl ?_
      refine qF rfl rfl rfl ?_
      refine qF rfl rfl rfl ?_
      refine q0 rfl (o_pickF ?_)
      refine q0 rfl (o_move ?_)
      refine qF rfl rfl rfl ?_
      refine qF rfl rfl rfl ?_
      refine qF rfl rfl rfl ?_
      refine qF rfl rfl rfl ?_
      refine qF rfl rfl rfl ?_
      refine qF rfl rfl rfl ?_
      refine q0 rfl (o_pickF ?_)
      refine q0 rfl (o_assign ?_)
      refine rg_nil ?_
      exact hK _ ⟨(by first | rfl | ((conv => lhs; whnf); first | (simp_all [exR, exU, varT0, T.kids, T.kind, ex_formed, h18, hl18]; done) | (simp_all [exR, exU, varT0, T.kids, T.kind, ex_formed, h18, hl18]; omega))), trivial⟩
  · -- leaf 0: .bool (true)
    refine ret1 Tryz.func15 Tryz.results15 (by first | ((conv => lhs; whnf); done) | rfl) () (by first | rfl | (simp_all; done)) (fun w hs => hs.none)
end Go.Hy
namespace Go.Hy
set_option linter.unusedVariables false
set_option linter.unusedSimpArgs false
set_option linter.unusedSectionVars false
open Go.Proofs
set_option linter.unusedVariables false
set_option linter.unusedSimpArgs false
set_option maxRecDepth 100000
abbrev RcmpO (p : List Int) : Prop := ∀ (a_p : SH) (q : List Int) (a_q : SH), Spec Tryz.prog 28 #[sl a_p p.length, sl a_q q.length] [IL p a_p, IL q a_q] [] (fun _ : Unit => .int .i64 (cmpP p q)) (fun _ => []) (fun _ => [])
theorem rcmp_walk (p : List Int) (a_p : SH) (q : List Int) (a_q : SH) (ih : 0 < p.length → RcmpO (p.drop 1)) : Spec Tryz.prog 28 #[sl a_p (p.length), sl a_q (q.length)] [IL p a_p, IL q a_q] [] (fun _ : Unit => .int .i64 (cmpP p q)) (fun _ : Unit => []) (fun _ : Unit => []) := by
  refine spec_go (args := [sl a_p (p.length), sl a_q (q.length)]) Tryz.func28 Tryz.ntmps28 rfl (by exact Nat.le_of_ble_eq_true rfl) fun B hB => ?_
  refine go_openIL (l := p) (a := a_p) (fun hl1 hA1 hU1 => ?_)
  refine go_openIL (l := q) (a := a_q) (fun hl2 hA2 hU2 => ?_)
  refine go_seq ?_
  refine go_region ⟨_, Tryz.func28⟩ rfl ?_
  refine q0 rfl (o_assign ?_)
  refine rg_nil ?_
  refine go_seq ?_
  refine go_seq ?_
  refine go_cutS ([(0, sl a_p (p.length)), (1, sl a_q (q.length)), (12, .bool ((decide ((p.length : Int) = 0)) && (decide ((q.length : Int) = 0))))]) (fun hK => ?_) (fun base => ?_)
  · refine go_region ⟨_, Tryz.func28⟩ rfl ?_
    refine q0 rfl (o_move ?_)
    refine q0 rfl (o_len ?_)
    refine q0 rfl (o_eqI ?_)
    refine q0 rfl (o_move ?_)
    refine qI rfl rfl rfl (by conv => lhs; whnf) (fun hg8 => ?_) (fun hg8 => ?_)
    · have g8 : (decide ((p.length : Int) = 0)) = true := hg8
      try simp only [decide_eq_true_eq, decide_eq_false_iff_not, Bool.and_eq_true, Bool.or_eq_true, Bool.not_eq_true', Bool.and_eq_false_iff, Bool.or_eq_false_iff, Bool.not_eq_false', bne_iff_ne, beq_iff_eq, ne_eq, not_and, Decidable.not_not, Bool.true_and, Bool.and_true, Bool.false_or, Bool.or_false] at g8
      refine o_move ?_
      refine qT rfl rfl rfl (o_len ?_)
      refine qT rfl rfl rfl (o_eqI ?_)
      refine q0 rfl (o_pickT ?_)
      refine rg_nil ?_
      exact hK _ ⟨rfl, rfl, (by first | rfl | ((conv => lhs; whnf); first | (simp_all; done) | (simp_all; omega))), trivial⟩
    · have g8 : (decide ((p.length : Int) = 0)) = false := hg8
      try simp only [decide_eq_true_eq, decide_eq_false_iff_not, Bool.and_eq_true, Bool.or_eq_true, Bool.not_eq_true', Bool.and_eq_false_iff, Bool.or_eq_false_iff, Bool.not_eq_false', bne_iff_ne, beq_iff_eq, ne_eq, not_and, Decidable.not_not, Bool.true_and, Bool.and_true, Bool.false_or, Bool.or_false] at g8
      refine qF rfl rfl rfl ?_
      refine qF rfl rfl rfl ?_
      refine q0 rfl (o_pickF ?_)
      refine rg_nil ?_
      exact hK _ ⟨rfl, rfl, (by first | rfl | ((conv => lhs; whnf); first | (simp_all; done) | (simp_all; omega))), trivial⟩
  · refine go_condI (fun h12 => ?_) (fun h12 => ?_)
    · have c12 : ((decide ((p.length : Int) = 0)) && (decide ((q.length : Int) = 0))) = true := h12
      try simp only [decide_eq_true_eq, decide_eq_false_iff_not, Bool.and_eq_true, Bool.or_eq_true, Bool.not_eq_true', Bool.and_eq_false_iff, Bool.or_eq_false_iff, Bool.not_eq_false', bne_iff_ne, beq_iff_eq, ne_eq, not_and, Decidable.not_not, Bool.true_and, Bool.and_true, Bool.false_or, Bool.or_false] at c12
      have hc12 : p.length = 0 ∧ q.length = 0 := by simp at h12; exact ⟨by simp [h12.1], by simp [h12.2]⟩
      refine go_seq ?_
      refine go_region ⟨_, Tryz.func28⟩ rfl ?_
      refine q0 rfl (o_assign ?_)
      refine rg_nil ?_
      -- leaf 0: .int .i64 (0)
      refine ret1 Tryz.func28 Tryz.results28 (by first | ((conv => lhs; whnf); done) | rfl) () (by rw [cmpP_nil (.inl hc12.1), if_pos hc12.1, if_pos hc12.2]) (fun w hs => hs.none)
    · have c12 : ((decide ((p.length : Int) = 0)) && (decide ((q.length : Int) = 0))) = false := h12
      try simp only [decide_eq_true_eq, decide_eq_false_iff_not, Bool.and_eq_true, Bool.or_eq_true, Bool.not_eq_true', Bool.and_eq_false_iff, Bool.or_eq_false_iff, Bool.not_eq_false', bne_iff_ne, beq_iff_eq, ne_eq, not_and, Decidable.not_not, Bool.true_and, Bool.and_true, Bool.false_or, Bool.or_false] at c12
      refine go_skip ?_
      refine go_seq ?_
      refine go_seq ?_
      refine go_region ⟨_, Tryz.func28⟩ rfl ?_
      refine q0 rfl (o_move ?_)
      refine q0 rfl (o_len ?_)
      refine q0 rfl (o_eqI ?_)
      refine rg_nil ?_
      refine go_condI (fun h15 => ?_) (fun h15 => ?_)
      · have c15 : (decide ((p.length : Int) = 0)) = true := h15
        try simp only [decide_eq_true_eq, decide_eq_false_iff_not, Bool.and_eq_true, Bool.or_eq_true, Bool.not_eq_true', Bool.and_eq_false_iff, Bool.or_eq_false_iff, Bool.not_eq_false', bne_iff_ne, beq_iff_eq, ne_eq, not_and, Decidable.not_not, Bool.true_and, Bool.and_true, Bool.false_or, Bool.or_false] at c15
        have hp0 : p.length = 0 := by omega
        have hq0 : q.length ≠ 0 := by intro h9; simp [hp0, h9] at h12
        refine go_seq ?_
        refine go_region ⟨_, Tryz.func28⟩ rfl ?_
        refine q0 rfl (o_assign ?_)
        refine rg_nil ?_
        -- leaf 1: .int .i64 (-1)
        refine ret1 Tryz.func28 Tryz.results28 (by first | ((conv => lhs; whnf); done) | rfl) () (by rw [cmpP_nil (.inl hp0), if_pos hp0, if_neg hq0]) (fun w hs => hs.none)
      · have c15 : (decide ((p.length : Int) = 0)) = false := h15
        try simp only [decide_eq_true_eq, decide_eq_false_iff_not, Bool.and_eq_true, Bool.or_eq_true, Bool.not_eq_true', Bool.and_eq_false_iff, Bool.or_eq_false_iff, Bool.not_eq_false', bne_iff_ne, beq_iff_eq, ne_eq, not_and, Decidable.not_not, Bool.true_and, Bool.and_true, Bool.false_or, Bool.or_false] at c15
        refine go_skip ?_
        refine go_seq ?_
        refine go_seq ?_
        refine go_region ⟨_, Tryz.func28⟩ rfl ?_
        refine q0 rfl (o_move ?_)
        refine q0 rfl (o_len ?_)
        refine q0 rfl (o_eqI ?_)
        refine rg_nil ?_
        refine go_condI (fun h18 => ?_) (fun h18 => ?_)
        · have c18 : (decide ((q.length : Int) = 0)) = true := h18
          try simp only [decide_eq_true_eq, decide_eq_false_iff_not, Bool.and_eq_true, Bool.or_eq_true, Bool.not_eq_true', Bool.and_eq_false_iff, Bool.or_eq_false_iff, Bool.not_eq_false', bne_iff_ne, beq_iff_eq, ne_eq, not_and, Decidable.not_not, Bool.true_and, Bool.and_true, Bool.false_or, Bool.or_false] at c18
          have hq0 : q.length = 0 := by omega
          refine go_seq ?_
          refine go_region ⟨_, Tryz.func28⟩ rfl ?_
          refine q0 rfl (o_assign ?_)
          refine rg_nil ?_
          -- leaf 2: .int .i64 (1)
          refine ret1 Tryz.func28 Tryz.results28 (by first | ((conv => lhs; whnf); done) | rfl) () (by rw [cmpP_nil (.inr hq0), if_neg (by omega)]) (fun w hs => hs.none)
        · have c18 : (decide ((q.length : Int) = 0)) = false := h18
          try simp only [decide_eq_true_eq, decide_eq_false_iff_not, Bool.and_eq_true, Bool.or_eq_true, Bool.not_eq_true', Bool.and_eq_false_iff, Bool.or_eq_false_iff, Bool.not_eq_false', bne_iff_ne, beq_iff_eq, ne_eq, not_and, Decidable.not_not, Bool.true_and, Bool.and_true, Bool.false_or, Bool.or_false] at c18
          have hpp : 0 < p.length := by omega
          have hqp : 0 < q.length := by omega
          have hcc := cmpP_cons hpp hqp
          refine go_skip ?_
          refine go_seq ?_
          refine go_seq ?_
          refine go_draw (tn := false) (A := [0, 1, 3, 0, 8, 24, 63]) (l := [0, 1, 2, 3, 4, 5, 6]) (fin := []) Tab.mixed ⟨_, Tryz.func28⟩ (by rfl) ?_
          refine n0 rfl (v_move ?_)
          obtain ⟨bk3, o3, hav3⟩ := hA1 (by omega)
          refine n0 rfl (v_ixN ?_ (j := 0))
          refine n0 rfl (v_ldI ?_)
          refine n0 rfl (v_move ?_)
          obtain ⟨bk4, o4, hav4⟩ := hA2 (by omega)
          refine n0 rfl (v_ixN ?_ (j := 0))
          refine n0 rfl (v_ldI ?_)
          refine n0 rfl (v_lss ?_)
          refine NV.done ?_
          refine rg_nil ?_
          refine go_condI (fun h25 => ?_) (fun h25 => ?_)
          · have c25 : (decide ((p.getD 0 0) < (q.getD 0 0))) = true := h25
            try simp only [decide_eq_true_eq, decide_eq_false_iff_not, Bool.and_eq_true, Bool.or_eq_true, Bool.not_eq_true', Bool.and_eq_false_iff, Bool.or_eq_false_iff, Bool.not_eq_false', bne_iff_ne, beq_iff_eq, ne_eq, not_and, Decidable.not_not, Bool.true_and, Bool.and_true, Bool.false_or, Bool.or_false] at c25
            refine go_seq ?_
            refine go_region ⟨_, Tryz.func28⟩ rfl ?_
            refine q0 rfl (o_assign ?_)
            refine rg_nil ?_
            -- leaf 3: .int .i64 (-1)
            refine ret1 Tryz.func28 Tryz.results28 (by first | ((conv => lhs; whnf); done) | rfl) () (by rw [hcc, if_pos c25]) (fun w hs => hs.none)
          · have c25 : (decide ((p.getD 0 0) < (q.getD 0 0))) = false := h25
            try simp only [decide_eq_true_eq, decide_eq_false_iff_not, Bool.and_eq_true, Bool.or_eq_true, Bool.not_eq_true', Bool.and_eq_false_iff, Bool.or_eq_false_iff, Bool.not_eq_false', bne_iff_ne, beq_iff_eq, ne_eq, not_and, Decidable.not_not, Bool.true_and, Bool.and_true, Bool.false_or, Bool.or_false] at c25
            refine go_skip ?_
            refine go_seq ?_
            refine go_seq ?_
            refine go_draw (tn := false) (A := [0, 1, 3, 0, 8, 24, 63]) (l := [0, 1, 2, 3, 4, 5, 6]) (fin := []) Tab.mixed ⟨_, Tryz.func28⟩ (by rfl) ?_
            refine n0 rfl (v_move ?_)
            refine n0 rfl (v_ixN ?_ (j := 0))
            refine n0 rfl (v_ldI ?_)
            refine n0 rfl (v_move ?_)
            refine n0 rfl (v_ixN ?_ (j := 0))
            refine n0 rfl (v_ldI ?_)
            refine n0 rfl (v_gtr ?_)
            refine NV.done ?_
            refine rg_nil ?_
            refine go_condI (fun h32 => ?_) (fun h32 => ?_)
            · have c32 : (decide ((q.getD 0 0) < (p.getD 0 0))) = true := h32
              try simp only [decide_eq_true_eq, decide_eq_false_iff_not, Bool.and_eq_true, Bool.or_eq_true, Bool.not_eq_true', Bool.and_eq_false_iff, Bool.or_eq_false_iff, Bool.not_eq_false', bne_iff_ne, beq_iff_eq, ne_eq, not_and, Decidable.not_not, Bool.true_and, Bool.and_true, Bool.false_or, Bool.or_false] at c32
              refine go_seq ?_
              refine go_region ⟨_, Tryz.func28⟩ rfl ?_
              refine q0 rfl (o_assign ?_)
              refine rg_nil ?_
              -- leaf 4: .int .i64 (1)
              refine ret1 Tryz.func28 Tryz.results28 (by first | ((conv => lhs; whnf); done) | rfl) () (by rw [hcc, if_neg (by omega), if_pos c32]) (fun w hs => hs.none)
            · have c32 : (decide ((q.getD 0 0) < (p.getD 0 0))) = false := h32
              try simp only [decide_eq_true_eq, decide_eq_false_iff_not, Bool.and_eq_true, Bool.or_eq_true, Bool.not_eq_true', Bool.and_eq_false_iff, Bool.or_eq_false_iff, Bool.not_eq_false', bne_iff_ne, beq_iff_eq, ne_eq, not_and, Decidable.not_not, Bool.true_and, Bool.and_true, Bool.false_or, Bool.or_false] at c32
              refine go_state (fun w hs => hs.dropIL (l := p) (a := a_p) 1 (by first | ((repeat (first | exact List.mem_cons_self | apply List.mem_cons_of_mem)); done) | (simp only [List.nil_append, List.cons_append]; (repeat (first | exact List.mem_cons_self | apply List.mem_cons_of_mem)))) (by omega)) ?_
              refine go_state (fun w hs => hs.dropIL (l := q) (a := a_q) 1 (by first | ((repeat (first | exact List.mem_cons_self | apply List.mem_cons_of_mem)); done) | (simp only [List.nil_append, List.cons_append]; (repeat (first | exact List.mem_cons_self | apply List.mem_cons_of_mem)))) (by omega)) ?_
              have hih := ih hpp (dropSH a_p 1 1) (q.drop 1) (dropSH a_q 1 1)
              rw [show (p.drop 1).length = p.length - 1 by simp, show (q.drop 1).length = q.length - 1 by simp] at hih
              refine go_skip ?_
              refine go_seq ?_
              refine go_draw (tn := false) (A := [0, 1, 0, 4, 15, 31]) (l := [0, 1, 2, 3, 4, 5]) (fin := []) Tab.mixed ⟨_, Tryz.func28⟩ (by rfl) ?_
              refine n0 rfl (v_move ?_)
              refine n0 rfl (v_sliceLo ?_ (k := 1) (a := a_p))
              refine n0 rfl (v_move ?_)
              refine n0 rfl (v_sliceLo ?_ (k := 1) (a := a_q))
              refine n0 rfl (v_call Tryz.call28 (hih) (fun x37 => ?_))
              refine n0 rfl (v_assign ?_)
              refine NV.done ?_
              refine rg_nil ?_
              -- leaf 5: .int .i64 (cmpP (p.drop 1) (q.drop 1))
              refine ret1 Tryz.func28 Tryz.results28 (by first | ((conv => lhs; whnf); done) | rfl) () (by rw [hcc, if_neg (by omega), if_neg (by omega)]) (fun w hs => hs.none)
theorem rcmpO : ∀ p : List Int, RcmpO p := list_len_ind fun p ih a_p q a_q => rcmp_walk p a_p q a_q ih
theorem rkids30_walk (t : T) (vr_t vk_t vs_t : SH) (hz : size t ≤ 1000000000) : Spec Tryz.prog 24 #[.agg (tc t vr_t vk_t vs_t).toArray] [RT t vr_t vk_t vs_t] [] (fun x : {x : SH × List QP // x.2.map qer = parts t} => sl x.1.1 x.1.2.length) (fun x : {x : SH × List QP // x.2.map qer = parts t} => [SPF x.1.2 x.1.1]) (fun x : {x : SH × List QP // x.2.map qer = parts t} => []) := by
  refine spec_go (args := [.agg (tc t vr_t vk_t vs_t).toArray]) Tryz.func24 Tryz.ntmps24 rfl (by exact Nat.le_of_ble_eq_true rfl) fun B hB => ?_
  refine go_open (t := t) (vr := vr_t) (vk := vk_t) (vs := vs_t) (fun hk1 hn1 hm1 => ?_)
  refine go_openCL (l := (t).r) (a := vr_t) (fun hl2 hA2 hU2 => ?_)
  refine go_openTL (ts := (t).kids) (a := vk_t) (fun VR3 VK3 VS3 hl3 hA3 => ?_)
  refine go_openBL (bs := (t).sys) (a := vs_t) (fun VF4 VK4 hl4 hA4 => ?_)
  have hpn := parts_len t
  have hp0 : t.kids.length ≤ (parts t).length := sys_le (t := t) (Nat.zero_le _)
  refine go_seq ?_
  refine go_region ⟨_, Tryz.func24⟩ rfl ?_
  refine q0 rfl (o_box fun b1 => ?_)
  refine q0 rfl (o_assign ?_)
  refine rg_nil ?_
  refine go_seq ?_
  refine go_region ⟨_, Tryz.func24⟩ rfl ?_
  refine q0 rfl (o_assign ?_)
  refine rg_nil ?_
  refine go_seq ?_
  refine go_seq ?_
  refine go_region ⟨_, Tryz.func24⟩ rfl ?_
  refine q0 rfl (o_assign ?_)
  refine rg_nil ?_
  refine go_block ?_
  refine go_loopE (X := Nat × SH × List QP) (fun s_ => s_.1 ≤ t.kids.length ∧ s_.2.2.map qer = (parts t).take s_.1) (fun s_ => [(1, .pointer (some ⟨b1, 0, none⟩)), (3, sl s_.2.1 (s_.1)), (4, .int .i64 ((s_.1 : Int)))]) (fun s_ G_ => AllF qE s_.2.2 :: G_) (fun s_ => [rowS 8 47 s_.2.1 (s_.1) (spFlat s_.2.2), boxR b1 (tc t vr_t vk_t vs_t) 26]) (fun s_ => t.kids.length - s_.1) (0, (none, 0), []) (⟨by omega, rfl⟩) (by exact ⟨rfl, rfl, rfl, trivial⟩) ?_ ?_
  · exact fun w hs => ((hs.rowS0 8 47).allNil qE)
  · intro ⟨i, a, qs⟩ base0 ⟨hi, hqs⟩ next0
    dsimp only at  hi  hqs  next0 ⊢
    refine go_seq ?_
    refine go_seq ?_
    refine go_region ⟨_, Tryz.func24⟩ rfl ?_
    refine q0 rfl (o_move ?_)
    refine q0 rfl (o_fa ?_)
    refine q0 rfl (o_ld ?_)
    refine q0 rfl (o_len ?_)
    refine q0 rfl (o_lss ?_)
    refine rg_nil ?_
    refine go_condI (fun h13 => ?_) (fun h13 => ?_)
    · have c13 : (decide ((i : Int) < ((t).kids.length : Int))) = true := h13
      try simp only [decide_eq_true_eq, decide_eq_false_iff_not, Bool.and_eq_true, Bool.or_eq_true, Bool.not_eq_true', Bool.and_eq_false_iff, Bool.or_eq_false_iff, Bool.not_eq_false', bne_iff_ne, beq_iff_eq, ne_eq, not_and, Decidable.not_not, Bool.true_and, Bool.and_true, Bool.false_or, Bool.or_false] at c13
      refine go_skip ?_
      refine go_seq ?_
      refine go_block ?_
      refine go_seq ?_
      refine go_region ⟨_, Tryz.func24⟩ rfl ?_
      refine q0 rfl (o_fa ?_)
      refine q0 rfl (o_ld ?_)
      refine q0 rfl (o_move ?_)
      refine q0 rfl (o_call Tryz.call39 (rbinds_spec ((t).kind) (i : Int) ) (fun x20 => ?_))
      refine q0 rfl (o_move ?_)
      refine q0 rfl (o_extract ?_)
      refine q0 rfl (o_extract ?_)
      refine q0 rfl (o_assign ?_)
      refine q0 rfl (o_assign ?_)
      refine rg_nil ?_
      refine go_kid (ts := (t).kids) (a := vk_t) (VR := VR3) (VK := VK3) (VS := VS3) i (by omega) ?_
      refine go_region ⟨_, Tryz.func24⟩ rfl ?_
      refine q0 rfl (o_move ?_)
      refine q0 rfl (o_fa ?_)
      refine q0 rfl (o_ld ?_)
      refine q0 rfl (o_move ?_)
      obtain ⟨bk5, o5, hav5⟩ := hA3 (by omega)
      refine q0 rfl (o_ixN ?_ (j := i))
      refine q0 rfl (o_ldT ?_)
      refine q0 rfl (o_move ?_)
      refine q0 rfl (o_move ?_)
      refine q0 rfl (o_build (cs := [.int .i64 ((((t).kids).getD i t0).kind), .int .i64 ((((t).kids).getD i t0).n), .string ((((t).kids).getD i t0).name), sl (VR3 i) ((((t).kids).getD i t0).r.length), sl (VK3 i) ((((t).kids).getD i t0).kids.length), sl (VS3 i) ((((t).kids).getD i t0).sys.length), .int .i64 ((binds ((t).kind) (i : Int)).1), .int .i64 ((binds ((t).kind) (i : Int)).2)]) ?_ (hb := fill_spot012 (by rfl) (by rfl)))
      refine q0 rfl (o_lit1 fun b32 => ?_)
      refine q0 rfl (o_appS (fun a33 => ?_) (a := a) (n' := i))
      refine rg_state (fun w hs => ((hs.perm perm1).drop).snocQ (q := ((((t).kids).getD i t0, VR3 i, VK3 i, VS3 i), (binds ((t).kind) (i : Int)).1, (binds ((t).kind) (i : Int)).2)) rfl) ?_
      refine q0 rfl (o_assign ?_)
      refine rg_nil ?_
      refine go_inBlock ?_
      refine go_region ⟨_, Tryz.func24⟩ rfl ?_
      refine q0 rfl (o_move ?_)
      refine q0 rfl (o_add ?_)
      refine q0 rfl (o_assign ?_)
      refine rg_nil ?_
      refine go_state (fun w hs => ?_) (next0 (i + 1, a33, (qs ++ [((((t).kids).getD i t0, VR3 i, VK3 i, VS3 i), (binds ((t).kind) (i : Int)).1, (binds ((t).kind) (i : Int)).2)])) _ (⟨by omega, by rw [List.map_append, hqs, take_snoc (parts_kid t i (by omega))]; rfl⟩) (by (try simp only); omega) ⟨rfl, rfl, rfl, trivial⟩)
      exact ((((hs.allAdd (E := qE) (l := qs) (x := ((((t).kids).getD i t0, VR3 i, VK3 i, VS3 i), (binds ((t).kind) (i : Int)).1, (binds ((t).kind) (i : Int)).2)) (by first | ((repeat (first | exact List.mem_cons_self | apply List.mem_cons_of_mem)); done) | (simp only [List.nil_append, List.cons_append]; (repeat (first | exact List.mem_cons_self | apply List.mem_cons_of_mem)))) (by first | ((repeat (first | exact List.mem_cons_self | apply List.mem_cons_of_mem)); done) | (simp only [List.nil_append, List.cons_append]; (repeat (first | exact List.mem_cons_self | apply List.mem_cons_of_mem))))).less (by simp +contextual)).perm perm1).perm perm1)
    · have c13 : (decide ((i : Int) < ((t).kids.length : Int))) = false := h13
      try simp only [decide_eq_true_eq, decide_eq_false_iff_not, Bool.and_eq_true, Bool.or_eq_true, Bool.not_eq_true', Bool.and_eq_false_iff, Bool.or_eq_false_iff, Bool.not_eq_false', bne_iff_ne, beq_iff_eq, ne_eq, not_and, Decidable.not_not, Bool.true_and, Bool.and_true, Bool.false_or, Bool.or_false] at c13
      have hei : i = t.kids.length := by omega
      refine go_ms (Ms' := [rowS 8 47 a (t.kids.length) (spFlat qs), boxR b1 (tc t vr_t vk_t vs_t) 26]) (by rw [hei]) ?_
      refine go_exit rfl ?_
      refine go_seq ?_
      refine go_seq ?_
      refine go_region ⟨_, Tryz.func24⟩ rfl ?_
      refine q0 rfl (o_assign ?_)
      refine rg_nil ?_
      refine go_block ?_
      refine go_loopE (X := Nat × SH × List QP) (fun s_ => s_.1 ≤ t.sys.length ∧ s_.2.2.map qer = (parts t).take (t.kids.length + sysBefore s_.1 t.sys)) (fun s_ => [(1, .pointer (some ⟨b1, 0, none⟩)), (3, sl s_.2.1 ((t.kids.length + sysBefore s_.1 t.sys))), (7, .int .i64 ((s_.1 : Int)))]) (fun s_ G_ => AllF qE s_.2.2 :: G_) (fun s_ => [rowS 8 47 s_.2.1 ((t.kids.length + sysBefore s_.1 t.sys)) (spFlat s_.2.2), boxR b1 (tc t vr_t vk_t vs_t) 26]) (fun s_ => t.sys.length - s_.1) (0, a, qs) (⟨by omega, by rw [hqs, hei]; rfl⟩) (by exact ⟨rfl, (by (conv => lhs; whnf); rw [hei]; rfl), rfl, trivial⟩) ?_ ?_
      · exact fun w hs => (hs.less (by simp +contextual))
      · intro ⟨s, a2, qs2⟩ base1 ⟨hs1, hq2⟩ next1
        dsimp only at  hs1  hq2  next1 ⊢
        refine go_seq ?_
        refine go_seq ?_
        refine go_region ⟨_, Tryz.func24⟩ rfl ?_
        refine q0 rfl (o_move ?_)
        refine q0 rfl (o_fa ?_)
        refine q0 rfl (o_ld ?_)
        refine q0 rfl (o_len ?_)
        refine q0 rfl (o_lss ?_)
        refine rg_nil ?_
        refine go_condI (fun h38 => ?_) (fun h38 => ?_)
        · have c38 : (decide ((s : Int) < ((t).sys.length : Int))) = true := h38
          try simp only [decide_eq_true_eq, decide_eq_false_iff_not, Bool.and_eq_true, Bool.or_eq_true, Bool.not_eq_true', Bool.and_eq_false_iff, Bool.or_eq_false_iff, Bool.not_eq_false', bne_iff_ne, beq_iff_eq, ne_eq, not_and, Decidable.not_not, Bool.true_and, Bool.and_true, Bool.false_or, Bool.or_false] at c38
          have hp1 := sys_le (t := t) (s := s + 1) (by omega)
          rw [sysBefore_succ s t.sys (by omega)] at hp1
          refine go_skip ?_
          refine go_seq ?_
          refine go_block ?_
          refine go_seq ?_
          refine go_region ⟨_, Tryz.func24⟩ rfl ?_
          refine q0 rfl (o_assign ?_)
          refine rg_nil ?_
          refine go_block ?_
          refine go_loopE (X := Nat × SH × List QP) (fun s_ => s_.1 ≤ (t.sys.getD s br0).kids.length ∧ s_.2.2.map qer = (parts t).take (t.kids.length + sysBefore s t.sys + s_.1)) (fun s_ => [(1, .pointer (some ⟨b1, 0, none⟩)), (3, sl s_.2.1 ((t.kids.length + sysBefore s t.sys + s_.1))), (7, .int .i64 ((s : Int))), (8, .int .i64 ((s_.1 : Int)))]) (fun s_ G_ => AllF qE s_.2.2 :: G_) (fun s_ => [rowS 8 47 s_.2.1 ((t.kids.length + sysBefore s t.sys + s_.1)) (spFlat s_.2.2), boxR b1 (tc t vr_t vk_t vs_t) 26]) (fun s_ => (t.sys.getD s br0).kids.length - s_.1) (0, a2, qs2) (⟨by omega, hq2⟩) (by exact ⟨rfl, rfl, rfl, rfl, trivial⟩) ?_ ?_
          · exact fun w hs => (hs.less (by simp +contextual))
          · intro ⟨k, a3, qs3⟩ base2 ⟨hk1, hq3⟩ next2
            dsimp only at  hk1  hq3  next2 ⊢
            refine go_seq ?_
            refine go_seq ?_
            refine go_branch (bs := (t).sys) (a := vs_t) (VF := VF4) (VK := VK4) s (by omega) ?_
            refine go_openCL (l := (((t).sys).getD s br0).face) (a := VF4 s) (fun hl6 hA6 hU6 => ?_)
            refine go_openTL (ts := (((t).sys).getD s br0).kids) (a := VK4 s) (fun VR7 VK7 VS7 hl7 hA7 => ?_)
            refine go_region ⟨_, Tryz.func24⟩ rfl ?_
            refine q0 rfl (o_move ?_)
            refine q0 rfl (o_fa ?_)
            refine q0 rfl (o_ld ?_)
            refine q0 rfl (o_move ?_)
            obtain ⟨bk8, o8, hav8⟩ := hA4 (by omega)
            refine q0 rfl (o_ixN ?_ (j := s))
            refine q0 rfl (o_fa ?_)
            refine q0 rfl (o_ldBf ?_)
            refine q0 rfl (o_len ?_)
            refine q0 rfl (o_lss ?_)
            refine rg_nil ?_
            refine go_condI (fun h49 => ?_) (fun h49 => ?_)
            · have c49 : (decide ((k : Int) < ((((t).sys).getD s br0).kids.length : Int))) = true := h49
              try simp only [decide_eq_true_eq, decide_eq_false_iff_not, Bool.and_eq_true, Bool.or_eq_true, Bool.not_eq_true', Bool.and_eq_false_iff, Bool.or_eq_false_iff, Bool.not_eq_false', bne_iff_ne, beq_iff_eq, ne_eq, not_and, Decidable.not_not, Bool.true_and, Bool.and_true, Bool.false_or, Bool.or_false] at c49
              refine go_skip ?_
              refine go_seq ?_
              refine go_block ?_
              refine go_kid (ts := (((t).sys).getD s br0).kids) (a := VK4 s) (VR := VR7) (VK := VK7) (VS := VS7) k (by omega) ?_
              refine go_draw (tn := false) (A := [0, 0, 2, 0, 14, 30, 62, 0, 254, 510, 0, 1024, 3072, 8190, 16382, 32767, 65535]) (l := [0, 1, 2, 3, 4, 5, 6, 7, 8, 9, 10, 11, 12, 13, 14]) (fin := [15, 16]) Tab.mixed ⟨_, Tryz.func24⟩ (by rfl) ?_
              refine n0 rfl (v_move ?_)
              refine n0 rfl (v_fa ?_)
              refine n0 rfl (v_ld ?_)
              refine n0 rfl (v_move ?_)
              refine n0 rfl (v_ixN ?_ (j := s))
              refine n0 rfl (v_fa ?_)
              refine n0 rfl (v_ldBf ?_)
              refine n0 rfl (v_move ?_)
              obtain ⟨bk9, o9, hav9⟩ := hA7 (by omega)
              refine n0 rfl (v_ixN ?_ (j := k))
              refine n0 rfl (v_ldT ?_)
              refine n0 rfl (v_fa ?_)
              refine n0 rfl (v_ld ?_)
              refine n0 rfl (v_call Tryz.call51 (rmore_spec ((t).kind) ) (fun x64 => ?_))
              refine n0 rfl (v_build (cs := [.int .i64 ((((((t).sys).getD s br0).kids).getD k t0).kind), .int .i64 ((((((t).sys).getD s br0).kids).getD k t0).n), .string ((((((t).sys).getD s br0).kids).getD k t0).name), sl (VR7 k) ((((((t).sys).getD s br0).kids).getD k t0).r.length), sl (VK7 k) ((((((t).sys).getD s br0).kids).getD k t0).kids.length), sl (VS7 k) ((((((t).sys).getD s br0).kids).getD k t0).sys.length), .int .i64 (0), .int .i64 (more ((t).kind))]) ?_ (hb := fill_spot02 (by rfl) (by rfl)))
              refine n0 rfl (v_lit1 fun b66 => ?_)
              refine NV.done ?_
              refine q0 rfl (o_appS (fun a67 => ?_) (a := a3) (n' := (t.kids.length + sysBefore s t.sys + k)))
              refine rg_state (fun w hs => ((hs.perm perm1).drop).snocQ (q := ((((((t).sys).getD s br0).kids).getD k t0, VR7 k, VK7 k, VS7 k), 0, more ((t).kind))) rfl) ?_
              refine q0 rfl (o_assign ?_)
              refine rg_nil ?_
              refine go_inBlock ?_
              refine go_region ⟨_, Tryz.func24⟩ rfl ?_
              refine q0 rfl (o_move ?_)
              refine q0 rfl (o_add ?_)
              refine q0 rfl (o_assign ?_)
              refine rg_nil ?_
              refine go_state (fun w hs => ?_) (next2 (k + 1, a67, (qs3 ++ [((((((t).sys).getD s br0).kids).getD k t0, VR7 k, VK7 k, VS7 k), 0, more ((t).kind))])) _ (⟨by omega, by rw [List.map_append, hq3, ← Nat.add_assoc, take_snoc (parts_sys t s k (by omega) (by omega))]; rfl⟩) (by (try simp only); omega) ⟨rfl, rfl, rfl, rfl, trivial⟩)
              exact ((((hs.allAdd (E := qE) (l := qs3) (x := ((((((t).sys).getD s br0).kids).getD k t0, VR7 k, VK7 k, VS7 k), 0, more ((t).kind))) (by first | ((repeat (first | exact List.mem_cons_self | apply List.mem_cons_of_mem)); done) | (simp only [List.nil_append, List.cons_append]; (repeat (first | exact List.mem_cons_self | apply List.mem_cons_of_mem)))) (by first | ((repeat (first | exact List.mem_cons_self | apply List.mem_cons_of_mem)); done) | (simp only [List.nil_append, List.cons_append]; (repeat (first | exact List.mem_cons_self | apply List.mem_cons_of_mem))))).less (by simp +contextual)).perm perm1).perm perm1)
            · have c49 : (decide ((k : Int) < ((((t).sys).getD s br0).kids.length : Int))) = false := h49
              try simp only [decide_eq_true_eq, decide_eq_false_iff_not, Bool.and_eq_true, Bool.or_eq_true, Bool.not_eq_true', Bool.and_eq_false_iff, Bool.or_eq_false_iff, Bool.not_eq_false', bne_iff_ne, beq_iff_eq, ne_eq, not_and, Decidable.not_not, Bool.true_and, Bool.and_true, Bool.false_or, Bool.or_false] at c49
              have hek : k = (t.sys.getD s br0).kids.length := by omega
              refine go_ms (Ms' := [rowS 8 47 a3 ((t.kids.length + sysBefore s t.sys + (t.sys.getD s br0).kids.length)) (spFlat qs3), boxR b1 (tc t vr_t vk_t vs_t) 26]) (by rw [hek]) ?_
              refine go_exit rfl ?_
              refine go_inBlock ?_
              refine go_region ⟨_, Tryz.func24⟩ rfl ?_
              refine q0 rfl (o_move ?_)
              refine q0 rfl (o_add ?_)
              refine q0 rfl (o_assign ?_)
              refine rg_nil ?_
              refine go_state (fun w hs => ?_) (next1 (s + 1, a3, qs3) _ (⟨by omega, by rw [hq3, hek, sysBefore_succ s t.sys (by omega), Nat.add_assoc]⟩) (by (try simp only); omega) ⟨rfl, (by (conv => lhs; whnf); rw [hek, Nat.add_assoc, ← sysBefore_succ s t.sys (by omega)]; rfl), rfl, trivial⟩)
              have e9 : t.kids.length + sysBefore s t.sys + (t.sys.getD s br0).kids.length = t.kids.length + sysBefore (s + 1) t.sys := by rw [Nat.add_assoc, ← sysBefore_succ s t.sys (by omega)]
              rw [← e9]; exact (((hs.less (by simp +contextual)).perm perm1).perm perm1)
        · have c38 : (decide ((s : Int) < ((t).sys.length : Int))) = false := h38
          try simp only [decide_eq_true_eq, decide_eq_false_iff_not, Bool.and_eq_true, Bool.or_eq_true, Bool.not_eq_true', Bool.and_eq_false_iff, Bool.or_eq_false_iff, Bool.not_eq_false', bne_iff_ne, beq_iff_eq, ne_eq, not_and, Decidable.not_not, Bool.true_and, Bool.and_true, Bool.false_or, Bool.or_false] at c38
          refine go_exit rfl ?_
          refine go_seq ?_
          refine go_region ⟨_, Tryz.func24⟩ rfl ?_
          refine q0 rfl (o_move ?_)
          refine q0 rfl (o_assign ?_)
          refine rg_nil ?_
          -- leaf 0: sl a2 ((t.kids.length + sysBefore s t.sys))
          have hes : s = t.sys.length := by omega
          have hnn : t.kids.length + sysBefore s t.sys = (parts t).length := by rw [parts_length, hes]
          have hfull : qs2.map qer = parts t := by rw [hq2, hnn, List.take_length]
          have hln : t.kids.length + sysBefore s t.sys = qs2.length := by rw [hnn, ← hfull, List.length_map]
          rw [hln]
          refine ret1 Tryz.func24 Tryz.results24 (by first | ((conv => lhs; whnf); done) | rfl) ⟨(a2, qs2), hfull⟩ rfl (fun w hs => ((((hs.perm perm1).perm perm1).settleRow (F := spCells) (E := qE) (d := qp0) (bt := 120) (l := qs2) (fun _ => rfl) hB (by first | ((repeat (first | exact List.mem_cons_self | apply List.mem_cons_of_mem)); done) | (simp only [List.nil_append, List.cons_append]; (repeat (first | exact List.mem_cons_self | apply List.mem_cons_of_mem)))) rfl rfl (by rw [← hln, hnn]; unfold reach; omega)).bare.less (by simp)))
abbrev ReveryO (t : T) : Prop := ∀ (vr vk vs : SH), size t ≤ 1000000000 → Spec Tryz.prog 53 #[.agg (tc t vr vk vs).toArray] [RT t vr vk vs] [] (fun x : {x : SH × List IP // x.2.map (·.1) = everyP t} => sl x.1.1 x.1.2.length) (fun x => [IIF x.1.2 x.1.1]) (fun _ => [])
theorem revery_walk (t : T) (vr_t vk_t vs_t : SH) (ih : ∀ p, p ∈ parts t → ReveryO p.1) (hz : size t ≤ 1000000000) : Spec Tryz.prog 53 #[.agg (tc t vr_t vk_t vs_t).toArray] [RT t vr_t vk_t vs_t] [] (fun x : {x : SH × List IP // x.2.map (·.1) = everyP t} => sl x.1.1 x.1.2.length) (fun x : {x : SH × List IP // x.2.map (·.1) = everyP t} => [IIF x.1.2 x.1.1]) (fun x : {x : SH × List IP // x.2.map (·.1) = everyP t} => []) := by
  refine spec_go (args := [.agg (tc t vr_t vk_t vs_t).toArray]) Tryz.func53 Tryz.ntmps53 rfl (by exact Nat.le_of_ble_eq_true rfl) fun B hB => ?_
  refine go_open (t := t) (vr := vr_t) (vk := vk_t) (vs := vs_t) (fun hk1 hn1 hm1 => ?_)
  refine go_openCL (l := (t).r) (a := vr_t) (fun hl2 hA2 hU2 => ?_)
  refine go_openTL (ts := (t).kids) (a := vk_t) (fun VR3 VK3 VS3 hl3 hA3 => ?_)
  refine go_openBL (bs := (t).sys) (a := vs_t) (fun VF4 VK4 hl4 hA4 => ?_)
  have hsp := size_pos' t
  have hpn := parts_len t
  refine go_seq ?_
  refine go_region ⟨_, Tryz.func53⟩ rfl ?_
  refine q0 rfl (o_box fun b1 => ?_)
  refine q0 rfl (o_assign ?_)
  refine rg_nil ?_
  refine go_seq ?_
  refine go_region ⟨_, Tryz.func53⟩ rfl ?_
  refine q0 rfl (o_lit0 fun b8 => ?_)
  refine rg_state (fun w hs => (((hs.perm perm1).perm perm1).boxRow (sz := 1) (m := 0) (by rfl) (by decide))) ?_
  refine rg_state (fun w hs => (hs.settleIL (l := []) hB rfl rfl (by unfold reach; omega) (fun c hc => by cases hc))) ?_
  refine q0 rfl (o_lit1 fun b9 => ?_)
  refine q0 rfl (o_assign ?_)
  refine rg_nil ?_
  refine go_state (fun w hs => ((((hs.perm perm1).perm perm1).boxRow (sz := 1) (m := 1) (by rfl) (by decide)).allNil ipE).allAdd (E := ipE) (l := []) (x := ([], (some ⟨b8, 0, none⟩, 0))) (by simp) (by simp)) ?_
  refine go_ms (Ms' := [rowS 1 33 (some ⟨b9, 0, none⟩, 1) (1) (ipFlat ([(([] : List Int), ((some ⟨b8, 0, none⟩, 0) : SH))])), boxR b1 (tc t vr_t vk_t vs_t) 26]) (by rfl) ?_
  refine go_seq ?_
  refine go_region ⟨_, Tryz.func53⟩ rfl ?_
  refine q0 rfl (o_lds ?_)
  refine q0 rfl (o_call Tryz.call24 (rkids30_walk t vr_t vk_t vs_t (by first | assumption | omega | (unfold in64 at *; omega) | (unfold reach at *; omega) | (simp_all; done))) (fun x11 => ?_))
  refine q0 rfl (o_assign ?_)
  refine rg_nil ?_
  have hxl := congrArg List.length x11.2
  rw [List.length_map] at hxl
  refine go_seq ?_
  refine go_seq ?_
  refine go_region ⟨_, Tryz.func53⟩ rfl ?_
  refine q0 rfl (o_assign ?_)
  refine rg_nil ?_
  refine go_block ?_
  refine go_loopE (X := Nat × SH × List IP) (fun s_ => s_.1 ≤ x11.1.2.length ∧ s_.2.2.map (·.1) = everyTo t s_.1) (fun s_ => [(3, sl s_.2.1 (s_.2.2.length)), (4, sl x11.1.1 ((x11.1.2).length)), (5, .int .i64 ((s_.1 : Int)))]) (fun s_ G_ => AllF ipE s_.2.2 :: G_) (fun s_ => [rowS 1 33 s_.2.1 (s_.2.2.length) (ipFlat s_.2.2), boxR b1 (tc t vr_t vk_t vs_t) 26]) (fun s_ => x11.1.2.length - s_.1) (0, (some ⟨b9, 0, none⟩, 1), [(([] : List Int), ((some ⟨b8, 0, none⟩, 0) : SH))]) (⟨by omega, by simp [everyTo, idxCat]⟩) (by exact ⟨rfl, rfl, rfl, trivial⟩) ?_ ?_
  · exact fun w hs => (hs.less (by simp +contextual))
  · intro ⟨m, a, qs⟩ base0 ⟨hi, hqs⟩ next0
    dsimp only at  hi  hqs  next0 ⊢
    refine go_seq ?_
    refine go_seq ?_
    refine go_region ⟨_, Tryz.func53⟩ rfl ?_
    refine q0 rfl (o_move ?_)
    refine q0 rfl (o_move ?_)
    refine q0 rfl (o_len ?_)
    refine q0 rfl (o_lss ?_)
    refine rg_nil ?_
    refine go_condI (fun h15 => ?_) (fun h15 => ?_)
    · have c15 : (decide ((m : Int) < ((x11.1.2).length : Int))) = true := h15
      try simp only [decide_eq_true_eq, decide_eq_false_iff_not, Bool.and_eq_true, Bool.or_eq_true, Bool.not_eq_true', Bool.and_eq_false_iff, Bool.or_eq_false_iff, Bool.not_eq_false', bne_iff_ne, beq_iff_eq, ne_eq, not_and, Decidable.not_not, Bool.true_and, Bool.and_true, Bool.false_or, Bool.or_false] at c15
      have hqm := qer_at x11.2 (show m < x11.1.2.length by omega)
      have hzp := size_part hqm
      have hzq := size_part_lt (List.mem_of_getElem? hqm)
      refine go_skip ?_
      refine go_seq ?_
      refine go_block ?_
      refine go_seq ?_
      have hih0 : ReveryO (x11.1.2.getD m qp0).1.1 := ih _ (List.mem_of_getElem? hqm)
      have hih := hih0 (x11.1.2.getD m qp0).1.2.1 (x11.1.2.getD m qp0).1.2.2.1 (x11.1.2.getD m qp0).1.2.2.2 (by simp only [qer] at hzq; omega)
      refine go_openRow (l := x11.1.2) (a := x11.1.1) (bt := 120) (F := spCells) (E := qE) (d := qp0) (by repeat (first | exact List.mem_cons_self | apply List.mem_cons_of_mem)) (fun hl5 hA5 => ?_)
      refine go_elem (l := x11.1.2) (a := x11.1.1) (bt := 120) (F := spCells) (E := qE) (d := qp0) (by repeat (first | exact List.mem_cons_self | apply List.mem_cons_of_mem)) m (by omega) ?_
      refine go_region ⟨_, Tryz.func53⟩ rfl ?_
      refine q0 rfl (o_move ?_)
      refine q0 rfl (o_move ?_)
      obtain ⟨bk6, o6, hav6⟩ := hA5 (by omega)
      refine q0 rfl (o_ixN ?_ (j := m))
      refine q0 rfl (o_fa ?_)
      refine q0 rfl (o_ldQs ?_ (k := 0))
      refine q0 rfl (o_call Tryz.call53 (hih) (fun x23 => ?_))
      refine q0 rfl (o_assign ?_)
      refine rg_nil ?_
      refine go_seq ?_
      refine go_region ⟨_, Tryz.func53⟩ rfl ?_
      refine q0 rfl (o_assign ?_)
      refine rg_nil ?_
      refine go_block ?_
      refine go_loopE (X := Nat × SH × List IP) (fun s_ => s_.1 ≤ x23.1.2.length ∧ s_.2.2.map (·.1) = everyTo t m ++ ((x23.1.2.take s_.1).map (·.1)).map ((m : Int) :: ·)) (fun s_ => [(3, sl s_.2.1 (s_.2.2.length)), (4, sl x11.1.1 ((x11.1.2).length)), (5, .int .i64 ((m : Int))), (6, sl x23.1.1 ((x23.1.2).length)), (7, .int .i64 ((s_.1 : Int)))]) (fun s_ G_ => AllF ipE s_.2.2 :: G_) (fun s_ => [rowS 1 33 s_.2.1 (s_.2.2.length) (ipFlat s_.2.2), boxR b1 (tc t vr_t vk_t vs_t) 26]) (fun s_ => x23.1.2.length - s_.1) (0, a, qs) (⟨by omega, by simpa using hqs⟩) (by exact ⟨rfl, rfl, rfl, rfl, rfl, trivial⟩) ?_ ?_
      · exact fun w hs => (hs.less (by simp +contextual))
      · intro ⟨j, a2, qs2⟩ base1 ⟨hj, hq2⟩ next1
        dsimp only at  hj  hq2  next1 ⊢
        refine go_seq ?_
        refine go_seq ?_
        refine go_region ⟨_, Tryz.func53⟩ rfl ?_
        refine q0 rfl (o_move ?_)
        refine q0 rfl (o_move ?_)
        refine q0 rfl (o_len ?_)
        refine q0 rfl (o_lss ?_)
        refine rg_nil ?_
        refine go_condI (fun h27 => ?_) (fun h27 => ?_)
        · have c27 : (decide ((j : Int) < ((x23.1.2).length : Int))) = true := h27
          try simp only [decide_eq_true_eq, decide_eq_false_iff_not, Bool.and_eq_true, Bool.or_eq_true, Bool.not_eq_true', Bool.and_eq_false_iff, Bool.or_eq_false_iff, Bool.not_eq_false', bne_iff_ne, beq_iff_eq, ne_eq, not_and, Decidable.not_not, Bool.true_and, Bool.and_true, Bool.false_or, Bool.or_false] at c27
          refine go_skip ?_
          refine go_seq ?_
          refine go_block ?_
          have hjl := every_lt (t := (x11.1.2.getD m qp0).1.1) (p := (x23.1.2.getD j ip0).1) (ip_mem x23.2 (by omega))
          have hql := congrArg List.length hq2
          simp only [List.length_map, List.length_append, List.length_take] at hql
          rw [everyTo_len (by omega)] at hql
          have hxl2 := congrArg List.length x23.2
          rw [List.length_map, every_len] at hxl2
          simp only [qer] at hzp
          have hpz : size (x11.1.2.getD m qp0).1.1 < size t := hzq
          refine go_openRow (l := x23.1.2) (a := x23.1.1) (bt := 24) (F := ipCells) (E := ipE) (d := ip0) (by repeat (first | exact List.mem_cons_self | apply List.mem_cons_of_mem)) (fun hl7 hA7 => ?_)
          refine go_elem (l := x23.1.2) (a := x23.1.1) (bt := 24) (F := ipCells) (E := ipE) (d := ip0) (by repeat (first | exact List.mem_cons_self | apply List.mem_cons_of_mem)) j (by omega) ?_
          refine go_region ⟨_, Tryz.func53⟩ rfl ?_
          refine q0 rfl (o_move ?_)
          refine q0 rfl (o_move ?_)
          refine q0 rfl (o_lit1 fun b32 => ?_)
          refine q0 rfl (o_move ?_)
          refine q0 rfl (o_move ?_)
          obtain ⟨bk8, o8, hav8⟩ := hA7 (by omega)
          refine q0 rfl (o_ixN ?_ (j := j))
          refine q0 rfl (o_ldII ?_)
          refine rg_state (fun w hs => ((((hs.perm perm2).perm perm2).perm perm2).boxRow (sz := 1) (m := 1) (by rfl) (by decide))) ?_
          refine q0 rfl (o_appIL (fun a37 => ?_) (by simp) (a := (some ⟨b32, 0, none⟩, 1)) (n' := 1) (b := (((x23.1.2).getD j ip0).2)) (ls := (((x23.1.2).getD j ip0).1)))
          refine rg_state (fun w hs => hs.appFlatI (l := [(m : Int)]) (m := ((x23.1.2).getD j ip0).1)) ?_
          rw [show 1 + ((x23.1.2.getD j ip0).1).length = ([(m : Int)] ++ ((x23.1.2.getD j ip0).1)).length by rw [List.length_append]; rfl]
          refine rg_state (fun w hs => ((((hs.perm perm2).perm perm2).perm perm2).settleIL (l := [(m : Int)] ++ (x23.1.2.getD j ip0).1) hB rfl rfl (by simp only [List.length_append, List.length_singleton]; unfold reach; omega) (fun c hc => by rcases List.mem_append.mp hc with h | h; rw [List.mem_singleton] at h; subst h; unfold in64; omega; exact (hs.facts (IL (x23.1.2.getD j ip0).1 (x23.1.2.getD j ip0).2) (by first | ((repeat (first | exact List.mem_cons_self | apply List.mem_cons_of_mem)); done) | (simp only [List.nil_append, List.cons_append]; (repeat (first | exact List.mem_cons_self | apply List.mem_cons_of_mem))))).2 c h))) ?_
          refine q0 rfl (o_lit1 fun b38 => ?_)
          refine q0 rfl (o_appS (fun a39 => ?_) (a := a2) (n' := qs2.length))
          refine rg_state (fun w hs => ((hs.perm perm1).drop).snocII (q := (([(m : Int)] ++ ((x23.1.2.getD j ip0).1)), a37)) rfl) ?_
          refine q0 rfl (o_assign ?_)
          refine rg_nil ?_
          refine go_inBlock ?_
          refine go_region ⟨_, Tryz.func53⟩ rfl ?_
          refine q0 rfl (o_move ?_)
          refine q0 rfl (o_add ?_)
          refine q0 rfl (o_assign ?_)
          refine rg_nil ?_
          refine go_state (fun w hs => ?_) (next1 (j + 1, a39, (qs2 ++ [(([(m : Int)] ++ ((x23.1.2.getD j ip0).1)), a37)])) _ (⟨by omega, by rw [List.map_append, hq2, take_succ_getD (d := ip0) (by omega)]; simp⟩) (by (try simp only); omega) ⟨(by (conv => lhs; whnf); simp [sl]), rfl, rfl, rfl, rfl, trivial⟩)
          have e9 : qs2.length + 1 = (qs2 ++ [([(m : Int)] ++ (x23.1.2.getD j ip0).1, a37)]).length := by simp
          rw [← e9]; exact ((((hs.allAdd (E := ipE) (l := qs2) (x := ([(m : Int)] ++ (x23.1.2.getD j ip0).1, a37)) (by first | ((repeat (first | exact List.mem_cons_self | apply List.mem_cons_of_mem)); done) | (simp only [List.nil_append, List.cons_append]; (repeat (first | exact List.mem_cons_self | apply List.mem_cons_of_mem)))) (by first | ((repeat (first | exact List.mem_cons_self | apply List.mem_cons_of_mem)); done) | (simp only [List.nil_append, List.cons_append]; (repeat (first | exact List.mem_cons_self | apply List.mem_cons_of_mem))))).less (by simp +contextual)).perm perm1).perm perm1)
        · have c27 : (decide ((j : Int) < ((x23.1.2).length : Int))) = false := h27
          try simp only [decide_eq_true_eq, decide_eq_false_iff_not, Bool.and_eq_true, Bool.or_eq_true, Bool.not_eq_true', Bool.and_eq_false_iff, Bool.or_eq_false_iff, Bool.not_eq_false', bne_iff_ne, beq_iff_eq, ne_eq, not_and, Decidable.not_not, Bool.true_and, Bool.and_true, Bool.false_or, Bool.or_false] at c27
          have hje : j = x23.1.2.length := by omega
          refine go_exit rfl ?_
          refine go_inBlock ?_
          refine go_region ⟨_, Tryz.func53⟩ rfl ?_
          refine q0 rfl (o_move ?_)
          refine q0 rfl (o_add ?_)
          refine q0 rfl (o_assign ?_)
          refine rg_nil ?_
          refine go_state (fun w hs => ?_) (next0 (m + 1, a2, qs2) _ (⟨by omega, by rw [everyTo_succ hqm]; exact hq2.trans (by rw [hje, List.take_length, x23.2]; rfl)⟩) (by (try simp only); omega) ⟨rfl, rfl, rfl, trivial⟩)
          exact (((hs.less (by simp +contextual)).perm perm1).perm perm1)
    · have c15 : (decide ((m : Int) < ((x11.1.2).length : Int))) = false := h15
      try simp only [decide_eq_true_eq, decide_eq_false_iff_not, Bool.and_eq_true, Bool.or_eq_true, Bool.not_eq_true', Bool.and_eq_false_iff, Bool.or_eq_false_iff, Bool.not_eq_false', bne_iff_ne, beq_iff_eq, ne_eq, not_and, Decidable.not_not, Bool.true_and, Bool.and_true, Bool.false_or, Bool.or_false] at c15
      refine go_exit rfl ?_
      refine go_seq ?_
      refine go_region ⟨_, Tryz.func53⟩ rfl ?_
      refine q0 rfl (o_move ?_)
      refine q0 rfl (o_assign ?_)
      refine rg_nil ?_
      -- leaf 0: sl a (qs.length)
      have hme : m = (parts t).length := by omega
      refine ret1 Tryz.func53 Tryz.results53 (by first | ((conv => lhs; whnf); done) | rfl) ⟨(a, qs), by rw [hqs, hme, everyTo_all]⟩ rfl (fun w hs => ((((hs.perm perm1).perm perm1).settleRow (F := ipCells) (E := ipE) (d := ip0) (bt := 24) (l := qs) (fun _ => rfl) hB (by first | ((repeat (first | exact List.mem_cons_self | apply List.mem_cons_of_mem)); done) | (simp only [List.nil_append, List.cons_append]; (repeat (first | exact List.mem_cons_self | apply List.mem_cons_of_mem)))) rfl rfl (by have h9 := congrArg List.length hqs; rw [List.length_map, everyTo_len (by omega)] at h9; have h8 := sizeUpto_le t m; unfold reach; omega)).bare.less (by simp)))
theorem revery : ∀ t : T, ReveryO t := T.ind fun t ih vr vk vs hz => revery_walk t vr vk vs ih hz
theorem rall30_spec (t : T) (vr_t vk_t vs_t : SH) (hz : size t ≤ 1000000000) : Spec Tryz.prog 26 #[.agg (tc t vr_t vk_t vs_t).toArray] [RT t vr_t vk_t vs_t] [] (fun x : {x : SH × List IP // x.2.map (·.1) = allL t} => .tuple #[sl x.1.1 x.1.2.length, .int .i64 (formedP t)]) (fun x : {x : SH × List IP // x.2.map (·.1) = allL t} => [IIF x.1.2 x.1.1]) (fun x : {x : SH × List IP // x.2.map (·.1) = allL t} => []) := by
  refine spec_go (args := [.agg (tc t vr_t vk_t vs_t).toArray]) Tryz.func26 Tryz.ntmps26 rfl (by exact Nat.le_of_ble_eq_true rfl) fun B hB => ?_
  refine go_open (t := t) (vr := vr_t) (vk := vk_t) (vs := vs_t) (fun hk1 hn1 hm1 => ?_)
  refine go_openCL (l := (t).r) (a := vr_t) (fun hl2 hA2 hU2 => ?_)
  refine go_openTL (ts := (t).kids) (a := vk_t) (fun VR3 VK3 VS3 hl3 hA3 => ?_)
  refine go_openBL (bs := (t).sys) (a := vs_t) (fun VF4 VK4 hl4 hA4 => ?_)
  have hdt := depth_le_size t
  refine go_seq ?_
  refine go_region ⟨_, Tryz.func26⟩ rfl ?_
  refine q0 rfl (o_box fun b1 => ?_)
  refine q0 rfl (o_assign ?_)
  refine q0 rfl (o_assign ?_)
  refine rg_nil ?_
  refine go_seq ?_
  refine go_region ⟨_, Tryz.func26⟩ rfl ?_
  refine q0 rfl (o_lds ?_)
  refine q0 rfl (o_call Tryz.call8 (rformed_spec t vr_t vk_t vs_t (by first | assumption | omega | (unfold in64 at *; omega) | (unfold reach at *; omega) | (simp_all; done))) (fun x6 => ?_))
  refine q0 rfl (o_assign ?_)
  refine rg_nil ?_
  refine go_seq ?_
  refine go_seq ?_
  refine go_region ⟨_, Tryz.func26⟩ rfl ?_
  refine q0 rfl (o_move ?_)
  refine q0 rfl (o_neI ?_)
  refine rg_nil ?_
  refine go_condI (fun h8 => ?_) (fun h8 => ?_)
  · have c8 : (decide ((formedP t) ≠ 0)) = true := h8
    try simp only [decide_eq_true_eq, decide_eq_false_iff_not, Bool.and_eq_true, Bool.or_eq_true, Bool.not_eq_true', Bool.and_eq_false_iff, Bool.or_eq_false_iff, Bool.not_eq_false', bne_iff_ne, beq_iff_eq, ne_eq, not_and, Decidable.not_not, Bool.true_and, Bool.and_true, Bool.false_or, Bool.or_false] at c8
    have hne : formedP t ≠ 0 := by simpa using h8
    refine go_seq ?_
    refine go_region ⟨_, Tryz.func26⟩ rfl ?_
    refine q0 rfl (o_move ?_)
    refine q0 rfl (o_assign ?_)
    refine q0 rfl (o_assign ?_)
    refine rg_nil ?_
    -- leaf 0: sl (none, 0) (0); .int .i64 (formedP t)
    refine ret2 Tryz.func26 Tryz.results26 (by first | ((conv => lhs; whnf); done) | rfl) (by first | ((conv => lhs; whnf); done) | rfl) ⟨((none, 0), []), by rw [allL, if_pos hne]; rfl⟩ rfl (fun w hs => (hs.bare.nilRow (sz := 1) (bt := 24) (F := ipCells) (E := ipE) (d := ip0) 0).less (by simp))
  · have c8 : (decide ((formedP t) ≠ 0)) = false := h8
    try simp only [decide_eq_true_eq, decide_eq_false_iff_not, Bool.and_eq_true, Bool.or_eq_true, Bool.not_eq_true', Bool.and_eq_false_iff, Bool.or_eq_false_iff, Bool.not_eq_false', bne_iff_ne, beq_iff_eq, ne_eq, not_and, Decidable.not_not, Bool.true_and, Bool.and_true, Bool.false_or, Bool.or_false] at c8
    have hf0 : formedP t = 0 := by simpa using h8
    refine go_skip ?_
    refine go_seq ?_
    refine go_region ⟨_, Tryz.func26⟩ rfl ?_
    refine q0 rfl (o_lds ?_)
    refine q0 rfl (o_call Tryz.call53 (revery t vr_t vk_t vs_t (by first | assumption | omega | (unfold in64 at *; omega) | (unfold reach at *; omega) | (simp_all; done))) (fun x11 => ?_))
    refine q0 rfl (o_assign ?_)
    refine q0 rfl (o_assign ?_)
    refine rg_nil ?_
    -- leaf 1: sl x11.1.1 ((x11.1.2).length); .int .i64 (0)
    have hall : allL t = everyP t := by rw [allL, if_neg (by simp [hf0])]
    refine ret2 Tryz.func26 Tryz.results26 (by first | ((conv => lhs; whnf); done) | rfl) (by first | ((conv => lhs; whnf); done) | rfl) ⟨x11.1, x11.2.trans hall.symm⟩ (congrArg (fun z : Int => Value.tuple #[sl x11.1.1 x11.1.2.length, .int .i64 z]) hf0.symm) (fun w hs => hs.bare.less (by simp))
theorem pathAlls_spec (t : T) (vr_t vk_t vs_t : SH) (p : List Int) (a_p : SH) (q : List Int) (a_q : SH)  : Spec Tryz.prog 6 #[.agg (tc t vr_t vk_t vs_t).toArray, sl a_p (p.length), sl a_q (q.length)] [RT t vr_t vk_t vs_t, IL p a_p, IL q a_q] [] (fun _ : Unit => .bool (true)) (fun _ : Unit => []) (fun _ : Unit => []) := by
  refine spec_go (args := [.agg (tc t vr_t vk_t vs_t).toArray, sl a_p (p.length), sl a_q (q.length)]) Tryz.func6 Tryz.ntmps6 rfl (by exact Nat.le_of_ble_eq_true rfl) fun B hB => ?_
  refine go_open (t := t) (vr := vr_t) (vk := vk_t) (vs := vs_t) (fun hk1 hn1 hm1 => ?_)
  refine go_openCL (l := (t).r) (a := vr_t) (fun hl2 hA2 hU2 => ?_)
  refine go_openTL (ts := (t).kids) (a := vk_t) (fun VR3 VK3 VS3 hl3 hA3 => ?_)
  refine go_openBL (bs := (t).sys) (a := vs_t) (fun VF4 VK4 hl4 hA4 => ?_)
  refine go_openIL (l := p) (a := a_p) (fun hl5 hA5 hU5 => ?_)
  refine go_openIL (l := q) (a := a_q) (fun hl6 hA6 hU6 => ?_)
  refine go_seq ?_
  refine go_region ⟨_, Tryz.func6⟩ rfl ?_
  refine q0 rfl (o_box fun b3 => ?_)
  refine q0 rfl (o_assign ?_)
  refine rg_nil ?_
  refine go_seq ?_
  refine go_seq ?_
  refine go_cutS ([(1, sl a_p (p.length)), (2, sl a_q (q.length)), (3, .pointer (some ⟨b3, 0, none⟩)), (19, .bool ((decide (250 < bulk t) || decide (300 < p.length)) || (decide (300 < (q.length : Int)))))]) (fun hK => ?_) (fun base => ?_)
  · refine go_region ⟨_, Tryz.func6⟩ rfl ?_
    refine q0 rfl (o_lds ?_)
    refine q0 rfl (o_move ?_)
    refine q0 rfl (o_call Tryz.call14 (great30_spec t vr_t vk_t vs_t p a_p ) (fun x14 => ?_))
    refine q0 rfl (o_move ?_)
    refine qI rfl rfl rfl (by conv => lhs; whnf) (fun hg15 => ?_) (fun hg15 => ?_)
    · have g15 : ((decide (250 < bulk t) || decide (300 < p.length))) = false := hg15
      try simp only [decide_eq_true_eq, decide_eq_false_iff_not, Bool.and_eq_true, Bool.or_eq_true, Bool.not_eq_true', Bool.and_eq_false_iff, Bool.or_eq_false_iff, Bool.not_eq_false', bne_iff_ne, beq_iff_eq, ne_eq, not_and, Decidable.not_not, Bool.true_and, Bool.and_true, Bool.false_or, Bool.or_false] at g15
      refine o_move ?_
      refine qT rfl rfl rfl (o_len ?_)
      refine qT rfl rfl rfl (o_gtr ?_)
      refine q0 rfl (o_pickF ?_)
      refine rg_nil ?_
      exact hK _ ⟨rfl, rfl, rfl, (by first | rfl | ((conv => lhs; whnf); first | (simp_all; done) | (simp_all; omega))), trivial⟩
    · have g15 : ((decide (250 < bulk t) || decide (300 < p.length))) = true := hg15
      try simp only [decide_eq_true_eq, decide_eq_false_iff_not, Bool.and_eq_true, Bool.or_eq_true, Bool.not_eq_true', Bool.and_eq_false_iff, Bool.or_eq_false_iff, Bool.not_eq_false', bne_iff_ne, beq_iff_eq, ne_eq, not_and, Decidable.not_not, Bool.true_and, Bool.and_true, Bool.false_or, Bool.or_false] at g15
      refine qF rfl rfl rfl ?_
      refine qF rfl rfl rfl ?_
      refine q0 rfl (o_pickT ?_)
      refine rg_nil ?_
      exact hK _ ⟨rfl, rfl, rfl, (by first | rfl | ((conv => lhs; whnf); first | (simp_all; done) | (simp_all; omega))), trivial⟩
  · refine go_condI (fun h19 => ?_) (fun h19 => ?_)
    · have c19 : ((decide (250 < bulk t) || decide (300 < p.length)) || (decide (300 < (q.length : Int)))) = true := h19
      try simp only [decide_eq_true_eq, decide_eq_false_iff_not, Bool.and_eq_true, Bool.or_eq_true, Bool.not_eq_true', Bool.and_eq_false_iff, Bool.or_eq_false_iff, Bool.not_eq_false', bne_iff_ne, beq_iff_eq, ne_eq, not_and, Decidable.not_not, Bool.true_and, Bool.and_true, Bool.false_or, Bool.or_false] at c19
      refine go_seq ?_
      refine go_region ⟨_, Tryz.func6⟩ rfl ?_
      refine q0 rfl (o_call Tryz.call15 (works30_spec) (fun x20 => ?_))
      refine q0 rfl (o_assign ?_)
      refine rg_nil ?_
      -- leaf 0: .bool (true)
      refine ret1 Tryz.func6 Tryz.results6 (by first | ((conv => lhs; whnf); done) | rfl) () (by first | rfl | (simp_all; done)) (fun w hs => hs.none)
    · have c19 : ((decide (250 < bulk t) || decide (300 < p.length)) || (decide (300 < (q.length : Int)))) = false := h19
      try simp only [decide_eq_true_eq, decide_eq_false_iff_not, Bool.and_eq_true, Bool.or_eq_true, Bool.not_eq_true', Bool.and_eq_false_iff, Bool.or_eq_false_iff, Bool.not_eq_false', bne_iff_ne, beq_iff_eq, ne_eq, not_and, Decidable.not_not, Bool.true_and, Bool.and_true, Bool.false_or, Bool.or_false] at c19
      have hbt : bulk t ≤ 250 := by simp_all
      have hst := size_le_bulk t
      refine go_skip ?_
      refine go_seq ?_
      refine go_region ⟨_, Tryz.func6⟩ rfl ?_
      refine q0 rfl (o_lds ?_)
      refine q0 rfl (o_call Tryz.call25 (allP_spec t vr_t vk_t vs_t (by first | assumption | omega | (unfold in64 at *; omega) | (unfold reach at *; omega) | (simp_all; done))) (fun x23 => ?_))
      refine q0 rfl (o_move ?_)
      refine q0 rfl (o_extract ?_)
      refine q0 rfl (o_extract ?_)
      refine q0 rfl (o_assign ?_)
      refine q0 rfl (o_assign ?_)
      refine rg_nil ?_
      refine go_seq ?_
      refine go_region ⟨_, Tryz.func6⟩ rfl ?_
      refine q0 rfl (o_lds ?_)
      refine q0 rfl (o_call Tryz.call26 (rall30_spec t vr_t vk_t vs_t (by first | assumption | omega | (unfold in64 at *; omega) | (unfold reach at *; omega) | (simp_all; done))) (fun x28 => ?_))
      refine q0 rfl (o_move ?_)
      refine q0 rfl (o_extract ?_)
      refine q0 rfl (o_extract ?_)
      refine q0 rfl (o_assign ?_)
      refine q0 rfl (o_assign ?_)
      refine rg_nil ?_
      have hlen : x23.1.2.length = x28.1.2.length := by have h9 := congrArg List.length (x23.2.trans x28.2.symm); simpa only [List.length_map] using h9
      refine go_seq ?_
      refine go_seq ?_
      refine go_cutS ([(7, sl x23.1.1 ((x23.1.2).length)), (9, sl x28.1.1 ((x28.1.2).length)), (49, .bool (false))]) (fun hK => ?_) (fun base => ?_)
      · refine go_region ⟨_, Tryz.func6⟩ rfl ?_
        refine q0 rfl (o_move ?_)
        refine q0 rfl (o_len ?_)
        refine q0 rfl (o_move ?_)
        refine q0 rfl (o_len ?_)
        refine q0 rfl (o_neIN ?_)
        refine q0 rfl (o_move ?_)
        refine qT rfl rfl rfl (o_move ?_)
        refine qT rfl rfl rfl (o_move ?_)
        refine qT rfl rfl rfl (o_neIN ?_)
        refine q0 rfl (o_pickF ?_)
        refine q0 rfl (o_move ?_)
        refine qT rfl rfl rfl (o_move ?_)
        refine qT rfl rfl rfl (o_move ?_)
        refine qT rfl rfl rfl (o_call Tryz.call27 (pcmp p a_p q a_q ) (fun x44 => ?_))
        refine qT rfl rfl rfl (o_move ?_)
        refine qT rfl rfl rfl (o_move ?_)
        refine qT rfl rfl rfl (o_call Tryz.call28 (rcmpO p a_p q a_q) (fun x47 => ?_))
        refine qT rfl rfl rfl (o_neIN ?_)
        refine q0 rfl (o_pickF ?_)
        refine rg_nil ?_
        exact hK _ ⟨rfl, rfl, (by first | rfl | ((conv => lhs; whnf); first | (simp_all; done) | (simp_all; omega))), trivial⟩
      · refine go_condF ?_
        refine go_skip ?_
        refine go_seq ?_
        refine go_seq ?_
        refine go_region ⟨_, Tryz.func6⟩ rfl ?_
        refine q0 rfl (o_move ?_)
        refine q0 rfl (o_len ?_)
        refine q0 rfl (o_move ?_)
        refine rg_nil ?_
        refine go_block ?_
        refine go_loopE (X := Nat) (fun s_ => s_ ≤ x23.1.2.length) (fun s_ => [(7, sl x23.1.1 ((x23.1.2).length)), (9, sl x28.1.1 ((x28.1.2).length)), (51, .int .i64 (((x23.1.2).length : Int))), (52, .int .i64 ((s_ : Int)))]) (fun s_ G_ => G_) (fun s_ => [boxR b3 (tc t vr_t vk_t vs_t) 26]) (fun s_ => x23.1.2.length - s_) (0) (Nat.zero_le _) (by exact ⟨rfl, rfl, rfl, rfl, trivial⟩) ?_ ?_
        · exact fun w hs => hs
        · intro i base0 hi next0
          refine go_seq ?_
          refine go_region ⟨_, Tryz.func6⟩ rfl ?_
          refine q0 rfl (o_lss ?_)
          refine rg_nil ?_
          refine go_seq ?_
          refine go_condI (fun h53 => ?_) (fun h53 => ?_)
          · have c53 : (decide ((i : Int) < ((x23.1.2).length : Int))) = true := h53
            try simp only [decide_eq_true_eq, decide_eq_false_iff_not, Bool.and_eq_true, Bool.or_eq_true, Bool.not_eq_true', Bool.and_eq_false_iff, Bool.or_eq_false_iff, Bool.not_eq_false', bne_iff_ne, beq_iff_eq, ne_eq, not_and, Decidable.not_not, Bool.true_and, Bool.and_true, Bool.false_or, Bool.or_false] at c53
            have hij : ((x23.1.2).getD i ip0).1 = ((x28.1.2).getD i ip0).1 := ip_same (x23.2.trans x28.2.symm) (by omega)
            refine go_skip ?_
            refine go_seq ?_
            refine go_block ?_
            refine go_seq ?_
            refine go_region ⟨_, Tryz.func6⟩ rfl ?_
            refine q0 rfl (o_move ?_)
            refine q0 rfl (o_assign ?_)
            refine rg_nil ?_
            refine go_seq ?_
            refine go_openRow (l := x23.1.2) (a := x23.1.1) (bt := 24) (F := ipCells) (E := ipE) (d := ip0) (by repeat (first | exact List.mem_cons_self | apply List.mem_cons_of_mem)) (fun hl7 hA7 => ?_)
            refine go_elem (l := x23.1.2) (a := x23.1.1) (bt := 24) (F := ipCells) (E := ipE) (d := ip0) (by repeat (first | exact List.mem_cons_self | apply List.mem_cons_of_mem)) i (by omega) ?_
            refine go_openRow (l := x28.1.2) (a := x28.1.1) (bt := 24) (F := ipCells) (E := ipE) (d := ip0) (by repeat (first | exact List.mem_cons_self | apply List.mem_cons_of_mem)) (fun hl8 hA8 => ?_)
            refine go_elem (l := x28.1.2) (a := x28.1.1) (bt := 24) (F := ipCells) (E := ipE) (d := ip0) (by repeat (first | exact List.mem_cons_self | apply List.mem_cons_of_mem)) i (by omega) ?_
            refine go_draw (tn := false) (A := [0, 0, 3, 7, 0, 0, 48, 112, 255, 511]) (l := [0, 1, 2, 3, 4, 5, 6, 7, 8, 9]) (fin := []) Tab.mixed ⟨_, Tryz.func6⟩ (by rfl) ?_
            refine n0 rfl (v_move ?_)
            refine n0 rfl (v_move ?_)
            obtain ⟨bk9, o9, hav9⟩ := hA7 (by omega)
            refine n0 rfl (v_ixN ?_ (j := i))
            refine n0 rfl (f_ldII ?_)
            refine n0 rfl (v_move ?_)
            refine n0 rfl (v_move ?_)
            obtain ⟨bk10, o10, hav10⟩ := hA8 (by omega)
            refine n0 rfl (v_ixN ?_ (j := i))
            refine n0 rfl (f_ldII ?_)
            refine n0 rfl (v_call Tryz.call29 (intsI (((x23.1.2).getD i ip0).1) (((x23.1.2).getD i ip0).2) (((x28.1.2).getD i ip0).1) (((x28.1.2).getD i ip0).2) hij) (fun x63 => ?_))
            refine n0 rfl (v_not ?_)
            refine NV.done ?_
            refine rg_nil ?_
            refine go_condF ?_
            refine go_skip ?_
            refine go_inBlock ?_
            refine go_region ⟨_, Tryz.func6⟩ rfl ?_
            refine q0 rfl (o_add ?_)
            refine q0 rfl (o_move ?_)
            refine rg_nil ?_
            refine go_state (fun w hs => ?_) (next0 (i + 1) _ (by omega) (by omega) ⟨rfl, rfl, rfl, rfl, trivial⟩)
            exact (hs.less (by simp +contextual))
          · have c53 : (decide ((i : Int) < ((x23.1.2).length : Int))) = false := h53
            try simp only [decide_eq_true_eq, decide_eq_false_iff_not, Bool.and_eq_true, Bool.or_eq_true, Bool.not_eq_true', Bool.and_eq_false_iff, Bool.or_eq_false_iff, Bool.not_eq_false', bne_iff_ne, beq_iff_eq, ne_eq, not_and, Decidable.not_not, Bool.true_and, Bool.and_true, Bool.false_or, Bool.or_false] at c53
            refine go_exit rfl ?_
            refine go_seq ?_
            refine go_region ⟨_, Tryz.func6⟩ rfl ?_
            refine q0 rfl (o_call Tryz.call15 (works30_spec) (fun x66 => ?_))
            refine q0 rfl (o_assign ?_)
            refine rg_nil ?_
            -- leaf 1: .bool (true)
            refine ret1 Tryz.func6 Tryz.results6 (by first | ((conv => lhs; whnf); done) | rfl) () (by first | rfl | (simp_all; done)) (fun w hs => hs.none)
end Go.Hy
