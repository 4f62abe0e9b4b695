/- Contracts of this program's functions and the laws that they need: a separation logic over the machine's rules, one theorem each (partly printed by a program of this repository). -/
import Derived.Test.YtcofpfnnlageaaaP3
import Derived.Test.YtcofpfnnlageaaaP4
import Derived.Test.YtcofpfnnlageaaaP5
import Derived.Test.YtcofpfnnlageaaaP6
import Derived.Test.YtcofpfnnlageaaaP7
namespace Go.Hy
set_option linter.unusedVariables false
set_option linter.unusedSimpArgs false
set_option linter.unusedSectionVars false
open Go.Proofs
set_option linter.unusedVariables false
set_option linter.unusedSimpArgs false
set_option maxRecDepth 100000
theorem getWalk (t : T) (vr_t vk_t vs_t : SH) (p : List Int) (a_p : SH) (hz : size t ≤ 1000000000) : Spec Try.prog 40 #[.agg (tc t vr_t vk_t vs_t).toArray, sl a_p (p.length)] [RT t vr_t vk_t vs_t, IL p a_p] [] (fun x : SH × SH × SH => .tuple #[.agg ([.int .i64 (((getRes t p).2.1).kind), .int .i64 (((getRes t p).2.1).n), .string (((getRes t p).2.1).name), sl x.1 (((getRes t p).2.1).r.length), sl x.2.1 (((getRes t p).2.1).kids.length), sl x.2.2 (((getRes t p).2.1).sys.length), .int .i64 ((getRes t p).2.2.1), .int .i64 ((getRes t p).2.2.2)] : List Value).toArray, .int .i64 (getRes t p).1]) (fun x : SH × SH × SH => [RT (getRes t p).2.1 x.1 x.2.1 x.2.2]) (fun x : SH × SH × SH => []) := by
  refine spec_go (args := [.agg (tc t vr_t vk_t vs_t).toArray, sl a_p (p.length)]) Try.func40 Try.ntmps40 rfl (by exact Nat.le_of_ble_eq_true rfl) fun B hB => ?_
  refine go_open (t := t) (vr := vr_t) (vk := vk_t) (vs := vs_t) (fun hk1 hn1 hm1 => ?_)
  refine go_openCL (l := (t).r) (a := vr_t) (fun hl2 hA2 hU2 => ?_)
  refine go_openTL (ts := (t).kids) (a := vk_t) (fun VR3 VK3 VS3 hl3 hA3 => ?_)
  refine go_openBL (bs := (t).sys) (a := vs_t) (fun VF4 VK4 hl4 hA4 => ?_)
  refine go_openIL (l := p) (a := a_p) (fun hl5 hA5 hU5 => ?_)
  have hdt := depth_le_size t
  refine go_seq ?_
  refine go_region ⟨_, Try.func40⟩ rfl ?_
  refine q0 rfl (o_box fun b2 => ?_)
  refine q0 rfl (o_new fun b4 => ?_)
  refine q0 rfl (o_assign ?_)
  refine rg_nil ?_
  refine go_seq ?_
  refine go_seq ?_
  refine go_region ⟨_, Try.func40⟩ rfl ?_
  refine q0 rfl (o_lds ?_)
  refine q0 rfl (o_call Try.call30 (formed_spec t (.inr form_spec) vr_t vk_t vs_t (by first | assumption | omega | (unfold in64 at *; omega) | (unfold reach at *; omega) | (simp_all; done))) (fun x12 => ?_))
  refine q0 rfl (o_assign ?_)
  refine rg_nil ?_
  refine go_seq ?_
  refine go_region ⟨_, Try.func40⟩ rfl ?_
  refine q0 rfl (o_move ?_)
  refine q0 rfl (o_neI ?_)
  refine rg_nil ?_
  refine go_condI (fun h14 => ?_) (fun h14 => ?_)
  · have c14 : (decide ((formedP t) ≠ 0)) = true := h14
    try simp only [decide_eq_true_eq, decide_eq_false_iff_not, Bool.and_eq_true, Bool.or_eq_true, Bool.not_eq_true', Bool.and_eq_false_iff, Bool.or_eq_false_iff, Bool.not_eq_false', bne_iff_ne, beq_iff_eq, ne_eq, not_and, Decidable.not_not, Bool.true_and, Bool.and_true, Bool.false_or, Bool.or_false] at c14
    have hgr : getRes t p = (formedP t, (t0, 0, 0)) := by rw [getRes, if_pos (by simpa using h14)]
    refine go_seq ?_
    refine go_region ⟨_, Try.func40⟩ rfl ?_
    refine q0 rfl (o_build (cs := [.int .i64 (0), .int .i64 (0), .string ((ByteArray.mk #[])), sl (none, 0) (0), sl (none, 0) (0), sl (none, 0) (0), .int .i64 (0), .int .i64 (0)]) ?_)
    refine q0 rfl (o_move ?_)
    refine q0 rfl (o_st ?_)
    refine q0 rfl (o_assign ?_)
    refine rg_nil ?_
    -- leaf 0: .pointer (some ⟨b4, 0, none⟩); .int .i64 ((formedP t))
    refine retCT Try.func40 Try.results40 ((none, 0), (none, 0), (none, 0)) rfl (by first | ((repeat (first | exact List.mem_cons_self | apply List.mem_cons_of_mem)); done) | (simp only [List.nil_append, List.cons_append]; (repeat (first | exact List.mem_cons_self | apply List.mem_cons_of_mem)))) rfl rfl rfl rfl (by rw [hgr]; rfl) (fun w hs => by rw [hgr]; exact hs.bare.zeroRT.less (by simp))
  · have c14 : (decide ((formedP t) ≠ 0)) = false := h14
    try simp only [decide_eq_true_eq, decide_eq_false_iff_not, Bool.and_eq_true, Bool.or_eq_true, Bool.not_eq_true', Bool.and_eq_false_iff, Bool.or_eq_false_iff, Bool.not_eq_false', bne_iff_ne, beq_iff_eq, ne_eq, not_and, Decidable.not_not, Bool.true_and, Bool.and_true, Bool.false_or, Bool.or_false] at c14
    have hf0 : formedP t = 0 := by simpa using h14
    refine go_skip ?_
    refine go_seq ?_
    refine go_region ⟨_, Try.func40⟩ rfl ?_
    refine q0 rfl (o_lds ?_)
    refine q0 rfl (o_build (cs := [.int .i64 ((t).kind), .int .i64 ((t).n), .string ((t).name), sl vr_t ((t).r.length), sl vk_t ((t).kids.length), sl vs_t ((t).sys.length), .int .i64 (0), .int .i64 (0)]) ?_ (hb := fill_spot0 (by rfl) (by rfl)))
    refine q0 rfl (o_new fun b7 => ?_)
    refine q0 rfl (o_st ?_)
    refine rg_nil ?_
    refine go_seq ?_
    refine go_seq ?_
    refine go_region ⟨_, Try.func40⟩ rfl ?_
    refine q0 rfl (o_move ?_)
    refine q0 rfl (o_len ?_)
    refine q0 rfl (o_move ?_)
    refine rg_nil ?_
    refine go_block ?_
    refine go_loopE (X := Nat × Part × SH × SH × SH) (fun s_ => s_.1 ≤ p.length ∧ size s_.2.1.1 ≤ 1000000000 ∧ (0 ≤ s_.2.1.2.1 ∧ s_.2.1.2.1 ≤ s_.1 ∧ 0 ≤ s_.2.1.2.2 ∧ s_.2.1.2.2 ≤ s_.1) ∧ getP t p = (getP s_.2.1.1 (p.drop s_.1)).map (addPt s_.2.1)) (fun s_ => [(4, .pointer (some ⟨b4, 0, none⟩)), (7, .pointer (some ⟨b7, 0, none⟩)), (19, sl a_p (p.length)), (20, .int .i64 ((p.length : Int))), (21, .int .i64 ((s_.1 : Int)))]) (fun s_ G_ => RT s_.2.1.1 s_.2.2.1 s_.2.2.2.1 s_.2.2.2.2 :: G_) (fun s_ => [boxR b7 [.int .i64 ((s_.2.1.1).kind), .int .i64 ((s_.2.1.1).n), .string ((s_.2.1.1).name), sl s_.2.2.1 ((s_.2.1.1).r.length), sl s_.2.2.2.1 ((s_.2.1.1).kids.length), sl s_.2.2.2.2 ((s_.2.1.1).sys.length), .int .i64 (s_.2.1.2.1), .int .i64 (s_.2.1.2.2)] 60, boxR b4 [.int .i64 (0), .int .i64 (0), .string ((ByteArray.mk #[])), sl (none, 0) (0), sl (none, 0) (0), sl (none, 0) (0), .int .i64 (0), .int .i64 (0)] 60, boxR b2 (tc t vr_t vk_t vs_t) 31]) (fun s_ => p.length - s_.1) (0, (t, 0, 0), vr_t, vk_t, vs_t) (⟨by omega, hz, ⟨Int.le_refl _, by simp, Int.le_refl _, by simp⟩, (addPt_zero t _).symm⟩) (by exact ⟨rfl, rfl, rfl, rfl, rfl, trivial⟩) ?_ ?_
    · exact fun w hs => (hs.less (by simp +contextual))
    · intro ⟨i, cur, vr, vk, vs⟩ base0 ⟨hi, hsz, ⟨hb1, hb2, hb3, hb4⟩, hgp⟩ next0
      dsimp only at  hi  hsz   hb1  hb2  hb3  hb4   hgp  next0 ⊢
      refine go_seq ?_
      refine go_region ⟨_, Try.func40⟩ rfl ?_
      refine q0 rfl (o_lss ?_)
      refine rg_nil ?_
      refine go_seq ?_
      refine go_condI (fun h22 => ?_) (fun h22 => ?_)
      · have c22 : (decide ((i : Int) < (p.length : Int))) = true := h22
        try simp only [decide_eq_true_eq, decide_eq_false_iff_not, Bool.and_eq_true, Bool.or_eq_true, Bool.not_eq_true', Bool.and_eq_false_iff, Bool.or_eq_false_iff, Bool.not_eq_false', bne_iff_ne, beq_iff_eq, ne_eq, not_and, Decidable.not_not, Bool.true_and, Bool.and_true, Bool.false_or, Bool.or_false] at c22
        refine go_skip ?_
        refine go_seq ?_
        refine go_block ?_
        refine go_seq ?_
        refine go_region ⟨_, Try.func40⟩ rfl ?_
        obtain ⟨bk6, o6, hav6⟩ := hA5 (by omega)
        refine q0 rfl (o_ixN ?_ (j := i))
        refine q0 rfl (o_ldI ?_)
        refine q0 rfl (o_assign ?_)
        refine rg_nil ?_
        refine go_seq ?_
        refine go_region ⟨_, Try.func40⟩ rfl ?_
        refine q0 rfl (o_fa ?_)
        refine q0 rfl (o_lds ?_)
        refine q0 rfl (o_call Try.call65 (parts_walk cur.1 vr vk vs (by first | assumption | omega | (unfold in64 at *; omega) | (unfold reach at *; omega) | (simp_all; done))) (fun x27 => ?_))
        refine q0 rfl (o_assign ?_)
        refine rg_nil ?_
        refine go_state (fun w hs => (((((hs.perm perm3).perm perm3).perm perm3).perm perm3).settleRow (F := spCells) (E := qE) (d := qp0) (bt := 120) (l := x27.1.2) (fun _ => rfl) hB (by first | ((repeat (first | exact List.mem_cons_self | apply List.mem_cons_of_mem)); done) | (simp only [List.nil_append, List.cons_append]; (repeat (first | exact List.mem_cons_self | apply List.mem_cons_of_mem)))) rfl rfl (by have := congrArg List.length x27.2; rw [List.length_map] at this; have h9 := parts_len cur.1; unfold reach; omega))) ?_
        refine go_seq ?_
        refine go_seq ?_
        refine go_cutS ([(4, .pointer (some ⟨b4, 0, none⟩)), (7, .pointer (some ⟨b7, 0, none⟩)), (9, .int .i64 (p.getD i 0)), (10, sl x27.1.1 (x27.1.2.length)), (19, sl a_p (p.length)), (20, .int .i64 ((p.length : Int))), (21, .int .i64 ((i : Int))), (35, .bool ((decide ((p.getD i 0) < 0)) || (decide ((x27.1.2.length : Int) ≤ (p.getD i 0)))))]) (fun hK => ?_) (fun base => ?_)
        · refine go_region ⟨_, Try.func40⟩ rfl ?_
          refine q0 rfl (o_move ?_)
          refine q0 rfl (o_lss ?_)
          refine q0 rfl (o_move ?_)
          refine qI rfl rfl rfl (by conv => lhs; whnf) (fun hg30 => ?_) (fun hg30 => ?_)
          · have g30 : (decide ((p.getD i 0) < 0)) = false := hg30
            try simp only [decide_eq_true_eq, decide_eq_false_iff_not, Bool.and_eq_true, Bool.or_eq_true, Bool.not_eq_true', Bool.and_eq_false_iff, Bool.or_eq_false_iff, Bool.not_eq_false', bne_iff_ne, beq_iff_eq, ne_eq, not_and, Decidable.not_not, Bool.true_and, Bool.and_true, Bool.false_or, Bool.or_false] at g30
            refine o_move ?_
            refine qT rfl rfl rfl (o_move ?_)
            refine qT rfl rfl rfl (o_len ?_)
            refine qT rfl rfl rfl (o_geq ?_)
            refine q0 rfl (o_pickF ?_)
            refine rg_nil ?_
            exact hK _ ⟨rfl, rfl, rfl, rfl, rfl, rfl, rfl, (by first | rfl | ((conv => lhs; whnf); first | (simp_all; done) | (simp_all; omega))), trivial⟩
          · have g30 : (decide ((p.getD i 0) < 0)) = true := hg30
            try simp only [decide_eq_true_eq, decide_eq_false_iff_not, Bool.and_eq_true, Bool.or_eq_true, Bool.not_eq_true', Bool.and_eq_false_iff, Bool.or_eq_false_iff, Bool.not_eq_false', bne_iff_ne, beq_iff_eq, ne_eq, not_and, Decidable.not_not, Bool.true_and, Bool.and_true, Bool.false_or, Bool.or_false] at g30
            refine qF rfl rfl rfl ?_
            refine qF rfl rfl rfl ?_
            refine qF rfl rfl rfl ?_
            refine q0 rfl (o_pickT ?_)
            refine rg_nil ?_
            exact hK _ ⟨rfl, rfl, rfl, rfl, rfl, rfl, rfl, (by first | rfl | ((conv => lhs; whnf); first | (simp_all; done) | (simp_all; omega))), trivial⟩
        · refine go_condI (fun h35 => ?_) (fun h35 => ?_)
          · have c35 : ((decide ((p.getD i 0) < 0)) || (decide ((x27.1.2.length : Int) ≤ (p.getD i 0)))) = true := h35
            try simp only [decide_eq_true_eq, decide_eq_false_iff_not, Bool.and_eq_true, Bool.or_eq_true, Bool.not_eq_true', Bool.and_eq_false_iff, Bool.or_eq_false_iff, Bool.not_eq_false', bne_iff_ne, beq_iff_eq, ne_eq, not_and, Decidable.not_not, Bool.true_and, Bool.and_true, Bool.false_or, Bool.or_false] at c35
            have hxl := congrArg List.length x27.2
            rw [List.length_map] at hxl
            have hgr : getRes t p = (90, (t0, 0, 0)) := by rw [getRes, if_neg (by simp [hf0]), hgp, getP_miss (by omega) (by rcases c35 with h | h <;> omega)]
            refine go_seq ?_
            refine go_region ⟨_, Try.func40⟩ rfl ?_
            refine q0 rfl (o_build (cs := [.int .i64 (0), .int .i64 (0), .string ((ByteArray.mk #[])), sl (none, 0) (0), sl (none, 0) (0), sl (none, 0) (0), .int .i64 (0), .int .i64 (0)]) ?_)
            refine q0 rfl (o_st ?_)
            refine q0 rfl (o_assign ?_)
            refine rg_nil ?_
            -- leaf 1: .pointer (some ⟨b4, 0, none⟩); .int .i64 (90)
            refine retCT Try.func40 Try.results40 ((none, 0), (none, 0), (none, 0)) rfl (by first | ((repeat (first | exact List.mem_cons_self | apply List.mem_cons_of_mem)); done) | (simp only [List.nil_append, List.cons_append]; (repeat (first | exact List.mem_cons_self | apply List.mem_cons_of_mem)))) rfl rfl rfl rfl (by rw [hgr]; rfl) (fun w hs => by rw [hgr]; exact hs.bare.zeroRT.less (by simp))
          · have c35 : ((decide ((p.getD i 0) < 0)) || (decide ((x27.1.2.length : Int) ≤ (p.getD i 0)))) = false := h35
            try simp only [decide_eq_true_eq, decide_eq_false_iff_not, Bool.and_eq_true, Bool.or_eq_true, Bool.not_eq_true', Bool.and_eq_false_iff, Bool.or_eq_false_iff, Bool.not_eq_false', bne_iff_ne, beq_iff_eq, ne_eq, not_and, Decidable.not_not, Bool.true_and, Bool.and_true, Bool.false_or, Bool.or_false] at c35
            have hxl := congrArg List.length x27.2
            rw [List.length_map] at hxl
            obtain ⟨m, hm⟩ : ∃ m : Nat, p.getD i 0 = (m : Int) := ⟨(p.getD i 0).toNat, by omega⟩
            have hml : m < x27.1.2.length := by omega
            have hqm := qer_at x27.2 hml
            have h01 := parts_01 (List.mem_of_getElem? hqm)
            have hzl := size_part_lt (List.mem_of_getElem? hqm)
            simp only [qer] at h01 hzl
            rw [hm]
            refine go_skip ?_
            refine go_openRow (l := x27.1.2) (a := x27.1.1) (bt := 120) (F := spCells) (E := qE) (d := qp0) (by repeat (first | exact List.mem_cons_self | apply List.mem_cons_of_mem)) (fun hl7 hA7 => ?_)
            refine go_elem (l := x27.1.2) (a := x27.1.1) (bt := 120) (F := spCells) (E := qE) (d := qp0) (by repeat (first | exact List.mem_cons_self | apply List.mem_cons_of_mem)) m (by omega) ?_
            refine go_draw (tn := false) (A := [0, 0, 3, 7, 15, 0, 32, 0, 0, 384, 896, 1920, 4064, 0, 8192, 0, 0, 98304, 229376, 491520, 1040384, 2097151, 4194303]) (l := [0, 1, 2, 3, 4, 5, 6, 7, 8, 9, 10, 11, 12, 13, 14, 15, 16, 17, 18, 19, 20, 21]) (fin := [22]) Tab.mixed ⟨_, Try.func40⟩ (by rfl) ?_
            refine n0 rfl (v_move ?_)
            refine n0 rfl (v_move ?_)
            obtain ⟨bk8, o8, hav8⟩ := hA7 (by omega)
            refine n0 rfl (v_ixN ?_ (j := m))
            refine n0 rfl (v_fa ?_)
            refine n0 rfl (f_ldQs ?_ (k := 0))
            refine n0 rfl (v_fa ?_)
            refine n0 rfl (v_ld ?_)
            refine n0 rfl (v_move ?_)
            refine n0 rfl (v_move ?_)
            refine n0 rfl (v_ixN ?_ (j := m))
            refine n0 rfl (v_fa ?_)
            refine n0 rfl (f_ldQf ?_)
            refine n0 rfl (v_add ?_)
            refine n0 rfl (v_fa ?_)
            refine n0 rfl (v_ld ?_)
            refine n0 rfl (v_move ?_)
            refine n0 rfl (v_move ?_)
            refine n0 rfl (v_ixN ?_ (j := m))
            refine n0 rfl (v_fa ?_)
            refine n0 rfl (f_ldQf ?_)
            refine n0 rfl (v_add ?_)
            refine n0 rfl (v_build (cs := [.int .i64 ((((x27.1.2).getD m qp0).1.1).kind), .int .i64 ((((x27.1.2).getD m qp0).1.1).n), .string ((((x27.1.2).getD m qp0).1.1).name), sl (((x27.1.2).getD m qp0).1.2.1) ((((x27.1.2).getD m qp0).1.1).r.length), sl (((x27.1.2).getD m qp0).1.2.2.1) ((((x27.1.2).getD m qp0).1.1).kids.length), sl (((x27.1.2).getD m qp0).1.2.2.2) ((((x27.1.2).getD m qp0).1.1).sys.length), .int .i64 (cur.2.1 + (((x27.1.2).getD m qp0).2.1)), .int .i64 (cur.2.2 + (((x27.1.2).getD m qp0).2.2))]) ?_ (hb := fill_spot012 (by rfl) (by rfl)))
            refine NV.done ?_
            refine q0 rfl (o_st ?_)
            refine rg_nil ?_
            refine go_inBlock ?_
            refine go_region ⟨_, Try.func40⟩ rfl ?_
            refine q0 rfl (o_add ?_)
            refine q0 rfl (o_move ?_)
            refine rg_nil ?_
            refine go_state (fun w hs => ?_) (next0 (i + 1, ((x27.1.2.getD m qp0).1.1, cur.2.1 + (x27.1.2.getD m qp0).2.1, cur.2.2 + (x27.1.2.getD m qp0).2.2), (x27.1.2.getD m qp0).1.2.1, (x27.1.2.getD m qp0).1.2.2.1, (x27.1.2.getD m qp0).1.2.2.2) _ (⟨by omega, by simp only; omega, ⟨by simp only; omega, by simp only; omega, by simp only; omega, by simp only; omega⟩, by rw [hgp, getP_step (by omega) hm hqm]; rfl⟩) (by (try simp only); omega) ⟨rfl, rfl, rfl, rfl, rfl, trivial⟩)
            exact ((((hs.less (by simp +contextual [qE])).perm perm2).perm perm2).perm perm2)
      · have c22 : (decide ((i : Int) < (p.length : Int))) = false := h22
        try simp only [decide_eq_true_eq, decide_eq_false_iff_not, Bool.and_eq_true, Bool.or_eq_true, Bool.not_eq_true', Bool.and_eq_false_iff, Bool.or_eq_false_iff, Bool.not_eq_false', bne_iff_ne, beq_iff_eq, ne_eq, not_and, Decidable.not_not, Bool.true_and, Bool.and_true, Bool.false_or, Bool.or_false] at c22
        have hgr : getRes t p = (0, cur) := by rw [getRes, if_neg (by simp [hf0]), hgp, getP_end (by omega)]
        refine go_exit rfl ?_
        refine go_seq ?_
        refine go_region ⟨_, Try.func40⟩ rfl ?_
        refine q0 rfl (o_fa ?_)
        refine q0 rfl (o_lds ?_)
        refine q0 rfl (o_call Try.call20 (copy_spec cur.1 vr vk vs) (fun x62 => ?_))
        refine q0 rfl (o_fa ?_)
        refine q0 rfl (o_stp ?_ (k := 0) (vs := [.int .i64 ((cur.1).kind), .int .i64 ((cur.1).n), .string ((cur.1).name), sl x62.1 ((cur.1).r.length), sl x62.2.1 ((cur.1).kids.length), sl x62.2.2 ((cur.1).sys.length)]) (cs' := [.int .i64 ((cur.1).kind), .int .i64 ((cur.1).n), .string ((cur.1).name), sl x62.1 ((cur.1).r.length), sl x62.2.1 ((cur.1).kids.length), sl x62.2.2 ((cur.1).sys.length), .int .i64 (cur.2.1), .int .i64 (cur.2.2)]))
        refine rg_nil ?_
        refine go_seq ?_
        refine go_region ⟨_, Try.func40⟩ rfl ?_
        refine q0 rfl (o_lds ?_)
        refine q0 rfl (o_st ?_)
        refine q0 rfl (o_assign ?_)
        refine rg_nil ?_
        -- leaf 2: .pointer (some ⟨b4, 0, none⟩); .int .i64 (0)
        refine retCT Try.func40 Try.results40 (x62.1, x62.2.1, x62.2.2) rfl (by first | ((repeat (first | exact List.mem_cons_self | apply List.mem_cons_of_mem)); done) | (simp only [List.nil_append, List.cons_append]; (repeat (first | exact List.mem_cons_self | apply List.mem_cons_of_mem)))) rfl rfl rfl rfl (by rw [hgr]; rfl) (fun w hs => by rw [hgr]; exact hs.bare.less (by simp))
end Go.Hy
namespace Go.Hy
set_option linter.unusedVariables false
set_option linter.unusedSimpArgs false
set_option linter.unusedSectionVars false
open Go.Proofs
set_option linter.unusedVariables false
set_option linter.unusedSimpArgs false
set_option maxRecDepth 100000
theorem works30_spec   : Spec Try.prog 34 #[] [] [] (fun _ : Unit => .bool (true)) (fun _ : Unit => []) (fun _ : Unit => []) := by
  refine spec_go (args := []) Try.func34 Try.ntmps34 rfl (by exact Nat.le_of_ble_eq_true rfl) fun B hB => ?_
  refine go_seq ?_
  refine go_region ⟨_, Try.func34⟩ rfl ?_
  refine q0 rfl (o_assign ?_)
  refine rg_nil ?_
  refine go_seq ?_
  refine go_region ⟨_, Try.func34⟩ rfl ?_
  refine q0 rfl (o_build (cs := [.int .i64 (1), .int .i64 (0), .string ((ByteArray.mk #[])), sl (none, 0) (0), sl (none, 0) (0), sl (none, 0) (0)]) ?_)
  refine q0 rfl (o_new fun b1 => ?_)
  refine q0 rfl (o_st ?_)
  refine rg_nil ?_
  refine go_seq ?_
  refine go_region ⟨_, Try.func34⟩ rfl ?_
  refine q0 rfl (o_build (cs := [.int .i64 (1), .int .i64 (1), .string ((ByteArray.mk #[])), sl (none, 0) (0), sl (none, 0) (0), sl (none, 0) (0)]) ?_)
  refine q0 rfl (o_lds ?_)
  refine q0 rfl (o_lit1 fun b12 => ?_)
  refine q0 rfl (o_build (cs := [.int .i64 (5), .int .i64 (0), .string ((ByteArray.mk #[])), sl (none, 0) (0), sl (some ⟨b12, 0, none⟩, 1) (1), sl (none, 0) (0)]) ?_)
  refine q0 rfl (o_lit2 fun b14 => ?_)
  refine q0 rfl (o_build (cs := [.int .i64 (6), .int .i64 (0), .string ((ByteArray.mk #[])), sl (none, 0) (0), sl (some ⟨b14, 0, none⟩, 2) (2), sl (none, 0) (0)]) ?_)
  refine q0 rfl (o_new fun b2 => ?_)
  refine q0 rfl (o_st ?_)
  refine rg_nil ?_
  refine go_state (fun w hs => ?_) (?_ : GoT _ _ _ _ _ _ _ [RT exT nul (some ⟨b14, 0, none⟩, 2) nul] [boxR b2 (tc exT nul (some ⟨b14, 0, none⟩, 2) nul) 31])
  · have g1 := ((((((hs.perm perm3).perm perm1).perm perm2).perm perm3).leaf 1 0 ⟨#[]⟩ (in_lit (by omega) (by omega)) (in_lit (by omega) (by omega)) (Nat.zero_le _)).lit1T (t := varT 0) (vr := nul) (vk := nul) (vs := nul) hB (by simp [varT]) rfl).node 5 0 [varT 0] (some ⟨b12, 0, none⟩, 1) (in_lit (by omega) (by omega)) (in_lit (by omega) (by omega)) (by simp)
    have g3 := ((g1.leaf 1 1 ⟨#[]⟩ (in_lit (by omega) (by omega)) (in_lit (by omega) (by omega)) (Nat.zero_le _)).lit2T (t := varT 1) (vr := nul) (vk := nul) (vs := nul) (u := lamT (varT 0)) (ur := nul) (uk := (some ⟨b12, 0, none⟩, 1)) (us := nul) hB (by simp [varT]) (by simp [lamT]) rfl).node 6 0 [varT 1, lamT (varT 0)] (some ⟨b14, 0, none⟩, 2) (in_lit (by omega) (by omega)) (in_lit (by omega) (by omega)) (by simp)
    exact (g3.less (by simp [lamT, exT, varT])).dropR (A := [_])
  refine go_seq ?_
  refine go_region ⟨_, Try.func34⟩ rfl ?_
  refine q0 rfl (o_lds ?_)
  refine q0 rfl (o_call Try.call37 (allP_spec exT nul (some ⟨b14, 0, none⟩, 2) nul (by rw [ex_size.1]; omega)) (fun x18 => ?_))
  refine q0 rfl (o_move ?_)
  refine q0 rfl (o_extract ?_)
  refine q0 rfl (o_extract ?_)
  refine q0 rfl (o_assign ?_)
  refine q0 rfl (o_assign ?_)
  refine rg_nil ?_
  have hx18 : x18.1.2.map (fun z : IP => z.1) = [[], [0], [1], [1, 0]] := x18.2.trans ex_all
  have hl18 : x18.1.2.length = 4 := by have h9 := congrArg List.length hx18; simpa using h9
  have h18 : (x18.1.2.getD 3 ip0).1 = [1, 0] := by have h9 := getD_map (d := ip0) (e := ([] : List Int)) (f := fun z : IP => z.1) (l := x18.1.2) (i := 3) (by omega); rw [hx18] at h9; exact h9.symm
  refine go_seq ?_
  refine go_region ⟨_, Try.func34⟩ rfl ?_
  refine q0 rfl (o_lds ?_)
  refine q0 rfl (o_lit2 fun b23 => ?_)
  refine rg_state (fun w hs => (((hs.perm perm1).perm perm1).litI [1, 0] hB rfl (by decide) (by intro c hc; simp at hc; unfold in64; omega))) ?_
  have hget := getWalk exT nul (some ⟨b14, 0, none⟩, 2) nul [1, 0] (some ⟨b23, 0, none⟩, 2) (by rw [ex_size.1]; omega)
  simp only [ex_get1, ex_get2] at hget
  refine q0 rfl (o_call Try.call40 (hget) (fun x24 => ?_))
  refine q0 rfl (o_move ?_)
  refine q0 rfl (o_extract ?_)
  refine q0 rfl (o_extract ?_)
  refine q0 rfl (o_new fun b5 => ?_)
  refine q0 rfl (o_st ?_)
  refine q0 rfl (o_assign ?_)
  refine rg_nil ?_
  refine go_seq ?_
  refine go_region ⟨_, Try.func34⟩ rfl ?_
  refine q0 rfl (o_lds ?_)
  refine q0 rfl (o_lit1 fun b29 => ?_)
  refine q0 rfl (o_build (cs := [.int .i64 (3), .int .i64 (0), .string ((ByteArray.mk #[])), sl (none, 0) (0), sl (none, 0) (0), sl (none, 0) (0)]) ?_)
  refine rg_state (fun w hs => ((((hs.perm perm2).perm perm2).perm perm2).litI [0] hB rfl (by decide) (by intro c hc; simp at hc; unfold in64; omega))) ?_
  have hput := putP_walk exT nul (some ⟨b14, 0, none⟩, 2) nul [0] (some ⟨b29, 0, none⟩, 1) exU nul nul nul (by rw [ex_size.1]; omega) (by rw [ex_size.2]; omega)
  simp only [ex_put1, ex_put2] at hput
  refine rg_state (fun w hs => show St B (RT exU nul nul nul :: _) _ w from hs.leaf 3 0 ⟨#[]⟩ (in_lit (by omega) (by omega)) (in_lit (by omega) (by omega)) (Nat.zero_le _)) ?_
  refine q0 rfl (o_call Try.call39 (hput) (fun x31 => ?_))
  refine q0 rfl (o_move ?_)
  refine q0 rfl (o_extract ?_)
  refine q0 rfl (o_extract ?_)
  refine q0 rfl (o_new fun b7 => ?_)
  refine q0 rfl (o_st ?_)
  refine q0 rfl (o_assign ?_)
  refine rg_nil ?_
  refine go_open (t := exR) (vr := x31.1) (vk := x31.2.1) (vs := x31.2.2) (fun hk1 hn1 hm1 => ?_)
  refine go_openTL (ts := (exR).kids) (a := x31.2.1) (fun VR2 VK2 VS2 hl2 hA2 => ?_)
  refine go_seq ?_
  refine go_openRow (l := x18.1.2) (a := x18.1.1) (bt := 24) (F := ipCells) (E := ipE) (d := ip0) (by repeat (first | exact List.mem_cons_self | apply List.mem_cons_of_mem)) (fun hl3 hA3 => ?_)
  refine go_elem (l := x18.1.2) (a := x18.1.1) (bt := 24) (F := ipCells) (E := ipE) (d := ip0) (by repeat (first | exact List.mem_cons_self | apply List.mem_cons_of_mem)) 3 (by (first | omega | decide)) ?_
  refine go_kid (ts := (exR).kids) (a := x31.2.1) (VR := VR2) (VK := VK2) (VS := VS2) 0 (by (first | omega | decide)) ?_
  refine go_cutS ([(0, .bool (true))]) (fun hK => ?_) (fun base => ?_)
  · refine go_region ⟨_, Try.func34⟩ rfl ?_
    refine q0 rfl (o_move ?_)
    refine q0 rfl (o_eqI ?_)
    refine q0 rfl (o_move ?_)
    refine qI rfl rfl rfl (by conv => lhs; whnf) (fun hg36 => ?_) (fun hg36 => ?_)
    · have g36 : (decide ((formedP exT) = 0)) = true := hg36
      try simp only [decide_eq_true_eq, decide_eq_false_iff_not, Bool.and_eq_true, Bool.or_eq_true, Bool.not_eq_true', Bool.and_eq_false_iff, Bool.or_eq_false_iff, Bool.not_eq_false', bne_iff_ne, beq_iff_eq, ne_eq, not_and, Decidable.not_not, Bool.true_and, Bool.and_true, Bool.false_or, Bool.or_false] at g36
      refine o_move ?_
      refine qT rfl rfl rfl (o_len ?_)
      refine qT rfl rfl rfl (o_eqI ?_)
      refine q0 rfl (o_pickT ?_)
      refine q0 rfl (o_move ?_)
      refine qI rfl rfl rfl (by conv => lhs; whnf) (fun hg41 => ?_) (fun hg41 => ?_)
      · have g41 : (decide (((x18.1.2).length : Int) = 4)) = true := hg41
        try simp only [decide_eq_true_eq, decide_eq_false_iff_not, Bool.and_eq_true, Bool.or_eq_true, Bool.not_eq_true', Bool.and_eq_false_iff, Bool.or_eq_false_iff, Bool.not_eq_false', bne_iff_ne, beq_iff_eq, ne_eq, not_and, Decidable.not_not, Bool.true_and, Bool.and_true, Bool.false_or, Bool.or_false] at g41
        refine o_move ?_
        obtain ⟨bk4, o4, hav4⟩ := hA3 (by (first | omega | decide))
        refine qT rfl rfl rfl (o_ixN ?_ (j := 3))
        refine qT rfl rfl rfl (o_ldII ?_)
        refine qT rfl rfl rfl (o_lit2 fun b45 => ?_)
        refine rg_state (fun w hs => (((((hs.perm perm3).perm perm3).perm perm3).perm perm3).litI [1, 0] hB rfl (by decide) (by intro c hc; simp at hc; unfold in64; omega))) ?_
        refine qT rfl rfl rfl (o_call Try.call62 (ints_spec (((x18.1.2).getD 3 ip0).1) (((x18.1.2).getD 3 ip0).2) ([1, 0]) (some ⟨b45, 0, none⟩, [1, 0].length) ) (fun x46 => ?_))
        refine q0 rfl (o_pickT ?_)
        refine q0 rfl (o_move ?_)
        refine qI rfl rfl rfl (by conv => lhs; whnf) (fun hg48 => ?_) (fun hg48 => ?_)
        · have g48 : ((decide ((((x18.1.2).getD 3 ip0).1) = ([1, 0])))) = true := hg48
          try simp only [decide_eq_true_eq, decide_eq_false_iff_not, Bool.and_eq_true, Bool.or_eq_true, Bool.not_eq_true', Bool.and_eq_false_iff, Bool.or_eq_false_iff, Bool.not_eq_false', bne_iff_ne, beq_iff_eq, ne_eq, not_and, Decidable.not_not, Bool.true_and, Bool.and_true, Bool.false_or, Bool.or_false] at g48
          refine o_move ?_
          refine qT rfl rfl rfl (o_eqI ?_)
          refine q0 rfl (o_pickT ?_)
          refine q0 rfl (o_move ?_)
          refine qI rfl rfl rfl (by conv => lhs; whnf) (fun hg52 => ?_) (fun hg52 => ?_)
          · have g52 : (decide (0 = 0)) = true := hg52
            try simp only [decide_eq_true_eq, decide_eq_false_iff_not, Bool.and_eq_true, Bool.or_eq_true, Bool.not_eq_true', Bool.and_eq_false_iff, Bool.or_eq_false_iff, Bool.not_eq_false', bne_iff_ne, beq_iff_eq, ne_eq, not_and, Decidable.not_not, Bool.true_and, Bool.and_true, Bool.false_or, Bool.or_false] at g52
            refine o_fa ?_
            refine qT rfl rfl rfl (o_fa ?_)
            refine qT rfl rfl rfl (o_ld ?_)
            refine qT rfl rfl rfl (o_eqI ?_)
            refine q0 rfl (o_pickT ?_)
            refine q0 rfl (o_move ?_)
            refine qI rfl rfl rfl (by conv => lhs; whnf) (fun hg58 => ?_) (fun hg58 => ?_)
            · have g58 : (decide (((varT0).kind) = 1)) = true := hg58
              try simp only [decide_eq_true_eq, decide_eq_false_iff_not, Bool.and_eq_true, Bool.or_eq_true, Bool.not_eq_true', Bool.and_eq_false_iff, Bool.or_eq_false_iff, Bool.not_eq_false', bne_iff_ne, beq_iff_eq, ne_eq, not_and, Decidable.not_not, Bool.true_and, Bool.and_true, Bool.false_or, Bool.or_false] at g58
              refine o_fa ?_
              refine qT rfl rfl rfl (o_ld ?_)
              refine qT rfl rfl rfl (o_eqI ?_)
              refine q0 rfl (o_pickT ?_)
              refine q0 rfl (o_move ?_)
              refine qI rfl rfl rfl (by conv => lhs; whnf) (fun hg63 => ?_) (fun hg63 => ?_)
              · have g63 : (decide (1 = 1)) = true := hg63
                try simp only [decide_eq_true_eq, decide_eq_false_iff_not, Bool.and_eq_true, Bool.or_eq_true, Bool.not_eq_true', Bool.and_eq_false_iff, Bool.or_eq_false_iff, Bool.not_eq_false', bne_iff_ne, beq_iff_eq, ne_eq, not_and, Decidable.not_not, Bool.true_and, Bool.and_true, Bool.false_or, Bool.or_false] at g63
                refine o_move ?_
                refine qT rfl rfl rfl (o_eqI ?_)
                refine q0 rfl (o_pickT ?_)
                refine q0 rfl (o_move ?_)
                refine qI rfl rfl rfl (by conv => lhs; whnf) (fun hg67 => ?_) (fun hg67 => ?_)
                · have g67 : (decide (0 = 0)) = true := hg67
                  try simp only [decide_eq_true_eq, decide_eq_false_iff_not, Bool.and_eq_true, Bool.or_eq_true, Bool.not_eq_true', Bool.and_eq_false_iff, Bool.or_eq_false_iff, Bool.not_eq_false', bne_iff_ne, beq_iff_eq, ne_eq, not_and, Decidable.not_not, Bool.true_and, Bool.and_true, Bool.false_or, Bool.or_false] at g67
                  refine o_fa ?_
                  refine qT rfl rfl rfl (o_ld ?_)
                  refine qT rfl rfl rfl (o_len ?_)
                  refine qT rfl rfl rfl (o_eqI ?_)
                  refine q0 rfl (o_pickT ?_)
                  refine q0 rfl (o_move ?_)
                  refine qI rfl rfl rfl (by conv => lhs; whnf) (fun hg73 => ?_) (fun hg73 => ?_)
                  · have g73 : (decide (((exR).kids.length : Int) = 2)) = true := hg73
                    try simp only [decide_eq_true_eq, decide_eq_false_iff_not, Bool.and_eq_true, Bool.or_eq_true, Bool.not_eq_true', Bool.and_eq_false_iff, Bool.or_eq_false_iff, Bool.not_eq_false', bne_iff_ne, beq_iff_eq, ne_eq, not_and, Decidable.not_not, Bool.true_and, Bool.and_true, Bool.false_or, Bool.or_false] at g73
                    refine o_fa ?_
                    refine qT rfl rfl rfl (o_ld ?_)
                    obtain ⟨bk5, o5, hav5⟩ := hA2 (by (first | omega | decide))
                    refine qT rfl rfl rfl (o_ixN ?_ (j := 0))
                    refine qT rfl rfl rfl (o_fa ?_)
                    refine qT rfl rfl rfl (o_ldTf ?_)
                    refine qT rfl rfl rfl (o_eqI ?_)
                    refine q0 rfl (o_pickT ?_)
                    refine q0 rfl (o_assign ?_)
                    refine rg_nil ?_
                    exact go_state (fun w hs => (hs.less (by simp +contextual))) (hK _ ⟨(by first | rfl | ((conv => lhs; whnf); first | (simp_all [exR, exU, varT0, T.kids, T.kind, ex_formed, h18, hl18]; done) | (simp_all [exR, exU, varT0, T.kids, T.kind, ex_formed, h18, hl18]; omega))), trivial⟩)
                  · have g73 : (decide (((exR).kids.length : Int) = 2)) = false := hg73
                    try simp only [decide_eq_true_eq, decide_eq_false_iff_not, Bool.and_eq_true, Bool.or_eq_true, Bool.not_eq_true', Bool.and_eq_false_iff, Bool.or_eq_false_iff, Bool.not_eq_false', bne_iff_ne, beq_iff_eq, ne_eq, not_and, Decidable.not_not, Bool.true_and, Bool.and_true, Bool.false_or, Bool.or_false] at g73
                    refine qF rfl rfl rfl ?_
                    refine qF rfl rfl rfl ?_
                    refine qF rfl rfl rfl ?_
                    refine qF rfl rfl rfl ?_
                    refine qF rfl rfl rfl ?_
                    refine q0 rfl (o_pickF ?_)
                    refine q0 rfl (o_assign ?_)
                    refine rg_nil ?_
                    exact go_state (fun w hs => (hs.less (by simp +contextual))) (hK _ ⟨(by first | rfl | ((conv => lhs; whnf); first | (simp_all [exR, exU, varT0, T.kids, T.kind, ex_formed, h18, hl18]; done) | (simp_all [exR, exU, varT0, T.kids, T.kind, ex_formed, h18, hl18]; omega))), trivial⟩)
                · have g67 : (decide (0 = 0)) = false := hg67
                  try simp only [decide_eq_true_eq, decide_eq_false_iff_not, Bool.and_eq_true, Bool.or_eq_true, Bool.not_eq_true', Bool.and_eq_false_iff, Bool.or_eq_false_iff, Bool.not_eq_false', bne_iff_ne, beq_iff_eq, ne_eq, not_and, Decidable.not_not, Bool.true_and, Bool.and_true, Bool.false_or, Bool.or_false] at g67
                  refine qF rfl rfl rfl ?_
                  refine qF rfl rfl rfl ?_
                  refine qF rfl rfl rfl ?_
                  refine q0 rfl (o_pickF ?_)
                  refine q0 rfl (o_move ?_)
                  refine qF rfl rfl rfl ?_
                  refine qF rfl rfl rfl ?_
                  refine qF rfl rfl rfl ?_
                  refine qF rfl rfl rfl ?_
                  refine qF rfl rfl rfl ?_
                  refine qF rfl rfl rfl ?_
                  refine q0 rfl (o_pickF ?_)
                  refine q0 rfl (o_assign ?_)
                  refine rg_nil ?_
                  exact go_state (fun w hs => (hs.less (by simp +contextual))) (hK _ ⟨(by first | rfl | ((conv => lhs; whnf); first | (simp_all [exR, exU, varT0, T.kids, T.kind, ex_formed, h18, hl18]; done) | (simp_all [exR, exU, varT0, T.kids, T.kind, ex_formed, h18, hl18]; omega))), trivial⟩)
              · have g63 : (decide (1 = 1)) = false := hg63
                try simp only [decide_eq_true_eq, decide_eq_false_iff_not, Bool.and_eq_true, Bool.or_eq_true, Bool.not_eq_true', Bool.and_eq_false_iff, Bool.or_eq_false_iff, Bool.not_eq_false', bne_iff_ne, beq_iff_eq, ne_eq, not_and, Decidable.not_not, Bool.true_and, Bool.and_true, Bool.false_or, Bool.or_false] at g63
                refine qF rfl rfl rfl ?_
                refine q0 rfl (o_pickF ?_)
                refine q0 rfl (o_move ?_)
                refine qF rfl rfl rfl ?_
                refine qF rfl rfl rfl ?_
                refine qF rfl rfl rfl ?_
                refine qF rfl rfl rfl ?_
                refine q0 rfl (o_pickF ?_)
                refine q0 rfl (o_move ?_)
                refine qF rfl rfl rfl ?_
                refine qF rfl rfl rfl ?_
                refine qF rfl rfl rfl ?_
                refine qF rfl rfl rfl ?_
                refine qF rfl rfl rfl ?_
                refine qF rfl rfl rfl ?_
                refine q0 rfl (o_pickF ?_)
                refine q0 rfl (o_assign ?_)
                refine rg_nil ?_
                exact go_state (fun w hs => (hs.less (by simp +contextual))) (hK _ ⟨(by first | rfl | ((conv => lhs; whnf); first | (simp_all [exR, exU, varT0, T.kids, T.kind, ex_formed, h18, hl18]; done) | (simp_all [exR, exU, varT0, T.kids, T.kind, ex_formed, h18, hl18]; omega))), trivial⟩)
            · have g58 : (decide (((varT0).kind) = 1)) = false := hg58
              try simp only [decide_eq_true_eq, decide_eq_false_iff_not, Bool.and_eq_true, Bool.or_eq_true, Bool.not_eq_true', Bool.and_eq_false_iff, Bool.or_eq_false_iff, Bool.not_eq_false', bne_iff_ne, beq_iff_eq, ne_eq, not_and, Decidable.not_not, Bool.true_and, Bool.and_true, Bool.false_or, Bool.or_false] at g58
              refine qF rfl rfl rfl ?_
              refine qF rfl rfl rfl ?_
              refine q0 rfl (o_pickF ?_)
              refine q0 rfl (o_move ?_)
              refine qF rfl rfl rfl ?_
              refine qF rfl rfl rfl ?_
              refine q0 rfl (o_pickF ?_)
              refine q0 rfl (o_move ?_)
              refine qF rfl rfl rfl ?_
              refine qF rfl rfl rfl ?_
              refine qF rfl rfl rfl ?_
              refine qF rfl rfl rfl ?_
              refine q0 rfl (o_pickF ?_)
              refine q0 rfl (o_move ?_)
              refine qF rfl rfl rfl ?_
              refine qF rfl rfl rfl ?_
              refine qF rfl rfl rfl ?_
              refine qF rfl rfl rfl ?_
              refine qF rfl rfl rfl ?_
              refine qF rfl rfl rfl ?_
              refine q0 rfl (o_pickF ?_)
              refine q0 rfl (o_assign ?_)
              refine rg_nil ?_
              exact go_state (fun w hs => (hs.less (by simp +contextual))) (hK _ ⟨(by first | rfl | ((conv => lhs; whnf); first | (simp_all [exR, exU, varT0, T.kids, T.kind, ex_formed, h18, hl18]; done) | (simp_all [exR, exU, varT0, T.kids, T.kind, ex_formed, h18, hl18]; omega))), trivial⟩)
          · have g52 : (decide (0 = 0)) = false := hg52
            try simp only [decide_eq_true_eq, decide_eq_false_iff_not, Bool.and_eq_true, Bool.or_eq_true, Bool.not_eq_true', Bool.and_eq_false_iff, Bool.or_eq_false_iff, Bool.not_eq_false', bne_iff_ne, beq_iff_eq, ne_eq, not_and, Decidable.not_not, Bool.true_and, Bool.and_true, Bool.false_or, Bool.or_false] at g52
            refine qF rfl rfl rfl ?_
            refine qF rfl rfl rfl ?_
            refine qF rfl rfl rfl ?_
            refine q0 rfl (o_pickF ?_)
            refine q0 rfl (o_move ?_)
            refine qF rfl rfl rfl ?_
            refine qF rfl rfl rfl ?_
            refine qF rfl rfl rfl ?_
            refine q0 rfl (o_pickF ?_)
            refine q0 rfl (o_move ?_)
            refine qF rfl rfl rfl ?_
            refine qF rfl rfl rfl ?_
            refine q0 rfl (o_pickF ?_)
            refine q0 rfl (o_move ?_)
            refine qF rfl rfl rfl ?_
            refine qF rfl rfl rfl ?_
            refine qF rfl rfl rfl ?_
            refine qF rfl rfl rfl ?_
            refine q0 rfl (o_pickF ?_)
            refine q0 rfl (o_move ?_)
            refine qF rfl rfl rfl ?_
            refine qF rfl rfl rfl ?_
            refine qF rfl rfl rfl ?_
            refine qF rfl rfl rfl ?_
            refine qF rfl rfl rfl ?_
            refine qF rfl rfl rfl ?_
            refine q0 rfl (o_pickF ?_)
            refine q0 rfl (o_assign ?_)
            refine rg_nil ?_
            exact go_state (fun w hs => (hs.less (by simp +contextual))) (hK _ ⟨(by first | rfl | ((conv => lhs; whnf); first | (simp_all [exR, exU, varT0, T.kids, T.kind, ex_formed, h18, hl18]; done) | (simp_all [exR, exU, varT0, T.kids, T.kind, ex_formed, h18, hl18]; omega))), trivial⟩)
        · have g48 : ((decide ((((x18.1.2).getD 3 ip0).1) = ([1, 0])))) = false := hg48
          try simp only [decide_eq_true_eq, decide_eq_false_iff_not, Bool.and_eq_true, Bool.or_eq_true, Bool.not_eq_true', Bool.and_eq_false_iff, Bool.or_eq_false_iff, Bool.not_eq_false', bne_iff_ne, beq_iff_eq, ne_eq, not_and, Decidable.not_not, Bool.true_and, Bool.and_true, Bool.false_or, Bool.or_false] at g48
          refine qF rfl rfl rfl ?_
          refine q0 rfl (o_pickF ?_)
          refine q0 rfl (o_move ?_)
          refine qF rfl rfl rfl ?_
          refine qF rfl rfl rfl ?_
          refine qF rfl rfl rfl ?_
          refine qF rfl rfl rfl ?_
          refine q0 rfl (o_pickF ?_)
          refine q0 rfl (o_move ?_)
          refine qF rfl rfl rfl ?_
          refine qF rfl rfl rfl ?_
          refine qF rfl rfl rfl ?_
          refine q0 rfl (o_pickF ?_)
          refine q0 rfl (o_move ?_)
          refine qF rfl rfl rfl ?_
          refine qF rfl rfl rfl ?_
          refine q0 rfl (o_pickF ?_)
          refine q0 rfl (o_move ?_)
          refine qF rfl rfl rfl ?_
          refine qF rfl rfl rfl ?_
          refine qF rfl rfl rfl ?_
          refine qF rfl rfl rfl ?_
          refine q0 rfl (o_pickF ?_)
          refine q0 rfl (o_move ?_)
          refine qF rfl rfl rfl ?_
          refine qF rfl rfl rfl ?_
          refine qF rfl rfl rfl ?_
          refine qF rfl rfl rfl ?_
          refine qF rfl rfl rfl ?_
          refine qF rfl rfl rfl ?_
          refine q0 rfl (o_pickF ?_)
          refine q0 rfl (o_assign ?_)
          refine rg_nil ?_
          exact go_state (fun w hs => (hs.less (by simp +contextual))) (hK _ ⟨(by first | rfl | ((conv => lhs; whnf); first | (simp_all [exR, exU, varT0, T.kids, T.kind, ex_formed, h18, hl18]; done) | (simp_all [exR, exU, varT0, T.kids, T.kind, ex_formed, h18, hl18]; omega))), trivial⟩)
      · have g41 : (decide (((x18.1.2).length : Int) = 4)) = false := hg41
        try simp only [decide_eq_true_eq, decide_eq_false_iff_not, Bool.and_eq_true, Bool.or_eq_true, Bool.not_eq_true', Bool.and_eq_false_iff, Bool.or_eq_false_iff, Bool.not_eq_false', bne_iff_ne, beq_iff_eq, ne_eq, not_and, Decidable.not_not, Bool.true_and, Bool.and_true, Bool.false_or, Bool.or_false] at g41
        refine qF rfl rfl rfl ?_
        refine qF rfl rfl rfl ?_
        refine qF rfl rfl rfl ?_
        refine qF rfl rfl rfl ?_
        refine q0 rfl (o_pickF ?_)
        refine q0 rfl (o_move ?_)
        refine qF rfl rfl rfl ?_
        refine qF rfl rfl rfl ?_
        refine q0 rfl (o_pickF ?_)
        refine q0 rfl (o_move ?_)
        refine qF rfl rfl rfl ?_
        refine qF rfl rfl rfl ?_
        refine qF rfl rfl rfl ?_
        refine qF rfl rfl rfl ?_
        refine q0 rfl (o_pickF ?_)
        refine q0 rfl (o_move ?_)
        refine qF rfl rfl rfl ?_
        refine qF rfl rfl rfl ?_
        refine qF rfl rfl rfl ?_
        refine q0 rfl (o_pickF ?_)
        refine q0 rfl (o_move ?_)
        refine qF rfl rfl rfl ?_
        refine qF rfl rfl rfl ?_
        refine q0 rfl (o_pickF ?_)
        refine q0 rfl (o_move ?_)
        refine qF rfl rfl rfl ?_
        refine qF rfl rfl rfl ?_
        refine qF rfl rfl rfl ?_
        refine qF rfl rfl rfl ?_
        refine q0 rfl (o_pickF ?_)
        refine q0 rfl (o_move ?_)
        refine qF rfl rfl rfl ?_
        refine qF rfl rfl rfl ?_
        refine qF rfl rfl rfl ?_
        refine qF rfl rfl rfl ?_
        refine qF rfl rfl rfl ?_
        refine qF rfl rfl rfl ?_
        refine q0 rfl (o_pickF ?_)
        refine q0 rfl (o_assign ?_)
        refine rg_nil ?_
        exact hK _ ⟨(by first | rfl | ((conv => lhs; whnf); first | (simp_all [exR, exU, varT0, T.kids, T.kind, ex_formed, h18, hl18]; done) | (simp_all [exR, exU, varT0, T.kids, T.kind, ex_formed, h18, hl18]; omega))), trivial⟩
    · have g36 : (decide ((formedP exT) = 0)) = false := hg36
      try simp only [decide_eq_true_eq, decide_eq_false_iff_not, Bool.and_eq_true, Bool.or_eq_true, Bool.not_eq_true', Bool.and_eq_false_iff, Bool.or_eq_false_iff, Bool.not_eq_false', bne_iff_ne, beq_iff_eq, ne_eq, not_and, Decidable.not_not, Bool.true_and, Bool.and_true, Bool.false_or, Bool.or_false] at g36
      refine qF rfl rfl rfl ?_
      refine qF rfl rfl rfl ?_
      refine q0 rfl (o_pickF ?_)
      refine q0 rfl (o_move ?_)
      refine qF rfl rfl rfl ?_
      refine qF rfl rfl rfl ?_
      refine qF rfl rfl rfl ?_
      refine qF rfl rfl rfl ?_
      refine qF rfl rfl rfl ?_
      refine q0 rfl (o_pickF ?_)
      refine q0 rfl (o_move ?_)
      refine qF rfl rfl rfl ?_
      refine qF rfl rfl rfl ?_
      refine q0 rfl (o_pickF ?_)
      refine q0 rfl (o_move ?_)
      refine qF rfl rfl rfl ?_
      refine qF rfl rfl rfl ?_
      refine qF rfl rfl rfl ?_
      refine qF rfl rfl rfl ?_
      refine q0 rfl (o_pickF ?_)
      refine q0 rfl (o_move ?_)
      refine qF rfl rfl rfl ?_
      refine qF rfl rfl rfl ?_
      refine qF rfl rfl rfl ?_
      refine q0 rfl (o_pickF ?_)
      refine q0 rfl (o_move ?_)
      refine qF rfl rfl rfl ?_
      refine qF rfl rfl rfl ?_
      refine q0 rfl (o_pickF ?_)
      refine q0 rfl (o_move ?_)
      refine qF rfl rfl rfl ?_
      refine qF rfl rfl rfl ?_
      refine qF rfl rfl rfl ?_
      refine qF rfl rfl rfl ?_
      refine q0 rfl (o_pickF ?_)
      refine q0 rfl (o_move ?_)
      refine qF rfl rfl rfl ?_
      refine qF rfl rfl rfl ?_
      refine qF rfl rfl rfl ?_
      refine qF rfl rfl rfl ?_
      refine qF rfl rfl rfl ?_
      refine qF rfl rfl rfl ?_
      refine q0 rfl (o_pickF ?_)
      refine q0 rfl (o_assign ?_)
      refine rg_nil ?_
      exact hK _ ⟨(by first | rfl | ((conv => lhs; whnf); first | (simp_all [exR, exU, varT0, T.kids, T.kind, ex_formed, h18, hl18]; done) | (simp_all [exR, exU, varT0, T.kids, T.kind, ex_formed, h18, hl18]; omega))), trivial⟩
  · -- leaf 0: .bool (true)
    refine ret1 Try.func34 Try.results34 (by first | ((conv => lhs; whnf); done) | rfl) () (by first | rfl | (simp_all; done)) (fun w hs => hs.none)
end Go.Hy
namespace Go.Hy
set_option linter.unusedVariables false
set_option linter.unusedSimpArgs false
set_option linter.unusedSectionVars false
open Go.Proofs
set_option linter.unusedVariables false
set_option linter.unusedSimpArgs false
set_option maxRecDepth 100000
theorem rsameC (l : List Cl) (a_l : SH) (m : List Cl) (a_m : SH)  : Spec Try.prog 52 #[sl a_l (l.length), sl a_m (m.length)] [CL l a_l, CL m a_m] [] (fun _ : Unit => .bool ((decide (l = m)))) (fun _ : Unit => []) (fun _ : Unit => []) := by
  refine spec_go (args := [sl a_l (l.length), sl a_m (m.length)]) Try.func52 Try.ntmps52 rfl (by exact Nat.le_of_ble_eq_true rfl) fun B hB => ?_
  refine go_openCL (l := l) (a := a_l) (fun hl1 hA1 hU1 => ?_)
  refine go_openCL (l := m) (a := a_m) (fun hl2 hA2 hU2 => ?_)
  refine go_seq ?_
  refine go_region ⟨_, Try.func52⟩ rfl ?_
  refine q0 rfl (o_assign ?_)
  refine rg_nil ?_
  refine go_seq ?_
  refine go_seq ?_
  refine go_region ⟨_, Try.func52⟩ rfl ?_
  refine q0 rfl (o_move ?_)
  refine q0 rfl (o_len ?_)
  refine q0 rfl (o_move ?_)
  refine q0 rfl (o_len ?_)
  refine q0 rfl (o_neI ?_)
  refine rg_nil ?_
  refine go_condI (fun h10 => ?_) (fun h10 => ?_)
  · have c10 : (decide ((l.length : Int) ≠ (m.length : Int))) = true := h10
    try simp only [decide_eq_true_eq, decide_eq_false_iff_not, Bool.and_eq_true, Bool.or_eq_true, Bool.not_eq_true', Bool.and_eq_false_iff, Bool.or_eq_false_iff, Bool.not_eq_false', bne_iff_ne, beq_iff_eq, ne_eq, not_and, Decidable.not_not, Bool.true_and, Bool.and_true, Bool.false_or, Bool.or_false] at c10
    have hne : ¬ l = m := fun e => by subst e; simp at h10
    refine go_seq ?_
    refine go_region ⟨_, Try.func52⟩ rfl ?_
    refine q0 rfl (o_assign ?_)
    refine rg_nil ?_
    -- leaf 0: .bool (false)
    refine ret1 Try.func52 Try.results52 (by first | ((conv => lhs; whnf); done) | rfl) () (by rw [decide_eq_false hne]) (fun w hs => hs.none)
  · have c10 : (decide ((l.length : Int) ≠ (m.length : Int))) = false := h10
    try simp only [decide_eq_true_eq, decide_eq_false_iff_not, Bool.and_eq_true, Bool.or_eq_true, Bool.not_eq_true', Bool.and_eq_false_iff, Bool.or_eq_false_iff, Bool.not_eq_false', bne_iff_ne, beq_iff_eq, ne_eq, not_and, Decidable.not_not, Bool.true_and, Bool.and_true, Bool.false_or, Bool.or_false] at c10
    have hlen : l.length = m.length := by simp at h10; omega
    refine go_skip ?_
    refine go_seq ?_
    refine go_seq ?_
    refine go_region ⟨_, Try.func52⟩ rfl ?_
    refine q0 rfl (o_assign ?_)
    refine rg_nil ?_
    refine go_block ?_
    refine go_loopE (X := Nat) (fun s_ => s_ ≤ l.length ∧ ∀ j, j < s_ → l.getD j cl0 = m.getD j cl0) (fun s_ => [(0, sl a_l (l.length)), (1, sl a_m (m.length)), (5, .int .i64 ((s_ : Int)))]) (fun s_ G_ => G_) (fun s_ => []) (fun s_ => l.length - s_) (0) (⟨by omega, fun j hj => by omega⟩) (by exact ⟨rfl, rfl, rfl, trivial⟩) ?_ ?_
    · exact fun w hs => hs
    · intro i base0 ⟨hi, hok⟩ next0
      refine go_seq ?_
      refine go_seq ?_
      refine go_region ⟨_, Try.func52⟩ rfl ?_
      refine q0 rfl (o_move ?_)
      refine q0 rfl (o_move ?_)
      refine q0 rfl (o_len ?_)
      refine q0 rfl (o_lss ?_)
      refine rg_nil ?_
      refine go_condI (fun h14 => ?_) (fun h14 => ?_)
      · have c14 : (decide ((i : Int) < (l.length : Int))) = true := h14
        try simp only [decide_eq_true_eq, decide_eq_false_iff_not, Bool.and_eq_true, Bool.or_eq_true, Bool.not_eq_true', Bool.and_eq_false_iff, Bool.or_eq_false_iff, Bool.not_eq_false', bne_iff_ne, beq_iff_eq, ne_eq, not_and, Decidable.not_not, Bool.true_and, Bool.and_true, Bool.false_or, Bool.or_false] at c14
        refine go_skip ?_
        refine go_seq ?_
        refine go_block ?_
        refine go_seq ?_
        refine go_draw (tn := false) (A := [0, 0, 3, 7, 0, 0, 48, 112, 255]) (l := [0, 1, 2, 3, 4, 5, 6, 7, 8]) (fin := []) Tab.mixed ⟨_, Try.func52⟩ (by rfl) ?_
        refine n0 rfl (v_move ?_)
        refine n0 rfl (v_move ?_)
        obtain ⟨bk3, o3, hav3⟩ := hA1 (by omega)
        refine n0 rfl (v_ixN ?_ (j := i))
        refine n0 rfl (v_ldC ?_)
        refine n0 rfl (v_move ?_)
        refine n0 rfl (v_move ?_)
        obtain ⟨bk4, o4, hav4⟩ := hA2 (by omega)
        refine n0 rfl (v_ixN ?_ (j := i))
        refine n0 rfl (v_ldC ?_)
        refine n0 rfl (v_neC ?_ (c := (l.getD i cl0)) (c' := (m.getD i cl0)))
        refine NV.done ?_
        refine rg_nil ?_
        refine go_condI (fun h25 => ?_) (fun h25 => ?_)
        · have c25 : (!decide ((l.getD i cl0) = (m.getD i cl0))) = true := h25
          try simp only [decide_eq_true_eq, decide_eq_false_iff_not, Bool.and_eq_true, Bool.or_eq_true, Bool.not_eq_true', Bool.and_eq_false_iff, Bool.or_eq_false_iff, Bool.not_eq_false', bne_iff_ne, beq_iff_eq, ne_eq, not_and, Decidable.not_not, Bool.true_and, Bool.and_true, Bool.false_or, Bool.or_false] at c25
          refine go_seq ?_
          refine go_region ⟨_, Try.func52⟩ rfl ?_
          refine q0 rfl (o_assign ?_)
          refine rg_nil ?_
          -- leaf 1: .bool (false)
          refine ret1 Try.func52 Try.results52 (by first | ((conv => lhs; whnf); done) | rfl) () (by rw [decide_eq_false (fun e => by subst e; simp at h25)]) (fun w hs => hs.none)
        · have c25 : (!decide ((l.getD i cl0) = (m.getD i cl0))) = false := h25
          try simp only [decide_eq_true_eq, decide_eq_false_iff_not, Bool.and_eq_true, Bool.or_eq_true, Bool.not_eq_true', Bool.and_eq_false_iff, Bool.or_eq_false_iff, Bool.not_eq_false', bne_iff_ne, beq_iff_eq, ne_eq, not_and, Decidable.not_not, Bool.true_and, Bool.and_true, Bool.false_or, Bool.or_false] at c25
          refine go_skip ?_
          refine go_inBlock ?_
          refine go_region ⟨_, Try.func52⟩ rfl ?_
          refine q0 rfl (o_move ?_)
          refine q0 rfl (o_add ?_)
          refine q0 rfl (o_assign ?_)
          refine rg_nil ?_
          have hb : l.getD i cl0 = m.getD i cl0 := by simpa using h25
          refine go_state (fun w hs => ?_) (next0 (i + 1) _ (⟨by omega, succ_inv hok hb⟩) (by omega) ⟨rfl, rfl, rfl, trivial⟩)
          exact (hs.less (by simp +contextual))
      · have c14 : (decide ((i : Int) < (l.length : Int))) = false := h14
        try simp only [decide_eq_true_eq, decide_eq_false_iff_not, Bool.and_eq_true, Bool.or_eq_true, Bool.not_eq_true', Bool.and_eq_false_iff, Bool.or_eq_false_iff, Bool.not_eq_false', bne_iff_ne, beq_iff_eq, ne_eq, not_and, Decidable.not_not, Bool.true_and, Bool.and_true, Bool.false_or, Bool.or_false] at c14
        refine go_exit rfl ?_
        refine go_seq ?_
        refine go_region ⟨_, Try.func52⟩ rfl ?_
        refine q0 rfl (o_assign ?_)
        refine rg_nil ?_
        -- leaf 2: .bool (true)
        refine ret1 Try.func52 Try.results52 (by first | ((conv => lhs; whnf); done) | rfl) () (by rw [decide_eq_true (list_eq_of hlen (fun j hj => hok j (by omega)))]) (fun w hs => hs.none)
end Go.Hy
namespace Go.Hy
set_option linter.unusedVariables false
set_option linter.unusedSimpArgs false
set_option linter.unusedSectionVars false
open Go.Proofs
set_option linter.unusedVariables false
set_option linter.unusedSimpArgs false
set_option maxRecDepth 100000
abbrev SameR (t : T) : Prop := ∀ u vr vk vs vr' vk' vs', Spec Try.prog 26 #[.agg (tc t vr vk vs).toArray, .agg (tc u vr' vk' vs').toArray] [RT t vr vk vs, RT u vr' vk' vs'] [] (fun _ : Unit => .bool (decide (t = u))) (fun _ => []) (fun _ => [])
theorem rlists (ts : List T) (a_ts : SH) (us : List T) (a_us : SH) (ih : ∀ t, t ∈ ts → SameR t) : Spec Try.prog 53 #[sl a_ts (ts.length), sl a_us (us.length)] [TL ts a_ts, TL us a_us] [] (fun _ : Unit => .bool ((decide (ts = us)))) (fun _ : Unit => []) (fun _ : Unit => []) := by
  refine spec_go (args := [sl a_ts (ts.length), sl a_us (us.length)]) Try.func53 Try.ntmps53 rfl (by exact Nat.le_of_ble_eq_true rfl) fun B hB => ?_
  refine go_openTL (ts := ts) (a := a_ts) (fun VR1 VK1 VS1 hl1 hA1 => ?_)
  refine go_openTL (ts := us) (a := a_us) (fun VR2 VK2 VS2 hl2 hA2 => ?_)
  refine go_seq ?_
  refine go_region ⟨_, Try.func53⟩ rfl ?_
  refine q0 rfl (o_assign ?_)
  refine rg_nil ?_
  refine go_seq ?_
  refine go_seq ?_
  refine go_region ⟨_, Try.func53⟩ rfl ?_
  refine q0 rfl (o_move ?_)
  refine q0 rfl (o_len ?_)
  refine q0 rfl (o_move ?_)
  refine q0 rfl (o_len ?_)
  refine q0 rfl (o_neI ?_)
  refine rg_nil ?_
  refine go_condI (fun h10 => ?_) (fun h10 => ?_)
  · have c10 : (decide ((ts.length : Int) ≠ (us.length : Int))) = true := h10
    try simp only [decide_eq_true_eq, decide_eq_false_iff_not, Bool.and_eq_true, Bool.or_eq_true, Bool.not_eq_true', Bool.and_eq_false_iff, Bool.or_eq_false_iff, Bool.not_eq_false', bne_iff_ne, beq_iff_eq, ne_eq, not_and, Decidable.not_not, Bool.true_and, Bool.and_true, Bool.false_or, Bool.or_false] at c10
    refine go_seq ?_
    refine go_region ⟨_, Try.func53⟩ rfl ?_
    refine q0 rfl (o_assign ?_)
    refine rg_nil ?_
    -- leaf 0: .bool (false)
    refine ret1 Try.func53 Try.results53 (by first | ((conv => lhs; whnf); done) | rfl) () (by simp only [decide_eq_false (fun h : ts = us => by subst h; simp at c10)]) (fun w hs => hs.none)
  · have c10 : (decide ((ts.length : Int) ≠ (us.length : Int))) = false := h10
    try simp only [decide_eq_true_eq, decide_eq_false_iff_not, Bool.and_eq_true, Bool.or_eq_true, Bool.not_eq_true', Bool.and_eq_false_iff, Bool.or_eq_false_iff, Bool.not_eq_false', bne_iff_ne, beq_iff_eq, ne_eq, not_and, Decidable.not_not, Bool.true_and, Bool.and_true, Bool.false_or, Bool.or_false] at c10
    have hlen : ts.length = us.length := by simp at h10; omega
    refine go_skip ?_
    refine go_seq ?_
    refine go_seq ?_
    refine go_region ⟨_, Try.func53⟩ rfl ?_
    refine q0 rfl (o_assign ?_)
    refine rg_nil ?_
    refine go_block ?_
    refine go_loopE (X := Nat) (fun s_ => s_ ≤ ts.length ∧ ∀ j, j < s_ → ts.getD j t0 = us.getD j t0) (fun s_ => [(0, sl a_ts (ts.length)), (1, sl a_us (us.length)), (5, .int .i64 ((s_ : Int)))]) (fun s_ G_ => G_) (fun s_ => []) (fun s_ => ts.length - s_) (0) (⟨by omega, fun j h => absurd h (Nat.not_lt_zero j)⟩) (by exact ⟨rfl, rfl, rfl, trivial⟩) ?_ ?_
    · exact fun w hs => hs
    · intro i base0 ⟨hi, hsm⟩ next0
      refine go_seq ?_
      refine go_seq ?_
      refine go_region ⟨_, Try.func53⟩ rfl ?_
      refine q0 rfl (o_move ?_)
      refine q0 rfl (o_move ?_)
      refine q0 rfl (o_len ?_)
      refine q0 rfl (o_lss ?_)
      refine rg_nil ?_
      refine go_condI (fun h14 => ?_) (fun h14 => ?_)
      · have c14 : (decide ((i : Int) < (ts.length : Int))) = true := h14
        try simp only [decide_eq_true_eq, decide_eq_false_iff_not, Bool.and_eq_true, Bool.or_eq_true, Bool.not_eq_true', Bool.and_eq_false_iff, Bool.or_eq_false_iff, Bool.not_eq_false', bne_iff_ne, beq_iff_eq, ne_eq, not_and, Decidable.not_not, Bool.true_and, Bool.and_true, Bool.false_or, Bool.or_false] at c14
        refine go_skip ?_
        refine go_seq ?_
        refine go_block ?_
        refine go_seq ?_
        refine go_kid (ts := ts) (a := a_ts) (VR := VR1) (VK := VK1) (VS := VS1) i (by omega) ?_
        refine go_kid (ts := us) (a := a_us) (VR := VR2) (VK := VK2) (VS := VS2) i (by omega) ?_
        refine go_draw (tn := false) (A := [0, 0, 3, 7, 0, 0, 48, 112, 255, 511]) (l := [0, 1, 2, 3, 4, 5, 6, 7, 8, 9]) (fin := []) Tab.mixed ⟨_, Try.func53⟩ (by rfl) ?_
        refine n0 rfl (v_move ?_)
        refine n0 rfl (v_move ?_)
        obtain ⟨bk3, o3, hav3⟩ := hA1 (by omega)
        refine n0 rfl (v_ixN ?_ (j := i))
        refine n0 rfl (v_ldT ?_)
        refine n0 rfl (v_move ?_)
        refine n0 rfl (v_move ?_)
        obtain ⟨bk4, o4, hav4⟩ := hA2 (by omega)
        refine n0 rfl (v_ixN ?_ (j := i))
        refine n0 rfl (v_ldT ?_)
        refine n0 rfl (v_call Try.call26 (ih _ (getD_mem (show i < ts.length by omega)) (us.getD i t0) (VR1 i) (VK1 i) (VS1 i) (VR2 i) (VK2 i) (VS2 i)) (fun x25 => ?_))
        refine n0 rfl (v_not ?_)
        refine NV.done ?_
        refine rg_nil ?_
        refine go_condI (fun h26 => ?_) (fun h26 => ?_)
        · have c26 : (!(decide ((ts.getD i t0) = (us.getD i t0)))) = true := h26
          try simp only [decide_eq_true_eq, decide_eq_false_iff_not, Bool.and_eq_true, Bool.or_eq_true, Bool.not_eq_true', Bool.and_eq_false_iff, Bool.or_eq_false_iff, Bool.not_eq_false', bne_iff_ne, beq_iff_eq, ne_eq, not_and, Decidable.not_not, Bool.true_and, Bool.and_true, Bool.false_or, Bool.or_false] at c26
          refine go_seq ?_
          refine go_region ⟨_, Try.func53⟩ rfl ?_
          refine q0 rfl (o_assign ?_)
          refine rg_nil ?_
          -- leaf 1: .bool (false)
          refine ret1 Try.func53 Try.results53 (by first | ((conv => lhs; whnf); done) | rfl) () (by simp only [decide_eq_false (fun h : ts = us => by subst h; simp at c26)]) (fun w hs => hs.none)
        · have c26 : (!(decide ((ts.getD i t0) = (us.getD i t0)))) = false := h26
          try simp only [decide_eq_true_eq, decide_eq_false_iff_not, Bool.and_eq_true, Bool.or_eq_true, Bool.not_eq_true', Bool.and_eq_false_iff, Bool.or_eq_false_iff, Bool.not_eq_false', bne_iff_ne, beq_iff_eq, ne_eq, not_and, Decidable.not_not, Bool.true_and, Bool.and_true, Bool.false_or, Bool.or_false] at c26
          refine go_skip ?_
          refine go_inBlock ?_
          refine go_region ⟨_, Try.func53⟩ rfl ?_
          refine q0 rfl (o_move ?_)
          refine q0 rfl (o_add ?_)
          refine q0 rfl (o_assign ?_)
          refine rg_nil ?_
          refine go_state (fun w hs => ?_) (next0 (i + 1) _ (⟨by omega, fun j hj => by rcases Nat.lt_succ_iff_lt_or_eq.mp hj with h | h; exact hsm j h; subst h; simpa using c26⟩) (by omega) ⟨rfl, rfl, rfl, trivial⟩)
          exact (hs.less (by simp +contextual))
      · have c14 : (decide ((i : Int) < (ts.length : Int))) = false := h14
        try simp only [decide_eq_true_eq, decide_eq_false_iff_not, Bool.and_eq_true, Bool.or_eq_true, Bool.not_eq_true', Bool.and_eq_false_iff, Bool.or_eq_false_iff, Bool.not_eq_false', bne_iff_ne, beq_iff_eq, ne_eq, not_and, Decidable.not_not, Bool.true_and, Bool.and_true, Bool.false_or, Bool.or_false] at c14
        refine go_exit rfl ?_
        refine go_seq ?_
        refine go_region ⟨_, Try.func53⟩ rfl ?_
        refine q0 rfl (o_assign ?_)
        refine rg_nil ?_
        -- leaf 2: .bool (true)
        refine ret1 Try.func53 Try.results53 (by first | ((conv => lhs; whnf); done) | rfl) () (by simp only [decide_eq_true (list_eq_of (d := t0) hlen (fun j hj => hsm j (by omega)) : ts = us)]) (fun w hs => hs.none)
theorem rsame_walk (t : T) (vr_t vk_t vs_t : SH) (u : T) (vr_u vk_u vs_u : SH) (ih : ∀ p, p ∈ parts t → SameR p.1) : Spec Try.prog 26 #[.agg (tc t vr_t vk_t vs_t).toArray, .agg (tc u vr_u vk_u vs_u).toArray] [RT t vr_t vk_t vs_t, RT u vr_u vk_u vs_u] [] (fun _ : Unit => .bool ((decide (t = u)))) (fun _ : Unit => []) (fun _ : Unit => []) := by
  refine spec_go (args := [.agg (tc t vr_t vk_t vs_t).toArray, .agg (tc u vr_u vk_u vs_u).toArray]) Try.func26 Try.ntmps26 rfl (by exact Nat.le_of_ble_eq_true rfl) fun B hB => ?_
  refine go_open (t := t) (vr := vr_t) (vk := vk_t) (vs := vs_t) (fun hk1 hn1 hm1 => ?_)
  refine go_openCL (l := (t).r) (a := vr_t) (fun hl2 hA2 hU2 => ?_)
  refine go_openTL (ts := (t).kids) (a := vk_t) (fun VR3 VK3 VS3 hl3 hA3 => ?_)
  refine go_openBL (bs := (t).sys) (a := vs_t) (fun VF4 VK4 hl4 hA4 => ?_)
  refine go_open (t := u) (vr := vr_u) (vk := vk_u) (vs := vs_u) (fun hk5 hn5 hm5 => ?_)
  refine go_openCL (l := (u).r) (a := vr_u) (fun hl6 hA6 hU6 => ?_)
  refine go_openTL (ts := (u).kids) (a := vk_u) (fun VR7 VK7 VS7 hl7 hA7 => ?_)
  refine go_openBL (bs := (u).sys) (a := vs_u) (fun VF8 VK8 hl8 hA8 => ?_)
  refine go_seq ?_
  refine go_region ⟨_, Try.func26⟩ rfl ?_
  refine q0 rfl (o_box fun b2 => ?_)
  refine q0 rfl (o_box fun b3 => ?_)
  refine q0 rfl (o_assign ?_)
  refine rg_nil ?_
  refine go_seq ?_
  refine go_seq ?_
  refine go_cutS ([(2, .pointer (some ⟨b2, 0, none⟩)), (3, .pointer (some ⟨b3, 0, none⟩)), (49, .bool ((((((decide (((t).kind) ≠ ((u).kind))) || (decide (((t).n) ≠ ((u).n)))) || (!(((t).name).toList == ((u).name).toList))) || (!(decide (((t).r) = ((u).r))))) || (!(decide (((t).kids) = ((u).kids))))) || (decide (((t).sys.length : Int) ≠ ((u).sys.length : Int)))))]) (fun hK => ?_) (fun base => ?_)
  · refine go_region ⟨_, Try.func26⟩ rfl ?_
    refine q0 rfl (o_fa ?_)
    refine q0 rfl (o_ld ?_)
    refine q0 rfl (o_fa ?_)
    refine q0 rfl (o_ld ?_)
    refine q0 rfl (o_neI ?_)
    refine q0 rfl (o_move ?_)
    refine qI rfl rfl rfl (by conv => lhs; whnf) (fun hg11 => ?_) (fun hg11 => ?_)
    · have g11 : (decide (((t).kind) ≠ ((u).kind))) = false := hg11
      try simp only [decide_eq_true_eq, decide_eq_false_iff_not, Bool.and_eq_true, Bool.or_eq_true, Bool.not_eq_true', Bool.and_eq_false_iff, Bool.or_eq_false_iff, Bool.not_eq_false', bne_iff_ne, beq_iff_eq, ne_eq, not_and, Decidable.not_not, Bool.true_and, Bool.and_true, Bool.false_or, Bool.or_false] at g11
      refine o_fa ?_
      refine qT rfl rfl rfl (o_ld ?_)
      refine qT rfl rfl rfl (o_fa ?_)
      refine qT rfl rfl rfl (o_ld ?_)
      refine qT rfl rfl rfl (o_neI ?_)
      refine q0 rfl (o_pickF ?_)
      refine q0 rfl (o_move ?_)
      refine qI rfl rfl rfl (by conv => lhs; whnf) (fun hg18 => ?_) (fun hg18 => ?_)
      · have g18 : (decide (((t).n) ≠ ((u).n))) = false := hg18
        try simp only [decide_eq_true_eq, decide_eq_false_iff_not, Bool.and_eq_true, Bool.or_eq_true, Bool.not_eq_true', Bool.and_eq_false_iff, Bool.or_eq_false_iff, Bool.not_eq_false', bne_iff_ne, beq_iff_eq, ne_eq, not_and, Decidable.not_not, Bool.true_and, Bool.and_true, Bool.false_or, Bool.or_false] at g18
        refine o_fa ?_
        refine qT rfl rfl rfl (o_ld ?_)
        refine qT rfl rfl rfl (o_fa ?_)
        refine qT rfl rfl rfl (o_ld ?_)
        refine qT rfl rfl rfl (o_neS ?_)
        refine q0 rfl (o_pickF ?_)
        refine q0 rfl (o_move ?_)
        refine qI rfl rfl rfl (by conv => lhs; whnf) (fun hg25 => ?_) (fun hg25 => ?_)
        · have g25 : (!(((t).name).toList == ((u).name).toList)) = false := hg25
          try simp only [decide_eq_true_eq, decide_eq_false_iff_not, Bool.and_eq_true, Bool.or_eq_true, Bool.not_eq_true', Bool.and_eq_false_iff, Bool.or_eq_false_iff, Bool.not_eq_false', bne_iff_ne, beq_iff_eq, ne_eq, not_and, Decidable.not_not, Bool.true_and, Bool.and_true, Bool.false_or, Bool.or_false] at g25
          refine o_fa ?_
          refine qT rfl rfl rfl (o_ld ?_)
          refine qT rfl rfl rfl (o_fa ?_)
          refine qT rfl rfl rfl (o_ld ?_)
          refine qT rfl rfl rfl (o_call Try.call52 (rsameC ((t).r) vr_t ((u).r) vr_u ) (fun x30 => ?_))
          refine qT rfl rfl rfl (o_not ?_)
          refine q0 rfl (o_pickF ?_)
          refine q0 rfl (o_move ?_)
          refine qI rfl rfl rfl (by conv => lhs; whnf) (fun hg33 => ?_) (fun hg33 => ?_)
          · have g33 : (!(decide (((t).r) = ((u).r)))) = false := hg33
            try simp only [decide_eq_true_eq, decide_eq_false_iff_not, Bool.and_eq_true, Bool.or_eq_true, Bool.not_eq_true', Bool.and_eq_false_iff, Bool.or_eq_false_iff, Bool.not_eq_false', bne_iff_ne, beq_iff_eq, ne_eq, not_and, Decidable.not_not, Bool.true_and, Bool.and_true, Bool.false_or, Bool.or_false] at g33
            refine o_fa ?_
            refine qT rfl rfl rfl (o_ld ?_)
            refine qT rfl rfl rfl (o_fa ?_)
            refine qT rfl rfl rfl (o_ld ?_)
            refine qT rfl rfl rfl (o_call Try.call53 (rlists ((t).kids) vk_t ((u).kids) vk_u (fun k hk => (by obtain ⟨p, hp, e⟩ := kid_mem_parts hk; exact e ▸ ih p hp))) (fun x38 => ?_))
            refine qT rfl rfl rfl (o_not ?_)
            refine q0 rfl (o_pickF ?_)
            refine q0 rfl (o_move ?_)
            refine qI rfl rfl rfl (by conv => lhs; whnf) (fun hg41 => ?_) (fun hg41 => ?_)
            · have g41 : (!(decide (((t).kids) = ((u).kids)))) = false := hg41
              try simp only [decide_eq_true_eq, decide_eq_false_iff_not, Bool.and_eq_true, Bool.or_eq_true, Bool.not_eq_true', Bool.and_eq_false_iff, Bool.or_eq_false_iff, Bool.not_eq_false', bne_iff_ne, beq_iff_eq, ne_eq, not_and, Decidable.not_not, Bool.true_and, Bool.and_true, Bool.false_or, Bool.or_false] at g41
              refine o_fa ?_
              refine qT rfl rfl rfl (o_ld ?_)
              refine qT rfl rfl rfl (o_len ?_)
              refine qT rfl rfl rfl (o_fa ?_)
              refine qT rfl rfl rfl (o_ld ?_)
              refine qT rfl rfl rfl (o_len ?_)
              refine qT rfl rfl rfl (o_neI ?_)
              refine q0 rfl (o_pickF ?_)
              refine rg_nil ?_
              exact hK _ ⟨rfl, rfl, (by first | rfl | ((conv => lhs; whnf); first | (simp_all; done) | (simp_all; omega))), trivial⟩
            · have g41 : (!(decide (((t).kids) = ((u).kids)))) = true := hg41
              try simp only [decide_eq_true_eq, decide_eq_false_iff_not, Bool.and_eq_true, Bool.or_eq_true, Bool.not_eq_true', Bool.and_eq_false_iff, Bool.or_eq_false_iff, Bool.not_eq_false', bne_iff_ne, beq_iff_eq, ne_eq, not_and, Decidable.not_not, Bool.true_and, Bool.and_true, Bool.false_or, Bool.or_false] at g41
              refine qF rfl rfl rfl ?_
              refine qF rfl rfl rfl ?_
              refine qF rfl rfl rfl ?_
              refine qF rfl rfl rfl ?_
              refine qF rfl rfl rfl ?_
              refine qF rfl rfl rfl ?_
              refine q0 rfl (o_pickT ?_)
              refine rg_nil ?_
              exact hK _ ⟨rfl, rfl, (by first | rfl | ((conv => lhs; whnf); first | (simp_all; done) | (simp_all; omega))), trivial⟩
          · have g33 : (!(decide (((t).r) = ((u).r)))) = true := hg33
            try simp only [decide_eq_true_eq, decide_eq_false_iff_not, Bool.and_eq_true, Bool.or_eq_true, Bool.not_eq_true', Bool.and_eq_false_iff, Bool.or_eq_false_iff, Bool.not_eq_false', bne_iff_ne, beq_iff_eq, ne_eq, not_and, Decidable.not_not, Bool.true_and, Bool.and_true, Bool.false_or, Bool.or_false] at g33
            refine qF rfl rfl rfl ?_
            refine qF rfl rfl rfl ?_
            refine qF rfl rfl rfl ?_
            refine qF rfl rfl rfl ?_
            refine qF rfl rfl rfl ?_
            refine q0 rfl (o_pickT ?_)
            refine q0 rfl (o_move ?_)
            refine qF rfl rfl rfl ?_
            refine qF rfl rfl rfl ?_
            refine qF rfl rfl rfl ?_
            refine qF rfl rfl rfl ?_
            refine qF rfl rfl rfl ?_
            refine qF rfl rfl rfl ?_
            refine qF rfl rfl rfl ?_
            refine q0 rfl (o_pickT ?_)
            refine rg_nil ?_
            exact hK _ ⟨rfl, rfl, (by first | rfl | ((conv => lhs; whnf); first | (simp_all; done) | (simp_all; omega))), trivial⟩
        · have g25 : (!(((t).name).toList == ((u).name).toList)) = true := hg25
          try simp only [decide_eq_true_eq, decide_eq_false_iff_not, Bool.and_eq_true, Bool.or_eq_true, Bool.not_eq_true', Bool.and_eq_false_iff, Bool.or_eq_false_iff, Bool.not_eq_false', bne_iff_ne, beq_iff_eq, ne_eq, not_and, Decidable.not_not, Bool.true_and, Bool.and_true, Bool.false_or, Bool.or_false] at g25
          refine qF rfl rfl rfl ?_
          refine qF rfl rfl rfl ?_
          refine qF rfl rfl rfl ?_
          refine qF rfl rfl rfl ?_
          refine qF rfl rfl rfl ?_
          refine q0 rfl (o_pickT ?_)
          refine q0 rfl (o_move ?_)
          refine qF rfl rfl rfl ?_
          refine qF rfl rfl rfl ?_
          refine qF rfl rfl rfl ?_
          refine qF rfl rfl rfl ?_
          refine qF rfl rfl rfl ?_
          refine qF rfl rfl rfl ?_
          refine q0 rfl (o_pickT ?_)
          refine q0 rfl (o_move ?_)
          refine qF rfl rfl rfl ?_
          refine qF rfl rfl rfl ?_
          refine qF rfl rfl rfl ?_
          refine qF rfl rfl rfl ?_
          refine qF rfl rfl rfl ?_
          refine qF rfl rfl rfl ?_
          refine qF rfl rfl rfl ?_
          refine q0 rfl (o_pickT ?_)
          refine rg_nil ?_
          exact hK _ ⟨rfl, rfl, (by first | rfl | ((conv => lhs; whnf); first | (simp_all; done) | (simp_all; omega))), trivial⟩
      · have g18 : (decide (((t).n) ≠ ((u).n))) = true := hg18
        try simp only [decide_eq_true_eq, decide_eq_false_iff_not, Bool.and_eq_true, Bool.or_eq_true, Bool.not_eq_true', Bool.and_eq_false_iff, Bool.or_eq_false_iff, Bool.not_eq_false', bne_iff_ne, beq_iff_eq, ne_eq, not_and, Decidable.not_not, Bool.true_and, Bool.and_true, Bool.false_or, Bool.or_false] at g18
        refine qF rfl rfl rfl ?_
        refine qF rfl rfl rfl ?_
        refine qF rfl rfl rfl ?_
        refine qF rfl rfl rfl ?_
        refine q0 rfl (o_pickT ?_)
        refine q0 rfl (o_move ?_)
        refine qF rfl rfl rfl ?_
        refine qF rfl rfl rfl ?_
        refine qF rfl rfl rfl ?_
        refine qF rfl rfl rfl ?_
        refine qF rfl rfl rfl ?_
        refine qF rfl rfl rfl ?_
        refine q0 rfl (o_pickT ?_)
        refine q0 rfl (o_move ?_)
        refine qF rfl rfl rfl ?_
        refine qF rfl rfl rfl ?_
        refine qF rfl rfl rfl ?_
        refine qF rfl rfl rfl ?_
        refine qF rfl rfl rfl ?_
        refine qF rfl rfl rfl ?_
        refine q0 rfl (o_pickT ?_)
        refine q0 rfl (o_move ?_)
        refine qF rfl rfl rfl ?_
        refine qF rfl rfl rfl ?_
        refine qF rfl rfl rfl ?_
        refine qF rfl rfl rfl ?_
        refine qF rfl rfl rfl ?_
        refine qF rfl rfl rfl ?_
        refine qF rfl rfl rfl ?_
        refine q0 rfl (o_pickT ?_)
        refine rg_nil ?_
        exact hK _ ⟨rfl, rfl, (by first | rfl | ((conv => lhs; whnf); first | (simp_all; done) | (simp_all; omega))), trivial⟩
    · have g11 : (decide (((t).kind) ≠ ((u).kind))) = true := hg11
      try simp only [decide_eq_true_eq, decide_eq_false_iff_not, Bool.and_eq_true, Bool.or_eq_true, Bool.not_eq_true', Bool.and_eq_false_iff, Bool.or_eq_false_iff, Bool.not_eq_false', bne_iff_ne, beq_iff_eq, ne_eq, not_and, Decidable.not_not, Bool.true_and, Bool.and_true, Bool.false_or, Bool.or_false] at g11
      refine qF rfl rfl rfl ?_
      refine qF rfl rfl rfl ?_
      refine qF rfl rfl rfl ?_
      refine qF rfl rfl rfl ?_
      refine q0 rfl (o_pickT ?_)
      refine q0 rfl (o_move ?_)
      refine qF rfl rfl rfl ?_
      refine qF rfl rfl rfl ?_
      refine qF rfl rfl rfl ?_
      refine qF rfl rfl rfl ?_
      refine qF rfl rfl rfl ?_
      refine q0 rfl (o_pickT ?_)
      refine q0 rfl (o_move ?_)
      refine qF rfl rfl rfl ?_
      refine qF rfl rfl rfl ?_
      refine qF rfl rfl rfl ?_
      refine qF rfl rfl rfl ?_
      refine qF rfl rfl rfl ?_
      refine qF rfl rfl rfl ?_
      refine q0 rfl (o_pickT ?_)
      refine q0 rfl (o_move ?_)
      refine qF rfl rfl rfl ?_
      refine qF rfl rfl rfl ?_
      refine qF rfl rfl rfl ?_
      refine qF rfl rfl rfl ?_
      refine qF rfl rfl rfl ?_
      refine qF rfl rfl rfl ?_
      refine q0 rfl (o_pickT ?_)
      refine q0 rfl (o_move ?_)
      refine qF rfl rfl rfl ?_
      refine qF rfl rfl rfl ?_
      refine qF rfl rfl rfl ?_
      refine qF rfl rfl rfl ?_
      refine qF rfl rfl rfl ?_
      refine qF rfl rfl rfl ?_
      refine qF rfl rfl rfl ?_
      refine q0 rfl (o_pickT ?_)
      refine rg_nil ?_
      exact hK _ ⟨rfl, rfl, (by first | rfl | ((conv => lhs; whnf); first | (simp_all; done) | (simp_all; omega))), trivial⟩
  · refine go_condI (fun h49 => ?_) (fun h49 => ?_)
    · have c49 : ((((((decide (((t).kind) ≠ ((u).kind))) || (decide (((t).n) ≠ ((u).n)))) || (!(((t).name).toList == ((u).name).toList))) || (!(decide (((t).r) = ((u).r))))) || (!(decide (((t).kids) = ((u).kids))))) || (decide (((t).sys.length : Int) ≠ ((u).sys.length : Int)))) = true := h49
      try simp only [decide_eq_true_eq, decide_eq_false_iff_not, Bool.and_eq_true, Bool.or_eq_true, Bool.not_eq_true', Bool.and_eq_false_iff, Bool.or_eq_false_iff, Bool.not_eq_false', bne_iff_ne, beq_iff_eq, ne_eq, not_and, Decidable.not_not, Bool.true_and, Bool.and_true, Bool.false_or, Bool.or_false] at c49
      refine go_seq ?_
      refine go_region ⟨_, Try.func26⟩ rfl ?_
      refine q0 rfl (o_assign ?_)
      refine rg_nil ?_
      -- leaf 0: .bool (false)
      refine ret1 Try.func26 Try.results26 (by first | ((conv => lhs; whnf); done) | rfl) () (by simp only [decide_eq_false (fun h : t = u => by subst h; simp at h49)]) (fun w hs => hs.none)
    · have c49 : ((((((decide (((t).kind) ≠ ((u).kind))) || (decide (((t).n) ≠ ((u).n)))) || (!(((t).name).toList == ((u).name).toList))) || (!(decide (((t).r) = ((u).r))))) || (!(decide (((t).kids) = ((u).kids))))) || (decide (((t).sys.length : Int) ≠ ((u).sys.length : Int)))) = false := h49
      try simp only [decide_eq_true_eq, decide_eq_false_iff_not, Bool.and_eq_true, Bool.or_eq_true, Bool.not_eq_true', Bool.and_eq_false_iff, Bool.or_eq_false_iff, Bool.not_eq_false', bne_iff_ne, beq_iff_eq, ne_eq, not_and, Decidable.not_not, Bool.true_and, Bool.and_true, Bool.false_or, Bool.or_false] at c49
      obtain ⟨hq1, hq2, hq3, hq4, hq5, hq6⟩ : t.kind = u.kind ∧ t.n = u.n ∧ t.name = u.name ∧ t.r = u.r ∧ t.kids = u.kids ∧ t.sys.length = u.sys.length := by have h := h49; simp only [Bool.or_eq_false_iff, Bool.not_eq_false', decide_eq_false_iff_not, ne_eq, Decidable.not_not, bytes_eq, decide_eq_true_eq, and_assoc] at h; obtain ⟨h1, h2, h3, h4, h5, h6⟩ := h; exact ⟨h1, h2, h3, h4, h5, by omega⟩
      refine go_skip ?_
      refine go_seq ?_
      refine go_seq ?_
      refine go_region ⟨_, Try.func26⟩ rfl ?_
      refine q0 rfl (o_assign ?_)
      refine rg_nil ?_
      refine go_block ?_
      refine go_loopE (X := Nat) (fun s_ => s_ ≤ t.sys.length ∧ ∀ j, j < s_ → t.sys.getD j br0 = u.sys.getD j br0) (fun s_ => [(2, .pointer (some ⟨b2, 0, none⟩)), (3, .pointer (some ⟨b3, 0, none⟩)), (5, .int .i64 ((s_ : Int)))]) (fun s_ G_ => G_) (fun s_ => [boxR b3 (tc u vr_u vk_u vs_u) 31, boxR b2 (tc t vr_t vk_t vs_t) 31]) (fun s_ => t.sys.length - s_) (0) (⟨by omega, fun j h => absurd h (Nat.not_lt_zero j)⟩) (by exact ⟨rfl, rfl, rfl, trivial⟩) ?_ ?_
      · exact fun w hs => hs
      · intro i base0 ⟨hi, hsm⟩ next0
        refine go_seq ?_
        refine go_seq ?_
        refine go_region ⟨_, Try.func26⟩ rfl ?_
        refine q0 rfl (o_move ?_)
        refine q0 rfl (o_fa ?_)
        refine q0 rfl (o_ld ?_)
        refine q0 rfl (o_len ?_)
        refine q0 rfl (o_lss ?_)
        refine rg_nil ?_
        refine go_condI (fun h54 => ?_) (fun h54 => ?_)
        · have c54 : (decide ((i : Int) < ((t).sys.length : Int))) = true := h54
          try simp only [decide_eq_true_eq, decide_eq_false_iff_not, Bool.and_eq_true, Bool.or_eq_true, Bool.not_eq_true', Bool.and_eq_false_iff, Bool.or_eq_false_iff, Bool.not_eq_false', bne_iff_ne, beq_iff_eq, ne_eq, not_and, Decidable.not_not, Bool.true_and, Bool.and_true, Bool.false_or, Bool.or_false] at c54
          refine go_skip ?_
          refine go_seq ?_
          refine go_block ?_
          refine go_seq ?_
          refine go_branch (bs := (t).sys) (a := vs_t) (VF := VF4) (VK := VK4) i (by omega) ?_
          refine go_openCL (l := (((t).sys).getD i br0).face) (a := VF4 i) (fun hl9 hA9 hU9 => ?_)
          refine go_openTL (ts := (((t).sys).getD i br0).kids) (a := VK4 i) (fun VR10 VK10 VS10 hl10 hA10 => ?_)
          refine go_branch (bs := (u).sys) (a := vs_u) (VF := VF8) (VK := VK8) i (by omega) ?_
          refine go_openCL (l := (((u).sys).getD i br0).face) (a := VF8 i) (fun hl11 hA11 hU11 => ?_)
          refine go_openTL (ts := (((u).sys).getD i br0).kids) (a := VK8 i) (fun VR12 VK12 VS12 hl12 hA12 => ?_)
          refine go_cutS ([(2, .pointer (some ⟨b2, 0, none⟩)), (3, .pointer (some ⟨b3, 0, none⟩)), (5, .int .i64 ((i : Int))), (86, .bool ((!(decide (((((t).sys).getD i br0).face) = ((((u).sys).getD i br0).face)))) || (!(decide (((((t).sys).getD i br0).kids) = ((((u).sys).getD i br0).kids))))))]) (fun hK => ?_) (fun base => ?_)
          · refine go_draw (tn := false) (A := [0, 1, 0, 7, 15, 31, 0, 64, 0, 448, 960, 1984, 4095, 8191, 16383, 32767, 65535, 32767, 262143, 524287, 1048575, 32767, 2129919, 32767, 14712831, 31490047, 65044479, 134217727, 268435455, 536870911]) (l := [0, 1, 2, 3, 4, 5, 6, 7, 8, 9, 10, 11, 12, 13, 14, 15, 16, 17, 18, 19, 20, 21, 22, 23, 24, 25, 26, 27, 28, 29]) (fin := []) Tab.mixed ⟨_, Try.func26⟩ (by rfl) ?_
            refine n0 rfl (v_fa ?_)
            refine n0 rfl (v_ld ?_)
            refine n0 rfl (v_move ?_)
            obtain ⟨bk13, o13, hav13⟩ := hA4 (by omega)
            refine n0 rfl (v_ixN ?_ (j := i))
            refine n0 rfl (v_fa ?_)
            refine n0 rfl (v_ldBf ?_)
            refine n0 rfl (v_fa ?_)
            refine n0 rfl (v_ld ?_)
            refine n0 rfl (v_move ?_)
            obtain ⟨bk14, o14, hav14⟩ := hA8 (by omega)
            refine n0 rfl (v_ixN ?_ (j := i))
            refine n0 rfl (v_fa ?_)
            refine n0 rfl (v_ldBf ?_)
            refine n0 rfl (v_call Try.call52 (rsameC ((((t).sys).getD i br0).face) (VF4 i) ((((u).sys).getD i br0).face) (VF8 i) ) (fun x69 => ?_))
            refine n0 rfl (v_not ?_)
            refine n0 rfl (v_move ?_)
            refine nI rfl rfl rfl (by conv => lhs; whnf) (fun hg71 => ?_) (fun hg71 => ?_)
            · have g71 : (!(decide (((((t).sys).getD i br0).face) = ((((u).sys).getD i br0).face)))) = false := hg71
              try simp only [decide_eq_true_eq, decide_eq_false_iff_not, Bool.and_eq_true, Bool.or_eq_true, Bool.not_eq_true', Bool.and_eq_false_iff, Bool.or_eq_false_iff, Bool.not_eq_false', bne_iff_ne, beq_iff_eq, ne_eq, not_and, Decidable.not_not, Bool.true_and, Bool.and_true, Bool.false_or, Bool.or_false] at g71
              refine v_fa ?_
              refine nT rfl rfl rfl (v_ld ?_)
              refine nT rfl rfl rfl (v_move ?_)
              refine nT rfl rfl rfl (v_ixN ?_ (j := i))
              refine nT rfl rfl rfl (v_fa ?_)
              refine nT rfl rfl rfl (v_ldBf ?_)
              refine nT rfl rfl rfl (v_fa ?_)
              refine nT rfl rfl rfl (v_ld ?_)
              refine nT rfl rfl rfl (v_move ?_)
              refine nT rfl rfl rfl (v_ixN ?_ (j := i))
              refine nT rfl rfl rfl (v_fa ?_)
              refine nT rfl rfl rfl (v_ldBf ?_)
              refine nT rfl rfl rfl (v_call Try.call53 (rlists ((((t).sys).getD i br0).kids) (VK4 i) ((((u).sys).getD i br0).kids) (VK8 i) (fun k hk => (by obtain ⟨p, hp, e⟩ := sys_mem_parts (getD_mem (show i < t.sys.length by omega)) hk; exact e ▸ ih p hp))) (fun x84 => ?_))
              refine nT rfl rfl rfl (v_not ?_)
              refine n0 rfl (v_pickF ?_)
              refine NV.done ?_
              refine rg_nil ?_
              exact hK _ ⟨rfl, rfl, rfl, (by first | rfl | ((conv => lhs; whnf); first | (simp_all; done) | (simp_all; omega))), trivial⟩
            · have g71 : (!(decide (((((t).sys).getD i br0).face) = ((((u).sys).getD i br0).face)))) = true := hg71
              try simp only [decide_eq_true_eq, decide_eq_false_iff_not, Bool.and_eq_true, Bool.or_eq_true, Bool.not_eq_true', Bool.and_eq_false_iff, Bool.or_eq_false_iff, Bool.not_eq_false', bne_iff_ne, beq_iff_eq, ne_eq, not_and, Decidable.not_not, Bool.true_and, Bool.and_true, Bool.false_or, Bool.or_false] at g71
              refine nF rfl rfl rfl ?_
              refine nF rfl rfl rfl ?_
              refine nF rfl rfl rfl ?_
              refine nF rfl rfl rfl ?_
              refine nF rfl rfl rfl ?_
              refine nF rfl rfl rfl ?_
              refine nF rfl rfl rfl ?_
              refine nF rfl rfl rfl ?_
              refine nF rfl rfl rfl ?_
              refine nF rfl rfl rfl ?_
              refine nF rfl rfl rfl ?_
              refine nF rfl rfl rfl ?_
              refine nF rfl rfl rfl ?_
              refine n0 rfl (v_pickT ?_)
              refine NV.done ?_
              refine rg_nil ?_
              exact hK _ ⟨rfl, rfl, rfl, (by first | rfl | ((conv => lhs; whnf); first | (simp_all; done) | (simp_all; omega))), trivial⟩
          · refine go_condI (fun h86 => ?_) (fun h86 => ?_)
            · have c86 : ((!(decide (((((t).sys).getD i br0).face) = ((((u).sys).getD i br0).face)))) || (!(decide (((((t).sys).getD i br0).kids) = ((((u).sys).getD i br0).kids))))) = true := h86
              try simp only [decide_eq_true_eq, decide_eq_false_iff_not, Bool.and_eq_true, Bool.or_eq_true, Bool.not_eq_true', Bool.and_eq_false_iff, Bool.or_eq_false_iff, Bool.not_eq_false', bne_iff_ne, beq_iff_eq, ne_eq, not_and, Decidable.not_not, Bool.true_and, Bool.and_true, Bool.false_or, Bool.or_false] at c86
              refine go_seq ?_
              refine go_region ⟨_, Try.func26⟩ rfl ?_
              refine q0 rfl (o_assign ?_)
              refine rg_nil ?_
              -- leaf 1: .bool (false)
              refine ret1 Try.func26 Try.results26 (by first | ((conv => lhs; whnf); done) | rfl) () (by simp only [decide_eq_false (fun h : t = u => by subst h; simp at h86)]) (fun w hs => hs.none)
            · have c86 : ((!(decide (((((t).sys).getD i br0).face) = ((((u).sys).getD i br0).face)))) || (!(decide (((((t).sys).getD i br0).kids) = ((((u).sys).getD i br0).kids))))) = false := h86
              try simp only [decide_eq_true_eq, decide_eq_false_iff_not, Bool.and_eq_true, Bool.or_eq_true, Bool.not_eq_true', Bool.and_eq_false_iff, Bool.or_eq_false_iff, Bool.not_eq_false', bne_iff_ne, beq_iff_eq, ne_eq, not_and, Decidable.not_not, Bool.true_and, Bool.and_true, Bool.false_or, Bool.or_false] at c86
              refine go_skip ?_
              refine go_inBlock ?_
              refine go_region ⟨_, Try.func26⟩ rfl ?_
              refine q0 rfl (o_move ?_)
              refine q0 rfl (o_add ?_)
              refine q0 rfl (o_assign ?_)
              refine rg_nil ?_
              refine go_state (fun w hs => ?_) (next0 (i + 1) _ (⟨by omega, fun j hj => by rcases Nat.lt_succ_iff_lt_or_eq.mp hj with h | h; exact hsm j h; subst h; exact Br.ext'.mpr (by simpa using h86)⟩) (by omega) ⟨rfl, rfl, rfl, trivial⟩)
              exact (((hs.less (by simp +contextual)).perm perm1).perm perm1)
        · have c54 : (decide ((i : Int) < ((t).sys.length : Int))) = false := h54
          try simp only [decide_eq_true_eq, decide_eq_false_iff_not, Bool.and_eq_true, Bool.or_eq_true, Bool.not_eq_true', Bool.and_eq_false_iff, Bool.or_eq_false_iff, Bool.not_eq_false', bne_iff_ne, beq_iff_eq, ne_eq, not_and, Decidable.not_not, Bool.true_and, Bool.and_true, Bool.false_or, Bool.or_false] at c54
          refine go_exit rfl ?_
          refine go_seq ?_
          refine go_region ⟨_, Try.func26⟩ rfl ?_
          refine q0 rfl (o_assign ?_)
          refine rg_nil ?_
          -- leaf 2: .bool (true)
          refine ret1 Try.func26 Try.results26 (by first | ((conv => lhs; whnf); done) | rfl) () (by simp only [decide_eq_true (T.ext'.mpr ⟨hq1, hq2, hq3, hq4, hq5, list_eq_of (d := br0) hq6 (fun j hj => hsm j (by omega))⟩ : t = u)]) (fun w hs => hs.none)
theorem rsame : ∀ (t u : T) vr vk vs vr' vk' vs', Spec Try.prog 26 #[.agg (tc t vr vk vs).toArray, .agg (tc u vr' vk' vs').toArray] [RT t vr vk vs, RT u vr' vk' vs'] [] (fun _ : Unit => .bool (decide (t = u))) (fun _ => []) (fun _ => []) := fun t => (T.ind fun t ih u vr vk vs vr' vk' vs' => rsame_walk t vr vk vs u vr' vk' vs' ih : ∀ t : T, SameR t) t
theorem rsameI (t u : T) (h : t = u) : ∀ vr vk vs vr' vk' vs', Spec Try.prog 26 #[.agg (tc t vr vk vs).toArray, .agg (tc u vr' vk' vs').toArray] [RT t vr vk vs, RT u vr' vk' vs'] [] (fun _ : Unit => .bool true) (fun _ => []) (fun _ => []) := fun vr vk vs vr' vk' vs' => by
  have h1 := rsame t u vr vk vs vr' vk' vs'
  rw [decide_eq_true h] at h1
  exact h1
end Go.Hy
namespace Go.Hy
set_option linter.unusedVariables false
set_option linter.unusedSimpArgs false
set_option linter.unusedSectionVars false
open Go.Proofs
set_option linter.unusedVariables false
set_option linter.unusedSimpArgs false
set_option maxRecDepth 100000
theorem pathKids_spec (t : T) (vr_t vk_t vs_t : SH) (hz : size t ≤ 1000000000) : Spec Try.prog 42 #[.agg (tc t vr_t vk_t vs_t).toArray] [RT t vr_t vk_t vs_t] [] (fun x : {x : SH × List QP // x.2.map qer = parts t} => sl x.1.1 x.1.2.length) (fun x : {x : SH × List QP // x.2.map qer = parts t} => [SPF x.1.2 x.1.1]) (fun x : {x : SH × List QP // x.2.map qer = parts t} => []) := by
  refine spec_go (args := [.agg (tc t vr_t vk_t vs_t).toArray]) Try.func42 Try.ntmps42 rfl (by exact Nat.le_of_ble_eq_true rfl) fun B hB => ?_
  refine go_open (t := t) (vr := vr_t) (vk := vk_t) (vs := vs_t) (fun hk1 hn1 hm1 => ?_)
  refine go_openCL (l := (t).r) (a := vr_t) (fun hl2 hA2 hU2 => ?_)
  refine go_openTL (ts := (t).kids) (a := vk_t) (fun VR3 VK3 VS3 hl3 hA3 => ?_)
  refine go_openBL (bs := (t).sys) (a := vs_t) (fun VF4 VK4 hl4 hA4 => ?_)
  have hpn := parts_len t
  refine go_seq ?_
  refine go_region ⟨_, Try.func42⟩ rfl ?_
  refine q0 rfl (o_box fun b1 => ?_)
  refine q0 rfl (o_assign ?_)
  refine rg_nil ?_
  refine go_seq ?_
  refine go_region ⟨_, Try.func42⟩ rfl ?_
  refine q0 rfl (o_lds ?_)
  refine q0 rfl (o_call Try.call65 (parts_walk t vr_t vk_t vs_t (by first | assumption | omega | (unfold in64 at *; omega) | (unfold reach at *; omega) | (simp_all; done))) (fun x6 => ?_))
  refine q0 rfl (o_assign ?_)
  refine rg_nil ?_
  have hxl := congrArg List.length x6.2
  rw [List.length_map] at hxl
  refine go_seq ?_
  refine go_seq ?_
  refine go_region ⟨_, Try.func42⟩ rfl ?_
  refine q0 rfl (o_move ?_)
  refine q0 rfl (o_len ?_)
  refine q0 rfl (o_move ?_)
  refine rg_nil ?_
  refine go_block ?_
  refine go_loopE (X := Nat × List QP) (fun s_ => s_.1 ≤ x6.1.2.length ∧ s_.2.length = x6.1.2.length ∧ s_.2.map qer = parts t) (fun s_ => [(3, sl x6.1.1 (x6.1.2.length)), (8, .int .i64 ((x6.1.2.length : Int))), (9, .int .i64 ((s_.1 : Int)))]) (fun s_ G_ => AllF qE s_.2 :: G_) (fun s_ => [rowS 8 60 x6.1.1 (x6.1.2.length) (spFlat s_.2), boxR b1 (tc t vr_t vk_t vs_t) 31]) (fun s_ => x6.1.2.length - s_.1) (0, x6.1.2) (⟨by omega, rfl, x6.2⟩) (by exact ⟨rfl, rfl, rfl, trivial⟩) ?_ ?_
  · exact fun w hs => (hs.less (by simp +contextual))
  · intro ⟨i, qs⟩ base0 ⟨hi, hql, hqs⟩ next0
    dsimp only at  hi  hql  hqs  next0 ⊢
    refine go_seq ?_
    refine go_region ⟨_, Try.func42⟩ rfl ?_
    refine q0 rfl (o_lss ?_)
    refine rg_nil ?_
    refine go_seq ?_
    refine go_condI (fun h10 => ?_) (fun h10 => ?_)
    · have c10 : (decide ((i : Int) < (x6.1.2.length : Int))) = true := h10
      try simp only [decide_eq_true_eq, decide_eq_false_iff_not, Bool.and_eq_true, Bool.or_eq_true, Bool.not_eq_true', Bool.and_eq_false_iff, Bool.or_eq_false_iff, Bool.not_eq_false', bne_iff_ne, beq_iff_eq, ne_eq, not_and, Decidable.not_not, Bool.true_and, Bool.and_true, Bool.false_or, Bool.or_false] at c10
      refine go_skip ?_
      refine go_seq ?_
      refine go_block ?_
      refine go_seq ?_
      refine go_region ⟨_, Try.func42⟩ rfl ?_
      refine q0 rfl (o_move ?_)
      refine q0 rfl (o_assign ?_)
      refine rg_nil ?_
      refine go_state (fun w hs => hs.allElem (E := qE) (l := qs) (x := qs.getD i qp0) (by first | ((repeat (first | exact List.mem_cons_self | apply List.mem_cons_of_mem)); done) | (simp only [List.nil_append, List.cons_append]; (repeat (first | exact List.mem_cons_self | apply List.mem_cons_of_mem)))) (getD_mem (by omega))) ?_
      refine go_know (fun w hs => hs.rowAddr (sz := 8) (e := 60) (a := x6.1.1) (n := x6.1.2.length) (xs := spFlat qs) (by repeat (first | exact List.mem_cons_self | apply List.mem_cons_of_mem)) (by omega)) (fun hav5 => ?_)
      obtain ⟨bk5, hav5⟩ := hav5
      refine go_region ⟨_, Try.func42⟩ rfl ?_
      refine q0 rfl (o_move ?_)
      refine q0 rfl (o_move ?_)
      refine q0 rfl (o_move ?_)
      refine q0 rfl (o_move ?_)
      refine q0 rfl (o_ixN ?_ (j := i))
      refine q0 rfl (o_fa ?_)
      refine q0 rfl (o_ldRQs ?_ (k := 0))
      refine q0 rfl (o_call Try.call20 (copy_spec (((qs).getD i qp0).1.1) (((qs).getD i qp0).1.2.1) (((qs).getD i qp0).1.2.2.1) (((qs).getD i qp0).1.2.2.2)) (fun x19 => ?_))
      refine q0 rfl (o_ixN ?_ (j := i))
      refine q0 rfl (o_fa ?_)
      refine q0 rfl (o_srpQ (((qs.getD i qp0).1.1, x19.1, x19.2.1, x19.2.2), (qs.getD i qp0).2.1, (qs.getD i qp0).2.2) ?_ (ls := qs) (i' := i) (k := 0) (vs := [.int .i64 (qs.getD i qp0).1.1.kind, .int .i64 (qs.getD i qp0).1.1.n, .string (qs.getD i qp0).1.1.name, sl x19.1 (qs.getD i qp0).1.1.r.length, sl x19.2.1 (qs.getD i qp0).1.1.kids.length, sl x19.2.2 (qs.getD i qp0).1.1.sys.length]))
      refine rg_nil ?_
      refine go_inBlock ?_
      refine go_region ⟨_, Try.func42⟩ rfl ?_
      refine q0 rfl (o_add ?_)
      refine q0 rfl (o_move ?_)
      refine rg_nil ?_
      refine go_state (fun w hs => ?_) (next0 (i + 1, qs.set i (((qs.getD i qp0).1.1, x19.1, x19.2.1, x19.2.2), (qs.getD i qp0).2.1, (qs.getD i qp0).2.2)) _ (⟨by omega, by rw [List.length_set]; exact hql, (map_set_same (f := qer) (l := qs) (i := i) (u := (((qs.getD i qp0).1.1, x19.1, x19.2.1, x19.2.2), (qs.getD i qp0).2.1, (qs.getD i qp0).2.2)) (d := qp0) (by rw [hql]; omega) rfl).trans hqs⟩) (by (try simp only); omega) ⟨rfl, rfl, rfl, trivial⟩)
      exact ((((hs.allSet (E := qE) (l := qs) (i := i) (x := (((qs.getD i qp0).1.1, x19.1, x19.2.1, x19.2.2), (qs.getD i qp0).2.1, (qs.getD i qp0).2.2)) (by first | ((repeat (first | exact List.mem_cons_self | apply List.mem_cons_of_mem)); done) | (simp only [List.nil_append, List.cons_append]; (repeat (first | exact List.mem_cons_self | apply List.mem_cons_of_mem)))) (by first | ((repeat (first | exact List.mem_cons_self | apply List.mem_cons_of_mem)); done) | (simp only [List.nil_append, List.cons_append]; (repeat (first | exact List.mem_cons_self | apply List.mem_cons_of_mem))))).less (by simp +contextual)).perm perm1).perm perm1)
    · have c10 : (decide ((i : Int) < (x6.1.2.length : Int))) = false := h10
      try simp only [decide_eq_true_eq, decide_eq_false_iff_not, Bool.and_eq_true, Bool.or_eq_true, Bool.not_eq_true', Bool.and_eq_false_iff, Bool.or_eq_false_iff, Bool.not_eq_false', bne_iff_ne, beq_iff_eq, ne_eq, not_and, Decidable.not_not, Bool.true_and, Bool.and_true, Bool.false_or, Bool.or_false] at c10
      refine go_exit rfl ?_
      refine go_seq ?_
      refine go_region ⟨_, Try.func42⟩ rfl ?_
      refine q0 rfl (o_move ?_)
      refine q0 rfl (o_assign ?_)
      refine rg_nil ?_
      -- leaf 0: sl x6.1.1 (x6.1.2.length)
      refine ret1 Try.func42 Try.results42 (by first | ((conv => lhs; whnf); done) | rfl) ⟨(x6.1.1, qs), hqs⟩ (by (conv => lhs; whnf); rw [← hql]; rfl) (fun w hs => ((((hs.perm perm1).perm perm1).settleRow (F := spCells) (E := qE) (d := qp0) (bt := 120) (l := qs) (fun _ => rfl) hB (by first | ((repeat (first | exact List.mem_cons_self | apply List.mem_cons_of_mem)); done) | (simp only [List.nil_append, List.cons_append]; (repeat (first | exact List.mem_cons_self | apply List.mem_cons_of_mem)))) rfl hql.symm (by rw [hxl]; unfold reach; omega)).bare.less (by simp)))
end Go.Hy
namespace Go.Hy
set_option linter.unusedVariables false
set_option linter.unusedSimpArgs false
set_option linter.unusedSectionVars false
open Go.Proofs
set_option linter.unusedVariables false
set_option linter.unusedSimpArgs false
set_option maxRecDepth 100000
theorem pathRises_spec (t : T) (vr_t vk_t vs_t : SH)  : Spec Try.prog 10 #[.agg (tc t vr_t vk_t vs_t).toArray] [RT t vr_t vk_t vs_t] [] (fun _ : Unit => .bool (true)) (fun _ : Unit => []) (fun _ : Unit => []) := by
  refine spec_go (args := [.agg (tc t vr_t vk_t vs_t).toArray]) Try.func10 Try.ntmps10 rfl (by exact Nat.le_of_ble_eq_true rfl) fun B hB => ?_
  refine go_open (t := t) (vr := vr_t) (vk := vk_t) (vs := vs_t) (fun hk1 hn1 hm1 => ?_)
  refine go_openCL (l := (t).r) (a := vr_t) (fun hl2 hA2 hU2 => ?_)
  refine go_openTL (ts := (t).kids) (a := vk_t) (fun VR3 VK3 VS3 hl3 hA3 => ?_)
  refine go_openBL (bs := (t).sys) (a := vs_t) (fun VF4 VK4 hl4 hA4 => ?_)
  refine go_seq ?_
  refine go_region ⟨_, Try.func10⟩ rfl ?_
  refine q0 rfl (o_box fun b1 => ?_)
  refine q0 rfl (o_assign ?_)
  refine rg_nil ?_
  refine go_seq ?_
  refine go_seq ?_
  refine go_region ⟨_, Try.func10⟩ rfl ?_
  refine q0 rfl (o_call Try.call34 (works30_spec) (fun x13 => ?_))
  refine q0 rfl (o_not ?_)
  refine rg_nil ?_
  refine go_condF ?_
  refine go_skip ?_
  refine go_seq ?_
  refine go_seq ?_
  refine go_region ⟨_, Try.func10⟩ rfl ?_
  refine q0 rfl (o_lds ?_)
  refine q0 rfl (o_call Try.call35 (bulk_spec t 150 vr_t vk_t vs_t (by omega) (by omega)) (fun x16 => ?_))
  have hx := x16.2
  unfold BulkIs at hx
  refine q0 rfl (o_gtr ?_)
  rw [show decide ((150 : Int) < x16.1) = decide (150 < bulk t) from decide_eq_decide.mpr (by omega)]
  refine rg_nil ?_
  refine go_condI (fun h17 => ?_) (fun h17 => ?_)
  · have c17 : (decide (150 < bulk t)) = true := h17
    try simp only [decide_eq_true_eq, decide_eq_false_iff_not, Bool.and_eq_true, Bool.or_eq_true, Bool.not_eq_true', Bool.and_eq_false_iff, Bool.or_eq_false_iff, Bool.not_eq_false', bne_iff_ne, beq_iff_eq, ne_eq, not_and, Decidable.not_not, Bool.true_and, Bool.and_true, Bool.false_or, Bool.or_false] at c17
    refine go_seq ?_
    refine go_region ⟨_, Try.func10⟩ rfl ?_
    refine q0 rfl (o_assign ?_)
    refine rg_nil ?_
    -- leaf 0: .bool (true)
    refine ret1 Try.func10 Try.results10 (by first | ((conv => lhs; whnf); done) | rfl) () (by first | rfl | (simp_all; done)) (fun w hs => hs.none)
  · have c17 : (decide (150 < bulk t)) = false := h17
    try simp only [decide_eq_true_eq, decide_eq_false_iff_not, Bool.and_eq_true, Bool.or_eq_true, Bool.not_eq_true', Bool.and_eq_false_iff, Bool.or_eq_false_iff, Bool.not_eq_false', bne_iff_ne, beq_iff_eq, ne_eq, not_and, Decidable.not_not, Bool.true_and, Bool.and_true, Bool.false_or, Bool.or_false] at c17
    have hbt : bulk t ≤ 150 := by simpa using h17
    have hst := size_le_bulk t
    refine go_skip ?_
    refine go_seq ?_
    refine go_region ⟨_, Try.func10⟩ rfl ?_
    refine q0 rfl (o_lds ?_)
    refine q0 rfl (o_call Try.call37 (allP_spec t vr_t vk_t vs_t (by first | assumption | omega | (unfold in64 at *; omega) | (unfold reach at *; omega) | (simp_all; done))) (fun x20 => ?_))
    refine q0 rfl (o_move ?_)
    refine q0 rfl (o_extract ?_)
    refine q0 rfl (o_extract ?_)
    refine q0 rfl (o_assign ?_)
    refine q0 rfl (o_assign ?_)
    refine rg_nil ?_
    refine go_seq ?_
    refine go_seq ?_
    refine go_region ⟨_, Try.func10⟩ rfl ?_
    refine q0 rfl (o_move ?_)
    refine q0 rfl (o_neI ?_)
    refine rg_nil ?_
    refine go_condI (fun h24 => ?_) (fun h24 => ?_)
    · have c24 : (decide ((formedP t) ≠ 0)) = true := h24
      try simp only [decide_eq_true_eq, decide_eq_false_iff_not, Bool.and_eq_true, Bool.or_eq_true, Bool.not_eq_true', Bool.and_eq_false_iff, Bool.or_eq_false_iff, Bool.not_eq_false', bne_iff_ne, beq_iff_eq, ne_eq, not_and, Decidable.not_not, Bool.true_and, Bool.and_true, Bool.false_or, Bool.or_false] at c24
      have hne : formedP t ≠ 0 := by simpa using h24
      have hn2 : x20.1.2 = [] := List.map_eq_nil_iff.mp (x20.2.trans (allL_formed hne))
      refine go_seq ?_
      refine go_cutS ([(2, .bool (true))]) (fun hK => ?_) (fun base => ?_)
      · refine go_region ⟨_, Try.func10⟩ rfl ?_
        refine q0 rfl (o_move ?_)
        refine q0 rfl (o_len ?_)
        refine q0 rfl (o_eqIY ?_ (hp := by rw [hn2]; rfl))
        refine q0 rfl (o_move ?_)
        refine qT rfl rfl rfl (o_lds ?_)
        refine qT rfl rfl rfl (o_call Try.call30 (formed_spec t (.inr form_spec) vr_t vk_t vs_t (by first | assumption | omega | (unfold in64 at *; omega) | (unfold reach at *; omega) | (simp_all; done))) (fun x30 => ?_))
        refine qT rfl rfl rfl (o_move ?_)
        refine qT rfl rfl rfl (o_eqIY ?_)
        refine q0 rfl (o_pickT ?_)
        refine q0 rfl (o_assign ?_)
        refine rg_nil ?_
        exact hK _ ⟨(by first | rfl | ((conv => lhs; whnf); first | (simp_all; done) | (simp_all; omega))), trivial⟩
      · -- leaf 1: .bool (true)
        refine ret1 Try.func10 Try.results10 (by first | ((conv => lhs; whnf); done) | rfl) () (by first | rfl | (simp_all; done)) (fun w hs => hs.none)
    · have c24 : (decide ((formedP t) ≠ 0)) = false := h24
      try simp only [decide_eq_true_eq, decide_eq_false_iff_not, Bool.and_eq_true, Bool.or_eq_true, Bool.not_eq_true', Bool.and_eq_false_iff, Bool.or_eq_false_iff, Bool.not_eq_false', bne_iff_ne, beq_iff_eq, ne_eq, not_and, Decidable.not_not, Bool.true_and, Bool.and_true, Bool.false_or, Bool.or_false] at c24
      have hf0 : formedP t = 0 := by simpa using h24
      have hlen : x20.1.2.length = size t := rise_len x20.2 hf0
      refine go_skip ?_
      refine go_seq ?_
      refine go_seq ?_
      refine go_region ⟨_, Try.func10⟩ rfl ?_
      refine q0 rfl (o_move ?_)
      refine q0 rfl (o_len ?_)
      refine q0 rfl (o_lds ?_)
      refine q0 rfl (o_call Try.call21 (size_spec t (by first | assumption | omega | (unfold in64 at *; omega) | (unfold reach at *; omega) | (simp_all; done)) vr_t vk_t vs_t) (fun x37 => ?_))
      refine q0 rfl (o_neIN ?_ (hp := by rw [hlen]; simp))
      refine rg_nil ?_
      refine go_condF ?_
      refine go_skip ?_
      refine go_seq ?_
      refine go_seq ?_
      refine go_region ⟨_, Try.func10⟩ rfl ?_
      refine q0 rfl (o_move ?_)
      refine q0 rfl (o_len ?_)
      refine q0 rfl (o_move ?_)
      refine rg_nil ?_
      refine go_block ?_
      refine go_loopE (X := Nat) (fun s_ => s_ ≤ x20.1.2.length) (fun s_ => [(1, .pointer (some ⟨b1, 0, none⟩)), (3, sl x20.1.1 ((x20.1.2).length)), (39, sl x20.1.1 ((x20.1.2).length)), (40, .int .i64 (((x20.1.2).length : Int))), (41, .int .i64 ((s_ : Int)))]) (fun s_ G_ => G_) (fun s_ => [boxR b1 (tc t vr_t vk_t vs_t) 31]) (fun s_ => x20.1.2.length - s_) (0) (Nat.zero_le _) (by exact ⟨rfl, rfl, rfl, rfl, rfl, trivial⟩) ?_ ?_
      · exact fun w hs => hs
      · intro i base0 hi next0
        refine go_seq ?_
        refine go_region ⟨_, Try.func10⟩ rfl ?_
        refine q0 rfl (o_lss ?_)
        refine rg_nil ?_
        refine go_seq ?_
        refine go_condI (fun h42 => ?_) (fun h42 => ?_)
        · have c42 : (decide ((i : Int) < ((x20.1.2).length : Int))) = true := h42
          try simp only [decide_eq_true_eq, decide_eq_false_iff_not, Bool.and_eq_true, Bool.or_eq_true, Bool.not_eq_true', Bool.and_eq_false_iff, Bool.or_eq_false_iff, Bool.not_eq_false', bne_iff_ne, beq_iff_eq, ne_eq, not_and, Decidable.not_not, Bool.true_and, Bool.and_true, Bool.false_or, Bool.or_false] at c42
          have hrg := rise_get hf0 (rise_mem x20.2 (show i < x20.1.2.length by omega))
          refine go_skip ?_
          refine go_seq ?_
          refine go_block ?_
          refine go_seq ?_
          refine go_openRow (l := x20.1.2) (a := x20.1.1) (bt := 24) (F := ipCells) (E := ipE) (d := ip0) (by repeat (first | exact List.mem_cons_self | apply List.mem_cons_of_mem)) (fun hl5 hA5 => ?_)
          refine go_elem (l := x20.1.2) (a := x20.1.1) (bt := 24) (F := ipCells) (E := ipE) (d := ip0) (by repeat (first | exact List.mem_cons_self | apply List.mem_cons_of_mem)) i (by (first | omega | assumption)) ?_
          refine go_region ⟨_, Try.func10⟩ rfl ?_
          refine q0 rfl (o_move ?_)
          obtain ⟨bk6, o6, hav6⟩ := hA5 (by (first | omega | assumption))
          refine q0 rfl (o_ixN ?_ (j := i))
          refine q0 rfl (o_ldII ?_)
          refine q0 rfl (o_assign ?_)
          refine q0 rfl (o_assign ?_)
          refine rg_nil ?_
          refine go_seq ?_
          refine go_seq ?_
          refine go_elem (l := x20.1.2) (a := x20.1.1) (bt := 24) (F := ipCells) (E := ipE) (d := ip0) (by repeat (first | exact List.mem_cons_self | apply List.mem_cons_of_mem)) (i - 1 : Nat) (by (first | omega | assumption)) ?_
          refine go_cutS ([(1, .pointer (some ⟨b1, 0, none⟩)), (3, sl x20.1.1 ((x20.1.2).length)), (6, sl (((x20.1.2).getD i ip0).2) (((x20.1.2).getD i ip0).1.length)), (39, sl x20.1.1 ((x20.1.2).length)), (40, .int .i64 (((x20.1.2).length : Int))), (41, .int .i64 ((i : Int))), (63, .bool (false))]) (fun hK => ?_) (fun base => ?_)
          · refine go_region ⟨_, Try.func10⟩ rfl ?_
            refine q0 rfl (o_move ?_)
            refine q0 rfl (o_gtr ?_)
            refine q0 rfl (o_move ?_)
            refine qI rfl rfl rfl (by conv => lhs; whnf) (fun hg48 => ?_) (fun hg48 => ?_)
            · have g48 : (decide (0 < (i : Int))) = true := hg48
              try simp only [decide_eq_true_eq, decide_eq_false_iff_not, Bool.and_eq_true, Bool.or_eq_true, Bool.not_eq_true', Bool.and_eq_false_iff, Bool.or_eq_false_iff, Bool.not_eq_false', bne_iff_ne, beq_iff_eq, ne_eq, not_and, Decidable.not_not, Bool.true_and, Bool.and_true, Bool.false_or, Bool.or_false] at g48
              refine o_move ?_
              refine qT rfl rfl rfl (o_move ?_)
              refine qT rfl rfl rfl (o_sub ?_)
              rw [show ((i : Int) - 1) = ((i - 1 : Nat) : Int) from by omega]
              refine qT rfl rfl rfl (o_ixN ?_ (j := (i - 1 : Nat)))
              refine qT rfl rfl rfl (o_ldII ?_)
              refine qT rfl rfl rfl (o_move ?_)
              refine qT rfl rfl rfl (o_call Try.call41 (pcmp (((x20.1.2).getD (i - 1 : Nat) ip0).1) (((x20.1.2).getD (i - 1 : Nat) ip0).2) (((x20.1.2).getD i ip0).1) (((x20.1.2).getD i ip0).2) ) (fun x55 => ?_))
              refine qT rfl rfl rfl (o_neIN ?_ (hp := by rw [rise_cmp x20.2 (by omega) (by omega)]; simp))
              refine q0 rfl (o_pickT ?_)
              refine q0 rfl (o_move ?_)
              refine qT rfl rfl rfl (o_move ?_)
              refine qT rfl rfl rfl (o_move ?_)
              refine qT rfl rfl rfl (o_call Try.call41 (pcmp (((x20.1.2).getD i ip0).1) (((x20.1.2).getD i ip0).2) (((x20.1.2).getD i ip0).1) (((x20.1.2).getD i ip0).2) ) (fun x61 => ?_))
              refine qT rfl rfl rfl (o_neIN ?_ (hp := by rw [cmpP_self]; simp))
              refine q0 rfl (o_pickF ?_)
              refine rg_nil ?_
              exact hK _ ⟨rfl, rfl, rfl, rfl, rfl, rfl, (by first | rfl | ((conv => lhs; whnf); first | (simp_all; done) | (simp_all; omega))), trivial⟩
            · have g48 : (decide (0 < (i : Int))) = false := hg48
              try simp only [decide_eq_true_eq, decide_eq_false_iff_not, Bool.and_eq_true, Bool.or_eq_true, Bool.not_eq_true', Bool.and_eq_false_iff, Bool.or_eq_false_iff, Bool.not_eq_false', bne_iff_ne, beq_iff_eq, ne_eq, not_and, Decidable.not_not, Bool.true_and, Bool.and_true, Bool.false_or, Bool.or_false] at g48
              refine qF rfl rfl rfl ?_
              refine qF rfl rfl rfl ?_
              refine qF rfl rfl rfl ?_
              refine qF rfl rfl rfl ?_
              refine qF rfl rfl rfl ?_
              refine qF rfl rfl rfl ?_
              refine qF rfl rfl rfl ?_
              refine q0 rfl (o_pickF ?_)
              refine q0 rfl (o_move ?_)
              refine qT rfl rfl rfl (o_move ?_)
              refine qT rfl rfl rfl (o_move ?_)
              refine qT rfl rfl rfl (o_call Try.call41 (pcmp (((x20.1.2).getD i ip0).1) (((x20.1.2).getD i ip0).2) (((x20.1.2).getD i ip0).1) (((x20.1.2).getD i ip0).2) ) (fun x61 => ?_))
              refine qT rfl rfl rfl (o_neIN ?_ (hp := by rw [cmpP_self]; simp))
              refine q0 rfl (o_pickF ?_)
              refine rg_nil ?_
              exact hK _ ⟨rfl, rfl, rfl, rfl, rfl, rfl, (by first | rfl | ((conv => lhs; whnf); first | (simp_all; done) | (simp_all; omega))), trivial⟩
          · refine go_condF ?_
            refine go_skip ?_
            refine go_seq ?_
            refine go_region ⟨_, Try.func10⟩ rfl ?_
            refine q0 rfl (o_lds ?_)
            refine q0 rfl (o_move ?_)
            refine q0 rfl (o_call Try.call40 (getWalk t vr_t vk_t vs_t (((x20.1.2).getD i ip0).1) (((x20.1.2).getD i ip0).2) (by first | assumption | omega | (unfold in64 at *; omega) | (unfold reach at *; omega) | (simp_all; done))) (fun x67 => ?_))
            refine q0 rfl (o_move ?_)
            refine q0 rfl (o_extract ?_)
            refine q0 rfl (o_extract ?_)
            refine q0 rfl (o_new fun b7 => ?_)
            refine q0 rfl (o_st ?_)
            refine q0 rfl (o_assign ?_)
            refine rg_nil ?_
            refine go_seq ?_
            refine go_seq ?_
            refine go_region ⟨_, Try.func10⟩ rfl ?_
            refine q0 rfl (o_move ?_)
            refine q0 rfl (o_neIN ?_ (hp := by rw [hrg.1]; simp))
            refine rg_nil ?_
            refine go_condF ?_
            refine go_skip ?_
            refine go_seq ?_
            refine go_seq ?_
            refine go_region ⟨_, Try.func10⟩ rfl ?_
            refine q0 rfl (o_move ?_)
            refine q0 rfl (o_len ?_)
            refine q0 rfl (o_eqI ?_)
            refine rg_nil ?_
            refine go_condI (fun h74 => ?_) (fun h74 => ?_)
            · have c74 : (decide ((((x20.1.2).getD i ip0).1.length : Int) = 0)) = true := h74
              try simp only [decide_eq_true_eq, decide_eq_false_iff_not, Bool.and_eq_true, Bool.or_eq_true, Bool.not_eq_true', Bool.and_eq_false_iff, Bool.or_eq_false_iff, Bool.not_eq_false', bne_iff_ne, beq_iff_eq, ne_eq, not_and, Decidable.not_not, Bool.true_and, Bool.and_true, Bool.false_or, Bool.or_false] at c74
              refine go_exit rfl ?_
              refine go_region ⟨_, Try.func10⟩ rfl ?_
              refine q0 rfl (o_add ?_)
              refine q0 rfl (o_move ?_)
              refine rg_nil ?_
              refine go_state (fun w hs => ?_) (next0 (i + 1) _ (by omega) (by omega) ⟨rfl, rfl, rfl, rfl, rfl, trivial⟩)
              exact (((hs.less (by simp +contextual)).perm perm1).dropR (A := [_]))
            · have c74 : (decide ((((x20.1.2).getD i ip0).1.length : Int) = 0)) = false := h74
              try simp only [decide_eq_true_eq, decide_eq_false_iff_not, Bool.and_eq_true, Bool.or_eq_true, Bool.not_eq_true', Bool.and_eq_false_iff, Bool.or_eq_false_iff, Bool.not_eq_false', bne_iff_ne, beq_iff_eq, ne_eq, not_and, Decidable.not_not, Bool.true_and, Bool.and_true, Bool.false_or, Bool.or_false] at c74
              have hpl : ((x20.1.2).getD i ip0).1.length ≠ 0 := by intro h9; rw [h9] at h74; exact absurd h74 (by decide)
              obtain ⟨m, q, hm, hu0, hq, hsq⟩ := rise_up hf0 (rise_mem x20.2 (show i < x20.1.2.length by omega)) hpl
              have hux := get_size hu0
              refine go_know (p := ((x20.1.2).getD i ip0).1.length ≤ ((x20.1.2).getD i ip0).2.2) (fun w hs => (hs.facts (IL ((x20.1.2).getD i ip0).1 ((x20.1.2).getD i ip0).2) (by first | ((repeat (first | exact List.mem_cons_self | apply List.mem_cons_of_mem)); done) | (simp only [List.nil_append, List.cons_append]; (repeat (first | exact List.mem_cons_self | apply List.mem_cons_of_mem))))).1.1) (fun hcap => ?_)
              refine go_state (fun w hs => hs.takeIL (l := ((x20.1.2).getD i ip0).1) (a := ((x20.1.2).getD i ip0).2) (((x20.1.2).getD i ip0).1.length - 1) (by first | ((repeat (first | exact List.mem_cons_self | apply List.mem_cons_of_mem)); done) | (simp only [List.nil_append, List.cons_append]; (repeat (first | exact List.mem_cons_self | apply List.mem_cons_of_mem)))) (by omega)) ?_
              have hup := getWalk t vr_t vk_t vs_t (((x20.1.2).getD i ip0).1.take (((x20.1.2).getD i ip0).1.length - 1)) ((x20.1.2).getD i ip0).2 (by omega)
              rw [show (((x20.1.2).getD i ip0).1.take (((x20.1.2).getD i ip0).1.length - 1)).length = ((x20.1.2).getD i ip0).1.length - 1 by rw [List.length_take]; omega, hu0] at hup
              refine go_openIL (l := ((x20.1.2).getD i ip0).1) (a := ((x20.1.2).getD i ip0).2) (fun hl7 hA7 hU7 => ?_)
              refine go_skip ?_
              refine go_seq ?_
              refine go_draw (tn := false) (A := [0, 0, 0, 4, 12, 30, 63, 127, 255, 255, 0, 1535, 4095]) (l := [0, 1, 2, 3, 4, 5, 6, 7, 8, 9, 10, 11, 12]) (fin := []) Tab.mixed ⟨_, Try.func10⟩ (by rfl) ?_
              refine n0 rfl (v_lds ?_)
              refine n0 rfl (v_move ?_)
              refine n0 rfl (v_move ?_)
              refine n0 rfl (v_len ?_)
              refine n0 rfl (v_sub ?_)
              rw [show ((((x20.1.2).getD i ip0).1.length : Int) - 1) = ((((x20.1.2).getD i ip0).1.length - 1 : Nat) : Int) from by omega]
              refine n0 rfl (v_sliceHi ?_ (k := (((x20.1.2).getD i ip0).1.length - 1 : Nat)))
              refine n0 rfl (v_call Try.call40 (hup) (fun x82 => ?_))
              refine n0 rfl (v_move ?_)
              refine n0 rfl (v_extract ?_)
              refine n0 rfl (v_extract ?_)
              refine n0 rfl (v_new fun b9 => ?_)
              refine n0 rfl (v_st ?_)
              refine n0 rfl (v_assign ?_)
              refine NV.done ?_
              refine rg_nil ?_
              refine go_seq ?_
              refine go_region ⟨_, Try.func10⟩ rfl ?_
              refine q0 rfl (o_fa ?_)
              refine q0 rfl (o_lds ?_)
              refine q0 rfl (o_call Try.call42 (pathKids_spec ((getRes t (((x20.1.2).getD i ip0).1.take (((x20.1.2).getD i ip0).1.length - 1))).2.1) x82.1 x82.2.1 x82.2.2 (by first | assumption | omega | (unfold in64 at *; omega) | (unfold reach at *; omega) | (simp_all; done))) (fun x87 => ?_))
              refine q0 rfl (o_assign ?_)
              refine rg_nil ?_
              have hkm := congrArg List.length x87.2
              rw [List.length_map] at hkm
              have hml : m < (parts (getRes t (((x20.1.2).getD i ip0).1.take (((x20.1.2).getD i ip0).1.length - 1))).2.1).length := (List.getElem?_eq_some_iff.mp hq).1
              have hmk : m < x87.1.2.length := by omega
              have hqq := qer_at x87.2 hmk
              rw [hq] at hqq
              injection hqq with hqq
              have hkt : (x87.1.2.getD m qp0).1.1 = (getRes t ((x20.1.2).getD i ip0).1).2.1 := by rw [hsq, hqq]; rfl
              have hkv : (x87.1.2.getD m qp0).2.1 = q.2.1 := by rw [hqq]; rfl
              have hkd : (x87.1.2.getD m qp0).2.2 = q.2.2 := by rw [hqq]; rfl
              have hsv : (getRes t ((x20.1.2).getD i ip0).1).2.2.1 = (getRes t (((x20.1.2).getD i ip0).1.take (((x20.1.2).getD i ip0).1.length - 1))).2.2.1 + q.2.1 := by rw [hsq]
              have hsd : (getRes t ((x20.1.2).getD i ip0).1).2.2.2 = (getRes t (((x20.1.2).getD i ip0).1.take (((x20.1.2).getD i ip0).1.length - 1))).2.2.2 + q.2.2 := by rw [hsq]
              have h01 := parts_01 (List.mem_of_getElem? hq)
              refine go_seq ?_
              refine go_region ⟨_, Try.func10⟩ rfl ?_
              refine q0 rfl (o_move ?_)
              refine q0 rfl (o_move ?_)
              refine q0 rfl (o_len ?_)
              refine q0 rfl (o_sub ?_)
              rw [show ((((x20.1.2).getD i ip0).1.length : Int) - 1) = ((((x20.1.2).getD i ip0).1.length - 1 : Nat) : Int) from by omega]
              obtain ⟨bk8, o8, hav8⟩ := hA7 (by (first | omega | assumption))
              refine q0 rfl (o_ixN ?_ (j := (((x20.1.2).getD i ip0).1.length - 1 : Nat)))
              refine q0 rfl (o_ldI ?_ (ls := ((x20.1.2).getD i ip0).1) (i' := ((x20.1.2).getD i ip0).1.length - 1))
              rw [hm]
              refine q0 rfl (o_assign ?_)
              refine rg_nil ?_
              refine go_seq ?_
              refine go_openRow (l := x87.1.2) (a := x87.1.1) (bt := 120) (F := spCells) (E := qE) (d := qp0) (by repeat (first | exact List.mem_cons_self | apply List.mem_cons_of_mem)) (fun hl9 hA9 => ?_)
              refine go_elem (l := x87.1.2) (a := x87.1.1) (bt := 120) (F := spCells) (E := qE) (d := qp0) (by repeat (first | exact List.mem_cons_self | apply List.mem_cons_of_mem)) m (by (first | omega | assumption)) ?_
              refine go_cutS ([(1, .pointer (some ⟨b1, 0, none⟩)), (3, sl x20.1.1 ((x20.1.2).length)), (39, sl x20.1.1 ((x20.1.2).length)), (40, .int .i64 (((x20.1.2).length : Int))), (41, .int .i64 ((i : Int))), (142, .bool (false))]) (fun hK => ?_) (fun base => ?_)
              · refine go_draw (tn := false) (A := [0, 1, 3, 7, 15, 31, 63, 127, 127, 383, 1023, 2047, 4095, 8191, 8191, 32767, 65535, 131071, 8191, 270335, 1048575, 2097151, 4194303, 8388607, 16777215, 33554431, 16777215, 83886079, 16777215, 16777215, 822083583, 1895825407, 4043309055, 8539602943, 17179869183, 34359738367, 68719476735, 137438953471, 274877906943, 137438953471, 687194767359, 137438953471, 137438953471, 6734508720127, 15530601742335, 33122787786751, 69956427317247, 140737488355327, 281474976710655]) (l := [0, 1, 2, 3, 4, 5, 6, 7, 8, 9, 10, 11, 12, 13, 14, 15, 16, 17, 18, 19, 20, 21, 22, 23, 24, 25, 26, 27, 28, 29, 30, 31, 32, 33, 34, 35, 36, 37, 38, 39, 40, 41, 42, 43, 44, 45, 46, 47, 48]) (fin := []) Tab.mixed ⟨_, Try.func10⟩ (by rfl) ?_
                refine n0 rfl (v_move ?_)
                refine n0 rfl (v_neIN ?_ (hp := by simp))
                refine n0 rfl (v_move ?_)
                refine nT rfl rfl rfl (v_move ?_)
                refine nT rfl rfl rfl (v_lssN ?_ (hp := by omega))
                refine n0 rfl (v_pickF ?_)
                refine n0 rfl (v_move ?_)
                refine nT rfl rfl rfl (v_move ?_)
                refine nT rfl rfl rfl (v_move ?_)
                refine nT rfl rfl rfl (v_len ?_)
                refine nT rfl rfl rfl (v_geqN ?_ (hp := by omega))
                refine n0 rfl (v_pickF ?_)
                refine n0 rfl (v_move ?_)
                refine nT rfl rfl rfl (v_move ?_)
                refine nT rfl rfl rfl (v_move ?_)
                obtain ⟨bk10, o10, hav10⟩ := hA9 (by (first | omega | assumption))
                refine nT rfl rfl rfl (v_ixN ?_ (j := m))
                refine nT rfl rfl rfl (v_fa ?_)
                refine nT rfl rfl rfl (f_ldQs ?_ (k := 0))
                refine nT rfl rfl rfl (v_fa ?_)
                refine nT rfl rfl rfl (v_lds ?_)
                refine nT rfl rfl rfl (v_call Try.call26 (rsameI (((x87.1.2).getD m qp0).1.1) ((getRes t (((x20.1.2).getD i ip0).1)).2.1) hkt (((x87.1.2).getD m qp0).1.2.1) (((x87.1.2).getD m qp0).1.2.2.1) (((x87.1.2).getD m qp0).1.2.2.2) x67.1 x67.2.1 x67.2.2) (fun x114 => ?_))
                refine nT rfl rfl rfl (v_not ?_)
                refine n0 rfl (v_pickF ?_)
                refine n0 rfl (v_move ?_)
                refine nT rfl rfl rfl (v_fa ?_)
                refine nT rfl rfl rfl (v_ld ?_)
                refine nT rfl rfl rfl (v_fa ?_)
                refine nT rfl rfl rfl (v_ld ?_)
                refine nT rfl rfl rfl (v_move ?_)
                refine nT rfl rfl rfl (v_move ?_)
                refine nT rfl rfl rfl (v_ixN ?_ (j := m))
                refine nT rfl rfl rfl (v_fa ?_)
                refine nT rfl rfl rfl (f_ldQf ?_)
                refine nT rfl rfl rfl (v_add ?_)
                refine nT rfl rfl rfl (v_neIN ?_ (hp := by omega))
                refine n0 rfl (v_pickF ?_)
                refine n0 rfl (v_move ?_)
                refine nT rfl rfl rfl (v_fa ?_)
                refine nT rfl rfl rfl (v_ld ?_)
                refine nT rfl rfl rfl (v_fa ?_)
                refine nT rfl rfl rfl (v_ld ?_)
                refine nT rfl rfl rfl (v_move ?_)
                refine nT rfl rfl rfl (v_move ?_)
                refine nT rfl rfl rfl (v_ixN ?_ (j := m))
                refine nT rfl rfl rfl (v_fa ?_)
                refine nT rfl rfl rfl (f_ldQf ?_)
                refine nT rfl rfl rfl (v_add ?_)
                refine nT rfl rfl rfl (v_neIN ?_ (hp := by omega))
                refine n0 rfl (v_pickF ?_)
                refine NV.done ?_
                refine rg_nil ?_
                exact hK _ ⟨rfl, rfl, rfl, rfl, rfl, (by first | rfl | ((conv => lhs; whnf); first | (simp_all; done) | (simp_all; omega))), trivial⟩
              · refine go_condF ?_
                refine go_skip ?_
                refine go_inBlock ?_
                refine go_region ⟨_, Try.func10⟩ rfl ?_
                refine q0 rfl (o_add ?_)
                refine q0 rfl (o_move ?_)
                refine rg_nil ?_
                refine go_state (fun w hs => ?_) (next0 (i + 1) _ (by omega) (by omega) ⟨rfl, rfl, rfl, rfl, rfl, trivial⟩)
                exact (((hs.less (by simp +contextual)).perm perm2).dropR (A := [_]))
        · have c42 : (decide ((i : Int) < ((x20.1.2).length : Int))) = false := h42
          try simp only [decide_eq_true_eq, decide_eq_false_iff_not, Bool.and_eq_true, Bool.or_eq_true, Bool.not_eq_true', Bool.and_eq_false_iff, Bool.or_eq_false_iff, Bool.not_eq_false', bne_iff_ne, beq_iff_eq, ne_eq, not_and, Decidable.not_not, Bool.true_and, Bool.and_true, Bool.false_or, Bool.or_false] at c42
          refine go_exit rfl ?_
          refine go_seq ?_
          refine go_region ⟨_, Try.func10⟩ rfl ?_
          refine q0 rfl (o_assign ?_)
          refine rg_nil ?_
          -- leaf 2: .bool (true)
          refine ret1 Try.func10 Try.results10 (by first | ((conv => lhs; whnf); done) | rfl) () (by first | rfl | (simp_all; done)) (fun w hs => hs.none)
end Go.Hy
