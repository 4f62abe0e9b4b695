/- Contracts of functions of this program, one theorem each (printed by a program of this repository). -/
import Derived.Test.YtcofpfnnlageaaaHyAuto3
import Derived.Test.YtcofpfnnlageaaaHyTab
import Derived.Test.YtcofpfnnlageaaaW7
namespace Go.Hy
set_option linter.unusedVariables false
set_option linter.unusedSimpArgs false
set_option linter.unusedSectionVars false
open Go.Proofs
set_option linter.unusedVariables false
set_option linter.unusedSimpArgs false
set_option maxRecDepth 100000
abbrev RcopyO (t : T) : Prop := ∀ vr vk vs, Spec Try.prog 19 #[.agg (tc t vr vk vs).toArray] [RT t vr vk vs] [] (fun x : {h : HT // h.er = t} => .agg (tc t x.1.vr x.1.vk x.1.vs).toArray) (fun _ => []) (fun x => [bigR (treeR tys x.1)])

theorem rcopyO_walk (t : T) (vr_t vk_t vs_t : SH) (ihk : ∀ k, k ∈ t.kids → RcopyO k) (ihs : ∀ b, b ∈ t.sys → ∀ k, k ∈ b.kids → RcopyO k) : Spec Try.prog 19 #[.agg (tc t vr_t vk_t vs_t).toArray] [RT t vr_t vk_t vs_t] [] (fun x : {h : HT // h.er = t} => .agg (tc t x.1.vr x.1.vk x.1.vs).toArray) (fun x : {h : HT // h.er = t} => []) (fun x : {h : HT // h.er = t} => [bigR (treeR tys x.1)]) := by
  refine spec_go (args := [.agg (tc t vr_t vk_t vs_t).toArray]) Try.func19 Try.ntmps19 rfl (by exact Nat.le_of_ble_eq_true rfl) fun B hB => ?_
  refine go_open (t := t) (vr := vr_t) (vk := vk_t) (vs := vs_t) (fun hk1 hn1 hm1 => ?_)
  refine go_openCL (l := (t).r) (a := vr_t) (fun hl2 hA2 hU2 => ?_)
  refine go_openTL (ts := (t).kids) (a := vk_t) (fun VR3 VK3 VS3 hl3 hA3 => ?_)
  refine go_openBL (bs := (t).sys) (a := vs_t) (fun VF4 VK4 hl4 hA4 => ?_)
  refine go_seq ?_
  refine go_region ⟨_, Try.func19⟩ rfl ?_
  refine q0 rfl (o_box fun b1 => ?_)
  refine q0 rfl (o_new fun b2 => ?_)
  refine rg_nil ?_
  refine go_seq ?_
  refine go_state (fun w hs => ((hs.perm perm1).settleBox hB)) ?_
  refine go_draw (tn := true) (A := [0, 1, 0, 4, 0, 16, 0, 0, 128, 448, 1023, 0, 4095]) (l := [0, 1, 2, 3, 4, 5, 7, 8, 6, 9, 10, 11]) (fin := [12]) Tab.mixed ⟨_, Try.func19⟩ (by rfl) ?_
  refine n0 rfl (v_fa ?_)
  refine n0 rfl (f_ldg ?_)
  refine n0 rfl (v_fa ?_)
  refine n0 rfl (f_ldg ?_)
  refine n0 rfl (v_fa ?_)
  refine n0 rfl (f_ldg ?_)
  refine n0 rfl (v_fa ?_)
  refine n0 rfl (f_ldg ?_)
  refine n0 rfl (v_lit0 fun b14 => ?_)
  refine nv_conv [_] [_] (fun _ _ _ hs => hs.boxRow (sz := 2) (m := 0) rfl (by decide)) ?_
  refine n0 rfl (t_appCL (fun a17 => ?_) (by simp) (a := (some ⟨b14, 0, none⟩, 0)) (n' := 0) (b := vr_t) (ls := ((t).r)))
  refine nv_conv [_] [_] (fun _ _ _ hs => hs.appFlatC (l := []) (m := (t).r)) ?_
  rw [Nat.zero_add ((t).r).length]
  refine n0 rfl (v_build (cs := [.int .i64 ((t).kind), .int .i64 ((t).n), .string ((t).name), sl a17 (((t).r).length), sl (none, 0) (0), sl (none, 0) (0)]) ?_)
  refine n0 rfl (v_new fun b3 => ?_)
  refine NV.done ?_
  refine q0 rfl (o_st ?_)
  refine rg_nil ?_
  refine go_seq ?_
  refine go_seq ?_
  refine go_region ⟨_, Try.func19⟩ rfl ?_
  refine q0 rfl (o_assign ?_)
  refine rg_nil ?_
  refine go_block ?_
  refine go_loopE (X := Nat × SH × List HT) (fun s_ => s_.1 ≤ t.kids.length ∧ s_.2.2.map HT.er = t.kids.take s_.1) (fun s_ => [(1, .pointer (some ⟨b1, 0, none⟩)), (2, .pointer (some ⟨b2, 0, none⟩)), (3, .pointer (some ⟨b3, 0, none⟩)), (4, .int .i64 ((s_.1 : Int)))]) (fun s_ G_ => G_) (fun s_ => [bigR (kidsR tys s_.2.2), rowS 6 31 s_.2.1 (s_.1) (tpFlat (s_.2.2.map HT.tp)), boxR b3 [.int .i64 (t.kind), .int .i64 (t.n), .string (t.name), sl a17 (t.r.length), sl s_.2.1 (s_.1), sl (none, 0) (0)] 31, rowS 2 72 a17 (((t).r).length) (clFlat ((t).r)), boxR b2 [.int .i64 (0), .int .i64 (0), .string ((ByteArray.mk #[])), sl (none, 0) (0), sl (none, 0) (0), sl (none, 0) (0)] 31]) (fun s_ => t.kids.length - s_.1) (0, (none, 0), []) (⟨by omega, rfl⟩) (by exact ⟨rfl, rfl, rfl, rfl, trivial⟩) ?_ ?_
  · exact fun w hs => ((hs.rowS0 6 31).bigNil)
  · intro ⟨i, a, ks⟩ base0 ⟨hi, hks⟩ next0
    dsimp only at  hi  hks  next0 ⊢
    refine go_seq ?_
    refine go_seq ?_
    refine go_region ⟨_, Try.func19⟩ rfl ?_
    refine q0 rfl (o_move ?_)
    refine q0 rfl (o_fa ?_)
    refine q0 rfl (o_ldg ?_)
    refine q0 rfl (o_len ?_)
    refine q0 rfl (o_lss ?_)
    refine rg_nil ?_
    refine go_condI (fun h23 => ?_) (fun h23 => ?_)
    · have c23 : (decide ((i : Int) < ((t).kids.length : Int))) = true := h23
      try simp only [decide_eq_true_eq, decide_eq_false_iff_not, Bool.and_eq_true, Bool.or_eq_true, Bool.not_eq_true', Bool.and_eq_false_iff, Bool.or_eq_false_iff, Bool.not_eq_false', bne_iff_ne, beq_iff_eq, ne_eq, not_and, Decidable.not_not, Bool.true_and, Bool.and_true, Bool.false_or, Bool.or_false] at c23
      refine go_skip ?_
      refine go_seq ?_
      refine go_block ?_
      refine go_kid (ts := (t).kids) (a := vk_t) (VR := VR3) (VK := VK3) (VS := VS3) i (by omega) ?_
      refine go_draw (tn := false) (A := [0, 1, 0, 4, 0, 28, 60, 124, 252, 511, 1023, 2047]) (l := [0, 1, 2, 3, 4, 5, 6, 7, 8]) (fin := [9, 10, 11]) Tab.mixed ⟨_, Try.func19⟩ (by rfl) ?_
      refine n0 rfl (v_fa ?_)
      refine n0 rfl (v_ld ?_)
      refine n0 rfl (v_fa ?_)
      refine n0 rfl (f_ldg ?_)
      refine n0 rfl (v_move ?_)
      obtain ⟨bk5, o5, hav5⟩ := hA3 (by omega)
      refine n0 rfl (v_ixN ?_ (j := i))
      refine n0 rfl (v_ldT ?_)
      refine n0 rfl (v_call Try.call19 (ihk _ (getD_mem (show i < t.kids.length by omega)) (VR3 i) (VK3 i) (VS3 i)) (fun x33 => ?_))
      refine n0 rfl (v_lit1 fun b34 => ?_)
      refine NV.done ?_
      refine q0 rfl (o_appS (fun a35 => ?_) (a := a) (n' := i))
      refine rg_state (fun w hs => ((hs.perm perm1).drop).snocT) ?_
      refine q0 rfl (o_fa ?_)
      refine q0 rfl (o_stc ?_)
      refine rg_nil ?_
      refine go_inBlock ?_
      refine go_region ⟨_, Try.func19⟩ rfl ?_
      refine q0 rfl (o_move ?_)
      refine q0 rfl (o_add ?_)
      refine q0 rfl (o_assign ?_)
      refine rg_nil ?_
      refine go_state (fun w hs => ?_) (next0 (i + 1, a35, ks ++ [x33.1]) _ (⟨by omega, by rw [List.map_append, hks, take_succ_getD (d := t0) (by omega)]; simp [x33.2]⟩) (by (try simp only); omega) ⟨rfl, rfl, rfl, rfl, trivial⟩)
      have e1 : (ks ++ [x33.1]).map HT.tp = ks.map HT.tp ++ [(t.kids.getD i t0, x33.1.vr, x33.1.vk, x33.1.vs)] := by simp only [List.map_append, List.map_cons, List.map_nil, HT.tp, x33.2]
      rw [e1]; exact (((((((((((((hs.less (by simp +contextual)).perm perm5).perm perm5).perm perm3).perm perm3).perm perm5).perm perm5).joinK).perm perm4).perm perm4).perm perm3).perm perm4).perm perm4)
    · have c23 : (decide ((i : Int) < ((t).kids.length : Int))) = false := h23
      try simp only [decide_eq_true_eq, decide_eq_false_iff_not, Bool.and_eq_true, Bool.or_eq_true, Bool.not_eq_true', Bool.and_eq_false_iff, Bool.or_eq_false_iff, Bool.not_eq_false', bne_iff_ne, beq_iff_eq, ne_eq, not_and, Decidable.not_not, Bool.true_and, Bool.and_true, Bool.false_or, Bool.or_false] at c23
      have hei : i = t.kids.length := by omega
      have hkk : ks.map HT.er = t.kids := by rw [hks, hei, List.take_length]
      refine go_ms (Ms' := [bigR (kidsR tys ks), rowS 6 31 a (t.kids.length) (tpFlat (ks.map HT.tp)), boxR b3 [.int .i64 (t.kind), .int .i64 (t.n), .string (t.name), sl a17 (t.r.length), sl a (t.kids.length), sl (none, 0) (0)] 31, rowS 2 72 a17 (((t).r).length) (clFlat ((t).r)), boxR b2 [.int .i64 (0), .int .i64 (0), .string ((ByteArray.mk #[])), sl (none, 0) (0), sl (none, 0) (0), sl (none, 0) (0)] 31]) (by rw [hei]) ?_
      refine go_exit rfl ?_
      refine go_seq ?_
      refine go_seq ?_
      refine go_region ⟨_, Try.func19⟩ rfl ?_
      refine q0 rfl (o_assign ?_)
      refine rg_nil ?_
      refine go_block ?_
      refine go_loopE (X := Nat × SH × List HB) (fun s_ => s_.1 ≤ t.sys.length ∧ s_.2.2.map HB.er = t.sys.take s_.1) (fun s_ => [(1, .pointer (some ⟨b1, 0, none⟩)), (2, .pointer (some ⟨b2, 0, none⟩)), (3, .pointer (some ⟨b3, 0, none⟩)), (5, .int .i64 ((s_.1 : Int)))]) (fun s_ G_ => G_) (fun s_ => [bigR (brsR tys s_.2.2), rowS 2 69 s_.2.1 (s_.1) (bpFlat (s_.2.2.map HB.bp)), bigR (kidsR tys ks), rowS 6 31 a (t.kids.length) (tpFlat (ks.map HT.tp)), boxR b3 [.int .i64 (t.kind), .int .i64 (t.n), .string (t.name), sl a17 (t.r.length), sl a (t.kids.length), sl s_.2.1 (s_.1)] 31, rowS 2 72 a17 (((t).r).length) (clFlat ((t).r)), boxR b2 [.int .i64 (0), .int .i64 (0), .string ((ByteArray.mk #[])), sl (none, 0) (0), sl (none, 0) (0), sl (none, 0) (0)] 31]) (fun s_ => t.sys.length - s_.1) (0, (none, 0), []) (⟨by omega, rfl⟩) (by exact ⟨rfl, rfl, rfl, rfl, trivial⟩) ?_ ?_
      · exact fun w hs => ((hs.rowS0 2 69).bigNil)
      · intro ⟨s, a2, bs⟩ base1 ⟨hs1, hbs⟩ next1
        dsimp only at  hs1  hbs  next1 ⊢
        refine go_seq ?_
        refine go_seq ?_
        refine go_region ⟨_, Try.func19⟩ rfl ?_
        refine q0 rfl (o_move ?_)
        refine q0 rfl (o_fa ?_)
        refine q0 rfl (o_ldg ?_)
        refine q0 rfl (o_len ?_)
        refine q0 rfl (o_lss ?_)
        refine rg_nil ?_
        refine go_condI (fun h41 => ?_) (fun h41 => ?_)
        · have c41 : (decide ((s : Int) < ((t).sys.length : Int))) = true := h41
          try simp only [decide_eq_true_eq, decide_eq_false_iff_not, Bool.and_eq_true, Bool.or_eq_true, Bool.not_eq_true', Bool.and_eq_false_iff, Bool.or_eq_false_iff, Bool.not_eq_false', bne_iff_ne, beq_iff_eq, ne_eq, not_and, Decidable.not_not, Bool.true_and, Bool.and_true, Bool.false_or, Bool.or_false] at c41
          refine go_skip ?_
          refine go_seq ?_
          refine go_block ?_
          refine go_seq ?_
          refine go_branch (bs := (t).sys) (a := vs_t) (VF := VF4) (VK := VK4) s (by omega) ?_
          refine go_openCL (l := (((t).sys).getD s br0).face) (a := VF4 s) (fun hl6 hA6 hU6 => ?_)
          refine go_openTL (ts := (((t).sys).getD s br0).kids) (a := VK4 s) (fun VR7 VK7 VS7 hl7 hA7 => ?_)
          refine go_region ⟨_, Try.func19⟩ rfl ?_
          refine q0 rfl (o_lit0 fun b44 => ?_)
          refine q0 rfl (o_fa ?_)
          refine q0 rfl (o_ldg ?_)
          refine q0 rfl (o_move ?_)
          obtain ⟨bk8, o8, hav8⟩ := hA4 (by omega)
          refine q0 rfl (o_ixN ?_ (j := s))
          refine q0 rfl (o_fa ?_)
          refine q0 rfl (o_ldBf ?_)
          refine rg_state (fun w hs => hs.boxRow (sz := 2) (m := 0) rfl (by decide)) ?_
          refine q0 rfl (o_appCL (fun a51 => ?_) (by simp) (a := (some ⟨b44, 0, none⟩, 0)) (n' := 0) (b := (VF4 s)) (ls := ((((t).sys).getD s br0).face)))
          refine rg_state (fun w hs => hs.appFlatC (l := []) (m := (((t).sys).getD s br0).face)) ?_
          rw [Nat.zero_add ((((t).sys).getD s br0).face).length]
          refine q0 rfl (o_build (cs := [sl a51 (((((t).sys).getD s br0).face).length), sl (none, 0) (0)]) ?_)
          refine q0 rfl (o_new fun b6 => ?_)
          refine q0 rfl (o_st ?_)
          refine rg_nil ?_
          refine go_seq ?_
          refine go_seq ?_
          refine go_region ⟨_, Try.func19⟩ rfl ?_
          refine q0 rfl (o_assign ?_)
          refine rg_nil ?_
          refine go_block ?_
          refine go_loopE (X := Nat × SH × List HT) (fun s_ => s_.1 ≤ (t.sys.getD s br0).kids.length ∧ s_.2.2.map HT.er = (t.sys.getD s br0).kids.take s_.1) (fun s_ => [(1, .pointer (some ⟨b1, 0, none⟩)), (2, .pointer (some ⟨b2, 0, none⟩)), (3, .pointer (some ⟨b3, 0, none⟩)), (5, .int .i64 ((s : Int))), (6, .pointer (some ⟨b6, 0, none⟩)), (7, .int .i64 ((s_.1 : Int)))]) (fun s_ G_ => G_) (fun s_ => [bigR (kidsR tys s_.2.2), rowS 6 31 s_.2.1 (s_.1) (tpFlat (s_.2.2.map HT.tp)), boxR b6 [sl a51 ((t.sys.getD s br0).face.length), sl s_.2.1 (s_.1)] 69, rowS 2 72 a51 (((((t).sys).getD s br0).face).length) (clFlat ((((t).sys).getD s br0).face)), bigR (brsR tys bs), rowS 2 69 a2 (s) (bpFlat (bs.map HB.bp)), bigR (kidsR tys ks), rowS 6 31 a (t.kids.length) (tpFlat (ks.map HT.tp)), boxR b3 [.int .i64 (t.kind), .int .i64 (t.n), .string (t.name), sl a17 (t.r.length), sl a (t.kids.length), sl a2 (s)] 31, rowS 2 72 a17 (((t).r).length) (clFlat ((t).r)), boxR b2 [.int .i64 (0), .int .i64 (0), .string ((ByteArray.mk #[])), sl (none, 0) (0), sl (none, 0) (0), sl (none, 0) (0)] 31]) (fun s_ => (t.sys.getD s br0).kids.length - s_.1) (0, (none, 0), []) (⟨by omega, rfl⟩) (by exact ⟨rfl, rfl, rfl, rfl, rfl, rfl, trivial⟩) ?_ ?_
          · exact fun w hs => ((hs.rowS0 6 31).bigNil)
          · intro ⟨k, a3, ls⟩ base2 ⟨hk1, hls⟩ next2
            dsimp only at  hk1  hls  next2 ⊢
            refine go_seq ?_
            refine go_seq ?_
            refine go_region ⟨_, Try.func19⟩ rfl ?_
            refine q0 rfl (o_move ?_)
            refine q0 rfl (o_fa ?_)
            refine q0 rfl (o_ldg ?_)
            refine q0 rfl (o_move ?_)
            refine q0 rfl (o_ixN ?_ (j := s))
            refine q0 rfl (o_fa ?_)
            refine q0 rfl (o_ldBf ?_)
            refine q0 rfl (o_len ?_)
            refine q0 rfl (o_lss ?_)
            refine rg_nil ?_
            refine go_condI (fun h61 => ?_) (fun h61 => ?_)
            · have c61 : (decide ((k : Int) < ((((t).sys).getD s br0).kids.length : Int))) = true := h61
              try simp only [decide_eq_true_eq, decide_eq_false_iff_not, Bool.and_eq_true, Bool.or_eq_true, Bool.not_eq_true', Bool.and_eq_false_iff, Bool.or_eq_false_iff, Bool.not_eq_false', bne_iff_ne, beq_iff_eq, ne_eq, not_and, Decidable.not_not, Bool.true_and, Bool.and_true, Bool.false_or, Bool.or_false] at c61
              refine go_skip ?_
              refine go_seq ?_
              refine go_block ?_
              refine go_kid (ts := (((t).sys).getD s br0).kids) (a := VK4 s) (VR := VR7) (VK := VK7) (VS := VS7) k (by omega) ?_
              refine go_draw (tn := false) (A := [0, 1, 0, 4, 0, 28, 60, 124, 0, 508, 1020, 2044, 4092, 8191, 16383, 32767]) (l := [0, 1, 2, 3, 4, 5, 6, 7, 8, 9, 10, 11, 12]) (fin := [13, 14, 15]) Tab.mixed ⟨_, Try.func19⟩ (by rfl) ?_
              refine n0 rfl (v_fa ?_)
              refine n0 rfl (v_ld ?_)
              refine n0 rfl (v_fa ?_)
              refine n0 rfl (f_ldg ?_)
              refine n0 rfl (v_move ?_)
              refine n0 rfl (v_ixN ?_ (j := s))
              refine n0 rfl (v_fa ?_)
              refine n0 rfl (v_ldBf ?_)
              refine n0 rfl (v_move ?_)
              obtain ⟨bk9, o9, hav9⟩ := hA7 (by omega)
              refine n0 rfl (v_ixN ?_ (j := k))
              refine n0 rfl (v_ldT ?_)
              refine n0 rfl (v_call Try.call19 (ihs _ (getD_mem (show s < t.sys.length by omega)) _ (getD_mem (show k < (t.sys.getD s br0).kids.length by omega)) (VR7 k) (VK7 k) (VS7 k)) (fun x75 => ?_))
              refine n0 rfl (v_lit1 fun b76 => ?_)
              refine NV.done ?_
              refine q0 rfl (o_appS (fun a77 => ?_) (a := a3) (n' := k))
              refine rg_state (fun w hs => ((hs.perm perm1).drop).snocT) ?_
              refine q0 rfl (o_fa ?_)
              refine q0 rfl (o_stc ?_)
              refine rg_nil ?_
              refine go_inBlock ?_
              refine go_region ⟨_, Try.func19⟩ rfl ?_
              refine q0 rfl (o_move ?_)
              refine q0 rfl (o_add ?_)
              refine q0 rfl (o_assign ?_)
              refine rg_nil ?_
              refine go_state (fun w hs => ?_) (next2 (k + 1, a77, ls ++ [x75.1]) _ (⟨by omega, by rw [List.map_append, hls, take_succ_getD (d := t0) (by omega)]; simp [x75.2]⟩) (by (try simp only); omega) ⟨rfl, rfl, rfl, rfl, rfl, rfl, trivial⟩)
              have e1 : (ls ++ [x75.1]).map HT.tp = ls.map HT.tp ++ [((t.sys.getD s br0).kids.getD k t0, x75.1.vr, x75.1.vk, x75.1.vs)] := by simp only [List.map_append, List.map_cons, List.map_nil, HT.tp, x75.2]
              rw [e1]; exact (((((((((((((((((((((((((hs.less (by simp +contextual)).perm perm11).perm perm11).perm perm11).perm perm11).perm perm11).perm perm11).perm perm11).perm perm11).perm perm9).perm perm9).perm perm11).perm perm11).joinK).perm perm10).perm perm10).perm perm10).perm perm10).perm perm10).perm perm10).perm perm10).perm perm10).perm perm9).perm perm10).perm perm10)
            · have c61 : (decide ((k : Int) < ((((t).sys).getD s br0).kids.length : Int))) = false := h61
              try simp only [decide_eq_true_eq, decide_eq_false_iff_not, Bool.and_eq_true, Bool.or_eq_true, Bool.not_eq_true', Bool.and_eq_false_iff, Bool.or_eq_false_iff, Bool.not_eq_false', bne_iff_ne, beq_iff_eq, ne_eq, not_and, Decidable.not_not, Bool.true_and, Bool.and_true, Bool.false_or, Bool.or_false] at c61
              have hek : k = (t.sys.getD s br0).kids.length := by omega
              have hll : ls.map HT.er = (t.sys.getD s br0).kids := by rw [hls, hek, List.take_length]
              refine go_ms (Ms' := [bigR (kidsR tys ls), rowS 6 31 a3 ((t.sys.getD s br0).kids.length) (tpFlat (ls.map HT.tp)), boxR b6 [sl a51 ((t.sys.getD s br0).face.length), sl a3 ((t.sys.getD s br0).kids.length)] 69, rowS 2 72 a51 (((((t).sys).getD s br0).face).length) (clFlat ((((t).sys).getD s br0).face)), bigR (brsR tys bs), rowS 2 69 a2 (s) (bpFlat (bs.map HB.bp)), bigR (kidsR tys ks), rowS 6 31 a (t.kids.length) (tpFlat (ks.map HT.tp)), boxR b3 [.int .i64 (t.kind), .int .i64 (t.n), .string (t.name), sl a17 (t.r.length), sl a (t.kids.length), sl a2 (s)] 31, rowS 2 72 a17 (((t).r).length) (clFlat ((t).r)), boxR b2 [.int .i64 (0), .int .i64 (0), .string ((ByteArray.mk #[])), sl (none, 0) (0), sl (none, 0) (0), sl (none, 0) (0)] 31]) (by rw [hek]) ?_
              refine go_exit rfl ?_
              refine go_region ⟨_, Try.func19⟩ rfl ?_
              refine q0 rfl (o_fa ?_)
              refine q0 rfl (o_ld ?_)
              refine q0 rfl (o_lds ?_)
              refine q0 rfl (o_lit1 fun b82 => ?_)
              refine q0 rfl (o_appS (fun a83 => ?_) (a := a2) (n' := s))
              refine rg_state (fun w hs => ((hs.perm perm1).drop).snocB) ?_
              refine q0 rfl (o_fa ?_)
              refine rg_state (fun w hs => hs.perm perm8) ?_
              refine q0 rfl (o_stc ?_)
              refine rg_nil ?_
              refine go_inBlock ?_
              refine go_region ⟨_, Try.func19⟩ rfl ?_
              refine q0 rfl (o_move ?_)
              refine q0 rfl (o_add ?_)
              refine q0 rfl (o_assign ?_)
              refine rg_nil ?_
              refine go_state (fun w hs => ?_) (next1 (s + 1, a83, bs ++ [HB.mk (t.sys.getD s br0).face a51 ls a3]) _ (⟨by omega, by rw [List.map_append, hbs, take_succ_getD (d := br0) (by omega)]; simp [HB.er, HT.erL_eq, hll, Br.eta]⟩) (by (try simp only); omega) ⟨rfl, rfl, rfl, rfl, trivial⟩)
              have e1 : (bs ++ [HB.mk (t.sys.getD s br0).face a51 ls a3]).map HB.bp = bs.map HB.bp ++ [(t.sys.getD s br0, a51, a3)] := by simp only [List.map_append, List.map_cons, List.map_nil, HB.bp, HB.er, HB.vf, HB.vk, HT.erL_eq, hll, Br.eta]
              rw [e1]; exact (((((((((((((((((((((hs.less (by simp +contextual)).perm perm10).perm perm10).perm perm10).perm perm10).perm perm8).perm perm6).perm perm6).perm perm10).perm perm8).perm perm9).perm perm10).joinB rfl (by have h9 := congrArg List.length hll; simp only [List.length_map] at h9; omega) rfl rfl).perm perm7).perm perm7).perm perm3).perm perm7).perm perm7).perm perm6).perm perm6).dropR (A := [_, _, _, _, _, _, _]))
        · have c41 : (decide ((s : Int) < ((t).sys.length : Int))) = false := h41
          try simp only [decide_eq_true_eq, decide_eq_false_iff_not, Bool.and_eq_true, Bool.or_eq_true, Bool.not_eq_true', Bool.and_eq_false_iff, Bool.or_eq_false_iff, Bool.not_eq_false', bne_iff_ne, beq_iff_eq, ne_eq, not_and, Decidable.not_not, Bool.true_and, Bool.and_true, Bool.false_or, Bool.or_false] at c41
          have hes : s = t.sys.length := by omega
          have hbb : bs.map HB.er = t.sys := by rw [hbs, hes, List.take_length]
          refine go_ms (Ms' := [bigR (brsR tys bs), rowS 2 69 a2 (t.sys.length) (bpFlat (bs.map HB.bp)), bigR (kidsR tys ks), rowS 6 31 a (t.kids.length) (tpFlat (ks.map HT.tp)), boxR b3 [.int .i64 (t.kind), .int .i64 (t.n), .string (t.name), sl a17 (t.r.length), sl a (t.kids.length), sl a2 (t.sys.length)] 31, rowS 2 72 a17 (((t).r).length) (clFlat ((t).r)), boxR b2 [.int .i64 (0), .int .i64 (0), .string ((ByteArray.mk #[])), sl (none, 0) (0), sl (none, 0) (0), sl (none, 0) (0)] 31]) (by rw [hes]) ?_
          refine go_exit rfl ?_
          refine go_seq ?_
          refine go_region ⟨_, Try.func19⟩ rfl ?_
          refine q0 rfl (o_lds ?_)
          refine q0 rfl (o_st ?_)
          refine rg_nil ?_
          -- leaf 0: .pointer (some ⟨b2, 0, none⟩)
          have her : (HT.mk t.kind t.n t.name t.r a17 ks a bs a2).er = t := by simp only [HT.er, HT.erL_eq, HT.erB_eq]; rw [hkk, hbb, T.eta]
          have hkl : ks.length = t.kids.length := by rw [← hkk]; simp
          have hbl : bs.length = t.sys.length := by rw [← hbb]; simp
          refine retC Try.func19 Try.results19 ⟨(HT.mk t.kind t.n t.name t.r a17 ks a bs a2), her⟩ rfl (by repeat (first | exact List.mem_cons_self | apply List.mem_cons_of_mem)) rfl rfl rfl rfl (fun w hs => ?_)
          exact ((((((((((hs.less (by simp)).perm perm5).perm perm1).perm perm2).perm perm4).perm perm4).perm perm5).perm perm6).joinT (y := tys) (k := t.kind) (n := t.n) (nm := t.name) rfl hkl.symm hbl.symm rfl rfl rfl).dropR (A := [_]))

theorem rcopyO : ∀ t : T, RcopyO t := T.ind' fun t ihk ihs vr vk vs => rcopyO_walk t vr vk vs ihk ihs

end Go.Hy
