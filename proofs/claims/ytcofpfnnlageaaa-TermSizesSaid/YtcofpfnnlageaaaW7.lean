/- Contracts of functions of this program, one theorem each (printed by a program of this repository). -/
import Derived.Test.YtcofpfnnlageaaaHyAuto2
import Derived.Test.YtcofpfnnlageaaaHyTab
import Derived.Test.YtcofpfnnlageaaaHyOwn
import Derived.Test.YtcofpfnnlageaaaS4
namespace Go.Hy
set_option linter.unusedVariables false
set_option linter.unusedSimpArgs false
set_option linter.unusedSectionVars false
open Go.Proofs
set_option linter.unusedVariables false
set_option linter.unusedSimpArgs false
set_option maxRecDepth 100000
def tys : Tys := ⟨72, 31, 69⟩

theorem cloneO (l : List Cl) (a_l : SH)  : Spec Try.prog 43 #[sl a_l (l.length)] [CL l a_l] [] (fun x : SH => sl x l.length) (fun x : SH => []) (fun x : SH => [rowS 2 tys.c x l.length (clFlat l)]) := by
  refine spec_go (args := [sl a_l (l.length)]) Try.func43 Try.ntmps43 rfl (by exact Nat.le_of_ble_eq_true rfl) fun B hB => ?_
  refine go_openCL (l := l) (a := a_l) (fun hl1 hA1 hU1 => ?_)
  refine go_seq ?_
  refine go_region ⟨_, Try.func43⟩ rfl ?_
  refine q0 rfl (o_assign ?_)
  refine rg_nil ?_
  refine go_seq ?_
  refine go_seq ?_
  refine go_region ⟨_, Try.func43⟩ rfl ?_
  refine q0 rfl (o_move ?_)
  refine q0 rfl (o_eqNil ?_)
  refine rg_nil ?_
  refine go_condI (fun h4 => ?_) (fun h4 => ?_)
  · refine go_seq ?_
    refine go_region ⟨_, Try.func43⟩ rfl ?_
    refine q0 rfl (o_assign ?_)
    refine rg_nil ?_
    -- leaf 0: sl (none, 0) (0)
    have hl : l = [] := by (rcases Nat.eq_zero_or_pos l.length with h | h; exact List.eq_nil_of_length_eq_zero h; obtain ⟨bk, o, hav⟩ := hA1 h; rw [hav] at h4; cases h4)
    subst hl
    refine ret1 Try.func43 Try.results43 (by first | ((conv => lhs; whnf); done) | rfl) (none, 0) rfl (fun w hs => ((hs.less (by simp)).bare).rowS0 2 72)
  · refine go_skip ?_
    refine go_seq ?_
    refine go_region ⟨_, Try.func43⟩ rfl ?_
    refine q0 rfl (o_lit0 fun b5 => ?_)
    refine q0 rfl (o_move ?_)
    refine rg_state (fun w hs => hs.boxRow (sz := 2) (m := 0) rfl (by decide)) ?_
    refine q0 rfl (o_appCL (fun a7 => ?_) (by simp) (a := (some ⟨b5, 0, none⟩, 0)) (n' := 0) (b := a_l) (ls := l))
    refine rg_state (fun w hs => hs.appFlatC (l := []) (m := l)) ?_
    refine q0 rfl (o_assign ?_)
    refine rg_nil ?_
    -- leaf 1: sl a7 (0 + l.length)
    refine ret1 Try.func43 Try.results43 (by first | ((conv => lhs; whnf); done) | rfl) a7 (by (conv => lhs; whnf); simp [sl]) (fun w hs => by have h := hs.less (Γ' := []) (by simp); simp only [Nat.zero_add, List.nil_append] at h; exact h)

abbrev CopyO (t : T) : Prop := ∀ vr vk vs, Spec Try.prog 20 #[.agg (tc t vr vk vs).toArray] [RT t vr vk vs] [] (fun x : {h : HT // h.er = t} => .agg (tc t x.1.vr x.1.vk x.1.vs).toArray) (fun _ => []) (fun x => [bigR (treeR tys x.1)])

theorem copiedO (ts : List T) (a_ts : SH) (ih : ∀ t, t ∈ ts → CopyO t) : Spec Try.prog 44 #[sl a_ts (ts.length)] [TL ts a_ts] [] (fun x : SH × {hs : List HT // hs.map HT.er = ts} => sl x.1 ts.length) (fun x : SH × {hs : List HT // hs.map HT.er = ts} => []) (fun x : SH × {hs : List HT // hs.map HT.er = ts} => [rowS 6 tys.t x.1 ts.length (tpFlat (x.2.1.map HT.tp)), bigR (kidsR tys x.2.1)]) := by
  refine spec_go (args := [sl a_ts (ts.length)]) Try.func44 Try.ntmps44 rfl (by exact Nat.le_of_ble_eq_true rfl) fun B hB => ?_
  refine go_openTL (ts := ts) (a := a_ts) (fun VR1 VK1 VS1 hl1 hA1 => ?_)
  refine go_seq ?_
  refine go_region ⟨_, Try.func44⟩ rfl ?_
  refine q0 rfl (o_assign ?_)
  refine rg_nil ?_
  refine go_seq ?_
  refine go_region ⟨_, Try.func44⟩ rfl ?_
  refine q0 rfl (o_assign ?_)
  refine rg_nil ?_
  refine go_seq ?_
  refine go_seq ?_
  refine go_region ⟨_, Try.func44⟩ rfl ?_
  refine q0 rfl (o_move ?_)
  refine q0 rfl (o_len ?_)
  refine q0 rfl (o_move ?_)
  refine rg_nil ?_
  refine go_block ?_
  refine go_loopE (X := Nat × SH × List HT) (fun s_ => s_.1 ≤ ts.length ∧ s_.2.2.map HT.er = ts.take s_.1) (fun s_ => [(3, sl s_.2.1 (s_.1)), (6, sl a_ts (ts.length)), (7, .int .i64 ((ts.length : Int))), (8, .int .i64 ((s_.1 : Int)))]) (fun s_ G_ => G_) (fun s_ => [bigR (kidsR tys s_.2.2), rowS 6 31 s_.2.1 (s_.1) (tpFlat (s_.2.2.map HT.tp))]) (fun s_ => ts.length - s_.1) (0, (none, 0), []) (⟨by omega, rfl⟩) (by exact ⟨rfl, rfl, rfl, rfl, trivial⟩) ?_ ?_
  · exact fun w hs => ((hs.rowS0 6 31).bigNil)
  · intro ⟨i, a, ks⟩ base0 ⟨hi, hks⟩ next0
    dsimp only at  hi  hks  next0 ⊢
    refine go_seq ?_
    refine go_region ⟨_, Try.func44⟩ rfl ?_
    refine q0 rfl (o_lss ?_)
    refine rg_nil ?_
    refine go_seq ?_
    refine go_condI (fun h9 => ?_) (fun h9 => ?_)
    · have c9 : (decide ((i : Int) < (ts.length : Int))) = true := h9
      try simp only [decide_eq_true_eq, decide_eq_false_iff_not, Bool.and_eq_true, Bool.or_eq_true, Bool.not_eq_true', Bool.and_eq_false_iff, Bool.or_eq_false_iff, Bool.not_eq_false', bne_iff_ne, beq_iff_eq, ne_eq, not_and, Decidable.not_not, Bool.true_and, Bool.and_true, Bool.false_or, Bool.or_false] at c9
      refine go_skip ?_
      refine go_seq ?_
      refine go_block ?_
      refine go_seq ?_
      refine go_kid (ts := ts) (a := a_ts) (VR := VR1) (VK := VK1) (VS := VS1) i (by omega) ?_
      refine go_region ⟨_, Try.func44⟩ rfl ?_
      obtain ⟨bk2, o2, hav2⟩ := hA1 (by omega)
      refine q0 rfl (o_ixN ?_ (j := i))
      refine q0 rfl (o_ldT ?_)
      refine q0 rfl (o_new fun b5 => ?_)
      refine q0 rfl (o_st ?_)
      refine rg_nil ?_
      refine go_region ⟨_, Try.func44⟩ rfl ?_
      refine q0 rfl (o_move ?_)
      refine q0 rfl (o_lds ?_)
      refine q0 rfl (o_call Try.call20 (ih _ (getD_mem (show i < ts.length by omega)) (VR1 i) (VK1 i) (VS1 i)) (fun x14 => ?_))
      refine q0 rfl (o_lit1 fun b15 => ?_)
      refine q0 rfl (o_appS (fun a16 => ?_) (a := a) (n' := i))
      refine rg_state (fun w hs => ((hs.perm perm1).drop).snocT) ?_
      refine q0 rfl (o_assign ?_)
      refine rg_nil ?_
      refine go_inBlock ?_
      refine go_region ⟨_, Try.func44⟩ rfl ?_
      refine q0 rfl (o_add ?_)
      refine q0 rfl (o_move ?_)
      refine rg_nil ?_
      refine go_state (fun w hs => ?_) (next0 (i + 1, a16, ks ++ [x14.1]) _ (⟨by omega, by rw [List.map_append, hks, take_succ_getD (d := t0) (by omega)]; simp [x14.2]⟩) (by (try simp only); omega) ⟨rfl, rfl, rfl, rfl, trivial⟩)
      have e1 : (ks ++ [x14.1]).map HT.tp = ks.map HT.tp ++ [(ts.getD i t0, x14.1.vr, x14.1.vk, x14.1.vs)] := by simp only [List.map_append, List.map_cons, List.map_nil, HT.tp, x14.2]
      rw [e1]; exact (((((((((hs.less (by simp +contextual)).perm perm2).perm perm1).perm perm3).perm perm3).joinK).perm perm1).perm perm1).dropR (A := [_, _]))
    · have c9 : (decide ((i : Int) < (ts.length : Int))) = false := h9
      try simp only [decide_eq_true_eq, decide_eq_false_iff_not, Bool.and_eq_true, Bool.or_eq_true, Bool.not_eq_true', Bool.and_eq_false_iff, Bool.or_eq_false_iff, Bool.not_eq_false', bne_iff_ne, beq_iff_eq, ne_eq, not_and, Decidable.not_not, Bool.true_and, Bool.and_true, Bool.false_or, Bool.or_false] at c9
      refine go_exit rfl ?_
      refine go_seq ?_
      refine go_region ⟨_, Try.func44⟩ rfl ?_
      refine q0 rfl (o_move ?_)
      refine q0 rfl (o_assign ?_)
      refine rg_nil ?_
      -- leaf 0: sl a (i)
      have he : i = ts.length := by omega
      have hks2 : ks.map HT.er = ts := by rw [hks, he, List.take_length]
      refine ret1 Try.func44 Try.results44 (by first | ((conv => lhs; whnf); done) | rfl) (a, ⟨ks, hks2⟩) (by rw [he]; rfl) (fun w hs => by rw [← he]; exact ((hs.perm perm1).less (by simp)))

theorem copyO_walk (t : T) (vr_t vk_t vs_t : SH) (ih : ∀ p, p ∈ parts t → CopyO p.1) : Spec Try.prog 20 #[.agg (tc t vr_t vk_t vs_t).toArray] [RT t vr_t vk_t vs_t] [] (fun x : {h : HT // h.er = t} => .agg (tc t x.1.vr x.1.vk x.1.vs).toArray) (fun x : {h : HT // h.er = t} => []) (fun x : {h : HT // h.er = t} => [bigR (treeR tys x.1)]) := by
  refine spec_go (args := [.agg (tc t vr_t vk_t vs_t).toArray]) Try.func20 Try.ntmps20 rfl (by exact Nat.le_of_ble_eq_true rfl) fun B hB => ?_
  refine go_open (t := t) (vr := vr_t) (vk := vk_t) (vs := vs_t) (fun hk1 hn1 hm1 => ?_)
  refine go_openCL (l := (t).r) (a := vr_t) (fun hl2 hA2 hU2 => ?_)
  refine go_openTL (ts := (t).kids) (a := vk_t) (fun VR3 VK3 VS3 hl3 hA3 => ?_)
  refine go_openBL (bs := (t).sys) (a := vs_t) (fun VF4 VK4 hl4 hA4 => ?_)
  refine go_seq ?_
  refine go_region ⟨_, Try.func20⟩ rfl ?_
  refine q0 rfl (o_box fun b1 => ?_)
  refine q0 rfl (o_new fun b2 => ?_)
  refine rg_nil ?_
  refine go_seq ?_
  refine go_draw (tn := false) (A := [0, 1, 0, 4, 0, 16, 0, 64, 192, 0, 512, 1984, 4095, 0, 16383]) (l := [0, 1, 2, 3, 4, 5, 6, 7, 9, 10, 8, 11, 12, 13]) (fin := [14]) Tab.mixed ⟨_, Try.func20⟩ (by rfl) ?_
  refine n0 rfl (v_fa ?_)
  refine n0 rfl (v_ld ?_)
  refine n0 rfl (v_fa ?_)
  refine n0 rfl (v_ld ?_)
  refine n0 rfl (v_fa ?_)
  refine n0 rfl (v_ld ?_)
  refine n0 rfl (v_fa ?_)
  refine n0 rfl (v_ld ?_)
  refine n0 rfl (v_fa ?_)
  refine n0 rfl (v_ld ?_)
  refine n0 rfl (v_call Try.call43 (cloneO ((t).r) vr_t ) (fun x14 => ?_))
  refine n0 rfl (v_call Try.call44 (copiedO ((t).kids) vk_t (fun k hk => (by obtain ⟨p, hp, e⟩ := kid_mem_parts hk; exact e ▸ ih p hp))) (fun x17 => ?_))
  refine n0 rfl (v_build (cs := [.int .i64 ((t).kind), .int .i64 ((t).n), .string ((t).name), sl x14 (((t).r).length), sl x17.1 (((t).kids).length), sl (none, 0) (0)]) ?_)
  refine n0 rfl (v_new fun b3 => ?_)
  refine NV.done ?_
  refine q0 rfl (o_st ?_)
  refine rg_nil ?_
  refine go_seq ?_
  refine go_seq ?_
  refine go_region ⟨_, Try.func20⟩ rfl ?_
  refine q0 rfl (o_fa ?_)
  refine q0 rfl (o_ld ?_)
  refine q0 rfl (o_len ?_)
  refine q0 rfl (o_move ?_)
  refine rg_nil ?_
  refine go_block ?_
  refine go_loopE (X := Nat × SH × List HB) (fun s_ => s_.1 ≤ t.sys.length ∧ s_.2.2.map HB.er = t.sys.take s_.1) (fun s_ => [(2, .pointer (some ⟨b2, 0, none⟩)), (3, .pointer (some ⟨b3, 0, none⟩)), (20, sl vs_t ((t).sys.length)), (21, .int .i64 (((t).sys.length : Int))), (22, .int .i64 ((s_.1 : Int)))]) (fun s_ G_ => G_) (fun s_ => [bigR (brsR tys s_.2.2), rowS 2 69 s_.2.1 (s_.1) (bpFlat (s_.2.2.map HB.bp)), boxR b3 [.int .i64 (t.kind), .int .i64 (t.n), .string (t.name), sl x14 (t.r.length), sl x17.1 (t.kids.length), sl s_.2.1 (s_.1)] 31, rowS 6 31 x17.1 (((t).kids).length) (tpFlat (x17.2.1.map HT.tp)), bigR (kidsR tys x17.2.1), rowS 2 72 x14 (((t).r).length) (clFlat ((t).r)), boxR b2 [.int .i64 (0), .int .i64 (0), .string ((ByteArray.mk #[])), sl (none, 0) (0), sl (none, 0) (0), sl (none, 0) (0)] 31, boxR b1 (tc t vr_t vk_t vs_t) 31]) (fun s_ => t.sys.length - s_.1) (0, (none, 0), []) (⟨by omega, rfl⟩) (by exact ⟨rfl, rfl, rfl, rfl, rfl, trivial⟩) ?_ ?_
  · exact fun w hs => ((hs.rowS0 2 69).bigNil)
  · intro ⟨i, a, bs⟩ base0 ⟨hi, hbs⟩ next0
    dsimp only at  hi  hbs  next0 ⊢
    refine go_seq ?_
    refine go_region ⟨_, Try.func20⟩ rfl ?_
    refine q0 rfl (o_lss ?_)
    refine rg_nil ?_
    refine go_seq ?_
    refine go_condI (fun h23 => ?_) (fun h23 => ?_)
    · have c23 : (decide ((i : Int) < ((t).sys.length : Int))) = true := h23
      try simp only [decide_eq_true_eq, decide_eq_false_iff_not, Bool.and_eq_true, Bool.or_eq_true, Bool.not_eq_true', Bool.and_eq_false_iff, Bool.or_eq_false_iff, Bool.not_eq_false', bne_iff_ne, beq_iff_eq, ne_eq, not_and, Decidable.not_not, Bool.true_and, Bool.and_true, Bool.false_or, Bool.or_false] at c23
      refine go_skip ?_
      refine go_seq ?_
      refine go_block ?_
      refine go_seq ?_
      refine go_branch (bs := (t).sys) (a := vs_t) (VF := VF4) (VK := VK4) i (by omega) ?_
      refine go_openCL (l := (((t).sys).getD i br0).face) (a := VF4 i) (fun hl5 hA5 hU5 => ?_)
      refine go_openTL (ts := (((t).sys).getD i br0).kids) (a := VK4 i) (fun VR6 VK6 VS6 hl6 hA6 => ?_)
      refine go_region ⟨_, Try.func20⟩ rfl ?_
      obtain ⟨bk7, o7, hav7⟩ := hA4 (by omega)
      refine q0 rfl (o_ixN ?_ (j := i))
      refine q0 rfl (o_ldB ?_)
      refine q0 rfl (o_new fun b5 => ?_)
      refine q0 rfl (o_st ?_)
      refine rg_nil ?_
      refine go_draw (tn := false) (A := [0, 1, 0, 4, 12, 0, 32, 124, 252, 508, 1023, 2047, 4095]) (l := [0, 1, 2, 3, 5, 6, 4, 7, 8, 9]) (fin := [10, 11, 12]) Tab.mixed ⟨_, Try.func20⟩ (by rfl) ?_
      refine n0 rfl (v_fa ?_)
      refine n0 rfl (v_ld ?_)
      refine n0 rfl (v_fa ?_)
      refine n0 rfl (v_ld ?_)
      refine n0 rfl (v_fa ?_)
      refine n0 rfl (v_ld ?_)
      refine n0 rfl (v_call Try.call43 (cloneO ((((t).sys).getD i br0).face) (VF4 i) ) (fun x30 => ?_))
      refine n0 rfl (v_call Try.call44 (copiedO ((((t).sys).getD i br0).kids) (VK4 i) (fun k hk => (by obtain ⟨p, hp, e⟩ := sys_mem_parts (getD_mem (show i < t.sys.length by omega)) hk; exact e ▸ ih p hp))) (fun x33 => ?_))
      refine n0 rfl (v_build (cs := bc (t.sys.getD i br0) x30 x33.1) ?_)
      refine n0 rfl (v_lit1 fun b35 => ?_)
      refine NV.done ?_
      refine q0 rfl (o_appS (fun a36 => ?_) (a := a) (n' := i))
      refine rg_state (fun w hs => ((hs.perm perm1).drop).snocB) ?_
      refine q0 rfl (o_fa ?_)
      refine q0 rfl (o_stc ?_)
      refine rg_nil ?_
      refine go_inBlock ?_
      refine go_region ⟨_, Try.func20⟩ rfl ?_
      refine q0 rfl (o_add ?_)
      refine q0 rfl (o_move ?_)
      refine rg_nil ?_
      refine go_state (fun w hs => ?_) (next0 (i + 1, a36, bs ++ [HB.mk (t.sys.getD i br0).face x30 x33.2.1 x33.1]) _ (⟨by omega, by rw [List.map_append, hbs, take_succ_getD (d := br0) (by omega)]; simp [HB.er, HT.erL_eq, x33.2.2, Br.eta]⟩) (by (try simp only); omega) ⟨rfl, rfl, rfl, rfl, rfl, trivial⟩)
      have e1 : (bs ++ [HB.mk (t.sys.getD i br0).face x30 x33.2.1 x33.1]).map HB.bp = bs.map HB.bp ++ [(t.sys.getD i br0, x30, x33.1)] := by simp only [List.map_append, List.map_cons, List.map_nil, HB.bp, HB.er, HB.vf, HB.vk, HT.erL_eq, x33.2.2, Br.eta]
      rw [e1]; exact (((((((((((((((((((((((hs.less (by simp +contextual)).perm perm11).perm perm11).perm perm11).perm perm11).perm perm11).perm perm10).perm perm7).perm perm7).perm perm11).perm perm10).perm perm10).perm perm11).joinB rfl (by simpa using (congrArg List.length x33.2.2).symm) rfl rfl).perm perm8).perm perm8).perm perm8).perm perm8).perm perm8).perm perm6).perm perm7).perm perm7).dropR (A := [_, _, _, _, _, _, _, _]))
    · have c23 : (decide ((i : Int) < ((t).sys.length : Int))) = false := h23
      try simp only [decide_eq_true_eq, decide_eq_false_iff_not, Bool.and_eq_true, Bool.or_eq_true, Bool.not_eq_true', Bool.and_eq_false_iff, Bool.or_eq_false_iff, Bool.not_eq_false', bne_iff_ne, beq_iff_eq, ne_eq, not_and, Decidable.not_not, Bool.true_and, Bool.and_true, Bool.false_or, Bool.or_false] at c23
      refine go_exit rfl ?_
      refine go_seq ?_
      refine go_region ⟨_, Try.func20⟩ rfl ?_
      refine q0 rfl (o_lds ?_)
      refine q0 rfl (o_st ?_)
      refine rg_nil ?_
      -- leaf 0: .pointer (some ⟨b2, 0, none⟩)
      have he : i = t.sys.length := by omega
      have hb2 : bs.map HB.er = t.sys := by rw [hbs, he, List.take_length]
      have hbl : bs.length = t.sys.length := by rw [← hb2]; simp
      have hkl : x17.2.1.length = t.kids.length := by rw [← congrArg List.length x17.2.2]; simp
      have her : (HT.mk t.kind t.n t.name t.r x14 x17.2.1 x17.1 bs a).er = t := by simp only [HT.er, HT.erL_eq, HT.erB_eq]; rw [x17.2.2, hb2, T.eta]
      refine retC Try.func20 Try.results20 ⟨(HT.mk t.kind t.n t.name t.r x14 x17.2.1 x17.1 bs a), her⟩ rfl (by repeat (first | exact List.mem_cons_self | apply List.mem_cons_of_mem)) rfl rfl rfl (by simp only [tc, HT.vr, HT.vk, HT.vs, he]; rfl) (fun w hs => ?_)
      exact (((((((((((hs.less (by simp)).perm perm7).perm perm4).perm perm2).perm perm3).perm perm6).perm perm5).perm perm6).perm perm7).joinT (y := tys) (k := t.kind) (n := t.n) (nm := t.name) rfl hkl.symm (by omega) rfl rfl rfl).dropR (A := [_]))

theorem copyO : ∀ t : T, CopyO t := T.ind fun t ih vr vk vs => copyO_walk t vr vk vs ih

end Go.Hy
