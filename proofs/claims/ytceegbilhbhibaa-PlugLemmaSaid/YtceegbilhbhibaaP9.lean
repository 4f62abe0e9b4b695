/- Contracts of this program's functions and the laws that they need: a separation logic over the machine's rules, one theorem each (partly printed by a program of this repository). -/
import Derived.Test.YtceegbilhbhibaaP4
import Derived.Test.YtceegbilhbhibaaP6
import Derived.Test.YtceegbilhbhibaaP7
import Derived.Test.YtceegbilhbhibaaP8
namespace Go.Hy
set_option linter.unusedVariables false
set_option linter.unusedSimpArgs false
set_option linter.unusedSectionVars false
open Go.Proofs
set_option linter.unusedVariables false
set_option linter.unusedSimpArgs false
set_option maxRecDepth 100000
theorem plugMore_spec (t : T) (vr_t vk_t vs_t : SH)  : Spec Try.prog 65 #[.agg (tc t vr_t vk_t vs_t).toArray] [RT t vr_t vk_t vs_t] [] (fun _ : Unit => .int .i64 ((more t.kind))) (fun _ : Unit => []) (fun _ : Unit => []) := by
  refine spec_go (args := [.agg (tc t vr_t vk_t vs_t).toArray]) Try.func65 Try.ntmps65 rfl (by exact Nat.le_of_ble_eq_true rfl) fun B hB => ?_
  refine go_open (t := t) (vr := vr_t) (vk := vk_t) (vs := vs_t) (fun hk1 hn1 hm1 => ?_)
  refine go_openCL (l := (t).r) (a := vr_t) (fun hl2 hA2 hU2 => ?_)
  refine go_openTL (ts := (t).kids) (a := vk_t) (fun VR3 VK3 VS3 hl3 hA3 => ?_)
  refine go_openBL (bs := (t).sys) (a := vs_t) (fun VF4 VK4 hl4 hA4 => ?_)
  refine go_seq ?_
  refine go_region ⟨_, Try.func65⟩ rfl ?_
  refine q0 rfl (o_box fun b1 => ?_)
  refine q0 rfl (o_assign ?_)
  refine rg_nil ?_
  refine go_seq ?_
  refine go_seq ?_
  refine go_region ⟨_, Try.func65⟩ rfl ?_
  refine q0 rfl (o_fa ?_)
  refine q0 rfl (o_ld ?_)
  refine q0 rfl (o_eqI ?_)
  refine rg_nil ?_
  refine go_condI (fun h5 => ?_) (fun h5 => ?_)
  · have c5 : (decide (((t).kind) = 15)) = true := h5
    try simp only [sC, bne_iff_ne, beq_iff_eq, ne_eq] at c5
    refine go_seq ?_
    refine go_region ⟨_, Try.func65⟩ rfl ?_
    refine q0 rfl (o_assign ?_)
    refine rg_nil ?_
    refine ret1 Try.func65 Try.results65 wn_ () (by rw [more, if_pos (by simpa using h5)]) (fun w hs => hs.none)
  · have c5 : (decide (((t).kind) = 15)) = false := h5
    try simp only [sC, bne_iff_ne, beq_iff_eq, ne_eq] at c5
    refine go_skip ?_
    refine go_seq ?_
    refine go_region ⟨_, Try.func65⟩ rfl ?_
    refine q0 rfl (o_assign ?_)
    refine rg_nil ?_
    refine ret1 Try.func65 Try.results65 wn_ () (by rw [more, if_neg (by simpa using h5)]) (fun w hs => hs.none)
abbrev PutF (n : Int) (u : T) (t : T) : Prop := ∀ (vr vk vs ur uk us : SH) (v d : Int), fineT t → (0 ≤ n ∧ n ≤ 1099511627776) → (0 ≤ v ∧ v + size t ≤ 1000000000) → (0 ≤ d ∧ d + size t ≤ 1000000000) → size u ≤ 20000 → SpecR Try.prog 29 53 #[.agg (tc t vr vk vs).toArray, .int .i64 n, .agg (tc u ur uk us).toArray, .int .i64 v, .int .i64 d] [RT t vr vk vs, RT u ur uk us] (trav (plugTr n u) t (v, d)) (fun (y : T) => fun x : SH × SH × SH => .agg (tc y x.1 x.2.1 x.2.2).toArray) (fun y x => [RT y x.1 x.2.1 x.2.2]) (fun _ _ => [])
set_option maxHeartbeats 4000000 in
theorem put_walk (t : T) (vr_t vk_t vs_t : SH) (n : Int) (u : T) (vr_u vk_u vs_u : SH) (v : Int) (d : Int) (ihk : ∀ k, k ∈ t.kids → PutF n u k) (ihs : ∀ b, b ∈ t.sys → ∀ k, k ∈ b.kids → PutF n u k) (hf : fineT t) (hn : 0 ≤ n ∧ n ≤ 1099511627776) (hv : 0 ≤ v ∧ v + size t ≤ 1000000000) (hd : 0 ≤ d ∧ d + size t ≤ 1000000000) (hzu : size u ≤ 20000) : SpecR Try.prog 29 53 #[.agg (tc t vr_t vk_t vs_t).toArray, .int .i64 (n), .agg (tc u vr_u vk_u vs_u).toArray, .int .i64 (v), .int .i64 (d)] [RT t vr_t vk_t vs_t, RT u vr_u vk_u vs_u] (trav (plugTr n u) t (v, d)) (fun (y : T) => fun x : SH × SH × SH => .agg (tc y x.1 x.2.1 x.2.2).toArray) (fun (y : T) => fun x : SH × SH × SH => [RT y x.1 x.2.1 x.2.2]) (fun (y : T) => fun x : SH × SH × SH => []) := by
  refine specR_go (args := [.agg (tc t vr_t vk_t vs_t).toArray, .int .i64 (n), .agg (tc u vr_u vk_u vs_u).toArray, .int .i64 (v), .int .i64 (d)]) Try.func53 Try.ntmps53 rfl (by exact Nat.le_of_ble_eq_true rfl) fun B hB => ?_
  refine go_open (t := t) (vr := vr_t) (vk := vk_t) (vs := vs_t) (fun hk1 hn1 hm1 => ?_)
  refine go_openCL (l := (t).r) (a := vr_t) (fun hl2 hA2 hU2 => ?_)
  refine go_openTL (ts := (t).kids) (a := vk_t) (fun VR3 VK3 VS3 hl3 hA3 => ?_)
  refine go_openBL (bs := (t).sys) (a := vs_t) (fun VF4 VK4 hl4 hA4 => ?_)
  have hpz := size_pos' t
  refine go_seq ?_
  refine go_region ⟨_, Try.func53⟩ rfl ?_
  refine q0 rfl (o_box fun b5 => ?_)
  refine q0 rfl (o_box fun b7 => ?_)
  refine q0 rfl (o_new fun b10 => ?_)
  refine rg_nil ?_
  refine go_seq ?_
  refine go_seq ?_
  refine go_state (fun w hs => ((((hs.perm perm1).perm perm1).perm perm2).settleBox hB)) ?_
  refine go_state (fun w hs => ((hs.perm perm1).settleBox hB)) ?_
  refine go_region ⟨_, Try.func53⟩ rfl ?_
  refine q0 rfl (o_fa ?_)
  refine q0 rfl (o_ldg ?_)
  refine q0 rfl (o_eqI ?_)
  refine rg_nil ?_
  refine go_condI (fun h25 => ?_) (fun h25 => ?_)
  · have c25 : (decide (((t).kind) = 1)) = true := h25
    try simp only [sC, bne_iff_ne, beq_iff_eq, ne_eq] at c25
    have hk1 : t.kind = 1 := by simpa using h25
    refine go_seq ?_
    refine go_block ?_
    refine go_seq ?_
    refine go_region ⟨_, Try.func53⟩ rfl ?_
    refine q0 rfl (o_fa ?_)
    refine q0 rfl (o_ldg ?_)
    refine q0 rfl (o_move ?_)
    refine q0 rfl (o_move ?_)
    refine q0 rfl (o_add ?_)
    refine q0 rfl (o_eqI ?_)
    refine q0 rfl (o_assign ?_)
    refine rg_nil ?_
    refine go_condI (fun h26 => ?_) (fun h26 => ?_)
    · have c26 : (decide (((t).n) = (n + v))) = true := h26
      try simp only [sC, bne_iff_ne, beq_iff_eq, ne_eq] at c26
      have hhit : t.n = n + v := by simpa using h26
      refine go_seq ?_
      refine go_region ⟨_, Try.func53⟩ rfl ?_
      refine q0 rfl (o_ldgs ?_)
      refine q0 rfl (o_move ?_)
      refine q0 rfl (o_move ?_)
      refine q0 rfl (o_call Try.call11 (liftBothH u vr_u vk_u vs_u v d om_ om_ om_) (fun x37 => ?_))
      refine q0 rfl (o_move ?_)
      refine q0 rfl (o_extract ?_)
      refine q0 rfl (o_extract ?_)
      refine q0 rfl (o_new fun b11 => ?_)
      refine q0 rfl (o_st ?_)
      refine q0 rfl (o_assign ?_)
      refine rg_nil ?_
      refine go_seq ?_
      refine go_seq ?_
      refine go_region ⟨_, Try.func53⟩ rfl ?_
      refine q0 rfl (o_move ?_)
      refine q0 rfl (o_neI ?_)
      refine rg_nil ?_
      refine go_condI (fun h41 => ?_) (fun h41 => ?_)
      · have c41 : (decide (x37.1.1.1 ≠ 0)) = true := h41
        try simp only [sC, bne_iff_ne, beq_iff_eq, ne_eq] at c41
        have hbad : trav (plugTr n u) t (v, d) = .bad x37.1.1.1 := (by have h9 : x37.1.1.1 ≠ 0 := (by simpa using h41); rw [x37.2] at h9 ⊢; exact plug_hit_bad hk1 hhit h9)
        refine go_region ⟨_, Try.func53⟩ rfl ?_
        refine q0 rfl (o_move ?_)
        refine q0 rfl (o_makeI ?_)
        refine q0 rfl (o_panic (endsR_bad (hbad)))
      · have c41 : (decide (x37.1.1.1 ≠ 0)) = false := h41
        try simp only [sC, bne_iff_ne, beq_iff_eq, ne_eq] at c41
        have hgood : trav (plugTr n u) t (v, d) = .ok x37.1.1.2 := (by have h9 : x37.1.1.1 = 0 := (by simpa using h41); rw [x37.2] at h9 ⊢; exact plug_hit hk1 hhit h9)
        refine go_skip ?_
        refine go_seq ?_
        refine go_region ⟨_, Try.func53⟩ rfl ?_
        refine q0 rfl (o_lds ?_)
        refine q0 rfl (o_st ?_)
        refine rg_nil ?_
        refine go_ok (a := x37.1.1.2) (hgood) ?_
        refine retC Try.func53 Try.results53 (x37.1.2.1, x37.1.2.2.1, x37.1.2.2.2) rfl mm_ rfl rfl rfl rfl (fun w hs => hs.bare.less (by simp))
    · have c26 : (decide (((t).n) = (n + v))) = false := h26
      try simp only [sC, bne_iff_ne, beq_iff_eq, ne_eq] at c26
      have hhit : t.n ≠ n + v := by simpa using h26
      refine go_seq ?_
      refine go_region ⟨_, Try.func53⟩ rfl ?_
      refine q0 rfl (o_fa ?_)
      refine q0 rfl (o_ldg ?_)
      refine q0 rfl (o_move ?_)
      refine q0 rfl (o_move ?_)
      refine q0 rfl (o_add ?_)
      refine q0 rfl (o_gtr ?_)
      refine q0 rfl (o_assign ?_)
      refine rg_nil ?_
      refine go_condI (fun h45 => ?_) (fun h45 => ?_)
      · have c45 : (decide ((n + v) < ((t).n))) = true := h45
        try simp only [sC, bne_iff_ne, beq_iff_eq, ne_eq] at c45
        have habove : n + v < t.n := by simpa using h45
        refine go_seq ?_
        refine go_region ⟨_, Try.func53⟩ rfl ?_
        refine q0 rfl (o_fa ?_)
        refine q0 rfl (o_ldg ?_)
        refine q0 rfl (o_sub ?_)
        refine q0 rfl (o_build (cs := [.int .i64 (1), .int .i64 (((t).n) - 1), .string ((ByteArray.mk #[])), sl (none, 0) (0), sl (none, 0) (0), sl (none, 0) (0)]) ?_)
        refine q0 rfl (o_st ?_)
        refine rg_nil ?_
        refine go_ok (a := (T.mk 1 (t.n - 1) ⟨#[]⟩ [] [] [])) (plug_less hf hk1 habove) ?_
        have hfv := (fine_var hf hk1).2
        refine retC Try.func53 Try.results53 (nul, nul, nul) rfl mm_ rfl rfl rfl rfl (fun w hs => ((hs.leaf 1 (t.n - 1) ⟨#[]⟩ (in_lit (by omega) (by omega)) (by unfold in64 at hn1 ⊢; omega) (Nat.zero_le _)).bare.less (by simp)))
      · have c45 : (decide ((n + v) < ((t).n))) = false := h45
        try simp only [sC, bne_iff_ne, beq_iff_eq, ne_eq] at c45
        have hnab : ¬ n + v < t.n := (by simpa using h45)
        have hbelow : t.n < n + v := (by omega)
        refine go_skip ?_
        refine go_inBlock ?_
        refine go_seq ?_
        refine go_region ⟨_, Try.func53⟩ rfl ?_
        refine q0 rfl (o_ldgs ?_)
        refine q0 rfl (o_st ?_)
        refine rg_nil ?_
        refine go_ok (a := t) (plug_same hf hk1 hbelow) ?_
        refine retC Try.func53 Try.results53 (vr_t, vk_t, vs_t) rfl mm_ rfl rfl rfl rfl (fun w hs => hs.bare.less (by simp))
  · have c25 : (decide (((t).kind) = 1)) = false := h25
    try simp only [sC, bne_iff_ne, beq_iff_eq, ne_eq] at c25
    have hkn : t.kind ≠ 1 := by simpa using h25
    have hn0 := fine_zero hf hkn
    have hown : (plugTr n u).own (v, d) t.kind t.n t.name t.r = .ok (.inr (0, t.r)) := (by rw [plug_own_ne hkn, hn0])
    refine go_skip ?_
    refine go_seq ?_
    refine go_draw (pn := 1000000) (tn := true) (A := [0, 1, 0, 4, 0, 16, 48, 127, 0, 511]) (l := [0, 1, 2, 3, 4, 5, 6, 7, 8]) (fin := [9]) Tab.mixed ⟨_, Try.func53⟩ (by rfl) ?_
    refine n0 rfl (v_fa ?_)
    refine n0 rfl (f_ldg ?_)
    refine n0 rfl (v_fa ?_)
    refine n0 rfl (f_ldg ?_)
    refine n0 rfl (v_fa ?_)
    refine n0 rfl (f_ldg ?_)
    refine nv_conv [] [_] (fun _ _ _ hs => hs.rowS0 2 53) ?_
    refine n0 rfl (t_appCL (fun a63 => ?_) (by simp) (a := (none, 0)) (n' := 0) (b := vr_t) (ls := ((t).r)))
    refine nv_conv [_] [_] (fun _ _ _ hs => hs.appFlatC (l := []) (m := (t).r)) ?_
    rw [Nat.zero_add ((t).r).length]
    refine n0 rfl (v_build (cs := [.int .i64 ((t).kind), .int .i64 (0), .string ((t).name), sl a63 (((t).r).length), sl (none, 0) (0), sl (none, 0) (0)]) ?_)
    refine n0 rfl (v_new fun b13 => ?_)
    refine NV.done ?_
    refine q0 rfl (o_st ?_)
    refine rg_nil ?_
    refine go_seq ?_
    refine go_seq ?_
    refine go_region ⟨_, Try.func53⟩ rfl ?_
    refine q0 rfl (o_fa ?_)
    refine q0 rfl (o_ldg ?_)
    refine q0 rfl (o_len ?_)
    refine q0 rfl (o_move ?_)
    refine rg_nil ?_
    refine go_block ?_
    refine go_loopE (X := Nat × SH × List TP) (fun s_ => s_.1 ≤ t.kids.length ∧ travL (plugTr n u) t.kind 0 (t.kids.take s_.1) (v, d) = .ok (s_.2.2.map (·.1))) (fun s_ => [(1, .int .i64 (n)), (3, .int .i64 (v)), (4, .int .i64 (d)), (5, .pointer (some ⟨b5, 0, none⟩)), (7, .pointer (some ⟨b7, 0, none⟩)), (10, .pointer (some ⟨b10, 0, none⟩)), (13, .pointer (some ⟨b13, 0, none⟩)), (66, sl vk_t ((t).kids.length)), (67, .int .i64 (((t).kids.length : Int))), (68, .int .i64 ((s_.1 : Int)))]) (fun s_ G_ => AP s_.2.2 :: G_) (fun s_ => [rowS 6 26 s_.2.1 (s_.1) (tpFlat s_.2.2), boxR b13 [.int .i64 (t.kind), .int .i64 (0), .string (t.name), sl a63 (t.r.length), sl s_.2.1 (s_.1), sl (none, 0) (0)] 26, rowS 2 53 a63 (((t).r).length) (clFlat ((t).r)), boxR b10 [.int .i64 (0), .int .i64 (0), .string ((ByteArray.mk #[])), sl (none, 0) (0), sl (none, 0) (0), sl (none, 0) (0)] 26]) (fun s_ => t.kids.length - s_.1) (0, (none, 0), []) (⟨by omega, by rw [List.take_zero, travL_nil]; rfl⟩) (by exact ⟨rfl, rfl, rfl, rfl, rfl, rfl, rfl, rfl, rfl, rfl, trivial⟩) ?_ ?_
    · exact fun w hs => ((hs.rowS0 6 26).apNil)
    · intro ⟨i, a, ps⟩ base0 ⟨hi, hks⟩ next0
      dsimp only at  hi  hks  next0 ⊢
      refine go_seq ?_
      refine go_region ⟨_, Try.func53⟩ rfl ?_
      refine q0 rfl (o_lss ?_)
      refine rg_nil ?_
      refine go_seq ?_
      refine go_condI (fun h69 => ?_) (fun h69 => ?_)
      · have c69 : (decide ((i : Int) < ((t).kids.length : Int))) = true := h69
        try simp only [sC, bne_iff_ne, beq_iff_eq, ne_eq] at c69
        have hbi := binds_01 t.kind i
        have hsk := size_kid_lt (t := t) (i := i) (by omega)
        refine go_skip ?_
        refine go_seq ?_
        refine go_block ?_
        refine go_seq ?_
        refine go_kid (ts := (t).kids) (a := vk_t) (VR := VR3) (VK := VK3) (VS := VS3) i (by omega) ?_
        refine go_region ⟨_, Try.func53⟩ rfl ?_
        refine q0 rfl (o_move ?_)
        obtain ⟨bk5, o5, hav5⟩ := hA3 (by omega)
        refine q0 rfl (o_ixN ?_ (j := i))
        refine q0 rfl (o_ldT ?_)
        refine q0 rfl (o_new fun b15 => ?_)
        refine q0 rfl (o_assign ?_)
        refine q0 rfl (o_st ?_)
        refine rg_nil ?_
        refine go_seq ?_
        refine go_region ⟨_, Try.func53⟩ rfl ?_
        refine q0 rfl (o_fa ?_)
        refine q0 rfl (o_ldg ?_)
        refine q0 rfl (o_move ?_)
        refine q0 rfl (o_call Try.call44 (binds_spec ((t).kind) (i : Int) ) (fun x77 => ?_))
        refine q0 rfl (o_move ?_)
        refine q0 rfl (o_extract ?_)
        refine q0 rfl (o_extract ?_)
        refine q0 rfl (o_assign ?_)
        refine q0 rfl (o_assign ?_)
        refine rg_nil ?_
        refine go_res (trav (plugTr n u) (t.kids.getD i t0) ((v + (binds t.kind i).1), (d + (binds t.kind i).2))) (fun g15_11 hg15_11 => ?_) (fun e15_11 he15_11 => ?_)
        · refine go_draw (pn := 1000000) (tn := false) (A := [0, 1, 0, 0, 0, 0, 0, 96, 0, 0, 768, 2044, 4092, 8191, 16383, 32767]) (l := [0, 1, 2, 3, 4, 5, 6, 7, 8, 9, 10, 11, 12]) (fin := [13, 14, 15]) Tab.mixed ⟨_, Try.func53⟩ (by rfl) ?_
          refine n0 rfl (v_fa ?_)
          refine n0 rfl (v_ld ?_)
          refine n0 rfl (v_lds ?_)
          refine n0 rfl (v_move ?_)
          refine n0 rfl (f_ldgs ?_)
          refine n0 rfl (v_move ?_)
          refine n0 rfl (v_move ?_)
          refine n0 rfl (v_add ?_)
          refine n0 rfl (v_move ?_)
          refine n0 rfl (v_move ?_)
          refine n0 rfl (v_add ?_)
          refine n0 rfl (v_call Try.call53 (((ihk _ (getD_mem (show i < t.kids.length by omega))) (VR3 i) (VK3 i) (VS3 i) vr_u vk_u vs_u (v + ((binds ((t).kind) (i : Int)).1)) (d + ((binds ((t).kind) (i : Int)).2)) (fine_part hf (List.mem_of_getElem? (parts_kid t i (by omega)))) hn (by omega) (by omega) hzu).1 g15_11 hg15_11) (fun x91 => ?_))
          refine n0 rfl (v_lit1 fun b92 => ?_)
          refine NV.done ?_
          refine q0 rfl (o_appS (fun a93 => ?_) (a := a) (n' := i))
          refine rg_state (fun w hs => ((hs.perm perm1).drop).snocT) ?_
          refine q0 rfl (o_fa ?_)
          refine q0 rfl (o_stc ?_)
          refine rg_nil ?_
          refine go_inBlock ?_
          refine go_region ⟨_, Try.func53⟩ rfl ?_
          refine q0 rfl (o_add ?_)
          refine q0 rfl (o_move ?_)
          refine rg_nil ?_
          refine go_state (fun w hs => ?_) (next0 (i + 1, a93, ps ++ [(g15_11, x91.1, x91.2.1, x91.2.2)]) _ (⟨by omega, by rw [List.map_append, List.map_cons, List.map_nil]; exact trav_kid_ok (by omega) hks plug_kid hg15_11⟩) (by (try simp only); omega) ⟨rfl, rfl, rfl, rfl, rfl, rfl, rfl, rfl, rfl, rfl, trivial⟩)
          exact (((((((hs.apAdd (ps := ps) (t := g15_11) (vr := x91.1) (vk := x91.2.1) (vs := x91.2.2) mm_ mm_).less (by simp +contextual)).perm perm4).perm perm4).perm perm2).perm perm3).dropR (A := [_, _, _, _]))
        · refine go_draw (pn := 11) (tn := false) (A := [0, 1, 0, 0, 0, 0, 0, 96, 0, 0, 768, 2044, 4092, 8191, 16383, 32767]) (l := [0, 1, 2, 3, 4, 5, 6, 7, 8, 9, 10, 11, 12]) (fin := [13, 14, 15]) Tab.mixed ⟨_, Try.func53⟩ (by rfl) ?_
          refine n0 rfl (v_fa ?_)
          refine n0 rfl (v_ld ?_)
          refine n0 rfl (v_lds ?_)
          refine n0 rfl (v_move ?_)
          refine n0 rfl (f_ldgs ?_)
          refine n0 rfl (v_move ?_)
          refine n0 rfl (v_move ?_)
          refine n0 rfl (v_add ?_)
          refine n0 rfl (v_move ?_)
          refine n0 rfl (v_move ?_)
          refine n0 rfl (v_add ?_)
          refine n_pan rfl Try.call53 (((ihk _ (getD_mem (show i < t.kids.length by omega))) (VR3 i) (VK3 i) (VS3 i) vr_u vk_u vs_u (v + ((binds ((t).kind) (i : Int)).1)) (d + ((binds ((t).kind) (i : Int)).2)) (fine_part hf (List.mem_of_getElem? (parts_kid t i (by omega)))) hn (by omega) (by omega) hzu).2 e15_11 he15_11) (endsR_bad (trav_kid_bad hown (by omega) hks plug_kid he15_11))
      · have c69 : (decide ((i : Int) < ((t).kids.length : Int))) = false := h69
        try simp only [sC, bne_iff_ne, beq_iff_eq, ne_eq] at c69
        have hei : i = t.kids.length := by omega
        rw [hei, List.take_length] at hks
        have hkl : i = ps.length := by have h9 := travL_len hks; rw [List.length_map] at h9; omega
        have hmo := more_01 t.kind
        refine go_exit rfl ?_
        refine go_seq ?_
        refine go_seq ?_
        refine go_region ⟨_, Try.func53⟩ rfl ?_
        refine q0 rfl (o_fa ?_)
        refine q0 rfl (o_ldg ?_)
        refine q0 rfl (o_len ?_)
        refine q0 rfl (o_move ?_)
        refine rg_nil ?_
        refine go_block ?_
        refine go_loopE (X := Nat × SH × List BP) (fun s_ => s_.1 ≤ t.sys.length ∧ travB (plugTr n u) t.kind (t.sys.take s_.1) (v, d) = .ok (s_.2.2.map (·.1))) (fun s_ => [(1, .int .i64 (n)), (3, .int .i64 (v)), (4, .int .i64 (d)), (5, .pointer (some ⟨b5, 0, none⟩)), (7, .pointer (some ⟨b7, 0, none⟩)), (10, .pointer (some ⟨b10, 0, none⟩)), (13, .pointer (some ⟨b13, 0, none⟩)), (97, sl vs_t ((t).sys.length)), (98, .int .i64 (((t).sys.length : Int))), (99, .int .i64 ((s_.1 : Int)))]) (fun s_ G_ => BPs s_.2.2 :: G_) (fun s_ => [rowS 2 63 s_.2.1 (s_.1) (bpFlat s_.2.2), rowS 6 26 a (i) (tpFlat ps), boxR b13 [.int .i64 (t.kind), .int .i64 (0), .string (t.name), sl a63 (t.r.length), sl a (i), sl s_.2.1 (s_.1)] 26, rowS 2 53 a63 (((t).r).length) (clFlat ((t).r)), boxR b10 [.int .i64 (0), .int .i64 (0), .string ((ByteArray.mk #[])), sl (none, 0) (0), sl (none, 0) (0), sl (none, 0) (0)] 26]) (fun s_ => t.sys.length - s_.1) (0, (none, 0), []) (⟨by omega, by rw [List.take_zero, travB_nil]; rfl⟩) (by exact ⟨rfl, rfl, rfl, rfl, rfl, rfl, rfl, rfl, rfl, rfl, trivial⟩) ?_ ?_
        · exact fun w hs => ((hs.rowS0 2 63).bpNil)
        · intro ⟨s, a2, bs⟩ base1 ⟨hs1, hbs⟩ next1
          dsimp only at  hs1  hbs  next1 ⊢
          refine go_seq ?_
          refine go_region ⟨_, Try.func53⟩ rfl ?_
          refine q0 rfl (o_lss ?_)
          refine rg_nil ?_
          refine go_seq ?_
          refine go_condI (fun h100 => ?_) (fun h100 => ?_)
          · have c100 : (decide ((s : Int) < ((t).sys.length : Int))) = true := h100
            try simp only [sC, bne_iff_ne, beq_iff_eq, ne_eq] at c100
            have hslt : s < t.sys.length := by omega
            refine go_skip ?_
            refine go_seq ?_
            refine go_block ?_
            refine go_seq ?_
            refine go_branch (bs := (t).sys) (a := vs_t) (VF := VF4) (VK := VK4) s (by omega) ?_
            refine go_openCL (l := (((t).sys).getD s br0).face) (a := VF4 s) (fun hl6 hA6 hU6 => ?_)
            refine go_openTL (ts := (((t).sys).getD s br0).kids) (a := VK4 s) (fun VR7 VK7 VS7 hl7 hA7 => ?_)
            refine go_region ⟨_, Try.func53⟩ rfl ?_
            obtain ⟨bk8, o8, hav8⟩ := hA4 (by omega)
            refine q0 rfl (o_ixN ?_ (j := s))
            refine q0 rfl (o_ldB ?_)
            refine q0 rfl (o_new fun b19 => ?_)
            refine q0 rfl (o_st ?_)
            refine rg_nil ?_
            refine go_seq ?_
            refine go_region ⟨_, Try.func53⟩ rfl ?_
            refine q0 rfl (o_fa ?_)
            refine q0 rfl (o_ld ?_)
            refine rg_state (fun w hs => hs.rowS0 2 53) ?_
            refine q0 rfl (o_appCL (fun a105 => ?_) (by simp) (a := (none, 0)) (n' := 0) (b := (VF4 s)) (ls := ((((t).sys).getD s br0).face)))
            refine rg_state (fun w hs => hs.appFlatC (l := []) (m := (((t).sys).getD s br0).face)) ?_
            rw [Nat.zero_add ((((t).sys).getD s br0).face).length]
            refine q0 rfl (o_build (cs := [sl a105 (((((t).sys).getD s br0).face).length), sl (none, 0) (0)]) ?_)
            refine q0 rfl (o_new fun b20 => ?_)
            refine q0 rfl (o_st ?_)
            refine rg_nil ?_
            refine go_seq ?_
            refine go_seq ?_
            refine go_region ⟨_, Try.func53⟩ rfl ?_
            refine q0 rfl (o_fa ?_)
            refine q0 rfl (o_ld ?_)
            refine q0 rfl (o_len ?_)
            refine q0 rfl (o_move ?_)
            refine rg_nil ?_
            refine go_block ?_
            refine go_loopE (X := Nat × SH × List TP) (fun s_ => s_.1 ≤ (t.sys.getD s br0).kids.length ∧ travS (plugTr n u) t.kind ((t.sys.getD s br0).kids.take s_.1) (v, d) = .ok (s_.2.2.map (·.1))) (fun s_ => [(1, .int .i64 (n)), (3, .int .i64 (v)), (4, .int .i64 (d)), (5, .pointer (some ⟨b5, 0, none⟩)), (7, .pointer (some ⟨b7, 0, none⟩)), (10, .pointer (some ⟨b10, 0, none⟩)), (13, .pointer (some ⟨b13, 0, none⟩)), (20, .pointer (some ⟨b20, 0, none⟩)), (97, sl vs_t ((t).sys.length)), (98, .int .i64 (((t).sys.length : Int))), (99, .int .i64 ((s : Int))), (108, sl (VK4 s) ((((t).sys).getD s br0).kids.length)), (109, .int .i64 (((((t).sys).getD s br0).kids.length : Int))), (110, .int .i64 ((s_.1 : Int)))]) (fun s_ G_ => AP s_.2.2 :: G_) (fun s_ => [rowS 6 26 s_.2.1 (s_.1) (tpFlat s_.2.2), boxR b20 [sl a105 ((t.sys.getD s br0).face.length), sl s_.2.1 (s_.1)] 63, rowS 2 53 a105 (((((t).sys).getD s br0).face).length) (clFlat ((((t).sys).getD s br0).face)), boxR b19 (bc (((t).sys).getD s br0) (VF4 s) (VK4 s)) 63, rowS 2 63 a2 (s) (bpFlat bs), rowS 6 26 a (i) (tpFlat ps), boxR b13 [.int .i64 (t.kind), .int .i64 (0), .string (t.name), sl a63 (t.r.length), sl a (i), sl a2 (s)] 26, rowS 2 53 a63 (((t).r).length) (clFlat ((t).r)), boxR b10 [.int .i64 (0), .int .i64 (0), .string ((ByteArray.mk #[])), sl (none, 0) (0), sl (none, 0) (0), sl (none, 0) (0)] 26]) (fun s_ => (t.sys.getD s br0).kids.length - s_.1) (0, (none, 0), []) (⟨by omega, by rw [List.take_zero, travS_nil]; rfl⟩) (by exact ⟨rfl, rfl, rfl, rfl, rfl, rfl, rfl, rfl, rfl, rfl, rfl, rfl, rfl, rfl, trivial⟩) ?_ ?_
            · exact fun w hs => ((hs.rowS0 6 26).apNil)
            · intro ⟨k, a3, qs⟩ base2 ⟨hk1, hcs⟩ next2
              dsimp only at  hk1  hcs  next2 ⊢
              refine go_seq ?_
              refine go_region ⟨_, Try.func53⟩ rfl ?_
              refine q0 rfl (o_lss ?_)
              refine rg_nil ?_
              refine go_seq ?_
              refine go_condI (fun h111 => ?_) (fun h111 => ?_)
              · have c111 : (decide ((k : Int) < ((((t).sys).getD s br0).kids.length : Int))) = true := h111
                try simp only [sC, bne_iff_ne, beq_iff_eq, ne_eq] at c111
                have hsk := size_sys_lt (t := t) hslt (k := k) (by omega)
                refine go_skip ?_
                refine go_seq ?_
                refine go_block ?_
                refine go_seq ?_
                refine go_kid (ts := (((t).sys).getD s br0).kids) (a := VK4 s) (VR := VR7) (VK := VK7) (VS := VS7) k (by omega) ?_
                refine go_region ⟨_, Try.func53⟩ rfl ?_
                obtain ⟨bk9, o9, hav9⟩ := hA7 (by omega)
                refine q0 rfl (o_ixN ?_ (j := k))
                refine q0 rfl (o_ldT ?_)
                refine q0 rfl (o_new fun b22 => ?_)
                refine q0 rfl (o_st ?_)
                refine rg_nil ?_
                refine go_res (trav (plugTr n u) ((t.sys.getD s br0).kids.getD k t0) (v, (d + more t.kind))) (fun g24_10 hg24_10 => ?_) (fun e24_10 he24_10 => ?_)
                · refine go_draw (pn := 1000000) (tn := false) (A := [0, 1, 0, 0, 0, 0, 0, 0, 128, 448, 1020, 2044, 4095, 8191, 16383]) (l := [0, 1, 2, 3, 4, 5, 6, 7, 8, 9, 10, 11]) (fin := [12, 13, 14]) Tab.mixed ⟨_, Try.func53⟩ (by rfl) ?_
                  refine n0 rfl (v_fa ?_)
                  refine n0 rfl (v_ld ?_)
                  refine n0 rfl (v_lds ?_)
                  refine n0 rfl (v_move ?_)
                  refine n0 rfl (f_ldgs ?_)
                  refine n0 rfl (v_move ?_)
                  refine n0 rfl (v_move ?_)
                  refine n0 rfl (f_ldgs ?_)
                  refine n0 rfl (v_call Try.call65 (plugMore_spec t vr_t vk_t vs_t ) (fun x122 => ?_))
                  refine n0 rfl (v_add ?_)
                  refine n0 rfl (v_call Try.call53 (((ihs _ (getD_mem hslt) _ (getD_mem (show k < (t.sys.getD s br0).kids.length by omega))) (VR7 k) (VK7 k) (VS7 k) vr_u vk_u vs_u v (d + (more t.kind)) (fine_part hf (List.mem_of_getElem? (parts_sys t s k hslt (by omega)))) hn (by omega) (by omega) hzu).1 g24_10 hg24_10) (fun x124 => ?_))
                  refine n0 rfl (v_lit1 fun b125 => ?_)
                  refine NV.done ?_
                  refine q0 rfl (o_appS (fun a126 => ?_) (a := a3) (n' := k))
                  refine rg_state (fun w hs => ((hs.perm perm1).drop).snocT) ?_
                  refine q0 rfl (o_fa ?_)
                  refine q0 rfl (o_stc ?_)
                  refine rg_nil ?_
                  refine go_inBlock ?_
                  refine go_region ⟨_, Try.func53⟩ rfl ?_
                  refine q0 rfl (o_add ?_)
                  refine q0 rfl (o_move ?_)
                  refine rg_nil ?_
                  refine go_state (fun w hs => ?_) (next2 (k + 1, a126, qs ++ [(g24_10, x124.1, x124.2.1, x124.2.2)]) _ (⟨by omega, by rw [List.map_append, List.map_cons, List.map_nil]; exact travS_at_ok (by omega) hcs plug_kid (by rw [Int.add_zero]; exact hg24_10)⟩) (by (try simp only); omega) ⟨rfl, rfl, rfl, rfl, rfl, rfl, rfl, rfl, rfl, rfl, rfl, rfl, rfl, rfl, trivial⟩)
                  exact ((((((((((((hs.apAdd (ps := qs) (t := g24_10) (vr := x124.1) (vk := x124.2.1) (vs := x124.2.2) mm_ mm_).less (by simp +contextual)).perm perm9).perm perm9).perm perm9).perm perm9).perm perm9).perm perm9).perm perm9).perm perm7).perm perm8).dropR (A := [_, _, _, _, _, _, _, _, _]))
                · refine go_draw (pn := 10) (tn := false) (A := [0, 1, 0, 0, 0, 0, 0, 0, 128, 448, 1020, 2044, 4095, 8191, 16383]) (l := [0, 1, 2, 3, 4, 5, 6, 7, 8, 9, 10, 11]) (fin := [12, 13, 14]) Tab.mixed ⟨_, Try.func53⟩ (by rfl) ?_
                  refine n0 rfl (v_fa ?_)
                  refine n0 rfl (v_ld ?_)
                  refine n0 rfl (v_lds ?_)
                  refine n0 rfl (v_move ?_)
                  refine n0 rfl (f_ldgs ?_)
                  refine n0 rfl (v_move ?_)
                  refine n0 rfl (v_move ?_)
                  refine n0 rfl (f_ldgs ?_)
                  refine n0 rfl (v_call Try.call65 (plugMore_spec t vr_t vk_t vs_t ) (fun x122 => ?_))
                  refine n0 rfl (v_add ?_)
                  refine n_pan rfl Try.call53 (((ihs _ (getD_mem hslt) _ (getD_mem (show k < (t.sys.getD s br0).kids.length by omega))) (VR7 k) (VK7 k) (VS7 k) vr_u vk_u vs_u v (d + (more t.kind)) (fine_part hf (List.mem_of_getElem? (parts_sys t s k hslt (by omega)))) hn (by omega) (by omega) hzu).2 e24_10 he24_10) (endsR_bad (trav_sys_bad hown hks hslt hbs (.inr ⟨_, plug_face, travS_at_bad (by omega) hcs plug_kid (by rw [Int.add_zero]; exact he24_10)⟩)))
              · have c111 : (decide ((k : Int) < ((((t).sys).getD s br0).kids.length : Int))) = false := h111
                try simp only [sC, bne_iff_ne, beq_iff_eq, ne_eq] at c111
                have hek9 : k = (t.sys.getD s br0).kids.length := by omega
                have hcs2 := hcs
                rw [hek9, List.take_length] at hcs2
                have hek : k = (qs.map (·.1)).length := by rw [travS_len hcs2]; exact hek9
                refine go_ms (Ms' := [rowS 6 26 a3 ((qs.map (·.1)).length) (tpFlat qs), boxR b20 [sl a105 ((t.sys.getD s br0).face.length), sl a3 ((qs.map (·.1)).length)] 63, rowS 2 53 a105 (((((t).sys).getD s br0).face).length) (clFlat ((((t).sys).getD s br0).face)), boxR b19 (bc (((t).sys).getD s br0) (VF4 s) (VK4 s)) 63, rowS 2 63 a2 (s) (bpFlat bs), rowS 6 26 a (i) (tpFlat ps), boxR b13 [.int .i64 (t.kind), .int .i64 (0), .string (t.name), sl a63 (t.r.length), sl a (i), sl a2 (s)] 26, rowS 2 53 a63 (((t).r).length) (clFlat ((t).r)), boxR b10 [.int .i64 (0), .int .i64 (0), .string ((ByteArray.mk #[])), sl (none, 0) (0), sl (none, 0) (0), sl (none, 0) (0)] 26]) (by rw [hek]) ?_
                refine go_exit rfl ?_
                refine go_region ⟨_, Try.func53⟩ rfl ?_
                refine q0 rfl (o_fa ?_)
                refine q0 rfl (o_ld ?_)
                refine q0 rfl (o_lds ?_)
                refine q0 rfl (o_lit1 fun b132 => ?_)
                refine q0 rfl (o_appS (fun a133 => ?_) (a := a2) (n' := s))
                refine rg_state (fun w hs => ((hs.perm perm1).drop).snocB (b := (Br.mk (t.sys.getD s br0).face (qs.map (·.1)))) (vf := a105) (vk := a3)) ?_
                refine q0 rfl (o_fa ?_)
                refine q0 rfl (o_stc ?_)
                refine rg_nil ?_
                refine go_inBlock ?_
                refine go_region ⟨_, Try.func53⟩ rfl ?_
                refine q0 rfl (o_add ?_)
                refine q0 rfl (o_move ?_)
                refine rg_nil ?_
                refine go_state (fun w hs => ?_) (next1 (s + 1, a133, bs ++ [(Br.mk (t.sys.getD s br0).face (qs.map (·.1)), a105, a3)]) _ (⟨by omega, by rw [List.map_append, List.map_cons, List.map_nil]; exact travB_at_ok hslt hbs plug_face hcs2⟩) (by (try simp only); omega) ⟨rfl, rfl, rfl, rfl, rfl, rfl, rfl, rfl, rfl, rfl, trivial⟩)
                exact (((((((((((((((((((hs.perm perm8).perm perm8).perm perm8).perm perm8).perm perm7).perm perm6).perm perm6).perm perm7).perm perm8).settleCL (l := (t.sys.getD s br0).face) hB rfl (by first | rfl | simp) (by unfold reach at *; omega) hU6).settleTL (ps := qs) (ts := qs.map (·.1)) hB mm_ rfl rfl (by simp) (by unfold reach at *; omega)).bpAdd (ps := bs) (f := (t.sys.getD s br0).face) (ks := qs.map (·.1)) (vf := a105) (vk := a3) mm_ mm_ mm_).less (by simp +contextual)).perm perm6).perm perm6).perm perm2).perm perm6).perm perm4).dropR (A := [_, _, _, _, _]))
          · have c100 : (decide ((s : Int) < ((t).sys.length : Int))) = false := h100
            try simp only [sC, bne_iff_ne, beq_iff_eq, ne_eq] at c100
            have hes : s = t.sys.length := by omega
            rw [hes, List.take_length] at hbs
            have hbl : s = bs.length := by have h9 := plugB_all hbs; rw [List.length_map] at h9; omega
            refine go_exit rfl ?_
            refine go_seq ?_
            refine go_region ⟨_, Try.func53⟩ rfl ?_
            refine q0 rfl (o_lds ?_)
            refine q0 rfl (o_st ?_)
            refine rg_nil ?_
            refine go_ok (a := (T.mk t.kind 0 t.name t.r (ps.map (·.1)) (bs.map (·.1)))) (trav_ok_of hown hks hbs) ?_
            refine retC Try.func53 Try.results53 (a63, a, a2) rfl mm_ rfl rfl rfl (by simp only [tc, T.kind, T.n, T.name, T.r, T.kids, T.sys, List.length_map, hkl, hbl]; rfl) (fun w hs => ?_)
            have h1 := ((((((hs.perm perm3).perm perm1).perm perm2).perm perm3).perm perm4).settleCL (l := t.r) hB rfl (by first | rfl | simp) (by unfold reach at *; omega) hU2)
            have h2 := (h1.settleTL (ps := ps) (ts := ps.map (·.1)) hB mm_ rfl rfl hkl (by unfold reach at *; omega))
            have h3 := (h2.settleBL (ps := bs) (bs := bs.map (·.1)) hB mm_ rfl rfl hbl (by unfold reach at *; omega))
            exact ((h3.mkRT (k := t.kind) (n := 0) (nm := t.name) (r := t.r) (ks := ps.map (·.1)) (ss := bs.map (·.1)) (vr := a63) (vk := a) (vs := a2) hk1 (in_lit (by omega) (by omega)) hm1 mm_ mm_ mm_).bare.less (by simp))
end Go.Hy
namespace Go.Hy
set_option linter.unusedVariables false
set_option linter.unusedSimpArgs false
set_option linter.unusedSectionVars false
open Go.Proofs
set_option linter.unusedVariables false
set_option linter.unusedSimpArgs false
set_option maxRecDepth 100000
abbrev PcountAt (t : T) : Prop := ∀ (vr_t vk_t vs_t : SH) (n : Int), size t ≤ 1000000000 → 0 ≤ n ∧ n + size t ≤ 4000000000000 → Spec Try.prog 51 #[.agg (tc t vr_t vk_t vs_t).toArray, .int .i64 (n)] [RT t vr_t vk_t vs_t] [] (fun _ : Unit => .int .i64 (countT t n)) (fun _ : Unit => []) (fun _ : Unit => [])
theorem pcount_walk (t : T) (ihk : ∀ k, k ∈ t.kids → PcountAt k) (ihs : ∀ b, b ∈ t.sys → ∀ k, k ∈ b.kids → PcountAt k) (vr_t vk_t vs_t : SH) (n : Int) (hz : size t ≤ 1000000000) (hn : 0 ≤ n ∧ n + size t ≤ 4000000000000) : Spec Try.prog 51 #[.agg (tc t vr_t vk_t vs_t).toArray, .int .i64 (n)] [RT t vr_t vk_t vs_t] [] (fun _ : Unit => .int .i64 (countT t n)) (fun _ : Unit => []) (fun _ : Unit => []) := by
  refine spec_go (args := [.agg (tc t vr_t vk_t vs_t).toArray, .int .i64 (n)]) Try.func51 Try.ntmps51 rfl (by exact Nat.le_of_ble_eq_true rfl) fun B hB => ?_
  refine go_open (t := t) (vr := vr_t) (vk := vk_t) (vs := vs_t) (fun hk1 hn1 hm1 => ?_)
  refine go_openCL (l := (t).r) (a := vr_t) (fun hl2 hA2 hU2 => ?_)
  refine go_openTL (ts := (t).kids) (a := vk_t) (fun VR3 VK3 VS3 hl3 hA3 => ?_)
  refine go_openBL (bs := (t).sys) (a := vs_t) (fun VF4 VK4 hl4 hA4 => ?_)
  refine go_seq ?_
  refine go_region ⟨_, Try.func51⟩ rfl ?_
  refine q0 rfl (o_box fun b2 => ?_)
  refine q0 rfl (o_assign ?_)
  refine rg_nil ?_
  refine go_seq ?_
  refine go_seq ?_
  refine go_cutS ([(1, .int .i64 (n)), (2, .pointer (some ⟨b2, 0, none⟩)), (22, .bool ((decide (((t).kind) = 1)) && (decide (((t).n) = n))))]) (fun hK => ?_) (fun base => ?_)
  · refine go_region ⟨_, Try.func51⟩ rfl ?_
    refine q0 rfl (o_fa ?_)
    refine q0 rfl (o_ld ?_)
    refine q0 rfl (o_eqI ?_)
    refine q0 rfl (o_move ?_)
    refine qI rfl rfl rfl wl_ (fun hg17 => ?_) (fun hg17 => ?_)
    · have g17 : (decide (((t).kind) = 1)) = true := hg17
      try simp only [sC, bne_iff_ne, beq_iff_eq, ne_eq] at g17
      refine o_fa ?_
      refine qT rfl rfl rfl (o_ld ?_)
      refine qT rfl rfl rfl (o_move ?_)
      refine qT rfl rfl rfl (o_eqI ?_)
      refine q0 rfl (o_pickT ?_)
      refine rg_nil ?_
      exact hK _ ⟨rfl, rfl, dn_, trivial⟩
    · have g17 : (decide (((t).kind) = 1)) = false := hg17
      try simp only [sC, bne_iff_ne, beq_iff_eq, ne_eq] at g17
      refine qF rfl rfl rfl ?_
      refine qF rfl rfl rfl ?_
      refine qF rfl rfl rfl ?_
      refine q0 rfl (o_pickF ?_)
      refine rg_nil ?_
      exact hK _ ⟨rfl, rfl, dn_, trivial⟩
  · refine go_condI (fun h22 => ?_) (fun h22 => ?_)
    · have c22 : ((decide (((t).kind) = 1)) && (decide (((t).n) = n))) = true := h22
      try simp only [sC, bne_iff_ne, beq_iff_eq, ne_eq] at c22
      have hg : countT t n = 1 := (by rw [countT_eq, if_pos (by simpa using h22)])
      refine go_seq ?_
      refine go_region ⟨_, Try.func51⟩ rfl ?_
      refine q0 rfl (o_assign ?_)
      refine rg_nil ?_
      refine ret1 Try.func51 Try.results51 wn_ () (by rw [hg]) (fun w hs => hs.none)
    · have c22 : ((decide (((t).kind) = 1)) && (decide (((t).n) = n))) = false := h22
      try simp only [sC, bne_iff_ne, beq_iff_eq, ne_eq] at c22
      have hmiss : ¬ (t.kind = 1 ∧ t.n = n) := (by simpa using h22)
      refine go_skip ?_
      refine go_seq ?_
      refine go_region ⟨_, Try.func51⟩ rfl ?_
      refine q0 rfl (o_assign ?_)
      refine rg_nil ?_
      refine go_seq ?_
      refine go_seq ?_
      refine go_region ⟨_, Try.func51⟩ rfl ?_
      refine q0 rfl (o_fa ?_)
      refine q0 rfl (o_ld ?_)
      refine q0 rfl (o_len ?_)
      refine q0 rfl (o_move ?_)
      refine rg_nil ?_
      refine go_block ?_
      refine go_loopE (X := Nat) (fun s_ => s_ ≤ t.kids.length) (fun s_ => [(1, .int .i64 (n)), (2, .pointer (some ⟨b2, 0, none⟩)), (5, .int .i64 ((cntA t n s_))), (24, sl vk_t ((t).kids.length)), (25, .int .i64 (((t).kids.length : Int))), (26, .int .i64 ((s_ : Int)))]) (fun s_ G_ => G_) (fun s_ => [boxR b2 (tc t vr_t vk_t vs_t) 26]) (fun s_ => t.kids.length - s_) (0) (by omega) (by exact ⟨rfl, rfl, (by (conv => lhs; whnf); rw [cntA_zero]), rfl, rfl, rfl, trivial⟩) ?_ ?_
      · exact fun w hs => hs
      · intro i base0 hi0 next0
        refine go_seq ?_
        refine go_region ⟨_, Try.func51⟩ rfl ?_
        refine q0 rfl (o_lss ?_)
        refine rg_nil ?_
        refine go_seq ?_
        refine go_condI (fun h27 => ?_) (fun h27 => ?_)
        · have c27 : (decide ((i : Int) < ((t).kids.length : Int))) = true := h27
          try simp only [sC, bne_iff_ne, beq_iff_eq, ne_eq] at c27
          have hbi := binds_01 t.kind i
          have hsk := size_kid_lt (t := t) (i := i) (by omega)
          have hca := cntA_in t n i
          have hca2 := cntA_in t n (i + 1)
          rw [cntA_succ (by omega)] at hca2
          refine go_skip ?_
          refine go_seq ?_
          refine go_block ?_
          refine go_seq ?_
          refine go_kid (ts := (t).kids) (a := vk_t) (VR := VR3) (VK := VK3) (VS := VS3) i (by omega) ?_
          refine go_region ⟨_, Try.func51⟩ rfl ?_
          refine q0 rfl (o_move ?_)
          obtain ⟨bk5, o5, hav5⟩ := hA3 (by omega)
          refine q0 rfl (o_ixN ?_ (j := i))
          refine q0 rfl (o_ldT ?_)
          refine q0 rfl (o_new fun b7 => ?_)
          refine q0 rfl (o_assign ?_)
          refine q0 rfl (o_st ?_)
          refine rg_nil ?_
          refine go_seq ?_
          refine go_region ⟨_, Try.func51⟩ rfl ?_
          refine q0 rfl (o_fa ?_)
          refine q0 rfl (o_ld ?_)
          refine q0 rfl (o_move ?_)
          refine q0 rfl (o_call Try.call44 (binds_spec ((t).kind) (i : Int) ) (fun x35 => ?_))
          refine q0 rfl (o_move ?_)
          refine q0 rfl (o_extract ?_)
          refine q0 rfl (o_extract ?_)
          refine q0 rfl (o_assign ?_)
          refine q0 rfl (o_assign ?_)
          refine rg_nil ?_
          refine go_region ⟨_, Try.func51⟩ rfl ?_
          refine q0 rfl (o_move ?_)
          refine q0 rfl (o_lds ?_)
          refine q0 rfl (o_move ?_)
          refine q0 rfl (o_move ?_)
          refine q0 rfl (o_add ?_)
          refine q0 rfl (o_call Try.call51 ((ihk (((t).kids).getD i t0) (getD_mem (show i < ((t).kids).length by omega))) (VR3 i) (VK3 i) (VS3 i) (n + ((binds ((t).kind) (i : Int)).1)) (by omega) (by omega)) (fun x43 => ?_))
          refine q0 rfl (o_add ?_)
          refine q0 rfl (o_assign ?_)
          refine rg_nil ?_
          refine go_inBlock ?_
          refine go_region ⟨_, Try.func51⟩ rfl ?_
          refine q0 rfl (o_add ?_)
          refine q0 rfl (o_move ?_)
          refine rg_nil ?_
          refine go_state (fun w hs => ?_) (next0 (i + 1) _ (by omega) (by omega) ⟨rfl, rfl, (by (conv => lhs; whnf); rw [cntA_succ (by omega)]), rfl, rfl, rfl, trivial⟩)
          exact (((hs.less (by simp +contextual)).perm perm1).dropR (A := [_]))
        · have c27 : (decide ((i : Int) < ((t).kids.length : Int))) = false := h27
          try simp only [sC, bne_iff_ne, beq_iff_eq, ne_eq] at c27
          have hei : i = t.kids.length := by omega
          refine go_exit rfl ?_
          refine go_seq ?_
          refine go_seq ?_
          refine go_region ⟨_, Try.func51⟩ rfl ?_
          refine q0 rfl (o_fa ?_)
          refine q0 rfl (o_ld ?_)
          refine q0 rfl (o_len ?_)
          refine q0 rfl (o_move ?_)
          refine rg_nil ?_
          refine go_block ?_
          refine go_loopE (X := Nat) (fun s_ => s_ ≤ t.sys.length) (fun s_ => [(1, .int .i64 (n)), (5, .int .i64 ((cntB t n s_))), (47, sl vs_t ((t).sys.length)), (48, .int .i64 (((t).sys.length : Int))), (49, .int .i64 ((s_ : Int)))]) (fun s_ G_ => G_) (fun s_ => [boxR b2 (tc t vr_t vk_t vs_t) 26]) (fun s_ => t.sys.length - s_) (0) (by omega) (by exact ⟨rfl, (by (conv => lhs; whnf); rw [cntB_zero, ← hei]), rfl, rfl, rfl, trivial⟩) ?_ ?_
          · exact fun w hs => hs
          · intro s base1 hi1 next1
            refine go_seq ?_
            refine go_region ⟨_, Try.func51⟩ rfl ?_
            refine q0 rfl (o_lss ?_)
            refine rg_nil ?_
            refine go_seq ?_
            refine go_condI (fun h50 => ?_) (fun h50 => ?_)
            · have c50 : (decide ((s : Int) < ((t).sys.length : Int))) = true := h50
              try simp only [sC, bne_iff_ne, beq_iff_eq, ne_eq] at c50
              refine go_skip ?_
              refine go_seq ?_
              refine go_block ?_
              refine go_seq ?_
              refine go_branch (bs := (t).sys) (a := vs_t) (VF := VF4) (VK := VK4) s (by omega) ?_
              refine go_openCL (l := (((t).sys).getD s br0).face) (a := VF4 s) (fun hl6 hA6 hU6 => ?_)
              refine go_openTL (ts := (((t).sys).getD s br0).kids) (a := VK4 s) (fun VR7 VK7 VS7 hl7 hA7 => ?_)
              refine go_region ⟨_, Try.func51⟩ rfl ?_
              obtain ⟨bk8, o8, hav8⟩ := hA4 (by omega)
              refine q0 rfl (o_ixN ?_ (j := s))
              refine q0 rfl (o_ldB ?_)
              refine q0 rfl (o_new fun b11 => ?_)
              refine q0 rfl (o_st ?_)
              refine rg_nil ?_
              refine go_seq ?_
              refine go_region ⟨_, Try.func51⟩ rfl ?_
              refine q0 rfl (o_fa ?_)
              refine q0 rfl (o_ld ?_)
              refine q0 rfl (o_len ?_)
              refine q0 rfl (o_move ?_)
              refine rg_nil ?_
              refine go_block ?_
              refine go_loopE (X := Nat) (fun s_ => s_ ≤ (t.sys.getD s br0).kids.length) (fun s_ => [(1, .int .i64 (n)), (5, .int .i64 ((cntC t n s s_))), (47, sl vs_t ((t).sys.length)), (48, .int .i64 (((t).sys.length : Int))), (49, .int .i64 ((s : Int))), (54, sl (VK4 s) ((((t).sys).getD s br0).kids.length)), (55, .int .i64 (((((t).sys).getD s br0).kids.length : Int))), (56, .int .i64 ((s_ : Int)))]) (fun s_ G_ => G_) (fun s_ => [boxR b11 (bc (((t).sys).getD s br0) (VF4 s) (VK4 s)) 63, boxR b2 (tc t vr_t vk_t vs_t) 26]) (fun s_ => (t.sys.getD s br0).kids.length - s_) (0) (by omega) (by exact ⟨rfl, (by (conv => lhs; whnf); rw [cntC_zero]), rfl, rfl, rfl, rfl, rfl, rfl, trivial⟩) ?_ ?_
              · exact fun w hs => hs
              · intro k base2 hi2 next2
                refine go_seq ?_
                refine go_region ⟨_, Try.func51⟩ rfl ?_
                refine q0 rfl (o_lss ?_)
                refine rg_nil ?_
                refine go_seq ?_
                refine go_condI (fun h57 => ?_) (fun h57 => ?_)
                · have c57 : (decide ((k : Int) < ((((t).sys).getD s br0).kids.length : Int))) = true := h57
                  try simp only [sC, bne_iff_ne, beq_iff_eq, ne_eq] at c57
                  have hslt : s < t.sys.length := by omega
                  have hsk := size_sys_lt (t := t) hslt (k := k) (by omega)
                  have hca := cntC_in (t := t) (m := n) hslt k
                  have hca2 := cntC_in (t := t) (m := n) hslt (k + 1)
                  rw [cntC_succ (by omega)] at hca2
                  refine go_skip ?_
                  refine go_seq ?_
                  refine go_block ?_
                  refine go_seq ?_
                  refine go_kid (ts := (((t).sys).getD s br0).kids) (a := VK4 s) (VR := VR7) (VK := VK7) (VS := VS7) k (by omega) ?_
                  refine go_region ⟨_, Try.func51⟩ rfl ?_
                  obtain ⟨bk9, o9, hav9⟩ := hA7 (by omega)
                  refine q0 rfl (o_ixN ?_ (j := k))
                  refine q0 rfl (o_ldT ?_)
                  refine q0 rfl (o_new fun b13 => ?_)
                  refine q0 rfl (o_st ?_)
                  refine rg_nil ?_
                  refine go_region ⟨_, Try.func51⟩ rfl ?_
                  refine q0 rfl (o_move ?_)
                  refine q0 rfl (o_lds ?_)
                  refine q0 rfl (o_move ?_)
                  refine q0 rfl (o_call Try.call51 ((ihs (((t).sys).getD s br0) (getD_mem (show s < ((t).sys).length by omega)) (((((t).sys).getD s br0).kids).getD k t0) (getD_mem (show k < ((((t).sys).getD s br0).kids).length by omega))) (VR7 k) (VK7 k) (VS7 k) n (by omega) (by omega)) (fun x63 => ?_))
                  refine q0 rfl (o_add ?_)
                  refine q0 rfl (o_assign ?_)
                  refine rg_nil ?_
                  refine go_inBlock ?_
                  refine go_region ⟨_, Try.func51⟩ rfl ?_
                  refine q0 rfl (o_add ?_)
                  refine q0 rfl (o_move ?_)
                  refine rg_nil ?_
                  refine go_state (fun w hs => ?_) (next2 (k + 1) _ (by omega) (by omega) ⟨rfl, (by (conv => lhs; whnf); rw [cntC_succ (by omega)]), rfl, rfl, rfl, rfl, rfl, rfl, trivial⟩)
                  exact ((((hs.less (by simp +contextual)).perm perm2).perm perm2).dropR (A := [_, _]))
                · have c57 : (decide ((k : Int) < ((((t).sys).getD s br0).kids.length : Int))) = false := h57
                  try simp only [sC, bne_iff_ne, beq_iff_eq, ne_eq] at c57
                  have hek : k = (t.sys.getD s br0).kids.length := by omega
                  refine go_exit rfl ?_
                  refine go_inBlock ?_
                  refine go_region ⟨_, Try.func51⟩ rfl ?_
                  refine q0 rfl (o_add ?_)
                  refine q0 rfl (o_move ?_)
                  refine rg_nil ?_
                  refine go_state (fun w hs => ?_) (next1 (s + 1) _ (by omega) (by omega) ⟨rfl, (by (conv => lhs; whnf); rw [hek, cntC_all (by omega)]), rfl, rfl, rfl, trivial⟩)
                  exact (((hs.less (by simp +contextual)).perm perm1).dropR (A := [_]))
            · have c50 : (decide ((s : Int) < ((t).sys.length : Int))) = false := h50
              try simp only [sC, bne_iff_ne, beq_iff_eq, ne_eq] at c50
              have hes : s = t.sys.length := by omega
              refine go_exit rfl ?_
              refine go_seq ?_
              refine go_region ⟨_, Try.func51⟩ rfl ?_
              refine q0 rfl (o_move ?_)
              refine q0 rfl (o_assign ?_)
              refine rg_nil ?_
              refine ret1 Try.func51 Try.results51 wn_ () (by rw [hes, cntB_all hmiss]) (fun w hs => hs.none)
theorem pcount_spec : ∀ t : T, PcountAt t := T.ind' fun t ihk ihs vr_t vk_t vs_t n hz hn => pcount_walk t ihk ihs vr_t vk_t vs_t n hz hn
def plugCount (t : T) (n : Int) : Int × Int := if formedP t ≠ 0 then (0, formedP t) else if n < 0 then (0, 2) else (countT t (lid n), 0)
theorem plugCount_spec (t : T) (vr_t vk_t vs_t : SH) (n : Int) (hn : in64 n) (hz : size t ≤ 1152921504606846) : Spec Try.prog 50 #[.agg (tc t vr_t vk_t vs_t).toArray, .int .i64 (n)] [RT t vr_t vk_t vs_t] [] (fun _ : Unit => .tuple #[.int .i64 ((plugCount t n).1), .int .i64 ((plugCount t n).2)]) (fun _ : Unit => []) (fun _ : Unit => []) := by
  refine spec_go (args := [.agg (tc t vr_t vk_t vs_t).toArray, .int .i64 (n)]) Try.func50 Try.ntmps50 rfl (by exact Nat.le_of_ble_eq_true rfl) fun B hB => ?_
  refine go_seq ?_
  refine go_region ⟨_, Try.func50⟩ rfl ?_
  refine q0 rfl (o_box fun b2 => ?_)
  refine q0 rfl (o_assign ?_)
  refine q0 rfl (o_assign ?_)
  refine rg_nil ?_
  refine go_seq ?_
  refine go_seq ?_
  refine go_region ⟨_, Try.func50⟩ rfl ?_
  refine q0 rfl (o_lds ?_)
  refine q0 rfl (o_call Try.call10 (formed_spec t (.inr form_spec) vr_t vk_t vs_t om_) (fun x8 => ?_))
  refine q0 rfl (o_assign ?_)
  refine rg_nil ?_
  refine go_seq ?_
  refine go_region ⟨_, Try.func50⟩ rfl ?_
  refine q0 rfl (o_move ?_)
  refine q0 rfl (o_neI ?_)
  refine rg_nil ?_
  refine go_condI (fun h10 => ?_) (fun h10 => ?_)
  · have c10 : (decide ((formedP t) ≠ 0)) = true := h10
    try simp only [sC, bne_iff_ne, beq_iff_eq, ne_eq] at c10
    have hg : plugCount t n = (0, formedP t) := (by unfold plugCount; rw [if_pos (by simpa using h10)])
    refine go_seq ?_
    refine go_region ⟨_, Try.func50⟩ rfl ?_
    refine q0 rfl (o_move ?_)
    refine q0 rfl (o_assign ?_)
    refine q0 rfl (o_assign ?_)
    refine rg_nil ?_
    refine ret2 Try.func50 Try.results50 wn_ wn_ () (by rw [hg]) (fun w hs => hs.none)
  · have c10 : (decide ((formedP t) ≠ 0)) = false := h10
    try simp only [sC, bne_iff_ne, beq_iff_eq, ne_eq] at c10
    have hf0 : formedP t = 0 := (by simpa using h10)
    have hfz := formed_size hf0
    refine go_skip ?_
    refine go_seq ?_
    refine go_seq ?_
    refine go_region ⟨_, Try.func50⟩ rfl ?_
    refine q0 rfl (o_move ?_)
    refine q0 rfl (o_lss ?_)
    refine rg_nil ?_
    refine go_condI (fun h13 => ?_) (fun h13 => ?_)
    · have c13 : (decide (n < 0)) = true := h13
      try simp only [sC, bne_iff_ne, beq_iff_eq, ne_eq] at c13
      have hg : plugCount t n = (0, 2) := (by unfold plugCount; rw [if_neg (by simp [hf0]), if_pos (by simpa using h13)])
      refine go_seq ?_
      refine go_region ⟨_, Try.func50⟩ rfl ?_
      refine q0 rfl (o_assign ?_)
      refine q0 rfl (o_assign ?_)
      refine rg_nil ?_
      refine ret2 Try.func50 Try.results50 wn_ wn_ () (by rw [hg]) (fun w hs => hs.none)
    · have c13 : (decide (n < 0)) = false := h13
      try simp only [sC, bne_iff_ne, beq_iff_eq, ne_eq] at c13
      have hg : plugCount t n = (countT t (lid n), 0) := (by unfold plugCount; rw [if_neg (by simp [hf0]), if_neg (by simpa using h13)])
      have hlid : 0 ≤ lid n ∧ lid n ≤ 1099511627776 := (by unfold lid; split <;> omega)
      refine go_skip ?_
      refine go_seq ?_
      refine go_region ⟨_, Try.func50⟩ rfl ?_
      refine q0 rfl (o_lds ?_)
      refine q0 rfl (o_move ?_)
      refine q0 rfl (o_min ?_)
      refine q0 rfl (o_call Try.call51 (pcount_spec t vr_t vk_t vs_t (if 1099511627776 < n then 1099511627776 else n) (by omega) (by omega)) (fun x17 => ?_))
      refine q0 rfl (o_assign ?_)
      refine q0 rfl (o_assign ?_)
      refine rg_nil ?_
      refine ret2 Try.func50 Try.results50 wn_ wn_ () (by rw [hg]) (fun w hs => hs.none)
theorem putF {n : Int} {u : T} : ∀ t : T, PutF n u t := T.ind' fun t ihk ihs vr vk vs ur uk us v d h1 h2 h3 h4 h5 => put_walk t vr vk vs n u ur uk us v d ihk ihs h1 h2 h3 h4 h5
theorem plugAt_walk (t : T) (vr_t vk_t vs_t : SH) (n : Int) (u : T) (vr_u vk_u vs_u : SH) (hn : in64 n) (hz : size t ≤ 1152921504606846) (hzu : size u ≤ 1152921504606846) : Spec Try.prog 27 #[.agg (tc t vr_t vk_t vs_t).toArray, .int .i64 (n), .agg (tc u vr_u vk_u vs_u).toArray] [RT t vr_t vk_t vs_t, RT u vr_u vk_u vs_u] [] (fun x : SH × SH × SH => .tuple #[.agg (tc (plugRes t n u).2 x.1 x.2.1 x.2.2).toArray, .int .i64 (plugRes t n u).1]) (fun x : SH × SH × SH => [RT (plugRes t n u).2 x.1 x.2.1 x.2.2]) (fun x : SH × SH × SH => []) := by
  refine spec_go (args := [.agg (tc t vr_t vk_t vs_t).toArray, .int .i64 (n), .agg (tc u vr_u vk_u vs_u).toArray]) Try.func27 Try.ntmps27 rfl (by exact Nat.le_of_ble_eq_true rfl) fun B hB => ?_
  refine go_seq ?_
  refine go_region ⟨_, Try.func27⟩ rfl ?_
  refine q0 rfl (o_box fun b3 => ?_)
  refine q0 rfl (o_box fun b5 => ?_)
  refine q0 rfl (o_new fun b6 => ?_)
  refine q0 rfl (o_new fun b7 => ?_)
  refine rg_nil ?_
  refine go_seq ?_
  refine go_seq ?_
  refine go_region ⟨_, Try.func27⟩ rfl ?_
  refine q0 rfl (o_lds ?_)
  refine q0 rfl (o_call Try.call10 (formed_spec t (.inr form_spec) vr_t vk_t vs_t om_) (fun x11 => ?_))
  refine q0 rfl (o_assign ?_)
  refine rg_nil ?_
  refine go_seq ?_
  refine go_region ⟨_, Try.func27⟩ rfl ?_
  refine q0 rfl (o_move ?_)
  refine q0 rfl (o_neI ?_)
  refine rg_nil ?_
  refine go_condI (fun h13 => ?_) (fun h13 => ?_)
  · have c13 : (decide ((formedP t) ≠ 0)) = true := h13
    try simp only [sC, bne_iff_ne, beq_iff_eq, ne_eq] at c13
    have hg : plugRes t n u = (formedP t, t0) := plugRes_t (by simpa using h13)
    refine go_seq ?_
    refine go_region ⟨_, Try.func27⟩ rfl ?_
    refine q0 rfl (o_build (cs := [.int .i64 (0), .int .i64 (0), .string ((ByteArray.mk #[])), sl (none, 0) (0), sl (none, 0) (0), sl (none, 0) (0)]) ?_)
    refine q0 rfl (o_move ?_)
    refine q0 rfl (o_st ?_)
    refine q0 rfl (o_st ?_)
    refine rg_nil ?_
    refine retCC Try.func27 Try.results27 (nul, nul, nul) rfl rfl mm_ mm_ rfl rfl rfl rfl rfl (by show _ = Value.tuple #[.agg (tc (plugRes t n u).2 nul nul nul).toArray, .int .i64 (plugRes t n u).1]; rw [hg]; rfl) (fun w hs => ?_)
    exact (hs.bare.zeroRT.less (by rw [hg]; simp))
  · have c13 : (decide ((formedP t) ≠ 0)) = false := h13
    try simp only [sC, bne_iff_ne, beq_iff_eq, ne_eq] at c13
    have hf0 : formedP t = 0 := (by simpa using h13)
    have hfz := formed_size hf0
    have hfine := (formed_fine.mp hf0).2
    refine go_skip ?_
    refine go_seq ?_
    refine go_seq ?_
    refine go_region ⟨_, Try.func27⟩ rfl ?_
    refine q0 rfl (o_lds ?_)
    refine q0 rfl (o_call Try.call10 (formed_spec u (.inr form_spec) vr_u vk_u vs_u om_) (fun x17 => ?_))
    refine q0 rfl (o_assign ?_)
    refine rg_nil ?_
    refine go_seq ?_
    refine go_region ⟨_, Try.func27⟩ rfl ?_
    refine q0 rfl (o_move ?_)
    refine q0 rfl (o_neI ?_)
    refine rg_nil ?_
    refine go_condI (fun h19 => ?_) (fun h19 => ?_)
    · have c19 : (decide ((formedP u) ≠ 0)) = true := h19
      try simp only [sC, bne_iff_ne, beq_iff_eq, ne_eq] at c19
      have hg : plugRes t n u = (formedP u, t0) := plugRes_u hf0 (by simpa using h19)
      refine go_seq ?_
      refine go_region ⟨_, Try.func27⟩ rfl ?_
      refine q0 rfl (o_build (cs := [.int .i64 (0), .int .i64 (0), .string ((ByteArray.mk #[])), sl (none, 0) (0), sl (none, 0) (0), sl (none, 0) (0)]) ?_)
      refine q0 rfl (o_move ?_)
      refine q0 rfl (o_st ?_)
      refine q0 rfl (o_st ?_)
      refine rg_nil ?_
      refine retCC Try.func27 Try.results27 (nul, nul, nul) rfl rfl mm_ mm_ rfl rfl rfl rfl rfl (by show _ = Value.tuple #[.agg (tc (plugRes t n u).2 nul nul nul).toArray, .int .i64 (plugRes t n u).1]; rw [hg]; rfl) (fun w hs => ?_)
      exact (hs.bare.zeroRT.less (by rw [hg]; simp))
    · have c19 : (decide ((formedP u) ≠ 0)) = false := h19
      try simp only [sC, bne_iff_ne, beq_iff_eq, ne_eq] at c19
      have hfu : formedP u = 0 := (by simpa using h19)
      have hfzu := formed_size hfu
      refine go_skip ?_
      refine go_seq ?_
      refine go_seq ?_
      refine go_region ⟨_, Try.func27⟩ rfl ?_
      refine q0 rfl (o_move ?_)
      refine q0 rfl (o_lss ?_)
      refine rg_nil ?_
      refine go_condI (fun h23 => ?_) (fun h23 => ?_)
      · have c23 : (decide (n < 0)) = true := h23
        try simp only [sC, bne_iff_ne, beq_iff_eq, ne_eq] at c23
        have hg : plugRes t n u = (2, t0) := plugRes_n hf0 hfu (by simpa using h23)
        refine go_seq ?_
        refine go_region ⟨_, Try.func27⟩ rfl ?_
        refine q0 rfl (o_build (cs := [.int .i64 (0), .int .i64 (0), .string ((ByteArray.mk #[])), sl (none, 0) (0), sl (none, 0) (0), sl (none, 0) (0)]) ?_)
        refine q0 rfl (o_st ?_)
        refine q0 rfl (o_st ?_)
        refine rg_nil ?_
        refine retCC Try.func27 Try.results27 (nul, nul, nul) rfl rfl mm_ mm_ rfl rfl rfl rfl rfl (by show _ = Value.tuple #[.agg (tc (plugRes t n u).2 nul nul nul).toArray, .int .i64 (plugRes t n u).1]; rw [hg]; rfl) (fun w hs => ?_)
        exact (hs.bare.zeroRT.less (by rw [hg]; simp))
      · have c23 : (decide (n < 0)) = false := h23
        try simp only [sC, bne_iff_ne, beq_iff_eq, ne_eq] at c23
        have hn0 : ¬ n < 0 := (by simpa using h23)
        have hlid : 0 ≤ lid n ∧ lid n ≤ 1099511627776 := (by unfold lid; split <;> omega)
        have hcg := count_ge t (lid n)
        have hcl := count_le t (lid n)
        have hsu := size_pos' u
        have hm0 : 0 ≤ countT t (lid n) * ((size u : Int) - 1) := Int.mul_nonneg hcg (by omega)
        have hm1 : countT t (lid n) * ((size u : Int) - 1) ≤ 20000 * 20000 := Int.mul_le_mul (by omega) (by omega) (by omega) (by omega)
        have hm2 : 0 ≤ countT t (if 1099511627776 < n then 1099511627776 else n) * ((size u : Int) - 1) := hm0
        have hm3 : countT t (if 1099511627776 < n then 1099511627776 else n) * ((size u : Int) - 1) ≤ 20000 * 20000 := hm1
        refine go_skip ?_
        refine go_seq ?_
        refine go_region ⟨_, Try.func27⟩ rfl ?_
        refine q0 rfl (o_move ?_)
        refine q0 rfl (o_min ?_)
        refine q0 rfl (o_assign ?_)
        refine rg_nil ?_
        refine go_seq ?_
        refine go_seq ?_
        refine go_draw (pn := 1000000) (tn := false) (A := [0, 1, 0, 0, 15, 0, 63, 127, 255, 511, 1023]) (l := [0, 2, 3, 5, 1, 4, 6, 7, 8, 9, 10]) (fin := []) Tab.mixed ⟨_, Try.func27⟩ (by rfl) ?_
        refine n0 rfl (v_lds ?_)
        refine n0 rfl (v_lds ?_)
        refine n0 rfl (v_move ?_)
        refine n0 rfl (v_lds ?_)
        refine n0 rfl (v_call Try.call18 (size_spec t om_ vr_t vk_t vs_t) (fun x28 => ?_))
        refine n0 rfl (v_call Try.call51 (pcount_spec t vr_t vk_t vs_t (if 1099511627776 < n then 1099511627776 else n) (by omega) (by omega)) (fun x31 => ?_))
        refine n0 rfl (v_call Try.call18 (size_spec u om_ vr_u vk_u vs_u) (fun x33 => ?_))
        refine n0 rfl (v_sub ?_)
        refine n0 rfl (v_mul ?_)
        refine n0 rfl (v_add ?_)
        refine n0 rfl (v_gtr ?_)
        refine NV.done ?_
        refine rg_nil ?_
        refine go_condI (fun h37 => ?_) (fun h37 => ?_)
        · have c37 : (decide (20000 < ((size t : Int) + ((countT t (if 1099511627776 < n then 1099511627776 else n)) * ((size u : Int) - 1))))) = true := h37
          try simp only [sC, bne_iff_ne, beq_iff_eq, ne_eq] at c37
          have hg : plugRes t n u = (221, t0) := plugRes_size hf0 hfu hn0 (by simpa using h37)
          refine go_seq ?_
          refine go_region ⟨_, Try.func27⟩ rfl ?_
          refine q0 rfl (o_build (cs := [.int .i64 (0), .int .i64 (0), .string ((ByteArray.mk #[])), sl (none, 0) (0), sl (none, 0) (0), sl (none, 0) (0)]) ?_)
          refine q0 rfl (o_st ?_)
          refine q0 rfl (o_st ?_)
          refine rg_nil ?_
          refine retCC Try.func27 Try.results27 (nul, nul, nul) rfl rfl mm_ mm_ rfl rfl rfl rfl rfl (by show _ = Value.tuple #[.agg (tc (plugRes t n u).2 nul nul nul).toArray, .int .i64 (plugRes t n u).1]; rw [hg]; rfl) (fun w hs => ?_)
          exact (hs.bare.zeroRT.less (by rw [hg]; simp))
        · have c37 : (decide (20000 < ((size t : Int) + ((countT t (if 1099511627776 < n then 1099511627776 else n)) * ((size u : Int) - 1))))) = false := h37
          try simp only [sC, bne_iff_ne, beq_iff_eq, ne_eq] at c37
          have hfit : ¬ 20000 < (size t : Int) + countT t (lid n) * ((size u : Int) - 1) := (by simpa using h37)
          refine go_skip ?_
          refine go_seq ?_
          refine go_region ⟨_, Try.func27⟩ rfl ?_
          refine q0 rfl (o_func ?_)
          refine q0 rfl (o_defer ?_)
          refine rg_nil ?_
          refine go_seq ?_
          refine go_res (trav (plugTr (lid n) u) t (0, 0)) (fun g13_3 hg13_3 => ?_) (fun e13_3 he13_3 => ?_)
          · have hpsz := plug_size hfine hg13_3
            rw [show lid n + ((0, 0) : Int × Int).1 = lid n from Int.add_zero _] at hpsz
            have hgz : size g13_3 ≤ 20000 := by omega
            refine go_region ⟨_, Try.func27⟩ rfl ?_
            refine q0 rfl (o_lds ?_)
            refine q0 rfl (o_move ?_)
            refine q0 rfl (o_lds ?_)
            refine q0 rfl (o_call Try.call53 ((putF t vr_t vk_t vs_t vr_u vk_u vs_u 0 0 hfine hlid (by omega) (by omega) (by omega)).1 g13_3 hg13_3) (fun x43 => ?_))
            refine q0 rfl (o_st ?_)
            refine rg_nil ?_
            refine go_seq ?_
            refine go_seq ?_
            refine go_region ⟨_, Try.func27⟩ rfl ?_
            refine q0 rfl (o_lds ?_)
            refine q0 rfl (o_call Try.call54 (depth_spec g13_3 om_ x43.1 x43.2.1 x43.2.2) (fun x45 => ?_))
            refine q0 rfl (o_gtr ?_)
            refine rg_nil ?_
            refine go_condI (fun h46 => ?_) (fun h46 => ?_)
            · have c46 : (decide (200 < (depth g13_3 : Int))) = true := h46
              try simp only [sC, bne_iff_ne, beq_iff_eq, ne_eq] at c46
              have hg : plugRes t n u = (62, t0) := plugRes_deep hf0 hfu hn0 hfit hg13_3 (by have h9 : (200 : Int) < (depth g13_3 : Int) := (by simpa using h46); omega)
              refine go_seq ?_
              refine go_region ⟨_, Try.func27⟩ rfl ?_
              refine q0 rfl (o_build (cs := [.int .i64 (0), .int .i64 (0), .string ((ByteArray.mk #[])), sl (none, 0) (0), sl (none, 0) (0), sl (none, 0) (0)]) ?_)
              refine q0 rfl (o_st ?_)
              refine q0 rfl (o_st ?_)
              refine rg_nil ?_
              refine retDCC Try.func27 Try.results27 Try.call52 (plugAtN b6 b7) (nul, nul, nul) rfl rfl mm_ mm_ rfl rfl rfl rfl rfl (by show _ = Value.tuple #[.agg (tc (plugRes t n u).2 nul nul nul).toArray, .int .i64 (plugRes t n u).1]; rw [hg]; rfl) (fun w hs => ?_)
              exact (hs.bare.zeroRT.less (by rw [hg]; simp))
            · have c46 : (decide (200 < (depth g13_3 : Int))) = false := h46
              try simp only [sC, bne_iff_ne, beq_iff_eq, ne_eq] at c46
              have hg : plugRes t n u = (0, g13_3) := plugRes_ok hf0 hfu hn0 hfit hg13_3 (by have h9 : ¬ (200 : Int) < (depth g13_3 : Int) := (by simpa using h46); omega)
              refine go_skip ?_
              refine go_seq ?_
              refine go_region ⟨_, Try.func27⟩ rfl ?_
              refine q0 rfl (o_lds ?_)
              refine q0 rfl (o_st ?_)
              refine q0 rfl (o_st ?_)
              refine rg_nil ?_
              refine retDCC Try.func27 Try.results27 Try.call52 (plugAtN b6 b7) (x43.1, x43.2.1, x43.2.2) rfl rfl mm_ mm_ rfl rfl rfl rfl rfl (by show _ = Value.tuple #[.agg (tc (plugRes t n u).2 x43.1 x43.2.1 x43.2.2).toArray, .int .i64 (plugRes t n u).1]; rw [hg]; rfl) (fun w hs => ?_)
              exact (hs.bare.less (by rw [hg]; simp))
          · have hg := plugRes_bad hf0 hfu hn0 hfit he13_3
            refine go_region ⟨_, Try.func27⟩ rfl ?_
            refine q0 rfl (o_lds ?_)
            refine q0 rfl (o_move ?_)
            refine q0 rfl (o_lds ?_)
            refine q0 rfl (panDCC (Ms2 := [boxR b5 (tc u vr_u vk_u vs_u) 26, boxR b3 (tc t vr_t vk_t vs_t) 26]) (enterE rfl rfl Try.call53) ((putF t vr_t vk_t vs_t vr_u vk_u vs_u 0 0 hfine hlid (by omega) (by omega) (by omega)).2 e13_3 he13_3) (by simp) Try.func27 Try.results27 Try.call52 (plugAtP b6 b7 e13_3 []) rfl (by exact perm1) (nul, nul, nul) rfl rfl rfl rfl rfl rfl rfl (by show _ = Value.tuple #[.agg (tc (plugRes t n u).2 nul nul nul).toArray, .int .i64 (plugRes t n u).1]; rw [hg]; rfl) (fun w hs => by exact (hs.bare.zeroRT.less (by rw [hg]; simp))))
end Go.Hy
namespace Go.Hy
set_option linter.unusedVariables false
set_option linter.unusedSimpArgs false
set_option linter.unusedSectionVars false
open Go.Proofs
set_option linter.unusedVariables false
set_option linter.unusedSimpArgs false
set_option maxRecDepth 100000
theorem plugAtH (t : T) (vr vk vs : SH) (n : Int) (u : T) (ur uk us : SH) (hn : in64 n) (hz : size t ≤ 1152921504606846) (hzu : size u ≤ 1152921504606846) : Spec Try.prog 27 #[.agg (tc t vr vk vs).toArray, .int .i64 n, .agg (tc u ur uk us).toArray] [RT t vr vk vs, RT u ur uk us] [] (fun x : {x : (Int × T) × (SH × SH × SH) // x.1 = plugRes t n u} => .tuple #[.agg (tc x.1.1.2 x.1.2.1 x.1.2.2.1 x.1.2.2.2).toArray, .int .i64 x.1.1.1]) (fun x => [RT x.1.1.2 x.1.2.1 x.1.2.2.1 x.1.2.2.2]) (fun _ => []) :=
  Spec.hide (plugRes t n u) (val := fun (r : Int × T) (x : SH × SH × SH) => .tuple #[.agg (tc r.2 x.1 x.2.1 x.2.2).toArray, .int .i64 r.1]) (N := fun (r : Int × T) (x : SH × SH × SH) => [RT r.2 x.1 x.2.1 x.2.2]) (Ms1 := fun _ _ => []) (plugAt_walk t vr vk vs n u ur uk us hn hz hzu)
theorem ex_count : plugCount (aE (vE 1) (vE 1)) 1 = (2, 0) := by decide +kernel
theorem v12_spec (n : Int) (hn : in64 n) : Spec Try.prog 49 #[.int .i64 (n)] [] [] (fun _ : Unit => .agg (tc (vE n) nul nul nul).toArray) (fun _ : Unit => [RT (vE n) nul nul nul]) (fun _ : Unit => []) := by
  refine spec_go (args := [.int .i64 (n)]) Try.func49 Try.ntmps49 rfl (by exact Nat.le_of_ble_eq_true rfl) fun B hB => ?_
  refine go_seq ?_
  refine go_region ⟨_, Try.func49⟩ rfl ?_
  refine q0 rfl (o_new fun b2 => ?_)
  refine rg_nil ?_
  refine go_seq ?_
  refine go_region ⟨_, Try.func49⟩ rfl ?_
  refine q0 rfl (o_move ?_)
  refine q0 rfl (o_build (cs := [.int .i64 (1), .int .i64 (n), .string ((ByteArray.mk #[])), sl (none, 0) (0), sl (none, 0) (0), sl (none, 0) (0)]) ?_)
  refine q0 rfl (o_st ?_)
  refine rg_nil ?_
  refine retC Try.func49 Try.results49 () rfl mm_ rfl rfl rfl rfl (fun w hs => ((hs.leaf 1 n ⟨#[]⟩ (in_lit (by omega) (by omega)) hn (Nat.zero_le _)).bare.less (by simp [vE])))
theorem works12_spec   : Spec Try.prog 25 #[] [] [] (fun _ : Unit => .bool (true)) (fun _ : Unit => []) (fun _ : Unit => []) := by
  refine spec_go (args := []) Try.func25 Try.ntmps25 rfl (by exact Nat.le_of_ble_eq_true rfl) fun B hB => ?_
  refine go_seq ?_
  refine go_region ⟨_, Try.func25⟩ rfl ?_
  refine q0 rfl (o_assign ?_)
  refine rg_nil ?_
  refine go_seq ?_
  refine go_region ⟨_, Try.func25⟩ rfl ?_
  refine q0 rfl (o_call Try.call49 (v12_spec 0 om_) (fun x8 => ?_))
  refine q0 rfl (o_call Try.call49 (v12_spec 1 om_) (fun x9 => ?_))
  refine q0 rfl (o_lit2 fun b10 => ?_)
  refine q0 rfl (o_build (cs := [.int .i64 (6), .int .i64 (0), .string ((ByteArray.mk #[])), sl (none, 0) (0), sl (some ⟨b10, 0, none⟩, 2) (2), sl (none, 0) (0)]) ?_)
  refine q0 rfl (o_build (cs := [.int .i64 (3), .int .i64 (0), .string ((ByteArray.mk #[])), sl (none, 0) (0), sl (none, 0) (0), sl (none, 0) (0)]) ?_)
  refine rg_state (Γ' := [RT (aE (vE 0) (vE 1)) nul (some ⟨b10, 0, none⟩, 2) nul, RT uE nul nul nul]) (Ms' := []) (fun w hs => ?_) ?_
  · exact ((((hs.lit2T (t := vE 0) (vr := nul) (vk := nul) (vs := nul) (u := vE 1) (ur := nul) (uk := nul) (us := nul) hB (by simp) (by simp) rfl).node 6 0 [vE 0, vE 1] (some ⟨b10, 0, none⟩, 2) (in_lit (by omega) (by omega)) (in_lit (by omega) (by omega)) (by simp)).leaf 3 0 ⟨#[]⟩ (in_lit (by omega) (by omega)) (in_lit (by omega) (by omega)) (Nat.zero_le _)).less (by simp [aE, lE, uE, vE]))
  refine q0 rfl (o_call Try.call27 ((by have h := plugAt_walk (aE (vE 0) (vE 1)) nul (some ⟨b10, 0, none⟩, 2) nul 0 uE nul nul nul (by unfold in64; omega) (by have h9 := ex_plug_size; omega) (by have h9 := ex_plug_size; omega); simp only [ex_plug1a, ex_plug1b] at h; exact h)) (fun x13 => ?_))
  refine q0 rfl (o_move ?_)
  refine q0 rfl (o_extract ?_)
  refine q0 rfl (o_extract ?_)
  refine q0 rfl (o_new fun b1 => ?_)
  refine q0 rfl (o_st ?_)
  refine q0 rfl (o_assign ?_)
  refine rg_nil ?_
  refine go_seq ?_
  refine go_region ⟨_, Try.func25⟩ rfl ?_
  refine q0 rfl (o_call Try.call49 (v12_spec 1 om_) (fun x17 => ?_))
  refine q0 rfl (o_call Try.call49 (v12_spec 0 om_) (fun x18 => ?_))
  refine q0 rfl (o_lit2 fun b19 => ?_)
  refine q0 rfl (o_build (cs := [.int .i64 (6), .int .i64 (0), .string ((ByteArray.mk #[])), sl (none, 0) (0), sl (some ⟨b19, 0, none⟩, 2) (2), sl (none, 0) (0)]) ?_)
  refine q0 rfl (o_lit1 fun b21 => ?_)
  refine q0 rfl (o_build (cs := [.int .i64 (5), .int .i64 (0), .string ((ByteArray.mk #[])), sl (none, 0) (0), sl (some ⟨b21, 0, none⟩, 1) (1), sl (none, 0) (0)]) ?_)
  refine q0 rfl (o_call Try.call49 (v12_spec 5 om_) (fun x23 => ?_))
  refine rg_state (Γ' := [RT (lE (aE (vE 1) (vE 0))) nul (some ⟨b21, 0, none⟩, 1) nul, RT (vE 5) nul nul nul, RT (aE uE (vE 0)) x13.1 x13.2.1 x13.2.2]) (Ms' := [boxR b1 (tc (aE uE (vE 0)) x13.1 x13.2.1 x13.2.2) 26]) (fun w hs => ?_) ?_
  · exact ((((((((hs.perm perm2).perm perm1).perm perm2).lit2T (t := vE 1) (vr := nul) (vk := nul) (vs := nul) (u := vE 0) (ur := nul) (uk := nul) (us := nul) hB (by simp) (by simp) rfl).node 6 0 [vE 1, vE 0] (some ⟨b19, 0, none⟩, 2) (in_lit (by omega) (by omega)) (in_lit (by omega) (by omega)) (by simp)).lit1T (t := (aE (vE 1) (vE 0))) (vr := nul) (vk := (some ⟨b19, 0, none⟩, 2)) (vs := nul) hB (by simp [aE]) rfl).node 5 0 [(aE (vE 1) (vE 0))] (some ⟨b21, 0, none⟩, 1) (in_lit (by omega) (by omega)) (in_lit (by omega) (by omega)) (by simp)).less (by simp [aE, lE, uE, vE]))
  refine q0 rfl (o_call Try.call27 ((by have h := plugAt_walk (lE (aE (vE 1) (vE 0))) nul (some ⟨b21, 0, none⟩, 1) nul 0 (vE 5) nul nul nul (by unfold in64; omega) (by have h9 := ex_plug_size; omega) (by have h9 := ex_plug_size; omega); simp only [ex_plug2a, ex_plug2b] at h; exact h)) (fun x24 => ?_))
  refine q0 rfl (o_move ?_)
  refine q0 rfl (o_extract ?_)
  refine q0 rfl (o_extract ?_)
  refine q0 rfl (o_new fun b3 => ?_)
  refine q0 rfl (o_st ?_)
  refine q0 rfl (o_assign ?_)
  refine rg_nil ?_
  refine go_seq ?_
  refine go_region ⟨_, Try.func25⟩ rfl ?_
  refine q0 rfl (o_call Try.call49 (v12_spec 1 om_) (fun x28 => ?_))
  refine q0 rfl (o_call Try.call49 (v12_spec 1 om_) (fun x29 => ?_))
  refine q0 rfl (o_lit2 fun b30 => ?_)
  refine q0 rfl (o_build (cs := [.int .i64 (6), .int .i64 (0), .string ((ByteArray.mk #[])), sl (none, 0) (0), sl (some ⟨b30, 0, none⟩, 2) (2), sl (none, 0) (0)]) ?_)
  refine rg_state (Γ' := [RT (aE (vE 1) (vE 1)) nul (some ⟨b30, 0, none⟩, 2) nul, RT (aE uE (vE 0)) x13.1 x13.2.1 x13.2.2, RT (lE (aE (vE 6) (vE 0))) x24.1 x24.2.1 x24.2.2]) (Ms' := [boxR b3 (tc (lE (aE (vE 6) (vE 0))) x24.1 x24.2.1 x24.2.2) 26, boxR b1 (tc (aE uE (vE 0)) x13.1 x13.2.1 x13.2.2) 26]) (fun w hs => ?_) ?_
  · exact ((((((hs.perm perm2).perm perm2).perm perm2).lit2T (t := vE 1) (vr := nul) (vk := nul) (vs := nul) (u := vE 1) (ur := nul) (uk := nul) (us := nul) hB (by simp) (by simp) rfl).node 6 0 [vE 1, vE 1] (some ⟨b30, 0, none⟩, 2) (in_lit (by omega) (by omega)) (in_lit (by omega) (by omega)) (by simp)).less (by simp [aE, lE, uE, vE]))
  refine q0 rfl (o_call Try.call50 ((by have h := plugCount_spec (aE (vE 1) (vE 1)) nul (some ⟨b30, 0, none⟩, 2) nul 1 (by unfold in64; omega) (by have h9 := ex_plug_size; omega); simp only [ex_count, true_and] at h; exact h)) (fun x32 => ?_))
  refine q0 rfl (o_move ?_)
  refine q0 rfl (o_extract ?_)
  refine q0 rfl (o_extract ?_)
  refine q0 rfl (o_assign ?_)
  refine q0 rfl (o_assign ?_)
  refine rg_nil ?_
  refine go_seq ?_
  refine go_cutS ([(0, .bool (true))]) (fun hK => ?_) (fun base => ?_)
  · refine go_draw (pn := 1000001) (tn := false) (A := [0, 1, 3, 7, 15, 31, 63, 127, 127, 127, 895, 1919, 4095, 8191, 16383, 32767, 32767, 98303, 229375, 491519, 1015807, 2064383, 4194303, 8388607, 16777215, 33554431, 67108863, 134217727, 268435455, 536870911, 1073741823, 2147483647, 4294967295]) (l := [0, 1, 2, 3, 4, 5, 6, 7, 8, 9, 10, 11, 12, 13, 14, 15, 16, 17, 18, 19, 20, 21, 22, 23, 24, 25, 26, 27, 28, 29, 30, 31, 32]) (fin := []) Tab.mixed ⟨_, Try.func25⟩ (by decide +kernel) ?_
    refine n0 rfl (v_move ?_)
    refine n0 rfl (v_eqIY ?_ (hp := by first | rfl | decide))
    refine n0 rfl (v_move ?_)
    refine nT rfl rfl rfl (v_move ?_)
    refine nT rfl rfl rfl (v_eqIY ?_ (hp := by first | rfl | decide))
    refine n0 rfl (v_pickT ?_)
    refine n0 rfl (v_move ?_)
    refine nT rfl rfl rfl (v_lds ?_)
    refine nT rfl rfl rfl (v_build (cs := [.int .i64 (3), .int .i64 (0), .string ((ByteArray.mk #[])), sl (none, 0) (0), sl (none, 0) (0), sl (none, 0) (0)]) ?_)
    refine nT rfl rfl rfl (v_call Try.call49 (v12_spec 0 om_) (fun x44 => ?_))
    refine nT rfl rfl rfl (w_lit2 (fun b => [RT (aE uE (vE 0)) nul (some ⟨b, 0, none⟩, 2) nul]) (fun b M w hs => ((((hs.leaf 3 0 ⟨#[]⟩ (in_lit (by omega) (by omega)) (in_lit (by omega) (by omega)) (Nat.zero_le _)).lit2T (t := uE) (vr := nul) (vk := nul) (vs := nul) (u := vE 0) (ur := nul) (uk := nul) (us := nul) hB (by simp [uE]) (by simp) rfl).node 6 0 [uE, vE 0] (some ⟨b, 0, none⟩, 2) (in_lit (by omega) (by omega)) (in_lit (by omega) (by omega)) (by simp)).less (by simp +contextual [aE]))) fun b45 => ?_)
    refine nT rfl rfl rfl (v_build (cs := [.int .i64 (6), .int .i64 (0), .string ((ByteArray.mk #[])), sl (none, 0) (0), sl (some ⟨b45, 0, none⟩, 2) (2), sl (none, 0) (0)]) ?_)
    refine nT rfl rfl rfl (v_call Try.call13 (rsameI (aE uE (vE 0)) (aE uE (vE 0)) rfl x13.1 x13.2.1 x13.2.2 nul (some ⟨b45, 0, none⟩, 2) nul) (fun x47 => ?_))
    refine n0 rfl (v_pickT ?_)
    refine n0 rfl (v_move ?_)
    refine nT rfl rfl rfl (v_lds ?_)
    refine nT rfl rfl rfl (v_call Try.call49 (v12_spec 6 om_) (fun x51 => ?_))
    refine nT rfl rfl rfl (v_call Try.call49 (v12_spec 0 om_) (fun x52 => ?_))
    refine nT rfl rfl rfl (w_lit2 (fun b => [RT (aE (vE 6) (vE 0)) nul (some ⟨b, 0, none⟩, 2) nul]) (fun b M w hs => (((hs.lit2T (t := vE 6) (vr := nul) (vk := nul) (vs := nul) (u := vE 0) (ur := nul) (uk := nul) (us := nul) hB (by simp) (by simp) rfl).node 6 0 [vE 6, vE 0] (some ⟨b, 0, none⟩, 2) (in_lit (by omega) (by omega)) (in_lit (by omega) (by omega)) (by simp)).less (by simp +contextual [aE]))) fun b53 => ?_)
    refine nT rfl rfl rfl (v_build (cs := [.int .i64 (6), .int .i64 (0), .string ((ByteArray.mk #[])), sl (none, 0) (0), sl (some ⟨b53, 0, none⟩, 2) (2), sl (none, 0) (0)]) ?_)
    refine nT rfl rfl rfl (w_lit1 (fun b => [RT (lE (aE (vE 6) (vE 0))) nul (some ⟨b, 0, none⟩, 1) nul]) (fun b M w hs => (((hs.lit1T (t := (aE (vE 6) (vE 0))) (vr := nul) (vk := (some ⟨b53, 0, none⟩, 2)) (vs := nul) hB (by simp [aE]) rfl).node 5 0 [(aE (vE 6) (vE 0))] (some ⟨b, 0, none⟩, 1) (in_lit (by omega) (by omega)) (in_lit (by omega) (by omega)) (by simp)).less (by simp +contextual [lE, aE]))) fun b55 => ?_)
    refine nT rfl rfl rfl (v_build (cs := [.int .i64 (5), .int .i64 (0), .string ((ByteArray.mk #[])), sl (none, 0) (0), sl (some ⟨b55, 0, none⟩, 1) (1), sl (none, 0) (0)]) ?_)
    refine nT rfl rfl rfl (v_call Try.call13 (rsameI (lE (aE (vE 6) (vE 0))) (lE (aE (vE 6) (vE 0))) rfl x24.1 x24.2.1 x24.2.2 nul (some ⟨b55, 0, none⟩, 1) nul) (fun x57 => ?_))
    refine n0 rfl (v_pickT ?_)
    refine n0 rfl (v_move ?_)
    refine nT rfl rfl rfl (v_move ?_)
    refine nT rfl rfl rfl (v_eqIY ?_ (hp := by first | rfl | decide))
    refine n0 rfl (v_pickT ?_)
    refine n0 rfl (v_move ?_)
    refine nT rfl rfl rfl (v_move ?_)
    refine nT rfl rfl rfl (v_eqIY ?_ (hp := by first | rfl | decide))
    refine n0 rfl (v_pickT ?_)
    refine n0 rfl (v_assign ?_)
    refine NV.done ?_
    refine rg_nil ?_
    exact go_state (fun w hs => (hs.less (by simp +contextual))) (hK _ ⟨(by first | rfl | ((conv => lhs; whnf); first | (simp_all [aE, lE, uE, vE, T.kids, T.kind, T.n, T.r]; done) | (simp_all [aE, lE, uE, vE, T.kids, T.kind, T.n, T.r]; omega))), trivial⟩)
  · refine ret1 Try.func25 Try.results25 wn_ () rfl (fun w hs => hs.none)
set_option maxHeartbeats 2000000 in
theorem plugLemma_spec (t : T) (vr_t vk_t vs_t : SH) (u : T) (vr_u vk_u vs_u : SH) (w : T) (vr_w vk_w vs_w : SH) (n : Int) (hn : in64 n) : Spec Try.prog 7 #[.agg (tc t vr_t vk_t vs_t).toArray, .agg (tc u vr_u vk_u vs_u).toArray, .agg (tc w vr_w vk_w vs_w).toArray, .int .i64 (n)] [RT t vr_t vk_t vs_t, RT u vr_u vk_u vs_u, RT w vr_w vk_w vs_w] [] (fun _ : Unit => .bool (true)) (fun _ : Unit => []) (fun _ : Unit => []) := by
  refine spec_go (args := [.agg (tc t vr_t vk_t vs_t).toArray, .agg (tc u vr_u vk_u vs_u).toArray, .agg (tc w vr_w vk_w vs_w).toArray, .int .i64 (n)]) Try.func7 Try.ntmps7 rfl (by exact Nat.le_of_ble_eq_true rfl) fun B hB => ?_
  have hst := size_le_bulk t
  have hsu := size_le_bulk u
  have hsw := size_le_bulk w
  refine go_seq ?_
  refine go_region ⟨_, Try.func7⟩ rfl ?_
  refine q0 rfl (o_box fun b4 => ?_)
  refine q0 rfl (o_box fun b5 => ?_)
  refine q0 rfl (o_box fun b6 => ?_)
  refine q0 rfl (o_assign ?_)
  refine rg_nil ?_
  refine go_seq ?_
  refine go_seq ?_
  refine go_region ⟨_, Try.func7⟩ rfl ?_
  refine q0 rfl (o_call Try.call25 (works12_spec ) (fun x21 => ?_))
  refine q0 rfl (o_not ?_)
  refine rg_nil ?_
  refine go_condF ?_
  refine go_skip ?_
  refine go_seq ?_
  refine go_seq ?_
  refine go_cutS ([(3, .int .i64 (n)), (4, .pointer (some ⟨b4, 0, none⟩)), (5, .pointer (some ⟨b5, 0, none⟩)), (6, .pointer (some ⟨b6, 0, none⟩)), (43, .bool (((((decide (100 < bulk t)) || (decide (100 < bulk u))) || (decide (100 < bulk w))) || (decide (n < 0))) || (decide (1000 < n))))]) (fun hK => ?_) (fun base => ?_)
  · refine go_region ⟨_, Try.func7⟩ rfl ?_
    refine q0 rfl (o_lds ?_)
    refine q0 rfl (o_call Try.call28 (bulk_spec t 100 vr_t vk_t vs_t (by omega) (by omega)) (fun x24 => ?_))
    refine q0 rfl (o_gtr ?_)
    rw [show (decide ((100 : Int) < x24.1)) = decide (100 < bulk t) from decide_eq_decide.mpr (by have h9 := x24.2; unfold BulkIs at h9; omega)]
    refine q0 rfl (o_move ?_)
    refine qI rfl rfl rfl wl_ (fun hg26 => ?_) (fun hg26 => ?_)
    · have g26 : (decide (100 < bulk t)) = false := hg26
      try simp only [sC, bne_iff_ne, beq_iff_eq, ne_eq] at g26
      refine o_lds ?_
      refine qT rfl rfl rfl (o_call Try.call28 (bulk_spec u 100 vr_u vk_u vs_u (by omega) (by omega)) (fun x28 => ?_))
      refine qT rfl rfl rfl (o_gtr ?_)
      rw [show (decide ((100 : Int) < x28.1)) = decide (100 < bulk u) from decide_eq_decide.mpr (by have h9 := x28.2; unfold BulkIs at h9; omega)]
      refine q0 rfl (o_pickF ?_)
      refine q0 rfl (o_move ?_)
      refine qI rfl rfl rfl wl_ (fun hg31 => ?_) (fun hg31 => ?_)
      · have g31 : (decide (100 < bulk u)) = false := hg31
        try simp only [sC, bne_iff_ne, beq_iff_eq, ne_eq] at g31
        refine o_lds ?_
        refine qT rfl rfl rfl (o_call Try.call28 (bulk_spec w 100 vr_w vk_w vs_w (by omega) (by omega)) (fun x33 => ?_))
        refine qT rfl rfl rfl (o_gtr ?_)
        rw [show (decide ((100 : Int) < x33.1)) = decide (100 < bulk w) from decide_eq_decide.mpr (by have h9 := x33.2; unfold BulkIs at h9; omega)]
        refine q0 rfl (o_pickF ?_)
        refine q0 rfl (o_move ?_)
        refine qI rfl rfl rfl wl_ (fun hg36 => ?_) (fun hg36 => ?_)
        · have g36 : (decide (100 < bulk w)) = false := hg36
          try simp only [sC, bne_iff_ne, beq_iff_eq, ne_eq] at g36
          refine o_move ?_
          refine qT rfl rfl rfl (o_lss ?_)
          refine q0 rfl (o_pickF ?_)
          refine q0 rfl (o_move ?_)
          refine qI rfl rfl rfl wl_ (fun hg40 => ?_) (fun hg40 => ?_)
          · have g40 : (decide (n < 0)) = false := hg40
            try simp only [sC, bne_iff_ne, beq_iff_eq, ne_eq] at g40
            refine o_move ?_
            refine qT rfl rfl rfl (o_gtr ?_)
            refine q0 rfl (o_pickF ?_)
            refine rg_nil ?_
            exact hK _ ⟨rfl, rfl, rfl, rfl, dn_, trivial⟩
          · have g40 : (decide (n < 0)) = true := hg40
            try simp only [sC, bne_iff_ne, beq_iff_eq, ne_eq] at g40
            refine qF rfl rfl rfl ?_
            refine q0 rfl (o_pickT ?_)
            refine rg_nil ?_
            exact hK _ ⟨rfl, rfl, rfl, rfl, dn_, trivial⟩
        · have g36 : (decide (100 < bulk w)) = true := hg36
          try simp only [sC, bne_iff_ne, beq_iff_eq, ne_eq] at g36
          refine qF rfl rfl rfl ?_
          refine q0 rfl (o_pickT ?_)
          refine q0 rfl (o_move ?_)
          refine qF rfl rfl rfl ?_
          refine qF rfl rfl rfl ?_
          refine q0 rfl (o_pickT ?_)
          refine rg_nil ?_
          exact hK _ ⟨rfl, rfl, rfl, rfl, dn_, trivial⟩
      · have g31 : (decide (100 < bulk u)) = true := hg31
        try simp only [sC, bne_iff_ne, beq_iff_eq, ne_eq] at g31
        refine qF rfl rfl rfl ?_
        refine qF rfl rfl rfl ?_
        refine q0 rfl (o_pickT ?_)
        refine q0 rfl (o_move ?_)
        refine qF rfl rfl rfl ?_
        refine qF rfl rfl rfl ?_
        refine q0 rfl (o_pickT ?_)
        refine q0 rfl (o_move ?_)
        refine qF rfl rfl rfl ?_
        refine qF rfl rfl rfl ?_
        refine q0 rfl (o_pickT ?_)
        refine rg_nil ?_
        exact hK _ ⟨rfl, rfl, rfl, rfl, dn_, trivial⟩
    · have g26 : (decide (100 < bulk t)) = true := hg26
      try simp only [sC, bne_iff_ne, beq_iff_eq, ne_eq] at g26
      refine qF rfl rfl rfl ?_
      refine qF rfl rfl rfl ?_
      refine q0 rfl (o_pickT ?_)
      refine q0 rfl (o_move ?_)
      refine qF rfl rfl rfl ?_
      refine qF rfl rfl rfl ?_
      refine qF rfl rfl rfl ?_
      refine q0 rfl (o_pickT ?_)
      refine q0 rfl (o_move ?_)
      refine qF rfl rfl rfl ?_
      refine qF rfl rfl rfl ?_
      refine q0 rfl (o_pickT ?_)
      refine q0 rfl (o_move ?_)
      refine qF rfl rfl rfl ?_
      refine qF rfl rfl rfl ?_
      refine q0 rfl (o_pickT ?_)
      refine rg_nil ?_
      exact hK _ ⟨rfl, rfl, rfl, rfl, dn_, trivial⟩
  · refine go_condI (fun h43 => ?_) (fun h43 => ?_)
    · have c43 : (((((decide (100 < bulk t)) || (decide (100 < bulk u))) || (decide (100 < bulk w))) || (decide (n < 0))) || (decide (1000 < n))) = true := h43
      try simp only [sC, bne_iff_ne, beq_iff_eq, ne_eq] at c43
      refine go_seq ?_
      refine go_region ⟨_, Try.func7⟩ rfl ?_
      refine q0 rfl (o_assign ?_)
      refine rg_nil ?_
      refine ret1 Try.func7 Try.results7 wn_ () rfl (fun w hs => hs.none)
    · have c43 : (((((decide (100 < bulk t)) || (decide (100 < bulk u))) || (decide (100 < bulk w))) || (decide (n < 0))) || (decide (1000 < n))) = false := h43
      try simp only [sC, bne_iff_ne, beq_iff_eq, ne_eq] at c43
      have hnn : 0 ≤ n ∧ n ≤ 1000 := by omega
      refine go_skip ?_
      refine go_seq ?_
      refine go_region ⟨_, Try.func7⟩ rfl ?_
      refine q0 rfl (o_lds ?_)
      refine q0 rfl (o_lds ?_)
      refine q0 rfl (o_call Try.call27 (plugAtH t vr_t vk_t vs_t 0 u vr_u vk_u vs_u om_ om_ om_) (fun x47 => ?_))
      refine q0 rfl (o_move ?_)
      refine q0 rfl (o_extract ?_)
      refine q0 rfl (o_extract ?_)
      refine q0 rfl (o_new fun b9 => ?_)
      refine q0 rfl (o_st ?_)
      refine q0 rfl (o_assign ?_)
      refine rg_nil ?_
      have hz1 : size x47.1.1.2 ≤ 20000 := (by rw [x47.2]; exact plugRes_szd _ _ _)
      refine go_seq ?_
      refine go_region ⟨_, Try.func7⟩ rfl ?_
      refine q0 rfl (o_lds ?_)
      refine q0 rfl (o_move ?_)
      refine q0 rfl (o_lds ?_)
      refine q0 rfl (o_call Try.call27 (plugAtH x47.1.1.2 x47.1.2.1 x47.1.2.2.1 x47.1.2.2.2 n w vr_w vk_w vs_w om_ om_ om_) (fun x54 => ?_))
      refine q0 rfl (o_move ?_)
      refine q0 rfl (o_extract ?_)
      refine q0 rfl (o_extract ?_)
      refine q0 rfl (o_new fun b11 => ?_)
      refine q0 rfl (o_st ?_)
      refine q0 rfl (o_assign ?_)
      refine rg_nil ?_
      have hz2 : size x54.1.1.2 ≤ 20000 := (by rw [x54.2]; exact plugRes_szd _ _ _)
      refine go_seq ?_
      refine go_region ⟨_, Try.func7⟩ rfl ?_
      refine q0 rfl (o_lds ?_)
      refine q0 rfl (o_call Try.call14 (liftVarsH w vr_w vk_w vs_w 0 1 om_ om_ om_) (fun x59 => ?_))
      refine q0 rfl (o_move ?_)
      refine q0 rfl (o_extract ?_)
      refine q0 rfl (o_extract ?_)
      refine q0 rfl (o_new fun b13 => ?_)
      refine q0 rfl (o_st ?_)
      refine q0 rfl (o_assign ?_)
      refine rg_nil ?_
      have hz3 : size x59.1.1.2 ≤ 20000 := (by have h9 := vars_size w 0 1; rw [x59.2]; omega)
      refine go_seq ?_
      refine go_region ⟨_, Try.func7⟩ rfl ?_
      refine q0 rfl (o_lds ?_)
      refine q0 rfl (o_move ?_)
      refine q0 rfl (o_add ?_)
      refine q0 rfl (o_lds ?_)
      refine q0 rfl (o_call Try.call27 (plugAtH t vr_t vk_t vs_t (n + 1) x59.1.1.2 x59.1.2.1 x59.1.2.2.1 x59.1.2.2.2 om_ om_ om_) (fun x67 => ?_))
      refine q0 rfl (o_move ?_)
      refine q0 rfl (o_extract ?_)
      refine q0 rfl (o_extract ?_)
      refine q0 rfl (o_new fun b15 => ?_)
      refine q0 rfl (o_st ?_)
      refine q0 rfl (o_assign ?_)
      refine rg_nil ?_
      have hz4 : size x67.1.1.2 ≤ 20000 := (by rw [x67.2]; exact plugRes_szd _ _ _)
      refine go_seq ?_
      refine go_region ⟨_, Try.func7⟩ rfl ?_
      refine q0 rfl (o_lds ?_)
      refine q0 rfl (o_move ?_)
      refine q0 rfl (o_lds ?_)
      refine q0 rfl (o_call Try.call27 (plugAtH u vr_u vk_u vs_u n w vr_w vk_w vs_w om_ om_ om_) (fun x74 => ?_))
      refine q0 rfl (o_move ?_)
      refine q0 rfl (o_extract ?_)
      refine q0 rfl (o_extract ?_)
      refine q0 rfl (o_new fun b17 => ?_)
      refine q0 rfl (o_st ?_)
      refine q0 rfl (o_assign ?_)
      refine rg_nil ?_
      have hz5 : size x74.1.1.2 ≤ 20000 := (by rw [x74.2]; exact plugRes_szd _ _ _)
      refine go_seq ?_
      refine go_region ⟨_, Try.func7⟩ rfl ?_
      refine q0 rfl (o_lds ?_)
      refine q0 rfl (o_lds ?_)
      refine q0 rfl (o_call Try.call27 (plugAtH x67.1.1.2 x67.1.2.1 x67.1.2.2.1 x67.1.2.2.2 0 x74.1.1.2 x74.1.2.1 x74.1.2.2.1 x74.1.2.2.2 om_ om_ om_) (fun x80 => ?_))
      refine q0 rfl (o_move ?_)
      refine q0 rfl (o_extract ?_)
      refine q0 rfl (o_extract ?_)
      refine q0 rfl (o_new fun b19 => ?_)
      refine q0 rfl (o_st ?_)
      refine q0 rfl (o_assign ?_)
      refine rg_nil ?_
      have hz6 : size x80.1.1.2 ≤ 20000 := (by rw [x80.2]; exact plugRes_szd _ _ _)
      refine go_seq ?_
      refine go_seq ?_
      refine go_cutS ([(11, .pointer (some ⟨b11, 0, none⟩)), (19, .pointer (some ⟨b19, 0, none⟩)), (104, .bool ((((((decide (x47.1.1.1 ≠ 0)) || (decide (x54.1.1.1 ≠ 0))) || (decide (x59.1.1.1 ≠ 0))) || (decide (x67.1.1.1 ≠ 0))) || (decide (x74.1.1.1 ≠ 0))) || (decide (x80.1.1.1 ≠ 0))))]) (fun hK => ?_) (fun base => ?_)
      · refine go_region ⟨_, Try.func7⟩ rfl ?_
        refine q0 rfl (o_move ?_)
        refine q0 rfl (o_neI ?_)
        refine q0 rfl (o_move ?_)
        refine qI rfl rfl rfl wl_ (fun hg85 => ?_) (fun hg85 => ?_)
        · have g85 : (decide (x47.1.1.1 ≠ 0)) = false := hg85
          try simp only [sC, bne_iff_ne, beq_iff_eq, ne_eq] at g85
          refine o_move ?_
          refine qT rfl rfl rfl (o_neI ?_)
          refine q0 rfl (o_pickF ?_)
          refine q0 rfl (o_move ?_)
          refine qI rfl rfl rfl wl_ (fun hg89 => ?_) (fun hg89 => ?_)
          · have g89 : (decide (x54.1.1.1 ≠ 0)) = false := hg89
            try simp only [sC, bne_iff_ne, beq_iff_eq, ne_eq] at g89
            refine o_move ?_
            refine qT rfl rfl rfl (o_neI ?_)
            refine q0 rfl (o_pickF ?_)
            refine q0 rfl (o_move ?_)
            refine qI rfl rfl rfl wl_ (fun hg93 => ?_) (fun hg93 => ?_)
            · have g93 : (decide (x59.1.1.1 ≠ 0)) = false := hg93
              try simp only [sC, bne_iff_ne, beq_iff_eq, ne_eq] at g93
              refine o_move ?_
              refine qT rfl rfl rfl (o_neI ?_)
              refine q0 rfl (o_pickF ?_)
              refine q0 rfl (o_move ?_)
              refine qI rfl rfl rfl wl_ (fun hg97 => ?_) (fun hg97 => ?_)
              · have g97 : (decide (x67.1.1.1 ≠ 0)) = false := hg97
                try simp only [sC, bne_iff_ne, beq_iff_eq, ne_eq] at g97
                refine o_move ?_
                refine qT rfl rfl rfl (o_neI ?_)
                refine q0 rfl (o_pickF ?_)
                refine q0 rfl (o_move ?_)
                refine qI rfl rfl rfl wl_ (fun hg101 => ?_) (fun hg101 => ?_)
                · have g101 : (decide (x74.1.1.1 ≠ 0)) = false := hg101
                  try simp only [sC, bne_iff_ne, beq_iff_eq, ne_eq] at g101
                  refine o_move ?_
                  refine qT rfl rfl rfl (o_neI ?_)
                  refine q0 rfl (o_pickF ?_)
                  refine rg_nil ?_
                  exact hK _ ⟨rfl, rfl, dn_, trivial⟩
                · have g101 : (decide (x74.1.1.1 ≠ 0)) = true := hg101
                  try simp only [sC, bne_iff_ne, beq_iff_eq, ne_eq] at g101
                  refine qF rfl rfl rfl ?_
                  refine q0 rfl (o_pickT ?_)
                  refine rg_nil ?_
                  exact hK _ ⟨rfl, rfl, dn_, trivial⟩
              · have g97 : (decide (x67.1.1.1 ≠ 0)) = true := hg97
                try simp only [sC, bne_iff_ne, beq_iff_eq, ne_eq] at g97
                refine qF rfl rfl rfl ?_
                refine q0 rfl (o_pickT ?_)
                refine q0 rfl (o_move ?_)
                refine qF rfl rfl rfl ?_
                refine qF rfl rfl rfl ?_
                refine q0 rfl (o_pickT ?_)
                refine rg_nil ?_
                exact hK _ ⟨rfl, rfl, dn_, trivial⟩
            · have g93 : (decide (x59.1.1.1 ≠ 0)) = true := hg93
              try simp only [sC, bne_iff_ne, beq_iff_eq, ne_eq] at g93
              refine qF rfl rfl rfl ?_
              refine q0 rfl (o_pickT ?_)
              refine q0 rfl (o_move ?_)
              refine qF rfl rfl rfl ?_
              refine qF rfl rfl rfl ?_
              refine q0 rfl (o_pickT ?_)
              refine q0 rfl (o_move ?_)
              refine qF rfl rfl rfl ?_
              refine qF rfl rfl rfl ?_
              refine q0 rfl (o_pickT ?_)
              refine rg_nil ?_
              exact hK _ ⟨rfl, rfl, dn_, trivial⟩
          · have g89 : (decide (x54.1.1.1 ≠ 0)) = true := hg89
            try simp only [sC, bne_iff_ne, beq_iff_eq, ne_eq] at g89
            refine qF rfl rfl rfl ?_
            refine q0 rfl (o_pickT ?_)
            refine q0 rfl (o_move ?_)
            refine qF rfl rfl rfl ?_
            refine qF rfl rfl rfl ?_
            refine q0 rfl (o_pickT ?_)
            refine q0 rfl (o_move ?_)
            refine qF rfl rfl rfl ?_
            refine qF rfl rfl rfl ?_
            refine q0 rfl (o_pickT ?_)
            refine q0 rfl (o_move ?_)
            refine qF rfl rfl rfl ?_
            refine qF rfl rfl rfl ?_
            refine q0 rfl (o_pickT ?_)
            refine rg_nil ?_
            exact hK _ ⟨rfl, rfl, dn_, trivial⟩
        · have g85 : (decide (x47.1.1.1 ≠ 0)) = true := hg85
          try simp only [sC, bne_iff_ne, beq_iff_eq, ne_eq] at g85
          refine qF rfl rfl rfl ?_
          refine q0 rfl (o_pickT ?_)
          refine q0 rfl (o_move ?_)
          refine qF rfl rfl rfl ?_
          refine qF rfl rfl rfl ?_
          refine q0 rfl (o_pickT ?_)
          refine q0 rfl (o_move ?_)
          refine qF rfl rfl rfl ?_
          refine qF rfl rfl rfl ?_
          refine q0 rfl (o_pickT ?_)
          refine q0 rfl (o_move ?_)
          refine qF rfl rfl rfl ?_
          refine qF rfl rfl rfl ?_
          refine q0 rfl (o_pickT ?_)
          refine q0 rfl (o_move ?_)
          refine qF rfl rfl rfl ?_
          refine qF rfl rfl rfl ?_
          refine q0 rfl (o_pickT ?_)
          refine rg_nil ?_
          exact hK _ ⟨rfl, rfl, dn_, trivial⟩
      · refine go_condI (fun h104 => ?_) (fun h104 => ?_)
        · have c104 : ((((((decide (x47.1.1.1 ≠ 0)) || (decide (x54.1.1.1 ≠ 0))) || (decide (x59.1.1.1 ≠ 0))) || (decide (x67.1.1.1 ≠ 0))) || (decide (x74.1.1.1 ≠ 0))) || (decide (x80.1.1.1 ≠ 0))) = true := h104
          try simp only [sC, bne_iff_ne, beq_iff_eq, ne_eq] at c104
          refine go_seq ?_
          refine go_region ⟨_, Try.func7⟩ rfl ?_
          refine q0 rfl (o_assign ?_)
          refine rg_nil ?_
          refine ret1 Try.func7 Try.results7 wn_ () rfl (fun w hs => hs.none)
        · have c104 : ((((((decide (x47.1.1.1 ≠ 0)) || (decide (x54.1.1.1 ≠ 0))) || (decide (x59.1.1.1 ≠ 0))) || (decide (x67.1.1.1 ≠ 0))) || (decide (x74.1.1.1 ≠ 0))) || (decide (x80.1.1.1 ≠ 0))) = false := h104
          try simp only [sC, bne_iff_ne, beq_iff_eq, ne_eq] at c104
          refine go_skip ?_
          refine go_seq ?_
          refine go_region ⟨_, Try.func7⟩ rfl ?_
          refine q0 rfl (o_lds ?_)
          refine q0 rfl (o_lds ?_)
          refine q0 rfl (o_call Try.call13 (rsame x54.1.1.2 x80.1.1.2 x54.1.2.1 x54.1.2.2.1 x54.1.2.2.2 x80.1.2.1 x80.1.2.2.1 x80.1.2.2.2) (fun x107 => ?_))
          refine q0 rfl (o_assign ?_)
          refine rg_nil ?_
          have hq : x47.1.1.1 = 0 ∧ x54.1.1.1 = 0 ∧ x59.1.1.1 = 0 ∧ x67.1.1.1 = 0 ∧ x74.1.1.1 = 0 ∧ x80.1.1.1 = 0 := (by simp at h104; omega)
          have hsame := plug_lemma hnn.1 hnn.2 x47.2 x54.2 x59.2 x67.2 x74.2 x80.2 hq.1 hq.2.1 hq.2.2.1 hq.2.2.2.1 hq.2.2.2.2.1 hq.2.2.2.2.2
          refine ret1 Try.func7 Try.results7 wn_ () (by rw [decide_eq_true hsame]) (fun w hs => hs.none)
end Go.Hy
