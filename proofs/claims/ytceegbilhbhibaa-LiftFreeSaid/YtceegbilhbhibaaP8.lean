/- Contracts of this program's functions and the laws that they need: a separation logic over the machine's rules, one theorem each (partly printed by a program of this repository). -/
import Derived.Test.YtceegbilhbhibaaP2
import Derived.Test.YtceegbilhbhibaaP3
import Derived.Test.YtceegbilhbhibaaP4
import Derived.Test.YtceegbilhbhibaaP5
import Derived.Test.YtceegbilhbhibaaP6
import Derived.Test.YtceegbilhbhibaaP7
namespace Go.Hy
set_option linter.unusedVariables false
set_option linter.unusedSimpArgs false
set_option linter.unusedSectionVars false
open Go.Proofs
set_option linter.unusedVariables false
set_option linter.unusedSimpArgs false
set_option maxRecDepth 100000
theorem liftRow_spec (vb db : Int) (l : List Cl) (a_l : SH) (f : Int) (hb : in64 db) (hi : in64 f) : SpecR Try.prog 29 60 #[.agg ([.int .i64 (vb), .int .i64 (db)] : List Value).toArray, sl a_l (l.length), .int .i64 (f)] [CL l a_l] (rowLift db l f) (fun (g : List Cl) => fun x : SH => sl x g.length) (fun (g : List Cl) => fun x : SH => []) (fun (g : List Cl) => fun x : SH => [rowS 2 53 x g.length (clFlat g)]) := by
  refine specR_go (args := [.agg ([.int .i64 (vb), .int .i64 (db)] : List Value).toArray, sl a_l (l.length), .int .i64 (f)]) Try.func60 Try.ntmps60 rfl (by exact Nat.le_of_ble_eq_true rfl) fun B hB => ?_
  refine go_openCL (l := l) (a := a_l) (fun hl1 hA1 hU1 => ?_)
  refine go_seq ?_
  refine go_region ⟨_, Try.func60⟩ rfl ?_
  refine q0 rfl (o_box fun b3 => ?_)
  refine q0 rfl (o_assign ?_)
  refine rg_nil ?_
  refine go_seq ?_
  refine go_seq ?_
  refine go_cutS ([(1, sl a_l (l.length)), (2, .int .i64 (f)), (3, .pointer (some ⟨b3, 0, none⟩)), (15, .bool ((decide (db = 0)) || (decide (24 ≤ f))))]) (fun hK => ?_) (fun base => ?_)
  · refine go_region ⟨_, Try.func60⟩ rfl ?_
    refine q0 rfl (o_fa ?_)
    refine q0 rfl (o_ld ?_)
    refine q0 rfl (o_eqI ?_)
    refine q0 rfl (o_move ?_)
    refine qI rfl rfl rfl wl_ (fun hg12 => ?_) (fun hg12 => ?_)
    · have g12 : (decide (db = 0)) = false := hg12
      try simp only [sC, bne_iff_ne, beq_iff_eq, ne_eq] at g12
      refine o_move ?_
      refine qT rfl rfl rfl (o_geq ?_)
      refine q0 rfl (o_pickF ?_)
      refine rg_nil ?_
      exact hK _ ⟨rfl, rfl, rfl, dn_, trivial⟩
    · have g12 : (decide (db = 0)) = true := hg12
      try simp only [sC, bne_iff_ne, beq_iff_eq, ne_eq] at g12
      refine qF rfl rfl rfl ?_
      refine q0 rfl (o_pickT ?_)
      refine rg_nil ?_
      exact hK _ ⟨rfl, rfl, rfl, dn_, trivial⟩
  · refine go_condI (fun h15 => ?_) (fun h15 => ?_)
    · have c15 : ((decide (db = 0)) || (decide (24 ≤ f))) = true := h15
      try simp only [sC, bne_iff_ne, beq_iff_eq, ne_eq] at c15
      have hg : rowLift db l f = .ok l := by rw [rowLift, if_pos (by simp at h15; exact h15)]
      refine go_seq ?_
      refine go_region ⟨_, Try.func60⟩ rfl ?_
      refine q0 rfl (o_move ?_)
      refine rg_state (fun w hs => hs.rowS0 2 53) ?_
      refine q0 rfl (o_appCL (fun a17 => ?_) (by simp) (a := (none, 0)) (n' := 0) (b := a_l) (ls := l))
      refine rg_state (fun w hs => hs.appFlatC (l := []) (m := l)) ?_
      refine q0 rfl (o_assign ?_)
      refine rg_nil ?_
      refine go_ok (a := l) (hg) ?_
      refine ret1 Try.func60 Try.results60 wn_ a17 (by (conv => lhs; whnf); first | rfl | (rw [Nat.zero_add]; rfl)) (fun w hs => by have h := ((hs.less (Γ' := []) (by simp)).dropR (A := [_])); simpa only [Nat.zero_add, List.nil_append] using h)
    · have c15 : ((decide (db = 0)) || (decide (24 ≤ f))) = false := h15
      try simp only [sC, bne_iff_ne, beq_iff_eq, ne_eq] at c15
      have hn : ¬ (db = 0 ∨ 24 ≤ f) := by simp at h15; omega
      refine go_skip ?_
      refine go_seq ?_
      refine go_region ⟨_, Try.func60⟩ rfl ?_
      refine q0 rfl (o_move ?_)
      refine q0 rfl (o_move ?_)
      refine q0 rfl (o_fa ?_)
      refine q0 rfl (o_ld ?_)
      refine q0 rfl (o_call Try.call76 (formLift_spec l a_l f db om_ om_) (fun x23 => ?_))
      refine q0 rfl (o_move ?_)
      refine q0 rfl (o_extract ?_)
      refine q0 rfl (o_extract ?_)
      refine q0 rfl (o_assign ?_)
      refine q0 rfl (o_assign ?_)
      refine rg_nil ?_
      refine go_seq ?_
      refine go_seq ?_
      refine go_region ⟨_, Try.func60⟩ rfl ?_
      refine q0 rfl (o_move ?_)
      refine q0 rfl (o_neI ?_)
      refine rg_nil ?_
      refine go_condI (fun h27 => ?_) (fun h27 => ?_)
      · have c27 : (decide (((formLift l f db).1) ≠ 0)) = true := h27
        try simp only [sC, bne_iff_ne, beq_iff_eq, ne_eq] at c27
        have hg : rowLift db l f = .bad (formLift l f db).1 := by rw [rowLift, if_neg hn, if_neg (by simpa using h27)]
        refine go_region ⟨_, Try.func60⟩ rfl ?_
        refine q0 rfl (o_move ?_)
        refine q0 rfl (o_makeI ?_)
        refine q0 rfl (o_panic (endsR_bad (hg)))
      · have c27 : (decide (((formLift l f db).1) ≠ 0)) = false := h27
        try simp only [sC, bne_iff_ne, beq_iff_eq, ne_eq] at c27
        have hg : rowLift db l f = .ok (formLift l f db).2 := by rw [rowLift, if_neg hn, if_pos (by simpa using h27)]
        refine go_skip ?_
        refine go_seq ?_
        refine go_region ⟨_, Try.func60⟩ rfl ?_
        refine q0 rfl (o_move ?_)
        refine q0 rfl (o_assign ?_)
        refine rg_nil ?_
        refine go_ok (a := (formLift l f db).2) (hg) ?_
        refine ret1 Try.func60 Try.results60 wn_ x23 rfl (fun w hs => ((hs.less (by simp)).dropR (A := [_])))
abbrev LiftO (vb db : Int) (t : T) : Prop := ∀ (vr vk vs : SH) (v d : Int), (0 ≤ vb ∧ vb ≤ 1000000) → in64 db → (-1000000000000 ≤ v ∧ v + size t ≤ 4000000000000000000) → (0 ≤ d ∧ d + size t ≤ 4000000000000000000) → SpecR Try.prog 29 34 #[.agg ([.int .i64 vb, .int .i64 db] : List Value).toArray, .agg (tc t vr vk vs).toArray, .int .i64 v, .int .i64 d] [RT t vr vk vs] (trav (liftTr vb db) t (v, d)) (fun (u : T) => fun x : {h : HT // h.er = u} => .agg (tc u x.1.vr x.1.vk x.1.vs).toArray) (fun _ _ => []) (fun (u : T) => fun x : {h : HT // h.er = u} => [bigR (treeR tys x.1)])
set_option maxHeartbeats 4000000 in
theorem liftT_walk (vb db : Int) (t : T) (vr_t vk_t vs_t : SH) (v : Int) (d : Int) (ihk : ∀ k, k ∈ t.kids → LiftO vb db k) (ihs : ∀ b, b ∈ t.sys → ∀ k, k ∈ b.kids → LiftO vb db k) (hvb : 0 ≤ vb ∧ vb ≤ 1000000) (hdb : in64 db) (hv : -1000000000000 ≤ v ∧ v + size t ≤ 4000000000000000000) (hd : 0 ≤ d ∧ d + size t ≤ 4000000000000000000) : SpecR Try.prog 29 34 #[.agg ([.int .i64 (vb), .int .i64 (db)] : List Value).toArray, .agg (tc t vr_t vk_t vs_t).toArray, .int .i64 (v), .int .i64 (d)] [RT t vr_t vk_t vs_t] (trav (liftTr vb db) t (v, d)) (fun (u : T) => fun x : {h : HT // h.er = u} => .agg (tc u x.1.vr x.1.vk x.1.vs).toArray) (fun (u : T) => fun x : {h : HT // h.er = u} => []) (fun (u : T) => fun x : {h : HT // h.er = u} => [bigR (treeR tys x.1)]) := by
  refine specR_go (args := [.agg ([.int .i64 (vb), .int .i64 (db)] : List Value).toArray, .agg (tc t vr_t vk_t vs_t).toArray, .int .i64 (v), .int .i64 (d)]) Try.func34 Try.ntmps34 rfl (by exact Nat.le_of_ble_eq_true rfl) fun B hB => ?_
  refine go_open (t := t) (vr := vr_t) (vk := vk_t) (vs := vs_t) (fun hk1 hn1 hm1 => ?_)
  refine go_openCL (l := (t).r) (a := vr_t) (fun hl2 hA2 hU2 => ?_)
  refine go_openTL (ts := (t).kids) (a := vk_t) (fun VR3 VK3 VS3 hl3 hA3 => ?_)
  refine go_openBL (bs := (t).sys) (a := vs_t) (fun VF4 VK4 hl4 hA4 => ?_)
  have hpz := size_pos' t
  refine go_seq ?_
  refine go_region ⟨_, Try.func34⟩ rfl ?_
  refine q0 rfl (o_box fun b4 => ?_)
  refine q0 rfl (o_box fun b5 => ?_)
  refine q0 rfl (o_new fun b8 => ?_)
  refine rg_nil ?_
  refine go_seq ?_
  refine go_res (rowLift db t.r d) (fun g1_10 hg1_10 => ?_) (fun e1_10 he1_10 => ?_)
  · refine go_draw (pn := 1000000) (tn := false) (A := [0, 1, 0, 4, 0, 16, 0, 0, 128, 0, 960, 2047, 0, 8191]) (l := [0, 1, 2, 3, 4, 5, 6, 7, 8, 9, 10, 11, 12]) (fin := [13]) Tab.mixed ⟨_, Try.func34⟩ (by rfl) ?_
    refine n0 rfl (v_fa ?_)
    refine n0 rfl (v_ld ?_)
    refine n0 rfl (v_fa ?_)
    refine n0 rfl (v_ld ?_)
    refine n0 rfl (v_fa ?_)
    refine n0 rfl (v_ld ?_)
    refine n0 rfl (v_lds ?_)
    refine n0 rfl (v_fa ?_)
    refine n0 rfl (v_ld ?_)
    refine n0 rfl (v_move ?_)
    refine n0 rfl (v_call Try.call60 ((liftRow_spec vb db ((t).r) vr_t d om_ om_).1 g1_10 hg1_10) (fun x30 => ?_))
    refine n0 rfl (v_build (cs := [.int .i64 ((t).kind), .int .i64 ((t).n), .string ((t).name), sl x30 (g1_10.length), sl (none, 0) (0), sl (none, 0) (0)]) ?_)
    refine n0 rfl (v_new fun b9 => ?_)
    refine NV.done ?_
    refine q0 rfl (o_st ?_)
    refine rg_nil ?_
    refine go_seq ?_
    refine go_seq ?_
    refine go_cutS ([(2, .int .i64 (v)), (3, .int .i64 (d)), (4, .pointer (some ⟨b4, 0, none⟩)), (5, .pointer (some ⟨b5, 0, none⟩)), (8, .pointer (some ⟨b8, 0, none⟩)), (9, .pointer (some ⟨b9, 0, none⟩)), (40, .bool ((decide (((t).kind) = 1)) && (decide (v ≤ ((t).n)))))]) (fun hK => ?_) (fun base => ?_)
    · refine go_region ⟨_, Try.func34⟩ rfl ?_
      refine q0 rfl (o_fa ?_)
      refine q0 rfl (o_ld ?_)
      refine q0 rfl (o_eqI ?_)
      refine q0 rfl (o_move ?_)
      refine qI rfl rfl rfl wl_ (fun hg35 => ?_) (fun hg35 => ?_)
      · have g35 : (decide (((t).kind) = 1)) = true := hg35
        try simp only [sC, bne_iff_ne, beq_iff_eq, ne_eq] at g35
        refine o_fa ?_
        refine qT rfl rfl rfl (o_ld ?_)
        refine qT rfl rfl rfl (o_move ?_)
        refine qT rfl rfl rfl (o_geq ?_)
        refine q0 rfl (o_pickT ?_)
        refine rg_nil ?_
        exact hK _ ⟨rfl, rfl, rfl, rfl, rfl, rfl, dn_, trivial⟩
      · have g35 : (decide (((t).kind) = 1)) = false := hg35
        try simp only [sC, bne_iff_ne, beq_iff_eq, ne_eq] at g35
        refine qF rfl rfl rfl ?_
        refine qF rfl rfl rfl ?_
        refine qF rfl rfl rfl ?_
        refine q0 rfl (o_pickF ?_)
        refine rg_nil ?_
        exact hK _ ⟨rfl, rfl, rfl, rfl, rfl, rfl, dn_, trivial⟩
    · refine go_cutR (Ms' := [boxR b9 [.int .i64 ((t).kind), .int .i64 (liftN vb v t.kind t.n), .string ((t).name), sl x30 (g1_10.length), sl (none, 0) (0), sl (none, 0) (0)] 26, rowS 2 53 x30 (g1_10.length) (clFlat g1_10), boxR b8 [.int .i64 (0), .int .i64 (0), .string ((ByteArray.mk #[])), sl (none, 0) (0), sl (none, 0) (0), sl (none, 0) (0)] 26, boxR b5 (tc t vr_t vk_t vs_t) 26, boxR b4 [.int .i64 (vb), .int .i64 (db)] 59]) (¬ (t.kind = 1 ∧ v ≤ t.n ∧ 1000000000 - vb < t.n)) ([(2, .int .i64 (v)), (3, .int .i64 (d)), (4, .pointer (some ⟨b4, 0, none⟩)), (5, .pointer (some ⟨b5, 0, none⟩)), (8, .pointer (some ⟨b8, 0, none⟩)), (9, .pointer (some ⟨b9, 0, none⟩))]) (fun hK => ?_) (fun hfar base => ?_)
      · refine go_condI (fun h40 => ?_) (fun h40 => ?_)
        · have c40 : ((decide (((t).kind) = 1)) && (decide (v ≤ ((t).n)))) = true := h40
          try simp only [sC, bne_iff_ne, beq_iff_eq, ne_eq] at c40
          refine go_seq ?_
          refine go_seq ?_
          refine go_region ⟨_, Try.func34⟩ rfl ?_
          refine q0 rfl (o_fa ?_)
          refine q0 rfl (o_ld ?_)
          refine q0 rfl (o_fa ?_)
          refine q0 rfl (o_ld ?_)
          refine q0 rfl (o_sub ?_)
          refine q0 rfl (o_gtr ?_)
          refine rg_nil ?_
          refine go_condI (fun h46 => ?_) (fun h46 => ?_)
          · have c46 : (decide ((1000000000 - vb) < ((t).n))) = true := h46
            try simp only [sC, bne_iff_ne, beq_iff_eq, ne_eq] at c46
            refine go_region ⟨_, Try.func34⟩ rfl ?_
            refine q0 rfl (o_makeI ?_)
            refine q0 rfl (o_panic (endsR_bad (trav_own_bad (lift_own_far hg1_10 (by omega)))))
          · have c46 : (decide ((1000000000 - vb) < ((t).n))) = false := h46
            try simp only [sC, bne_iff_ne, beq_iff_eq, ne_eq] at c46
            refine go_skip ?_
            refine go_region ⟨_, Try.func34⟩ rfl ?_
            refine q0 rfl (o_fa ?_)
            refine q0 rfl (o_ld ?_)
            refine q0 rfl (o_fa ?_)
            refine q0 rfl (o_ld ?_)
            refine q0 rfl (o_add ?_)
            refine q0 rfl (o_fa ?_)
            refine q0 rfl (o_stc ?_)
            refine rg_nil ?_
            refine go_ms (Ms' := [boxR b9 [.int .i64 ((t).kind), .int .i64 (liftN vb v t.kind t.n), .string ((t).name), sl x30 (g1_10.length), sl (none, 0) (0), sl (none, 0) (0)] 26, rowS 2 53 x30 (g1_10.length) (clFlat g1_10), boxR b8 [.int .i64 (0), .int .i64 (0), .string ((ByteArray.mk #[])), sl (none, 0) (0), sl (none, 0) (0), sl (none, 0) (0)] 26, boxR b5 (tc t vr_t vk_t vs_t) 26, boxR b4 [.int .i64 (vb), .int .i64 (db)] 59]) (by rw [show liftN vb v t.kind t.n = t.n + vb from if_pos (by omega)]; rfl) ?_
            refine go_state (fun w hs => (((((hs.perm perm4).perm perm4).perm perm4).perm perm4).perm perm4)) ?_
            exact hK (by omega) _ ⟨rfl, rfl, rfl, rfl, rfl, rfl, trivial⟩
        · have c40 : ((decide (((t).kind) = 1)) && (decide (v ≤ ((t).n)))) = false := h40
          try simp only [sC, bne_iff_ne, beq_iff_eq, ne_eq] at c40
          refine go_skip ?_
          refine go_ms (Ms' := [boxR b9 [.int .i64 ((t).kind), .int .i64 (liftN vb v t.kind t.n), .string ((t).name), sl x30 (g1_10.length), sl (none, 0) (0), sl (none, 0) (0)] 26, rowS 2 53 x30 (g1_10.length) (clFlat g1_10), boxR b8 [.int .i64 (0), .int .i64 (0), .string ((ByteArray.mk #[])), sl (none, 0) (0), sl (none, 0) (0), sl (none, 0) (0)] 26, boxR b5 (tc t vr_t vk_t vs_t) 26, boxR b4 [.int .i64 (vb), .int .i64 (db)] 59]) (by rw [show liftN vb v t.kind t.n = t.n from if_neg (by omega)]; rfl) ?_
          refine go_state (fun w hs => (((((hs.perm perm4).perm perm4).perm perm4).perm perm4).perm perm4)) ?_
          exact hK (by omega) _ ⟨rfl, rfl, rfl, rfl, rfl, rfl, trivial⟩
      · have hown := lift_own (vb := vb) (v := v) hg1_10 hfar
        refine go_seq ?_
        refine go_seq ?_
        refine go_region ⟨_, Try.func34⟩ rfl ?_
        refine q0 rfl (o_fa ?_)
        refine q0 rfl (o_ld ?_)
        refine q0 rfl (o_len ?_)
        refine q0 rfl (o_move ?_)
        refine rg_nil ?_
        refine go_block ?_
        refine go_loopE (X := Nat × SH × List HT) (fun s_ => s_.1 ≤ t.kids.length ∧ travL (liftTr vb db) t.kind 0 (t.kids.take s_.1) (v, d) = .ok (s_.2.2.map HT.er)) (fun s_ => [(2, .int .i64 (v)), (3, .int .i64 (d)), (4, .pointer (some ⟨b4, 0, none⟩)), (5, .pointer (some ⟨b5, 0, none⟩)), (8, .pointer (some ⟨b8, 0, none⟩)), (9, .pointer (some ⟨b9, 0, none⟩)), (55, sl vk_t ((t).kids.length)), (56, .int .i64 (((t).kids.length : Int))), (57, .int .i64 ((s_.1 : Int)))]) (fun s_ G_ => G_) (fun s_ => [bigR (kidsR tys s_.2.2), rowS 6 26 s_.2.1 (s_.1) (tpFlat (s_.2.2.map HT.tp)), boxR b9 [.int .i64 (t.kind), .int .i64 ((liftN vb v t.kind t.n)), .string (t.name), sl x30 (g1_10.length), sl s_.2.1 (s_.1), sl (none, 0) (0)] 26, rowS 2 53 x30 (g1_10.length) (clFlat g1_10), boxR b8 [.int .i64 (0), .int .i64 (0), .string ((ByteArray.mk #[])), sl (none, 0) (0), sl (none, 0) (0), sl (none, 0) (0)] 26, boxR b5 (tc t vr_t vk_t vs_t) 26, boxR b4 [.int .i64 (vb), .int .i64 (db)] 59]) (fun s_ => t.kids.length - s_.1) (0, (none, 0), []) (⟨by omega, by rw [List.take_zero, travL_nil]; rfl⟩) (by exact ⟨rfl, rfl, rfl, rfl, rfl, rfl, rfl, rfl, rfl, trivial⟩) ?_ ?_
        · exact fun w hs => ((hs.rowS0 6 26).bigNil)
        · intro ⟨i, a, ks⟩ base0 ⟨hi, hks⟩ next0
          dsimp only at  hi  hks  next0 ⊢
          refine go_seq ?_
          refine go_region ⟨_, Try.func34⟩ rfl ?_
          refine q0 rfl (o_lss ?_)
          refine rg_nil ?_
          refine go_seq ?_
          refine go_condI (fun h58 => ?_) (fun h58 => ?_)
          · have c58 : (decide ((i : Int) < ((t).kids.length : Int))) = true := h58
            try simp only [sC, bne_iff_ne, beq_iff_eq, ne_eq] at c58
            have hbi := binds_01 t.kind i
            have hsk := size_kid_lt (t := t) (i := i) (by omega)
            refine go_skip ?_
            refine go_seq ?_
            refine go_block ?_
            refine go_seq ?_
            refine go_kid (ts := (t).kids) (a := vk_t) (VR := VR3) (VK := VK3) (VS := VS3) i (by omega) ?_
            refine go_region ⟨_, Try.func34⟩ rfl ?_
            refine q0 rfl (o_move ?_)
            obtain ⟨bk5, o5, hav5⟩ := hA3 (by omega)
            refine q0 rfl (o_ixN ?_ (j := i))
            refine q0 rfl (o_ldT ?_)
            refine q0 rfl (o_new fun b11 => ?_)
            refine q0 rfl (o_assign ?_)
            refine q0 rfl (o_st ?_)
            refine rg_nil ?_
            refine go_seq ?_
            refine go_region ⟨_, Try.func34⟩ rfl ?_
            refine q0 rfl (o_fa ?_)
            refine q0 rfl (o_ld ?_)
            refine q0 rfl (o_move ?_)
            refine q0 rfl (o_call Try.call44 (binds_spec ((t).kind) (i : Int) ) (fun x66 => ?_))
            refine q0 rfl (o_move ?_)
            refine q0 rfl (o_extract ?_)
            refine q0 rfl (o_extract ?_)
            refine q0 rfl (o_assign ?_)
            refine q0 rfl (o_assign ?_)
            refine rg_nil ?_
            refine go_res (trav (liftTr vb db) (t.kids.getD i t0) ((v + (binds t.kind i).1), (d + (binds t.kind i).2))) (fun g10_10 hg10_10 => ?_) (fun e10_10 he10_10 => ?_)
            · refine go_draw (pn := 1000000) (tn := false) (A := [0, 1, 0, 0, 0, 0, 48, 0, 0, 384, 1020, 2044, 4095, 8191, 16383]) (l := [0, 1, 2, 3, 4, 5, 6, 7, 8, 9, 10, 11]) (fin := [12, 13, 14]) Tab.mixed ⟨_, Try.func34⟩ (by rfl) ?_
              refine n0 rfl (v_fa ?_)
              refine n0 rfl (v_ld ?_)
              refine n0 rfl (v_lds ?_)
              refine n0 rfl (v_lds ?_)
              refine n0 rfl (v_move ?_)
              refine n0 rfl (v_move ?_)
              refine n0 rfl (v_add ?_)
              refine n0 rfl (v_move ?_)
              refine n0 rfl (v_move ?_)
              refine n0 rfl (v_add ?_)
              refine n0 rfl (v_call Try.call34 (((ihk _ (getD_mem (show i < t.kids.length by omega))) (VR3 i) (VK3 i) (VS3 i) (v + ((binds ((t).kind) (i : Int)).1)) (d + ((binds ((t).kind) (i : Int)).2)) hvb hdb (by omega) (by omega)).1 g10_10 hg10_10) (fun x79 => ?_))
              refine n0 rfl (v_lit1 fun b80 => ?_)
              refine NV.done ?_
              refine q0 rfl (o_appS (fun a81 => ?_) (a := a) (n' := i))
              refine rg_state (fun w hs => ((hs.perm perm1).drop).snocT) ?_
              refine q0 rfl (o_fa ?_)
              refine q0 rfl (o_stc ?_)
              refine rg_nil ?_
              refine go_inBlock ?_
              refine go_region ⟨_, Try.func34⟩ rfl ?_
              refine q0 rfl (o_add ?_)
              refine q0 rfl (o_move ?_)
              refine rg_nil ?_
              refine go_state (fun w hs => ?_) (next0 (i + 1, a81, ks ++ [x79.1]) _ (⟨by omega, by rw [List.map_append, List.map_cons, List.map_nil, x79.2]; exact trav_kid_ok (by omega) hks rfl hg10_10⟩) (by (try simp only); omega) ⟨rfl, rfl, rfl, rfl, rfl, rfl, rfl, rfl, rfl, trivial⟩)
              have e1 : (ks ++ [x79.1]).map HT.tp = ks.map HT.tp ++ [(g10_10, x79.1.vr, x79.1.vk, x79.1.vs)] := by simp only [List.map_append, List.map_cons, List.map_nil, HT.tp, x79.2]
              rw [e1]; exact (((((((((((((((((((hs.less (by simp +contextual)).perm perm8).perm perm8).perm perm8).perm perm8).perm perm7).perm perm6).perm perm6).perm perm8).perm perm8).joinK).perm perm7).perm perm7).perm perm7).perm perm7).perm perm5).perm perm6).perm perm6).dropR (A := [_, _, _, _, _, _, _]))
            · refine go_draw (pn := 10) (tn := false) (A := [0, 1, 0, 0, 0, 0, 48, 0, 0, 384, 1020, 2044, 4095, 8191, 16383]) (l := [0, 1, 2, 3, 4, 5, 6, 7, 8, 9, 10, 11]) (fin := [12, 13, 14]) Tab.mixed ⟨_, Try.func34⟩ (by rfl) ?_
              refine n0 rfl (v_fa ?_)
              refine n0 rfl (v_ld ?_)
              refine n0 rfl (v_lds ?_)
              refine n0 rfl (v_lds ?_)
              refine n0 rfl (v_move ?_)
              refine n0 rfl (v_move ?_)
              refine n0 rfl (v_add ?_)
              refine n0 rfl (v_move ?_)
              refine n0 rfl (v_move ?_)
              refine n0 rfl (v_add ?_)
              refine n_pan rfl Try.call34 (((ihk _ (getD_mem (show i < t.kids.length by omega))) (VR3 i) (VK3 i) (VS3 i) (v + ((binds ((t).kind) (i : Int)).1)) (d + ((binds ((t).kind) (i : Int)).2)) hvb hdb (by omega) (by omega)).2 e10_10 he10_10) (endsR_bad (trav_kid_bad hown (by omega) hks rfl he10_10))
          · have c58 : (decide ((i : Int) < ((t).kids.length : Int))) = false := h58
            try simp only [sC, bne_iff_ne, beq_iff_eq, ne_eq] at c58
            have hei : i = t.kids.length := by omega
            rw [hei, List.take_length] at hks
            have hkl : i = ks.length := by have h9 := travL_len hks; rw [List.length_map] at h9; omega
            have hmo := more_01 t.kind
            refine go_exit rfl ?_
            refine go_seq ?_
            refine go_region ⟨_, Try.func34⟩ rfl ?_
            refine q0 rfl (o_assign ?_)
            refine rg_nil ?_
            refine go_seq ?_
            refine go_seq ?_
            refine go_region ⟨_, Try.func34⟩ rfl ?_
            refine q0 rfl (o_fa ?_)
            refine q0 rfl (o_ld ?_)
            refine q0 rfl (o_eqI ?_)
            refine rg_nil ?_
            refine go_cutS ([(2, .int .i64 (v)), (3, .int .i64 (d)), (4, .pointer (some ⟨b4, 0, none⟩)), (5, .pointer (some ⟨b5, 0, none⟩)), (8, .pointer (some ⟨b8, 0, none⟩)), (9, .pointer (some ⟨b9, 0, none⟩)), (14, .int .i64 ((more t.kind)))]) (fun hK => ?_) (fun base => ?_)
            · refine go_condI (fun h86 => ?_) (fun h86 => ?_)
              · have c86 : (decide (((t).kind) = 15)) = true := h86
                try simp only [sC, bne_iff_ne, beq_iff_eq, ne_eq] at c86
                refine go_region ⟨_, Try.func34⟩ rfl ?_
                refine q0 rfl (o_assign ?_)
                refine rg_nil ?_
                exact hK _ ⟨rfl, rfl, rfl, rfl, rfl, rfl, (by (conv => lhs; whnf); first | (rw [show more t.kind = 1 from if_pos (by simpa using h86)]; done) | (rw [show more t.kind = 0 from if_neg (by simpa using h86)]; done)), trivial⟩
              · have c86 : (decide (((t).kind) = 15)) = false := h86
                try simp only [sC, bne_iff_ne, beq_iff_eq, ne_eq] at c86
                refine go_skip ?_
                exact hK _ ⟨rfl, rfl, rfl, rfl, rfl, rfl, (by (conv => lhs; whnf); first | (rw [show more t.kind = 1 from if_pos (by simpa using h86)]; done) | (rw [show more t.kind = 0 from if_neg (by simpa using h86)]; done)), trivial⟩
            · refine go_seq ?_
              refine go_seq ?_
              refine go_region ⟨_, Try.func34⟩ rfl ?_
              refine q0 rfl (o_fa ?_)
              refine q0 rfl (o_ld ?_)
              refine q0 rfl (o_len ?_)
              refine q0 rfl (o_move ?_)
              refine rg_nil ?_
              refine go_block ?_
              refine go_loopE (X := Nat × SH × List HB) (fun s_ => s_.1 ≤ t.sys.length ∧ travB (liftTr vb db) t.kind (t.sys.take s_.1) (v, d) = .ok (s_.2.2.map HB.er)) (fun s_ => [(2, .int .i64 (v)), (3, .int .i64 (d)), (4, .pointer (some ⟨b4, 0, none⟩)), (8, .pointer (some ⟨b8, 0, none⟩)), (9, .pointer (some ⟨b9, 0, none⟩)), (14, .int .i64 ((more t.kind))), (88, sl vs_t ((t).sys.length)), (89, .int .i64 (((t).sys.length : Int))), (90, .int .i64 ((s_.1 : Int)))]) (fun s_ G_ => G_) (fun s_ => [bigR (brsR tys s_.2.2), rowS 2 63 s_.2.1 (s_.1) (bpFlat (s_.2.2.map HB.bp)), bigR (kidsR tys ks), rowS 6 26 a (i) (tpFlat (ks.map HT.tp)), boxR b9 [.int .i64 (t.kind), .int .i64 ((liftN vb v t.kind t.n)), .string (t.name), sl x30 (g1_10.length), sl a (i), sl s_.2.1 (s_.1)] 26, rowS 2 53 x30 (g1_10.length) (clFlat g1_10), boxR b8 [.int .i64 (0), .int .i64 (0), .string ((ByteArray.mk #[])), sl (none, 0) (0), sl (none, 0) (0), sl (none, 0) (0)] 26, boxR b5 (tc t vr_t vk_t vs_t) 26, boxR b4 [.int .i64 (vb), .int .i64 (db)] 59]) (fun s_ => t.sys.length - s_.1) (0, (none, 0), []) (⟨by omega, by rw [List.take_zero, travB_nil]; rfl⟩) (by exact ⟨rfl, rfl, rfl, rfl, rfl, rfl, rfl, rfl, rfl, trivial⟩) ?_ ?_
              · exact fun w hs => ((hs.rowS0 2 63).bigNil)
              · intro ⟨s, a2, bs⟩ base1 ⟨hs1, hbs⟩ next1
                dsimp only at  hs1  hbs  next1 ⊢
                refine go_seq ?_
                refine go_region ⟨_, Try.func34⟩ rfl ?_
                refine q0 rfl (o_lss ?_)
                refine rg_nil ?_
                refine go_seq ?_
                refine go_condI (fun h91 => ?_) (fun h91 => ?_)
                · have c91 : (decide ((s : Int) < ((t).sys.length : Int))) = true := h91
                  try simp only [sC, bne_iff_ne, beq_iff_eq, ne_eq] at c91
                  have hslt : s < t.sys.length := by omega
                  refine go_skip ?_
                  refine go_seq ?_
                  refine go_block ?_
                  refine go_seq ?_
                  refine go_branch (bs := (t).sys) (a := vs_t) (VF := VF4) (VK := VK4) s (by omega) ?_
                  refine go_openCL (l := (((t).sys).getD s br0).face) (a := VF4 s) (fun hl6 hA6 hU6 => ?_)
                  refine go_openTL (ts := (((t).sys).getD s br0).kids) (a := VK4 s) (fun VR7 VK7 VS7 hl7 hA7 => ?_)
                  refine go_region ⟨_, Try.func34⟩ rfl ?_
                  obtain ⟨bk8, o8, hav8⟩ := hA4 (by omega)
                  refine q0 rfl (o_ixN ?_ (j := s))
                  refine q0 rfl (o_ldB ?_)
                  refine q0 rfl (o_new fun b16 => ?_)
                  refine q0 rfl (o_st ?_)
                  refine rg_nil ?_
                  refine go_seq ?_
                  refine go_res (rowLift db (t.sys.getD s br0).face d) (fun g18_4 hg18_4 => ?_) (fun e18_4 he18_4 => ?_)
                  · refine go_region ⟨_, Try.func34⟩ rfl ?_
                    refine q0 rfl (o_lds ?_)
                    refine q0 rfl (o_fa ?_)
                    refine q0 rfl (o_ld ?_)
                    refine q0 rfl (o_move ?_)
                    refine q0 rfl (o_call Try.call60 ((liftRow_spec vb db ((((t).sys).getD s br0).face) (VF4 s) d om_ om_).1 g18_4 hg18_4) (fun x98 => ?_))
                    refine q0 rfl (o_build (cs := [sl x98 (g18_4.length), sl (none, 0) (0)]) ?_)
                    refine q0 rfl (o_new fun b17 => ?_)
                    refine q0 rfl (o_st ?_)
                    refine rg_nil ?_
                    refine go_seq ?_
                    refine go_seq ?_
                    refine go_region ⟨_, Try.func34⟩ rfl ?_
                    refine q0 rfl (o_fa ?_)
                    refine q0 rfl (o_ld ?_)
                    refine q0 rfl (o_len ?_)
                    refine q0 rfl (o_move ?_)
                    refine rg_nil ?_
                    refine go_block ?_
                    refine go_loopE (X := Nat × SH × List HT) (fun s_ => s_.1 ≤ (t.sys.getD s br0).kids.length ∧ travS (liftTr vb db) t.kind ((t.sys.getD s br0).kids.take s_.1) (v, d) = .ok (s_.2.2.map HT.er)) (fun s_ => [(2, .int .i64 (v)), (3, .int .i64 (d)), (4, .pointer (some ⟨b4, 0, none⟩)), (8, .pointer (some ⟨b8, 0, none⟩)), (9, .pointer (some ⟨b9, 0, none⟩)), (14, .int .i64 ((more t.kind))), (17, .pointer (some ⟨b17, 0, none⟩)), (88, sl vs_t ((t).sys.length)), (89, .int .i64 (((t).sys.length : Int))), (90, .int .i64 ((s : Int))), (101, sl (VK4 s) ((((t).sys).getD s br0).kids.length)), (102, .int .i64 (((((t).sys).getD s br0).kids.length : Int))), (103, .int .i64 ((s_.1 : Int)))]) (fun s_ G_ => G_) (fun s_ => [bigR (kidsR tys s_.2.2), rowS 6 26 s_.2.1 (s_.1) (tpFlat (s_.2.2.map HT.tp)), boxR b17 [sl x98 (g18_4.length), sl s_.2.1 (s_.1)] 63, rowS 2 53 x98 (g18_4.length) (clFlat g18_4), boxR b16 (bc (((t).sys).getD s br0) (VF4 s) (VK4 s)) 63, bigR (brsR tys bs), rowS 2 63 a2 (s) (bpFlat (bs.map HB.bp)), bigR (kidsR tys ks), rowS 6 26 a (i) (tpFlat (ks.map HT.tp)), boxR b9 [.int .i64 (t.kind), .int .i64 ((liftN vb v t.kind t.n)), .string (t.name), sl x30 (g1_10.length), sl a (i), sl a2 (s)] 26, rowS 2 53 x30 (g1_10.length) (clFlat g1_10), boxR b8 [.int .i64 (0), .int .i64 (0), .string ((ByteArray.mk #[])), sl (none, 0) (0), sl (none, 0) (0), sl (none, 0) (0)] 26, boxR b5 (tc t vr_t vk_t vs_t) 26, boxR b4 [.int .i64 (vb), .int .i64 (db)] 59]) (fun s_ => (t.sys.getD s br0).kids.length - s_.1) (0, (none, 0), []) (⟨by omega, by rw [List.take_zero, travS_nil]; rfl⟩) (by exact ⟨rfl, rfl, rfl, rfl, rfl, rfl, rfl, rfl, rfl, rfl, rfl, rfl, rfl, trivial⟩) ?_ ?_
                    · exact fun w hs => ((hs.rowS0 6 26).bigNil)
                    · intro ⟨k, a3, cs⟩ base2 ⟨hk1, hcs⟩ next2
                      dsimp only at  hk1  hcs  next2 ⊢
                      refine go_seq ?_
                      refine go_region ⟨_, Try.func34⟩ rfl ?_
                      refine q0 rfl (o_lss ?_)
                      refine rg_nil ?_
                      refine go_seq ?_
                      refine go_condI (fun h104 => ?_) (fun h104 => ?_)
                      · have c104 : (decide ((k : Int) < ((((t).sys).getD s br0).kids.length : Int))) = true := h104
                        try simp only [sC, bne_iff_ne, beq_iff_eq, ne_eq] at c104
                        have hsk := size_sys_lt (t := t) hslt (k := k) (by omega)
                        refine go_skip ?_
                        refine go_seq ?_
                        refine go_block ?_
                        refine go_seq ?_
                        refine go_kid (ts := (((t).sys).getD s br0).kids) (a := VK4 s) (VR := VR7) (VK := VK7) (VS := VS7) k (by omega) ?_
                        refine go_region ⟨_, Try.func34⟩ rfl ?_
                        obtain ⟨bk9, o9, hav9⟩ := hA7 (by omega)
                        refine q0 rfl (o_ixN ?_ (j := k))
                        refine q0 rfl (o_ldT ?_)
                        refine q0 rfl (o_new fun b19 => ?_)
                        refine q0 rfl (o_st ?_)
                        refine rg_nil ?_
                        refine go_res (trav (liftTr vb db) ((t.sys.getD s br0).kids.getD k t0) (v, (d + more t.kind))) (fun g22_8 hg22_8 => ?_) (fun e22_8 he22_8 => ?_)
                        · refine go_draw (pn := 1000000) (tn := false) (A := [0, 1, 0, 0, 0, 0, 0, 96, 252, 508, 1023, 2047, 4095]) (l := [0, 1, 2, 3, 4, 5, 6, 7, 8, 9]) (fin := [10, 11, 12]) Tab.mixed ⟨_, Try.func34⟩ (by rfl) ?_
                          refine n0 rfl (v_fa ?_)
                          refine n0 rfl (v_ld ?_)
                          refine n0 rfl (v_lds ?_)
                          refine n0 rfl (v_lds ?_)
                          refine n0 rfl (v_move ?_)
                          refine n0 rfl (v_move ?_)
                          refine n0 rfl (v_move ?_)
                          refine n0 rfl (v_add ?_)
                          refine n0 rfl (v_call Try.call34 (((ihs _ (getD_mem hslt) _ (getD_mem (show k < (t.sys.getD s br0).kids.length by omega))) (VR7 k) (VK7 k) (VS7 k) v (d + (more t.kind)) hvb hdb (by omega) (by omega)).1 g22_8 hg22_8) (fun x115 => ?_))
                          refine n0 rfl (v_lit1 fun b116 => ?_)
                          refine NV.done ?_
                          refine q0 rfl (o_appS (fun a117 => ?_) (a := a3) (n' := k))
                          refine rg_state (fun w hs => ((hs.perm perm1).drop).snocT) ?_
                          refine q0 rfl (o_fa ?_)
                          refine q0 rfl (o_stc ?_)
                          refine rg_nil ?_
                          refine go_inBlock ?_
                          refine go_region ⟨_, Try.func34⟩ rfl ?_
                          refine q0 rfl (o_add ?_)
                          refine q0 rfl (o_move ?_)
                          refine rg_nil ?_
                          refine go_state (fun w hs => ?_) (next2 (k + 1, a117, cs ++ [x115.1]) _ (⟨by omega, by rw [List.map_append, List.map_cons, List.map_nil, x115.2]; exact travS_at_ok (by omega) hcs rfl (by rw [Int.add_zero]; exact hg22_8)⟩) (by (try simp only); omega) ⟨rfl, rfl, rfl, rfl, rfl, rfl, rfl, rfl, rfl, rfl, rfl, rfl, rfl, trivial⟩)
                          have e1 : (cs ++ [x115.1]).map HT.tp = cs.map HT.tp ++ [(g22_8, x115.1.vr, x115.1.vk, x115.1.vs)] := by simp only [List.map_append, List.map_cons, List.map_nil, HT.tp, x115.2]
                          rw [e1]; exact (((((((((((((((((((((((((((((((((hs.less (by simp +contextual)).perm perm15).perm perm15).perm perm15).perm perm15).perm perm15).perm perm15).perm perm15).perm perm15).perm perm15).perm perm15).perm perm15).perm perm14).perm perm13).perm perm13).perm perm15).perm perm15).joinK).perm perm14).perm perm14).perm perm14).perm perm14).perm perm14).perm perm14).perm perm14).perm perm14).perm perm14).perm perm14).perm perm14).perm perm12).perm perm13).perm perm13).dropR (A := [_, _, _, _, _, _, _, _, _, _, _, _, _, _]))
                        · refine go_draw (pn := 8) (tn := false) (A := [0, 1, 0, 0, 0, 0, 0, 96, 252, 508, 1023, 2047, 4095]) (l := [0, 1, 2, 3, 4, 5, 6, 7, 8, 9]) (fin := [10, 11, 12]) Tab.mixed ⟨_, Try.func34⟩ (by rfl) ?_
                          refine n0 rfl (v_fa ?_)
                          refine n0 rfl (v_ld ?_)
                          refine n0 rfl (v_lds ?_)
                          refine n0 rfl (v_lds ?_)
                          refine n0 rfl (v_move ?_)
                          refine n0 rfl (v_move ?_)
                          refine n0 rfl (v_move ?_)
                          refine n0 rfl (v_add ?_)
                          refine n_pan rfl Try.call34 (((ihs _ (getD_mem hslt) _ (getD_mem (show k < (t.sys.getD s br0).kids.length by omega))) (VR7 k) (VK7 k) (VS7 k) v (d + (more t.kind)) hvb hdb (by omega) (by omega)).2 e22_8 he22_8) (endsR_bad (trav_sys_bad hown hks hslt hbs (.inr ⟨_, lift_face_ok hg18_4, travS_at_bad (by omega) hcs rfl (by rw [Int.add_zero]; exact he22_8)⟩)))
                      · have c104 : (decide ((k : Int) < ((((t).sys).getD s br0).kids.length : Int))) = false := h104
                        try simp only [sC, bne_iff_ne, beq_iff_eq, ne_eq] at c104
                        have hek9 : k = (t.sys.getD s br0).kids.length := by omega
                        have hcs2 := hcs
                        rw [hek9, List.take_length] at hcs2
                        have hek : k = (cs.map HT.er).length := by rw [travS_len hcs2]; exact hek9
                        refine go_ms (Ms' := [bigR (kidsR tys cs), rowS 6 26 a3 ((cs.map HT.er).length) (tpFlat (cs.map HT.tp)), boxR b17 [sl x98 (g18_4.length), sl a3 ((cs.map HT.er).length)] 63, rowS 2 53 x98 (g18_4.length) (clFlat g18_4), boxR b16 (bc (((t).sys).getD s br0) (VF4 s) (VK4 s)) 63, bigR (brsR tys bs), rowS 2 63 a2 (s) (bpFlat (bs.map HB.bp)), bigR (kidsR tys ks), rowS 6 26 a (i) (tpFlat (ks.map HT.tp)), boxR b9 [.int .i64 (t.kind), .int .i64 ((liftN vb v t.kind t.n)), .string (t.name), sl x30 (g1_10.length), sl a (i), sl a2 (s)] 26, rowS 2 53 x30 (g1_10.length) (clFlat g1_10), boxR b8 [.int .i64 (0), .int .i64 (0), .string ((ByteArray.mk #[])), sl (none, 0) (0), sl (none, 0) (0), sl (none, 0) (0)] 26, boxR b5 (tc t vr_t vk_t vs_t) 26, boxR b4 [.int .i64 (vb), .int .i64 (db)] 59]) (by rw [hek]) ?_
                        refine go_exit rfl ?_
                        refine go_region ⟨_, Try.func34⟩ rfl ?_
                        refine q0 rfl (o_fa ?_)
                        refine q0 rfl (o_ld ?_)
                        refine q0 rfl (o_lds ?_)
                        refine q0 rfl (o_lit1 fun b123 => ?_)
                        refine rg_state (fun w hs => hs.perm perm7) ?_
                        refine q0 rfl (o_appS (fun a124 => ?_) (a := a2) (n' := s))
                        refine rg_state (fun w hs => ((hs.perm perm1).drop).snocB (b := (Br.mk g18_4 (cs.map HT.er))) (vf := x98) (vk := a3)) ?_
                        refine q0 rfl (o_fa ?_)
                        refine rg_state (fun w hs => hs.perm perm9) ?_
                        refine q0 rfl (o_stc ?_)
                        refine rg_nil ?_
                        refine go_inBlock ?_
                        refine go_region ⟨_, Try.func34⟩ rfl ?_
                        refine q0 rfl (o_add ?_)
                        refine q0 rfl (o_move ?_)
                        refine rg_nil ?_
                        refine go_state (fun w hs => ?_) (next1 (s + 1, a124, bs ++ [HB.mk g18_4 x98 cs a3]) _ (⟨by omega, by rw [List.map_append, List.map_cons, List.map_nil]; simp only [HB.er, HT.erL_eq]; exact travB_at_ok hslt hbs (lift_face_ok hg18_4) hcs2⟩) (by (try simp only); omega) ⟨rfl, rfl, rfl, rfl, rfl, rfl, rfl, rfl, rfl, trivial⟩)
                        have e1 : (bs ++ [HB.mk g18_4 x98 cs a3]).map HB.bp = bs.map HB.bp ++ [(Br.mk g18_4 (cs.map HT.er), x98, a3)] := by simp only [List.map_append, List.map_cons, List.map_nil, HB.bp, HB.er, HB.vf, HB.vk, HT.erL_eq]
                        rw [e1]; exact ((((((((((((((((((((((((((hs.less (by simp +contextual)).perm perm13).perm perm13).perm perm13).perm perm13).perm perm13).perm perm13).perm perm12).perm perm11).perm perm9).perm perm9).perm perm13).perm perm11).perm perm12).perm perm13).joinB (ks := cs) rfl (by simp) rfl rfl).perm perm10).perm perm10).perm perm10).perm perm10).perm perm5).perm perm10).perm perm10).perm perm8).perm perm8).dropR (A := [_, _, _, _, _, _, _, _, _]))
                  · refine go_region ⟨_, Try.func34⟩ rfl ?_
                    refine q0 rfl (o_lds ?_)
                    refine q0 rfl (o_fa ?_)
                    refine q0 rfl (o_ld ?_)
                    refine q0 rfl (o_move ?_)
                    refine q0 rfl (o_pan Try.call60 ((liftRow_spec vb db ((((t).sys).getD s br0).face) (VF4 s) d om_ om_).2 e18_4 he18_4) (endsR_bad (trav_sys_bad hown hks hslt hbs (.inl (lift_face_bad he18_4)))))
                · have c91 : (decide ((s : Int) < ((t).sys.length : Int))) = false := h91
                  try simp only [sC, bne_iff_ne, beq_iff_eq, ne_eq] at c91
                  have hes : s = t.sys.length := by omega
                  rw [hes, List.take_length] at hbs
                  have hbl : s = bs.length := by have h9 := travB_all hbs; rw [List.length_map] at h9; omega
                  refine go_exit rfl ?_
                  refine go_seq ?_
                  refine go_region ⟨_, Try.func34⟩ rfl ?_
                  refine q0 rfl (o_lds ?_)
                  refine q0 rfl (o_st ?_)
                  refine rg_nil ?_
                  refine go_ok (a := (T.mk t.kind (liftN vb v t.kind t.n) t.name g1_10 (ks.map HT.er) (bs.map HB.er))) (trav_ok_of hown hks hbs) ?_
                  refine retC Try.func34 Try.results34 ⟨(HT.mk t.kind (liftN vb v t.kind t.n) t.name g1_10 x30 ks a bs a2), by simp only [HT.er, HT.erL_eq, HT.erB_eq]⟩ rfl mm_ rfl rfl rfl (by simp only [tc, HT.vr, HT.vk, HT.vs, T.kind, T.n, T.name, T.r, T.kids, T.sys, List.length_map, hkl, hbl]; rfl) (fun w hs => ?_)
                  exact ((((((((((((hs.less (by simp)).perm perm8).perm perm8).perm perm7).perm perm3).perm perm4).perm perm6).perm perm6).perm perm7).perm perm8).joinT (y := tys) (k := t.kind) (n := liftN vb v t.kind t.n) (nm := t.name) rfl hkl hbl rfl rfl rfl).dropR (A := [_]))
  · refine go_draw (pn := 10) (tn := false) (A := [0, 1, 0, 4, 0, 16, 0, 0, 128, 0, 960, 2047, 0, 8191]) (l := [0, 1, 2, 3, 4, 5, 6, 7, 8, 9, 12, 10, 11]) (fin := [13]) Tab.mixed ⟨_, Try.func34⟩ (by rfl) ?_
    refine n0 rfl (v_fa ?_)
    refine n0 rfl (v_ld ?_)
    refine n0 rfl (v_fa ?_)
    refine n0 rfl (v_ld ?_)
    refine n0 rfl (v_fa ?_)
    refine n0 rfl (v_ld ?_)
    refine n0 rfl (v_lds ?_)
    refine n0 rfl (v_fa ?_)
    refine n0 rfl (v_ld ?_)
    refine n0 rfl (v_move ?_)
    refine n0 rfl (v_new fun b9 => ?_)
    refine n_pan rfl Try.call60 ((liftRow_spec vb db ((t).r) vr_t d om_ om_).2 e1_10 he1_10) (endsR_bad (trav_own_bad (lift_own_row he1_10)))
theorem liftO {vb db : Int} : ∀ t : T, LiftO vb db t := T.ind' fun t ihk ihs vr vk vs v d h1 h2 h3 h4 => liftT_walk vb db t vr vk vs v d ihk ihs h1 h2 h3 h4
theorem guardN  (b6 b7 : Nat) : SpecD Try.prog 59 #[.pointer (some ⟨b6, 0, none⟩), .pointer (some ⟨b7, 0, none⟩)] [] [] .returning .returning [] [] := by
  refine specD_goN (args := [.pointer (some ⟨b6, 0, none⟩), .pointer (some ⟨b7, 0, none⟩)]) Try.func59 rfl Try.ntmps59 (by exact Nat.le_of_ble_eq_true rfl) (fun _ _ => rfl) rfl rfl (fun _ => rfl) rfl rfl rfl rfl fun B hB => ?_
  refine go_seq ?_
  refine go_region ⟨_, Try.func59⟩ rfl ?_
  refine q0 rfl (o_move ?_)
  refine q0 rfl (o_neNil ?_)
  refine rg_nil ?_
  refine go_condF ?_
  refine go_skip ?_
  refine end0 Try.func59 Try.results59 () rfl (fun w hs => hs.less (by simp))
theorem guardP  (b6 b7 : Nat) (e : Int) (older : List PanicEntry) : SpecD Try.prog 59 #[.pointer (some ⟨b6, 0, none⟩), .pointer (some ⟨b7, 0, none⟩)] [] [boxR b6 [.int .i64 (0), .int .i64 (0), .string ((ByteArray.mk #[])), sl (none, 0) (0), sl (none, 0) (0), sl (none, 0) (0)] 26, boxR b7 [.int .i64 (0)] 29] (.panicking ({ v := .iface 29 (.int .i64 (e)), recovered := false } :: older)) (.panicking ({ v := .iface 29 (.int .i64 (e)), recovered := true } :: older)) [] [boxR b6 [.int .i64 (0), .int .i64 (0), .string ((ByteArray.mk #[])), sl (none, 0) (0), sl (none, 0) (0), sl (none, 0) (0)] 26, boxR b7 [.int .i64 e] 29] := by
  refine specD_go (args := [.pointer (some ⟨b6, 0, none⟩), .pointer (some ⟨b7, 0, none⟩)]) Try.func59 rfl Try.ntmps59 (by exact Nat.le_of_ble_eq_true rfl) (fun _ _ => rfl) rfl rfl (fun _ => rfl) rfl rfl rfl rfl fun B hB => ?_
  refine go_seq ?_
  refine go_region ⟨_, Try.func59⟩ rfl ?_
  refine q0 rfl (o_move ?_)
  refine q0 rfl (o_neIface ?_)
  refine rg_nil ?_
  refine go_condT ?_
  refine go_seq ?_
  refine go_region ⟨_, Try.func59⟩ rfl ?_
  refine q0 rfl (o_build (cs := [.int .i64 (0), .int .i64 (0), .string ((ByteArray.mk #[])), sl (none, 0) (0), sl (none, 0) (0), sl (none, 0) (0)]) ?_)
  refine q0 rfl (o_st ?_)
  refine q0 rfl (o_st ?_)
  refine rg_nil ?_
  refine go_seq ?_
  refine go_region ⟨_, Try.func59⟩ rfl ?_
  refine q0 rfl (o_move ?_)
  refine q0 rfl (o_tassert ?_)
  refine q0 rfl (o_move ?_)
  refine q0 rfl (o_extract ?_)
  refine q0 rfl (o_extract ?_)
  refine q0 rfl (o_assign ?_)
  refine q0 rfl (o_assign ?_)
  refine rg_nil ?_
  refine go_seq ?_
  refine go_region ⟨_, Try.func59⟩ rfl ?_
  refine q0 rfl (o_move ?_)
  refine rg_nil ?_
  refine go_condT ?_
  refine go_region ⟨_, Try.func59⟩ rfl ?_
  refine q0 rfl (o_move ?_)
  refine q0 rfl (o_st ?_)
  refine rg_nil ?_
  refine end0 Try.func59 Try.results59 () rfl (fun w hs => ((hs.less (by simp)).perm perm1))
theorem guarded_spec (t : T) (vr_t vk_t vs_t : SH) (ns : List Int) (a_ns : SH) (c : FuncId) (cap : List Value) (FΓ : List Fact) (r : Res1 T) (hcall : ∀ (args : Array Value) (w : World), (callFunc c args).run Try.prog w = .ok (.enter c args) w) (hdo : formedP t = 0 → ns.all (fun n => decide (0 ≤ n)) = true → SpecR Try.prog 29 c cap.toArray FΓ r (fun (u : T) => fun x : {h : HT // h.er = u} => .agg (tc u x.1.vr x.1.vk x.1.vs).toArray) (fun _ _ => []) (fun (u : T) => fun x : {h : HT // h.er = u} => [bigR (treeR tys x.1)])) (hz : size t ≤ 1152921504606846) : Spec Try.prog 32 #[.agg (tc t vr_t vk_t vs_t).toArray, sl a_ns (ns.length), .func (.func c) #[] cap.toArray] [RT t vr_t vk_t vs_t, IL ns a_ns, AllFs FΓ] [] (fun x : {h : HT // h.er = (guardRes t ns r).2} => .tuple #[.agg (tc (guardRes t ns r).2 x.1.vr x.1.vk x.1.vs).toArray, .int .i64 (guardRes t ns r).1]) (fun x : {h : HT // h.er = (guardRes t ns r).2} => []) (fun x : {h : HT // h.er = (guardRes t ns r).2} => [bigR (treeR tys x.1)]) := by
  rw [show (#[.agg (tc t vr_t vk_t vs_t).toArray, sl a_ns (ns.length), .func (.func c) #[] cap.toArray] : Array Value) = ([.agg (tc t vr_t vk_t vs_t).toArray, sl a_ns (ns.length), .func (.func c) #[] cap.toArray] : List Value).toArray from rfl]
  refine spec_go Try.func32 Try.ntmps32 rfl (by exact Nat.le_of_ble_eq_true rfl) fun B hB => ?_
  refine go_open (t := t) (vr := vr_t) (vk := vk_t) (vs := vs_t) (fun hk1 hn1 hm1 => ?_)
  refine go_openCL (l := (t).r) (a := vr_t) (fun hl2 hA2 hU2 => ?_)
  refine go_openTL (ts := (t).kids) (a := vk_t) (fun VR3 VK3 VS3 hl3 hA3 => ?_)
  refine go_openBL (bs := (t).sys) (a := vs_t) (fun VF4 VK4 hl4 hA4 => ?_)
  refine go_openIL (l := ns) (a := a_ns) (fun hl5 hA5 hU5 => ?_)
  refine go_seq ?_
  refine go_region ⟨_, Try.func32⟩ rfl ?_
  refine q0 rfl (o_box fun b3 => ?_)
  refine q0 rfl (o_new fun b6 => ?_)
  refine q0 rfl (o_new fun b7 => ?_)
  refine rg_nil ?_
  refine go_seq ?_
  refine go_seq ?_
  refine go_region ⟨_, Try.func32⟩ rfl ?_
  refine q0 rfl (o_lds ?_)
  refine q0 rfl (o_call Try.call10 (formed_spec t (.inr form_spec) vr_t vk_t vs_t om_) (fun x12 => ?_))
  refine q0 rfl (o_assign ?_)
  refine rg_nil ?_
  refine go_seq ?_
  refine go_region ⟨_, Try.func32⟩ rfl ?_
  refine q0 rfl (o_move ?_)
  refine q0 rfl (o_neI ?_)
  refine rg_nil ?_
  refine go_condI (fun h14 => ?_) (fun h14 => ?_)
  · have c14 : (decide ((formedP t) ≠ 0)) = true := h14
    try simp only [sC, bne_iff_ne, beq_iff_eq, ne_eq] at c14
    have hg : guardRes t ns r = (formedP t, t0) := guard_form (by simpa using h14)
    refine go_seq ?_
    refine go_region ⟨_, Try.func32⟩ rfl ?_
    refine q0 rfl (o_build (cs := [.int .i64 (0), .int .i64 (0), .string ((ByteArray.mk #[])), sl (none, 0) (0), sl (none, 0) (0), sl (none, 0) (0)]) ?_)
    refine q0 rfl (o_move ?_)
    refine q0 rfl (o_st ?_)
    refine q0 rfl (o_st ?_)
    refine rg_nil ?_
    refine retCC Try.func32 Try.results32 (⟨h0, by rw [hg]; exact h0_er⟩) rfl rfl mm_ mm_ rfl rfl rfl rfl rfl (by show _ = Value.tuple #[.agg (tc (guardRes t ns r).2 h0.vr h0.vk h0.vs).toArray, .int .i64 (guardRes t ns r).1]; rw [hg]; rfl) (fun w hs => ?_)
    exact ((hs.less (Γ' := []) (by simp)).bare.h0R tys)
  · have c14 : (decide ((formedP t) ≠ 0)) = false := h14
    try simp only [sC, bne_iff_ne, beq_iff_eq, ne_eq] at c14
    have hf0 : formedP t = 0 := by simpa using h14
    refine go_skip ?_
    refine go_seq ?_
    refine go_seq ?_
    refine go_region ⟨_, Try.func32⟩ rfl ?_
    refine q0 rfl (o_move ?_)
    refine q0 rfl (o_len ?_)
    refine q0 rfl (o_move ?_)
    refine rg_nil ?_
    refine go_block ?_
    refine go_loopE (X := Nat) (fun s_ => s_ ≤ ns.length ∧ ∀ j, j < s_ → 0 ≤ ns.getD j 0) (fun s_ => [(2, .func (.func c) #[] cap.toArray), (6, .pointer (some ⟨b6, 0, none⟩)), (7, .pointer (some ⟨b7, 0, none⟩)), (17, sl a_ns (ns.length)), (18, .int .i64 ((ns.length : Int))), (19, .int .i64 ((s_ : Int)))]) (fun s_ G_ => G_) (fun s_ => [boxR b7 [.int .i64 (0)] 29, boxR b6 [.int .i64 (0), .int .i64 (0), .string ((ByteArray.mk #[])), sl (none, 0) (0), sl (none, 0) (0), sl (none, 0) (0)] 26, boxR b3 (tc t vr_t vk_t vs_t) 26]) (fun s_ => ns.length - s_) (0) (⟨Nat.zero_le _, fun j hj => absurd hj (Nat.not_lt_zero _)⟩) (by exact ⟨rfl, rfl, rfl, rfl, rfl, rfl, trivial⟩) ?_ ?_
    · exact fun w hs => hs
    · intro i base0 ⟨hi, hok⟩ next0
      refine go_seq ?_
      refine go_region ⟨_, Try.func32⟩ rfl ?_
      refine q0 rfl (o_lss ?_)
      refine rg_nil ?_
      refine go_seq ?_
      refine go_condI (fun h20 => ?_) (fun h20 => ?_)
      · have c20 : (decide ((i : Int) < (ns.length : Int))) = true := h20
        try simp only [sC, bne_iff_ne, beq_iff_eq, ne_eq] at c20
        refine go_skip ?_
        refine go_seq ?_
        refine go_block ?_
        refine go_seq ?_
        refine go_region ⟨_, Try.func32⟩ rfl ?_
        obtain ⟨bk6, o6, hav6⟩ := hA5 (by omega)
        refine q0 rfl (o_ixN ?_ (j := i))
        refine q0 rfl (o_ldI ?_)
        refine q0 rfl (o_assign ?_)
        refine rg_nil ?_
        refine go_seq ?_
        refine go_region ⟨_, Try.func32⟩ rfl ?_
        refine q0 rfl (o_move ?_)
        refine q0 rfl (o_lss ?_)
        refine rg_nil ?_
        refine go_condI (fun h24 => ?_) (fun h24 => ?_)
        · have c24 : (decide ((ns.getD i 0) < 0)) = true := h24
          try simp only [sC, bne_iff_ne, beq_iff_eq, ne_eq] at c24
          have hg : guardRes t ns r = (2, t0) := guard_neg hf0 (all_false_at (d := 0) (i := i) (by omega) (by simpa using c24))
          refine go_seq ?_
          refine go_region ⟨_, Try.func32⟩ rfl ?_
          refine q0 rfl (o_build (cs := [.int .i64 (0), .int .i64 (0), .string ((ByteArray.mk #[])), sl (none, 0) (0), sl (none, 0) (0), sl (none, 0) (0)]) ?_)
          refine q0 rfl (o_st ?_)
          refine q0 rfl (o_st ?_)
          refine rg_nil ?_
          refine retCC Try.func32 Try.results32 (⟨h0, by rw [hg]; exact h0_er⟩) rfl rfl mm_ mm_ rfl rfl rfl rfl rfl (by show _ = Value.tuple #[.agg (tc (guardRes t ns r).2 h0.vr h0.vk h0.vs).toArray, .int .i64 (guardRes t ns r).1]; rw [hg]; rfl) (fun w hs => ?_)
          exact ((hs.less (Γ' := []) (by simp)).bare.h0R tys)
        · have c24 : (decide ((ns.getD i 0) < 0)) = false := h24
          try simp only [sC, bne_iff_ne, beq_iff_eq, ne_eq] at c24
          refine go_skip ?_
          refine go_inBlock ?_
          refine go_region ⟨_, Try.func32⟩ rfl ?_
          refine q0 rfl (o_add ?_)
          refine q0 rfl (o_move ?_)
          refine rg_nil ?_
          refine go_state (fun w hs => ?_) (next0 (i + 1) _ (⟨by omega, fun j hj => by rcases Nat.lt_succ_iff_lt_or_eq.mp hj with h | h; exact hok j h; subst h; omega⟩) (by omega) ⟨rfl, rfl, rfl, rfl, rfl, rfl, trivial⟩)
          exact ((((hs.less (by simp +contextual)).perm perm2).perm perm2).perm perm2)
      · have c20 : (decide ((i : Int) < (ns.length : Int))) = false := h20
        try simp only [sC, bne_iff_ne, beq_iff_eq, ne_eq] at c20
        have hall : ns.all (fun n => decide (0 ≤ n)) = true := all_true_of (d := 0) (fun j hj => by simpa using hok j (by omega))
        have hdo9 := hdo hf0 hall
        refine go_exit rfl ?_
        refine go_seq ?_
        refine go_region ⟨_, Try.func32⟩ rfl ?_
        refine q0 rfl (o_func ?_)
        refine q0 rfl (o_defer ?_)
        refine rg_nil ?_
        refine go_seq ?_
        refine go_res (r) (fun g11_1 hg11_1 => ?_) (fun e11_1 he11_1 => ?_)
        · have hg := guard_ok hf0 hall hg11_1
          refine go_region ⟨_, Try.func32⟩ rfl ?_
          refine q0 rfl (o_move ?_)
          refine q0 rfl (o_callC hcall ((hdo9.conj).1 g11_1 hg11_1) (cap := cap) (fun x29 => ?_))
          refine q0 rfl (o_st ?_)
          refine q0 rfl (o_st ?_)
          refine rg_nil ?_
          refine retDCC Try.func32 Try.results32 Try.call59 (guardN b6 b7) (⟨x29.1, by rw [hg]; exact x29.2⟩) rfl rfl mm_ mm_ rfl rfl rfl rfl rfl (by show _ = Value.tuple #[.agg (tc (guardRes t ns r).2 x29.1.vr x29.1.vk x29.1.vs).toArray, .int .i64 (guardRes t ns r).1]; rw [hg]; rfl) (fun w hs => ?_)
          exact (((hs.less (by simp)).perm perm2).dropR (A := [_]))
        · have hg := guard_bad hf0 hall he11_1
          refine go_region ⟨_, Try.func32⟩ rfl ?_
          refine q0 rfl (o_move ?_)
          refine q0 rfl (panDCC (Ms2 := [boxR b3 (tc t vr_t vk_t vs_t) 26]) (enterC (args := []) wn_ rfl hcall) ((hdo9.conj).2 e11_1 he11_1) (by simp) Try.func32 Try.results32 Try.call59 (guardP b6 b7 e11_1 []) rfl (by exact perm1) ⟨h0, by rw [hg]; exact h0_er⟩ rfl rfl rfl rfl rfl rfl rfl (by show _ = Value.tuple #[.agg (tc (guardRes t ns r).2 h0.vr h0.vk h0.vs).toArray, .int .i64 (guardRes t ns r).1]; rw [hg]; rfl) (fun w hs => (hs.less (Γ' := []) (by simp)).h0R tys))
theorem liftVars1_spec (g0 : Nat) (b : Int) (g1 : Nat) (t : T) (vr_t vk_t vs_t : SH) (g2 : Nat) (f : Int) (hb : 0 ≤ b ∧ b ≤ 1000000) (hf : 0 ≤ f) (hz : size t ≤ 20000) : SpecR Try.prog 29 36 #[.pointer (some ⟨g0, 0, none⟩), .pointer (some ⟨g1, 0, none⟩), .pointer (some ⟨g2, 0, none⟩)] [At g0 0 [.int .i64 (b)], At g1 0 (tc t vr_t vk_t vs_t), RT t vr_t vk_t vs_t, At g2 0 [.int .i64 (f)]] (varsR t f b) (fun (u : T) => fun x : {h : HT // h.er = u} => .agg (tc u x.1.vr x.1.vk x.1.vs).toArray) (fun (u : T) => fun x : {h : HT // h.er = u} => []) (fun (u : T) => fun x : {h : HT // h.er = u} => [bigR (treeR tys x.1)]) := by
  refine specR_go (args := [.pointer (some ⟨g0, 0, none⟩), .pointer (some ⟨g1, 0, none⟩), .pointer (some ⟨g2, 0, none⟩)]) Try.func36 Try.ntmps36 rfl (by exact Nat.le_of_ble_eq_true rfl) fun B hB => ?_
  have hmn : 0 ≤ (if 2000000000 < f then 2000000000 else f) ∧ (if 2000000000 < f then 2000000000 else f) ≤ 2000000000 := by split <;> omega
  refine go_seq ?_
  refine go_region ⟨_, Try.func36⟩ rfl ?_
  refine q0 rfl (o_new fun b3 => ?_)
  refine rg_nil ?_
  refine go_seq ?_
  refine go_res (varsR t f b) (fun g1_5 hg1_5 => ?_) (fun e1_5 he1_5 => ?_)
  · refine go_region ⟨_, Try.func36⟩ rfl ?_
    refine q0 rfl (o_ldg ?_)
    refine q0 rfl (o_build (cs := [.int .i64 (b), .int .i64 (0)]) ?_)
    refine q0 rfl (o_ldgs ?_)
    refine q0 rfl (o_ldg ?_)
    refine q0 rfl (o_min ?_)
    refine q0 rfl (o_call Try.call34 ((liftO t vr_t vk_t vs_t (if 2000000000 < f then 2000000000 else f) 0 hb (by unfold in64; omega) (by omega) (by omega)).1 g1_5 hg1_5) (fun x9 => ?_))
    refine q0 rfl (o_st ?_)
    refine rg_nil ?_
    refine go_ok (a := g1_5) (hg1_5) ?_
    refine retC Try.func36 Try.results36 x9 rfl mm_ rfl rfl rfl rfl (fun w hs => (((hs.less (by simp)).perm perm1).dropR (A := [_])))
  · refine go_region ⟨_, Try.func36⟩ rfl ?_
    refine q0 rfl (o_ldg ?_)
    refine q0 rfl (o_build (cs := [.int .i64 (b), .int .i64 (0)]) ?_)
    refine q0 rfl (o_ldgs ?_)
    refine q0 rfl (o_ldg ?_)
    refine q0 rfl (o_min ?_)
    refine q0 rfl (o_pan Try.call34 ((liftO t vr_t vk_t vs_t (if 2000000000 < f then 2000000000 else f) 0 hb (by unfold in64; omega) (by omega) (by omega)).2 e1_5 he1_5) (endsR_bad (he1_5)))
theorem liftDims1_spec (g0 : Nat) (b : Int) (g1 : Nat) (t : T) (vr_t vk_t vs_t : SH) (g2 : Nat) (f : Int) (hb : in64 b) (hf : 0 ≤ f) (hz : size t ≤ 20000) : SpecR Try.prog 29 37 #[.pointer (some ⟨g0, 0, none⟩), .pointer (some ⟨g1, 0, none⟩), .pointer (some ⟨g2, 0, none⟩)] [At g0 0 [.int .i64 (b)], At g1 0 (tc t vr_t vk_t vs_t), RT t vr_t vk_t vs_t, At g2 0 [.int .i64 (f)]] (dimsR t f b) (fun (u : T) => fun x : {h : HT // h.er = u} => .agg (tc u x.1.vr x.1.vk x.1.vs).toArray) (fun (u : T) => fun x : {h : HT // h.er = u} => []) (fun (u : T) => fun x : {h : HT // h.er = u} => [bigR (treeR tys x.1)]) := by
  refine specR_go (args := [.pointer (some ⟨g0, 0, none⟩), .pointer (some ⟨g1, 0, none⟩), .pointer (some ⟨g2, 0, none⟩)]) Try.func37 Try.ntmps37 rfl (by exact Nat.le_of_ble_eq_true rfl) fun B hB => ?_
  have hmn : 0 ≤ (if 24 < f then 24 else f) ∧ (if 24 < f then 24 else f) ≤ 24 := by split <;> omega
  refine go_seq ?_
  refine go_region ⟨_, Try.func37⟩ rfl ?_
  refine q0 rfl (o_new fun b3 => ?_)
  refine rg_nil ?_
  refine go_seq ?_
  refine go_res (dimsR t f b) (fun g1_5 hg1_5 => ?_) (fun e1_5 he1_5 => ?_)
  · refine go_region ⟨_, Try.func37⟩ rfl ?_
    refine q0 rfl (o_ldg ?_)
    refine q0 rfl (o_build (cs := [.int .i64 (0), .int .i64 (b)]) ?_)
    refine q0 rfl (o_ldgs ?_)
    refine q0 rfl (o_ldg ?_)
    refine q0 rfl (o_min ?_)
    refine q0 rfl (o_call Try.call34 ((liftO t vr_t vk_t vs_t 0 (if 24 < f then 24 else f) (by omega) hb (by omega) (by omega)).1 g1_5 hg1_5) (fun x9 => ?_))
    refine q0 rfl (o_st ?_)
    refine rg_nil ?_
    refine go_ok (a := g1_5) (hg1_5) ?_
    refine retC Try.func37 Try.results37 x9 rfl mm_ rfl rfl rfl rfl (fun w hs => (((hs.less (by simp)).perm perm1).dropR (A := [_])))
  · refine go_region ⟨_, Try.func37⟩ rfl ?_
    refine q0 rfl (o_ldg ?_)
    refine q0 rfl (o_build (cs := [.int .i64 (0), .int .i64 (b)]) ?_)
    refine q0 rfl (o_ldgs ?_)
    refine q0 rfl (o_ldg ?_)
    refine q0 rfl (o_min ?_)
    refine q0 rfl (o_pan Try.call34 ((liftO t vr_t vk_t vs_t 0 (if 24 < f then 24 else f) (by omega) hb (by omega) (by omega)).2 e1_5 he1_5) (endsR_bad (he1_5)))
theorem vars_spec (t : T) (vr_t vk_t vs_t : SH) (f : Int) (b : Int) (ha : in64 f) (hb : in64 b) (hz : size t ≤ 1152921504606846) : Spec Try.prog 14 #[.agg (tc t vr_t vk_t vs_t).toArray, .int .i64 (f), .int .i64 (b)] [RT t vr_t vk_t vs_t] [] (fun x : {h : HT // h.er = (varsRes t f b).2} => .tuple #[.agg (tc (varsRes t f b).2 x.1.vr x.1.vk x.1.vs).toArray, .int .i64 (varsRes t f b).1]) (fun x : {h : HT // h.er = (varsRes t f b).2} => []) (fun x : {h : HT // h.er = (varsRes t f b).2} => [bigR (treeR tys x.1)]) := by
  refine spec_go (args := [.agg (tc t vr_t vk_t vs_t).toArray, .int .i64 (f), .int .i64 (b)]) Try.func14 Try.ntmps14 rfl (by exact Nat.le_of_ble_eq_true rfl) fun B hB => ?_
  have hz2 := hz
  refine go_seq ?_
  refine go_region ⟨_, Try.func14⟩ rfl ?_
  refine q0 rfl (o_box fun b3 => ?_)
  refine q0 rfl (o_box fun b4 => ?_)
  refine q0 rfl (o_box fun b5 => ?_)
  refine q0 rfl (o_new fun b6 => ?_)
  refine q0 rfl (o_assign ?_)
  refine rg_nil ?_
  refine go_seq ?_
  refine go_ms (Ms' := [boxR b6 [.int .i64 (0), .int .i64 (0), .string ((ByteArray.mk #[])), sl (none, 0) (0), sl (none, 0) (0), sl (none, 0) (0)] 26, boxR b5 [.int .i64 (b)] 3, boxR b4 [.int .i64 (f)] 3, boxR b3 (tc t vr_t vk_t vs_t) 26]) (by rfl) ?_
  refine go_state (fun w hs => (((((hs.perm perm2).perm perm2).perm perm2).perm perm3).settleBox hB)) ?_
  refine go_state (fun w hs => ((((hs.perm perm1).perm perm1).perm perm2).settleBox hB)) ?_
  refine go_state (fun w hs => ((hs.perm perm1).settleBox hB)) ?_
  refine go_state (fun w hs => hs.conj (L := [At b5 0 [.int .i64 b], At b3 0 (tc t vr_t vk_t vs_t), RT t vr_t vk_t vs_t, At b4 0 [.int .i64 f]]) (by simp)) ?_
  refine go_region ⟨_, Try.func14⟩ rfl ?_
  refine q0 rfl (o_ldgs ?_)
  refine q0 rfl (o_ldg ?_)
  refine q0 rfl (o_ldg ?_)
  refine q0 rfl (o_ldg ?_)
  refine q0 rfl (o_subW ?_ (a := 1000000) (b := b))
  refine q0 rfl (o_lit fun b13 => ?_)
  refine q0 rfl (o_func ?_)
  refine rg_state (fun w hs => (((hs.perm perm1).perm perm1).litI [f, b, most b] hB rfl (by simp) (by intro c hc; simp at hc; rcases hc with rfl | rfl | rfl <;> first | assumption | exact most_in _))) ?_
  refine q0 rfl (o_call Try.call32 (guarded_spec t vr_t vk_t vs_t [f, b, most b] (some ⟨b13, 0, none⟩, 3) 36 [.pointer (some ⟨b5, 0, none⟩), .pointer (some ⟨b3, 0, none⟩), .pointer (some ⟨b4, 0, none⟩)] [At b5 0 [.int .i64 b], At b3 0 (tc t vr_t vk_t vs_t), RT t vr_t vk_t vs_t, At b4 0 [.int .i64 f]] (varsR t f b) Try.call36 (fun hf9 ha9 => by have hfz := formed_size hf9; simp only [List.all_cons, List.all_nil, Bool.and_true, Bool.and_eq_true, decide_eq_true_eq] at ha9; exact liftVars1_spec b5 b b3 t vr_t vk_t vs_t b4 f ⟨ha9.2.1, most_le hb ha9.2.1 ha9.2.2⟩ ha9.1 hfz) hz) (fun x15 => ?_))
  refine q0 rfl (o_extract ?_)
  refine q0 rfl (o_extract ?_)
  refine q0 rfl (o_st ?_)
  refine q0 rfl (o_assign ?_)
  refine rg_nil ?_
  refine retCT Try.func14 Try.results14 ⟨x15.1, x15.2⟩ rfl mm_ rfl rfl rfl rfl rfl (fun w hs => (((hs.less (by simp)).perm perm1).dropR (A := [_])))
theorem dims_spec2 (t : T) (vr_t vk_t vs_t : SH) (f : Int) (b : Int) (ha : in64 f) (hb : in64 b) (hz : size t ≤ 1152921504606846) : Spec Try.prog 15 #[.agg (tc t vr_t vk_t vs_t).toArray, .int .i64 (f), .int .i64 (b)] [RT t vr_t vk_t vs_t] [] (fun x : {h : HT // h.er = (dimsRes t f b).2} => .tuple #[.agg (tc (dimsRes t f b).2 x.1.vr x.1.vk x.1.vs).toArray, .int .i64 (dimsRes t f b).1]) (fun x : {h : HT // h.er = (dimsRes t f b).2} => []) (fun x : {h : HT // h.er = (dimsRes t f b).2} => [bigR (treeR tys x.1)]) := by
  refine spec_go (args := [.agg (tc t vr_t vk_t vs_t).toArray, .int .i64 (f), .int .i64 (b)]) Try.func15 Try.ntmps15 rfl (by exact Nat.le_of_ble_eq_true rfl) fun B hB => ?_
  have hz2 := hz
  refine go_seq ?_
  refine go_region ⟨_, Try.func15⟩ rfl ?_
  refine q0 rfl (o_box fun b3 => ?_)
  refine q0 rfl (o_box fun b4 => ?_)
  refine q0 rfl (o_box fun b5 => ?_)
  refine q0 rfl (o_new fun b6 => ?_)
  refine q0 rfl (o_assign ?_)
  refine rg_nil ?_
  refine go_seq ?_
  refine go_ms (Ms' := [boxR b6 [.int .i64 (0), .int .i64 (0), .string ((ByteArray.mk #[])), sl (none, 0) (0), sl (none, 0) (0), sl (none, 0) (0)] 26, boxR b5 [.int .i64 (b)] 3, boxR b4 [.int .i64 (f)] 3, boxR b3 (tc t vr_t vk_t vs_t) 26]) (by rfl) ?_
  refine go_state (fun w hs => (((((hs.perm perm2).perm perm2).perm perm2).perm perm3).settleBox hB)) ?_
  refine go_state (fun w hs => ((((hs.perm perm1).perm perm1).perm perm2).settleBox hB)) ?_
  refine go_state (fun w hs => ((hs.perm perm1).settleBox hB)) ?_
  refine go_state (fun w hs => hs.conj (L := [At b5 0 [.int .i64 b], At b3 0 (tc t vr_t vk_t vs_t), RT t vr_t vk_t vs_t, At b4 0 [.int .i64 f]]) (by simp)) ?_
  refine go_region ⟨_, Try.func15⟩ rfl ?_
  refine q0 rfl (o_ldgs ?_)
  refine q0 rfl (o_ldg ?_)
  refine q0 rfl (o_ldg ?_)
  refine q0 rfl (o_lit2 fun b11 => ?_)
  refine q0 rfl (o_func ?_)
  refine rg_state (fun w hs => (((hs.perm perm1).perm perm1).litI [f, b] hB rfl (by simp) (by intro c hc; simp at hc; rcases hc with rfl | rfl <;> first | assumption | exact most_in _))) ?_
  refine q0 rfl (o_call Try.call32 (guarded_spec t vr_t vk_t vs_t [f, b] (some ⟨b11, 0, none⟩, 2) 37 [.pointer (some ⟨b5, 0, none⟩), .pointer (some ⟨b3, 0, none⟩), .pointer (some ⟨b4, 0, none⟩)] [At b5 0 [.int .i64 b], At b3 0 (tc t vr_t vk_t vs_t), RT t vr_t vk_t vs_t, At b4 0 [.int .i64 f]] (dimsR t f b) Try.call37 (fun hf9 ha9 => by have hfz := formed_size hf9; simp only [List.all_cons, List.all_nil, Bool.and_true, Bool.and_eq_true, decide_eq_true_eq] at ha9; exact liftDims1_spec b5 b b3 t vr_t vk_t vs_t b4 f hb ha9.1 hfz) hz) (fun x13 => ?_))
  refine q0 rfl (o_extract ?_)
  refine q0 rfl (o_extract ?_)
  refine q0 rfl (o_st ?_)
  refine q0 rfl (o_assign ?_)
  refine rg_nil ?_
  refine retCT Try.func15 Try.results15 ⟨x13.1, x13.2⟩ rfl mm_ rfl rfl rfl rfl rfl (fun w hs => (((hs.less (by simp)).perm perm1).dropR (A := [_])))
end Go.Hy
namespace Go.Hy
set_option linter.unusedVariables false
set_option linter.unusedSimpArgs false
set_option linter.unusedSectionVars false
open Go.Proofs
set_option linter.unusedVariables false
set_option linter.unusedSimpArgs false
set_option maxRecDepth 100000
theorem in_lit {n : Int} (h : 0 ≤ n) (h2 : n ≤ 1000) : in64 n := by unfold in64; omega
end Go.Hy
namespace Go.Hy
set_option linter.unusedVariables false
set_option linter.unusedSimpArgs false
set_option linter.unusedSectionVars false
open Go.Proofs
set_option linter.unusedVariables false
set_option linter.unusedSimpArgs false
set_option maxRecDepth 100000
abbrev BulkAt (t : T) : Prop := ∀ (most : Int) vr vk vs, 0 ≤ most → most ≤ 1000000 → Spec Try.prog 28 #[.agg (tc t vr vk vs).toArray, .int .i64 most] [RT t vr vk vs] [] (fun x : {x : Int // BulkIs t (bulk t) most x} => .int .i64 x.1) (fun _ => []) (fun _ => [])
theorem bulk_walk (t : T) (ih : ∀ p, p ∈ parts t → BulkAt p.1) (most : Int) (vr vk vs : SH) (h0 : 0 ≤ most) (hm : most ≤ 1000000) : Spec Try.prog 28 #[.agg (tc t vr vk vs).toArray, .int .i64 most] [RT t vr vk vs] [] (fun x : {x : Int // BulkIs t (bulk t) most x} => .int .i64 x.1) (fun _ => []) (fun _ => []) := by
  refine spec_go (args := [.agg (tc t vr vk vs).toArray, .int .i64 most]) Try.func28 Try.ntmps28 rfl (by exact Nat.le_of_ble_eq_true rfl) fun B hB => ?_
  refine go_open (fun hk hn hnm => ?_)
  refine go_openCL (l := t.r) (a := vr) (fun hlr hAr hUr => ?_)
  refine go_openTL (ts := t.kids) (fun VR VK VS hl1 hA1 => ?_)
  refine go_openBL (bs := t.sys) (fun VF VK2 hl2 hA2 => ?_)
  refine go_seq ?_
  refine go_region ⟨_, Try.func28⟩ rfl ?_
  refine q0 rfl (o_box fun b2 => ?_)
  refine q0 rfl (o_assign ?_)
  refine rg_nil ?_
  refine go_seq ?_
  refine go_seq ?_
  refine go_cutS ([(1, .int .i64 most), (2, .pointer (some ⟨b2, 0, none⟩)), (20, .bool (decide (most < (t.r.length : Int)) || decide (most < (t.name.size : Int))))]) (fun hK => ?_) (fun base => ?_)
  · refine go_region ⟨_, Try.func28⟩ rfl ?_
    refine q0 rfl (o_fa ?_)
    refine q0 rfl (o_ld ?_)
    refine q0 rfl (o_len ?_)
    refine q0 rfl (o_move ?_)
    refine q0 rfl (o_gtr ?_)
    refine q0 rfl (o_move ?_)
    refine qI rfl rfl rfl wl_ (fun hg14 => o_fa ?_) (fun hg14 => ?_)
    · refine qT rfl rfl rfl (o_ld ?_)
      refine qT rfl rfl rfl (o_lenStr ?_)
      refine qT rfl rfl rfl (o_move ?_)
      refine qT rfl rfl rfl (o_gtr ?_)
      refine q0 rfl (o_pickF ?_)
      refine rg_nil ?_
      exact hK _ ⟨rfl, rfl, (by (conv => lhs; whnf); first | (simp_all [Bool.and_assoc]; done) | (simp_all [Bool.and_assoc]; omega)), trivial⟩
    · refine qF rfl rfl rfl ?_
      refine qF rfl rfl rfl ?_
      refine qF rfl rfl rfl ?_
      refine qF rfl rfl rfl ?_
      refine q0 rfl (o_pickT ?_)
      refine rg_nil ?_
      exact hK _ ⟨rfl, rfl, (by (conv => lhs; whnf); first | (simp_all [Bool.and_assoc]; done) | (simp_all [Bool.and_assoc]; omega)), trivial⟩
  · refine go_condI (fun h20 => ?_) (fun h20 => ?_)
    · have hb : most < (t.r.length : Int) ∨ most < (t.name.size : Int) := by simpa using h20
      refine go_seq ?_
      refine go_region ⟨_, Try.func28⟩ rfl ?_
      refine q0 rfl (o_move ?_)
      refine q0 rfl (o_add ?_)
      refine q0 rfl (o_assign ?_)
      refine rg_nil ?_
      refine ret1 Try.func28 Try.results28 wn_ ⟨most + 1, by unfold BulkIs; have h9 := bK_le t 0; rw [bK_zero] at h9; omega⟩ rfl (fun w hs => hs.none)
    · have hb : (t.r.length : Int) ≤ most ∧ (t.name.size : Int) ≤ most := by simpa using h20
      have hge1 := bK_le t 0
      rw [bK_zero] at hge1
      refine go_skip ?_
      refine go_seq ?_
      refine go_region ⟨_, Try.func28⟩ rfl ?_
      refine q0 rfl (o_fa ?_)
      refine q0 rfl (o_ld ?_)
      refine q0 rfl (o_len ?_)
      refine q0 rfl (o_add ?_)
      refine q0 rfl (o_fa ?_)
      refine q0 rfl (o_ld ?_)
      refine q0 rfl (o_lenStr ?_)
      refine q0 rfl (o_add ?_)
      refine q0 rfl (o_assign ?_)
      refine rg_nil ?_
      refine go_seq ?_
      refine go_seq ?_
      refine go_region ⟨_, Try.func28⟩ rfl ?_
      refine q0 rfl (o_assign ?_)
      refine rg_nil ?_
      refine go_block ?_
      refine go_loopI (X := Nat × Int) (fun s => s.1 ≤ t.kids.length ∧ BulkIs t (bK t s.1) most s.2) (fun s => [(1, .int .i64 most), (2, .pointer (some ⟨b2, 0, none⟩)), (5, .int .i64 s.2), (6, .int .i64 (s.1 : Int))]) (fun s => [TLx t.kids vk VR VK VS, BLx t.sys vs VF VK2]) (fun s => [boxR b2 (tc t vr vk vs) 26]) (fun s => t.kids.length - s.1) ((0, 1 + (t.r.length : Int) + (t.name.size : Int))) (⟨Nat.zero_le _, by unfold BulkIs; rw [bK_zero]; simp only; omega⟩) (by exact ⟨rfl, rfl, rfl, rfl, trivial⟩) ?_ ?_
      · exact fun w hs => hs.less (by simp +contextual)
      · intro ⟨i, n⟩ base0 ⟨hi, hn0⟩ next0
        dsimp only at hi hn0 next0 ⊢
        refine go_seq ?_
        refine go_seq ?_
        refine go_cutS ([(1, .int .i64 most), (2, .pointer (some ⟨b2, 0, none⟩)), (5, .int .i64 n), (6, .int .i64 (i : Int)), (40, .bool (decide ((i : Int) < (t.kids.length : Int)) && decide (n ≤ most)))]) (fun hK => ?_) (fun base => ?_)
        · refine go_region ⟨_, Try.func28⟩ rfl ?_
          refine q0 rfl (o_move ?_)
          refine q0 rfl (o_fa ?_)
          refine q0 rfl (o_ld ?_)
          refine q0 rfl (o_len ?_)
          refine q0 rfl (o_lss ?_)
          refine q0 rfl (o_move ?_)
          refine qI rfl rfl rfl wl_ (fun hg36 => o_move ?_) (fun hg36 => ?_)
          · refine qT rfl rfl rfl (o_move ?_)
            refine qT rfl rfl rfl (o_leq ?_)
            refine q0 rfl (o_pickT ?_)
            refine rg_nil ?_
            exact hK _ ⟨rfl, rfl, rfl, rfl, (by (conv => lhs; whnf); first | (simp_all [Bool.and_assoc]; done) | (simp_all [Bool.and_assoc]; omega)), trivial⟩
          · refine qF rfl rfl rfl ?_
            refine qF rfl rfl rfl ?_
            refine q0 rfl (o_pickF ?_)
            refine rg_nil ?_
            exact hK _ ⟨rfl, rfl, rfl, rfl, (by (conv => lhs; whnf); first | (simp_all [Bool.and_assoc]; done) | (simp_all [Bool.and_assoc]; omega)), trivial⟩
        · refine go_condI (fun h40 => ?_) (fun h40 => ?_)
          · have hlt' : (i : Int) < (t.kids.length : Int) ∧ n ≤ most := by simpa using h40
            have hlt : i < t.kids.length := by omega
            obtain ⟨bk, o, hav⟩ := hA1 (by omega)
            refine go_kid (ts := t.kids) (a := vk) i hlt ?_
            obtain ⟨hz1, hz2, hz3⟩ := hn0
            refine go_skip ?_
            refine go_seq ?_
            refine go_block ?_
            refine go_region ⟨_, Try.func28⟩ rfl ?_
            refine q0 rfl (o_move ?_)
            refine q0 rfl (o_fa ?_)
            refine q0 rfl (o_ld ?_)
            refine q0 rfl (o_move ?_)
            refine q0 rfl (o_ixN ?_)
            refine q0 rfl (o_ldT ?_)
            refine q0 rfl (o_move ?_)
            refine q0 rfl (o_move ?_)
            refine q0 rfl (o_sub ?_)
            refine q0 rfl (o_call Try.call28 (ih (t.kids.getD i t0, _, _) (parts_mem (parts_kid t i hlt)) (most - n) _ _ _ (by omega) (by omega)) (fun x52 => ?_))
            have hx := x52.2
            unfold BulkIs at hx
            refine q0 rfl (o_add ?_)
            refine q0 rfl (o_assign ?_)
            refine rg_nil ?_
            refine go_inBlock ?_
            refine go_region ⟨_, Try.func28⟩ rfl ?_
            refine q0 rfl (o_move ?_)
            refine q0 rfl (o_add ?_)
            refine q0 rfl (o_assign ?_)
            refine rg_nil ?_
            have hnn : BulkIs t (bK t (i + 1)) most (n + x52.1) := by (have h9 := bK_le t (i + 1); rw [bK_succ hlt] at h9 ⊢; unfold BulkIs; simp only at hx; omega)
            refine go_state (fun w hs => ?_) (next0 (i + 1, n + x52.1) _ ⟨hlt, hnn⟩ (by simp only; omega) ⟨rfl, rfl, rfl, rfl, trivial⟩)
            exact (hs.less (by simp +contextual))
          · have hge : ¬ ((i : Int) < (t.kids.length : Int) ∧ n ≤ most) := by simpa using h40
            have hnS : BulkIs t (bS t 0) most n := by (unfold BulkIs at hn0 ⊢; rw [bS_zero]; have h9 := bK_le t t.kids.length; rcases Nat.lt_or_ge i t.kids.length with h | h; omega; rw [show i = t.kids.length by omega] at hn0; exact hn0)
            refine go_exit rfl ?_
            refine go_seq ?_
            refine go_seq ?_
            refine go_region ⟨_, Try.func28⟩ rfl ?_
            refine q0 rfl (o_assign ?_)
            refine rg_nil ?_
            refine go_block ?_
            refine go_loopI (X := Nat × Int) (fun s => s.1 ≤ t.sys.length ∧ BulkIs t (bS t s.1) most s.2) (fun s => [(1, .int .i64 most), (2, .pointer (some ⟨b2, 0, none⟩)), (5, .int .i64 s.2), (7, .int .i64 (s.1 : Int))]) (fun s => [TLx t.kids vk VR VK VS, BLx t.sys vs VF VK2]) (fun s => [boxR b2 (tc t vr vk vs) 26]) (fun s => t.sys.length - s.1) ((0, n)) (⟨Nat.zero_le _, hnS⟩) (by exact ⟨rfl, rfl, rfl, rfl, trivial⟩) ?_ ?_
            · exact fun w hs => hs.less (by simp +contextual)
            · intro ⟨i2, n⟩ base1 ⟨hi2, hn2⟩ next1
              dsimp only at hi2 hn2 next1 ⊢
              refine go_seq ?_
              refine go_seq ?_
              refine go_cutS ([(1, .int .i64 most), (2, .pointer (some ⟨b2, 0, none⟩)), (5, .int .i64 n), (7, .int .i64 (i2 : Int)), (63, .bool (decide ((i2 : Int) < (t.sys.length : Int)) && decide (n ≤ most)))]) (fun hK => ?_) (fun base => ?_)
              · refine go_region ⟨_, Try.func28⟩ rfl ?_
                refine q0 rfl (o_move ?_)
                refine q0 rfl (o_fa ?_)
                refine q0 rfl (o_ld ?_)
                refine q0 rfl (o_len ?_)
                refine q0 rfl (o_lss ?_)
                refine q0 rfl (o_move ?_)
                refine qI rfl rfl rfl wl_ (fun hg59 => o_move ?_) (fun hg59 => ?_)
                · refine qT rfl rfl rfl (o_move ?_)
                  refine qT rfl rfl rfl (o_leq ?_)
                  refine q0 rfl (o_pickT ?_)
                  refine rg_nil ?_
                  exact hK _ ⟨rfl, rfl, rfl, rfl, (by (conv => lhs; whnf); first | (simp_all [Bool.and_assoc]; done) | (simp_all [Bool.and_assoc]; omega)), trivial⟩
                · refine qF rfl rfl rfl ?_
                  refine qF rfl rfl rfl ?_
                  refine q0 rfl (o_pickF ?_)
                  refine rg_nil ?_
                  exact hK _ ⟨rfl, rfl, rfl, rfl, (by (conv => lhs; whnf); first | (simp_all [Bool.and_assoc]; done) | (simp_all [Bool.and_assoc]; omega)), trivial⟩
              · refine go_condI (fun h63 => ?_) (fun h63 => ?_)
                · have hlt' : (i2 : Int) < (t.sys.length : Int) ∧ n ≤ most := by simpa using h63
                  have hlt2 : i2 < t.sys.length := by omega
                  obtain ⟨bk2, o2, hav2⟩ := hA2 (by omega)
                  refine go_branch (bs := t.sys) (a := vs) i2 hlt2 ?_
                  refine go_openCL (l := (t.sys.getD i2 br0).face) (a := VF i2) (fun hlf hAf hUf => ?_)
                  refine go_openTL (ts := (t.sys.getD i2 br0).kids) (a := VK2 i2) (fun VR3 VK3 VS3 hl3 hA3 => ?_)
                  obtain ⟨hz1, hz2, hz3⟩ := hn2
                  have hj0 := bJ_le (j := 0) hlt2
                  rw [bJ_zero] at hj0
                  refine go_skip ?_
                  refine go_seq ?_
                  refine go_block ?_
                  refine go_seq ?_
                  refine go_seq ?_
                  refine go_region ⟨_, Try.func28⟩ rfl ?_
                  refine q0 rfl (o_fa ?_)
                  refine q0 rfl (o_ld ?_)
                  refine q0 rfl (o_move ?_)
                  refine q0 rfl (o_ixN ?_)
                  refine q0 rfl (o_fa ?_)
                  refine q0 rfl (o_ldBf ?_)
                  refine q0 rfl (o_len ?_)
                  refine q0 rfl (o_move ?_)
                  refine q0 rfl (o_gtr ?_)
                  refine rg_nil ?_
                  refine go_condI (fun h74 => ?_) (fun h74 => ?_)
                  · have hbf := of_decide_eq_true h74
                    refine go_seq ?_
                    refine go_region ⟨_, Try.func28⟩ rfl ?_
                    refine q0 rfl (o_move ?_)
                    refine q0 rfl (o_add ?_)
                    refine q0 rfl (o_assign ?_)
                    refine rg_nil ?_
                    refine ret1 Try.func28 Try.results28 wn_ ⟨most + 1, by unfold BulkIs; omega⟩ rfl (fun w hs => hs.none)
                  · have hbf := of_decide_eq_false h74
                    refine go_skip ?_
                    refine go_seq ?_
                    refine go_region ⟨_, Try.func28⟩ rfl ?_
                    refine q0 rfl (o_move ?_)
                    refine q0 rfl (o_add ?_)
                    refine q0 rfl (o_fa ?_)
                    refine q0 rfl (o_ld ?_)
                    refine q0 rfl (o_move ?_)
                    refine q0 rfl (o_ixN ?_)
                    refine q0 rfl (o_fa ?_)
                    refine q0 rfl (o_ldBf ?_)
                    refine q0 rfl (o_len ?_)
                    refine q0 rfl (o_add ?_)
                    refine q0 rfl (o_assign ?_)
                    refine rg_nil ?_
                    refine go_seq ?_
                    refine go_region ⟨_, Try.func28⟩ rfl ?_
                    refine q0 rfl (o_assign ?_)
                    refine rg_nil ?_
                    refine go_block ?_
                    refine go_loopI (X := Nat × Int) (fun s => s.1 ≤ (t.sys.getD i2 br0).kids.length ∧ BulkIs t (bJ t i2 s.1) most s.2) (fun s => [(1, .int .i64 most), (2, .pointer (some ⟨b2, 0, none⟩)), (5, .int .i64 s.2), (7, .int .i64 (i2 : Int)), (8, .int .i64 (s.1 : Int))]) (fun s => TLx (t.sys.getD i2 br0).kids (VK2 i2) VR3 VK3 VS3 :: [TLx t.kids vk VR VK VS, BLx t.sys vs VF VK2]) (fun s => [boxR b2 (tc t vr vk vs) 26]) (fun s => (t.sys.getD i2 br0).kids.length - s.1) ((0, n + 1 + ((t.sys.getD i2 br0).face.length : Int))) (⟨Nat.zero_le _, by (unfold BulkIs; rw [bJ_zero]; simp only; omega)⟩) (by exact ⟨rfl, rfl, rfl, rfl, rfl, trivial⟩) ?_ ?_
                    · exact fun w hs => hs.less (by simp +contextual)
                    · intro ⟨j, n⟩ base2 ⟨hj, hn3⟩ next2
                      dsimp only at hj hn3 next2 ⊢
                      refine go_seq ?_
                      refine go_seq ?_
                      refine go_cutS ([(1, .int .i64 most), (2, .pointer (some ⟨b2, 0, none⟩)), (5, .int .i64 n), (7, .int .i64 (i2 : Int)), (8, .int .i64 (j : Int)), (100, .bool (decide ((j : Int) < ((t.sys.getD i2 br0).kids.length : Int)) && decide (n ≤ most)))]) (fun hK => ?_) (fun base => ?_)
                      · refine go_region ⟨_, Try.func28⟩ rfl ?_
                        refine q0 rfl (o_move ?_)
                        refine q0 rfl (o_fa ?_)
                        refine q0 rfl (o_ld ?_)
                        refine q0 rfl (o_move ?_)
                        refine q0 rfl (o_ixN ?_)
                        refine q0 rfl (o_fa ?_)
                        refine q0 rfl (o_ldBf ?_)
                        refine q0 rfl (o_len ?_)
                        refine q0 rfl (o_lss ?_)
                        refine q0 rfl (o_move ?_)
                        refine qI rfl rfl rfl wl_ (fun hg96 => o_move ?_) (fun hg96 => ?_)
                        · refine qT rfl rfl rfl (o_move ?_)
                          refine qT rfl rfl rfl (o_leq ?_)
                          refine q0 rfl (o_pickT ?_)
                          refine rg_nil ?_
                          exact hK _ ⟨rfl, rfl, rfl, rfl, rfl, (by (conv => lhs; whnf); first | (simp_all [Bool.and_assoc]; done) | (simp_all [Bool.and_assoc]; omega)), trivial⟩
                        · refine qF rfl rfl rfl ?_
                          refine qF rfl rfl rfl ?_
                          refine q0 rfl (o_pickF ?_)
                          refine rg_nil ?_
                          exact hK _ ⟨rfl, rfl, rfl, rfl, rfl, (by (conv => lhs; whnf); first | (simp_all [Bool.and_assoc]; done) | (simp_all [Bool.and_assoc]; omega)), trivial⟩
                      · refine go_condI (fun h100 => ?_) (fun h100 => ?_)
                        · have hlt3' : (j : Int) < ((t.sys.getD i2 br0).kids.length : Int) ∧ n ≤ most := by simpa using h100
                          have hlt3 : j < (t.sys.getD i2 br0).kids.length := by omega
                          obtain ⟨bk3, o3, hav3⟩ := hA3 (by omega)
                          refine go_kid (ts := (t.sys.getD i2 br0).kids) (a := VK2 i2) j hlt3 ?_
                          obtain ⟨hy1, hy2, hy3⟩ := hn3
                          refine go_skip ?_
                          refine go_seq ?_
                          refine go_block ?_
                          refine go_region ⟨_, Try.func28⟩ rfl ?_
                          refine q0 rfl (o_move ?_)
                          refine q0 rfl (o_fa ?_)
                          refine q0 rfl (o_ld ?_)
                          refine q0 rfl (o_move ?_)
                          refine q0 rfl (o_ixN ?_)
                          refine q0 rfl (o_fa ?_)
                          refine q0 rfl (o_ldBf ?_)
                          refine q0 rfl (o_move ?_)
                          refine q0 rfl (o_ixN ?_)
                          refine q0 rfl (o_ldT ?_)
                          refine q0 rfl (o_move ?_)
                          refine q0 rfl (o_move ?_)
                          refine q0 rfl (o_sub ?_)
                          refine q0 rfl (o_call Try.call28 (ih ((t.sys.getD i2 br0).kids.getD j t0, _, _) (parts_mem (parts_sys t i2 j hlt2 hlt3)) (most - n) _ _ _ (by omega) (by omega)) (fun x116 => ?_))
                          have hx := x116.2
                          unfold BulkIs at hx
                          refine q0 rfl (o_add ?_)
                          refine q0 rfl (o_assign ?_)
                          refine rg_nil ?_
                          refine go_inBlock ?_
                          refine go_region ⟨_, Try.func28⟩ rfl ?_
                          refine q0 rfl (o_move ?_)
                          refine q0 rfl (o_add ?_)
                          refine q0 rfl (o_assign ?_)
                          refine rg_nil ?_
                          have hnn : BulkIs t (bJ t i2 (j + 1)) most (n + x116.1) := by (have h9 := bJ_le (j := j + 1) hlt2; rw [bJ_succ hlt3] at h9 ⊢; unfold BulkIs; simp only at hx; omega)
                          refine go_state (fun w hs => ?_) (next2 (j + 1, n + x116.1) _ ⟨hlt3, hnn⟩ (by simp only; omega) ⟨rfl, rfl, rfl, rfl, rfl, trivial⟩)
                          exact (hs.less (by simp +contextual))
                        · have hge3 : ¬ ((j : Int) < ((t.sys.getD i2 br0).kids.length : Int) ∧ n ≤ most) := by simpa using h100
                          have hnS2 : BulkIs t (bS t (i2 + 1)) most n := by (unfold BulkIs at hn3 ⊢; rw [bS_succ hlt2]; have h9 := bS_le t (i2 + 1); rw [bS_succ hlt2] at h9; rcases Nat.lt_or_ge j (t.sys.getD i2 br0).kids.length with h | h; omega; rw [show j = (t.sys.getD i2 br0).kids.length by omega] at hn3; exact hn3)
                          refine go_exit rfl ?_
                          refine go_inBlock ?_
                          refine go_region ⟨_, Try.func28⟩ rfl ?_
                          refine q0 rfl (o_move ?_)
                          refine q0 rfl (o_add ?_)
                          refine q0 rfl (o_assign ?_)
                          refine rg_nil ?_
                          refine go_state (fun w hs => ?_) (next1 (i2 + 1, n) _ ⟨hlt2, hnS2⟩ (by simp only; omega) ⟨rfl, rfl, rfl, rfl, trivial⟩)
                          exact (hs.less (by simp +contextual))
                · have hge2 : ¬ ((i2 : Int) < (t.sys.length : Int) ∧ n ≤ most) := by simpa using h63
                  have hfin : BulkIs t (bulk t) most n := by (unfold BulkIs at hn2 ⊢; rcases Nat.lt_or_ge i2 t.sys.length with h | h; omega; rw [show i2 = t.sys.length by omega, bS_all] at hn2; exact hn2)
                  refine go_exit rfl ?_
                  refine go_seq ?_
                  refine go_region ⟨_, Try.func28⟩ rfl ?_
                  refine q0 rfl (o_move ?_)
                  refine q0 rfl (o_assign ?_)
                  refine rg_nil ?_
                  refine ret1 Try.func28 Try.results28 wn_ ⟨n, hfin⟩ rfl (fun w hs => hs.none)
theorem bulk_spec : ∀ t : T, BulkAt t := T.ind fun t ih most vr vk vs h0 hm => bulk_walk t ih most vr vk vs h0 hm
end Go.Hy
namespace Go.Hy
set_option linter.unusedVariables false
set_option linter.unusedSimpArgs false
set_option linter.unusedSectionVars false
open Go.Proofs
set_option linter.unusedVariables false
set_option linter.unusedSimpArgs false
set_option maxRecDepth 100000
theorem liftVarsF (t : T) (vr vk vs : SH) (f b : Int) (ha : in64 f) (hb : in64 b) (hz : size t ≤ 1152921504606846) : Spec Try.prog 14 #[.agg (tc t vr vk vs).toArray, .int .i64 f, .int .i64 b] [RT t vr vk vs] [] (fun x : SH × SH × SH => .tuple #[.agg (tc (varsRes t f b).2 x.1 x.2.1 x.2.2).toArray, .int .i64 (varsRes t f b).1]) (fun x => [RT (varsRes t f b).2 x.1 x.2.1 x.2.2]) (fun _ => []) :=
  Spec.settleT tys (fun v => .tuple #[v, .int .i64 (varsRes t f b).1]) (vars_spec t vr vk vs f b ha hb hz) (fun ok w hs => vars_okT hb (ok_of (hs.facts _ List.mem_cons_self)))
theorem liftDimsF (t : T) (vr vk vs : SH) (f b : Int) (ha : in64 f) (hb : in64 b) (hz : size t ≤ 1152921504606846) : Spec Try.prog 15 #[.agg (tc t vr vk vs).toArray, .int .i64 f, .int .i64 b] [RT t vr vk vs] [] (fun x : SH × SH × SH => .tuple #[.agg (tc (dimsRes t f b).2 x.1 x.2.1 x.2.2).toArray, .int .i64 (dimsRes t f b).1]) (fun x => [RT (dimsRes t f b).2 x.1 x.2.1 x.2.2]) (fun _ => []) :=
  Spec.settleT tys (fun v => .tuple #[v, .int .i64 (dimsRes t f b).1]) (dims_spec2 t vr vk vs f b ha hb hz) (fun ok w hs => dims_okT (ok_of (hs.facts _ List.mem_cons_self)))
theorem great11_spec (t : T) (vr_t vk_t vs_t : SH)  : Spec Try.prog 9 #[.agg (tc t vr_t vk_t vs_t).toArray] [RT t vr_t vk_t vs_t] [] (fun _ : Unit => .bool (decide (400 < bulk t))) (fun _ : Unit => []) (fun _ : Unit => []) := by
  refine spec_go (args := [.agg (tc t vr_t vk_t vs_t).toArray]) Try.func9 Try.ntmps9 rfl (by exact Nat.le_of_ble_eq_true rfl) fun B hB => ?_
  refine go_open (t := t) (vr := vr_t) (vk := vk_t) (vs := vs_t) (fun hk1 hn1 hm1 => ?_)
  refine go_openCL (l := (t).r) (a := vr_t) (fun hl2 hA2 hU2 => ?_)
  refine go_openTL (ts := (t).kids) (a := vk_t) (fun VR3 VK3 VS3 hl3 hA3 => ?_)
  refine go_openBL (bs := (t).sys) (a := vs_t) (fun VF4 VK4 hl4 hA4 => ?_)
  refine go_seq ?_
  refine go_region ⟨_, Try.func9⟩ rfl ?_
  refine q0 rfl (o_box fun b1 => ?_)
  refine q0 rfl (o_assign ?_)
  refine rg_nil ?_
  refine go_seq ?_
  refine go_region ⟨_, Try.func9⟩ rfl ?_
  refine q0 rfl (o_lds ?_)
  refine q0 rfl (o_call Try.call28 (bulk_spec t 400 vr_t vk_t vs_t (by omega) (by omega)) (fun x4 => ?_))
  have hx := x4.2
  unfold BulkIs at hx
  refine q0 rfl (o_gtr ?_)
  refine q0 rfl (o_assign ?_)
  refine rg_nil ?_
  refine ret1 Try.func9 Try.results9 wn_ () (congrArg Value.bool (decide_eq_decide.mpr (by omega))) (fun w hs => hs.none)
theorem works11_spec   : Spec Try.prog 8 #[] [] [] (fun _ : Unit => .bool (true)) (fun _ : Unit => []) (fun _ : Unit => []) := by
  refine spec_go (args := []) Try.func8 Try.ntmps8 rfl (by exact Nat.le_of_ble_eq_true rfl) fun B hB => ?_
  refine go_seq ?_
  refine go_region ⟨_, Try.func8⟩ rfl ?_
  refine q0 rfl (o_assign ?_)
  refine rg_nil ?_
  refine go_seq ?_
  refine go_region ⟨_, Try.func8⟩ rfl ?_
  refine q0 rfl (o_build (cs := [.int .i64 (1), .int .i64 (0), .string ((ByteArray.mk #[])), sl (none, 0) (0), sl (none, 0) (0), sl (none, 0) (0)]) ?_)
  refine q0 rfl (o_build (cs := [.int .i64 (1), .int .i64 (1), .string ((ByteArray.mk #[])), sl (none, 0) (0), sl (none, 0) (0), sl (none, 0) (0)]) ?_)
  refine q0 rfl (o_lit2 fun b9 => ?_)
  refine q0 rfl (o_build (cs := [.int .i64 (6), .int .i64 (0), .string ((ByteArray.mk #[])), sl (none, 0) (0), sl (some ⟨b9, 0, none⟩, 2) (2), sl (none, 0) (0)]) ?_)
  refine q0 rfl (o_lit1 fun b11 => ?_)
  refine q0 rfl (o_build (cs := [.int .i64 (5), .int .i64 (0), .string ((ByteArray.mk #[])), sl (none, 0) (0), sl (some ⟨b11, 0, none⟩, 1) (1), sl (none, 0) (0)]) ?_)
  refine q0 rfl (o_new fun b1 => ?_)
  refine q0 rfl (o_st ?_)
  refine rg_nil ?_
  refine go_state (fun w hs => ?_) (?_ : GoT _ _ _ _ _ _ _ [RT exL nul (some ⟨b11, 0, none⟩, 1) nul] [boxR b1 (tc exL nul (some ⟨b11, 0, none⟩, 1) nul) 26])
  · have g1 := (((((hs.perm perm1).perm perm2).leaf 1 0 ⟨#[]⟩ (in_lit (by omega) (by omega)) (in_lit (by omega) (by omega)) (Nat.zero_le _)).leaf 1 1 ⟨#[]⟩ (in_lit (by omega) (by omega)) (in_lit (by omega) (by omega)) (Nat.zero_le _)).lit2T (t := vE 0) (vr := nul) (vk := nul) (vs := nul) (u := vE 1) (ur := nul) (uk := nul) (us := nul) hB (by simp [vE]) (by simp [vE]) rfl).node 6 0 [vE 0, vE 1] (some ⟨b9, 0, none⟩, 2) (in_lit (by omega) (by omega)) (in_lit (by omega) (by omega)) (by simp)
    have g3 := (g1.lit1T (t := appE) (vr := nul) (vk := (some ⟨b9, 0, none⟩, 2)) (vs := nul) hB (by simp [appE]) rfl).node 5 0 [appE] (some ⟨b11, 0, none⟩, 1) (in_lit (by omega) (by omega)) (in_lit (by omega) (by omega)) (by simp)
    exact (g3.less (by simp [exL]))
  refine go_seq ?_
  refine go_region ⟨_, Try.func8⟩ rfl ?_
  refine q0 rfl (o_lds ?_)
  refine q0 rfl (o_call Try.call14 ((by have h := liftVarsF exL nul (some ⟨b11, 0, none⟩, 1) nul 0 2 (by unfold in64; omega) (by unfold in64; omega) (by rw [exL_size.1]; omega); simp only [ex_vars1, ex_vars2] at h; exact h)) (fun x15 => ?_))
  refine q0 rfl (o_move ?_)
  refine q0 rfl (o_extract ?_)
  refine q0 rfl (o_extract ?_)
  refine q0 rfl (o_new fun b2 => ?_)
  refine q0 rfl (o_st ?_)
  refine q0 rfl (o_assign ?_)
  refine rg_nil ?_
  refine go_seq ?_
  refine go_region ⟨_, Try.func8⟩ rfl ?_
  refine q0 rfl (o_build (cs := [.int .u32 ((((⟨3, 0⟩ : Cl)).pos : Nat) : Int), .int .u32 ((((⟨3, 0⟩ : Cl)).neg : Nat) : Int)]) ?_)
  refine q0 rfl (o_lit1 fun b19 => ?_)
  refine q0 rfl (o_build (cs := [.int .i64 (21), .int .i64 (0), .string ((ByteArray.mk #[])), sl (some ⟨b19, 0, none⟩, 1) (1), sl (none, 0) (0), sl (none, 0) (0)]) ?_)
  refine q0 rfl (o_lit1 fun b21 => ?_)
  refine q0 rfl (o_build (cs := [.int .i64 (12), .int .i64 (0), .string ((ByteArray.mk #[])), sl (none, 0) (0), sl (some ⟨b21, 0, none⟩, 1) (1), sl (none, 0) (0)]) ?_)
  refine q0 rfl (o_new fun b4 => ?_)
  refine q0 rfl (o_st ?_)
  refine rg_nil ?_
  refine go_state (fun w hs => ?_) (?_ : GoT _ _ _ _ _ _ _ [RT exP nul (some ⟨b21, 0, none⟩, 1) nul, RT exA x15.1 x15.2.1 x15.2.2] [boxR b4 (tc exP nul (some ⟨b21, 0, none⟩, 1) nul) 26, boxR b1 (tc exL nul (some ⟨b11, 0, none⟩, 1) nul) 26, boxR b2 (tc exA x15.1 x15.2.1 x15.2.2) 26])
  · have g1 := ((((((hs.perm perm3).perm perm4).perm perm2).perm perm3).perm perm4).boxRow (sz := 2) (m := 1) rfl (by decide)).settleCL (l := [⟨3, 0⟩]) hB rfl rfl (by unfold reach; decide) (by intro c hc; simp at hc; subst hc; exact ⟨by decide, by decide⟩)
    have g2 := (((g1.nilTL 0).nilBL 0).mkRT (k := 21) (n := 0) (nm := ⟨#[]⟩) (in_lit (by omega) (by omega)) (in_lit (by omega) (by omega)) (Nat.zero_le _) (r := [⟨3, 0⟩]) (ks := []) (ss := []) (vr := (some ⟨b19, 0, none⟩, 1)) (vk := nul) (vs := nul) (by simp) (by simp) (by simp))
    have g3 := (g2.lit1T (t := loopE) (vr := (some ⟨b19, 0, none⟩, 1)) (vk := nul) (vs := nul) hB (by simp [loopE]) rfl).node 12 0 [loopE] (some ⟨b21, 0, none⟩, 1) (in_lit (by omega) (by omega)) (in_lit (by omega) (by omega)) (by simp)
    exact (g3.less (by simp [exP]))
  refine go_seq ?_
  refine go_region ⟨_, Try.func8⟩ rfl ?_
  refine q0 rfl (o_lds ?_)
  refine q0 rfl (o_call Try.call15 ((by have h := liftDimsF exP nul (some ⟨b21, 0, none⟩, 1) nul 0 1 (by unfold in64; omega) (by unfold in64; omega) (by rw [exL_size.2]; omega); simp only [ex_dims1, ex_dims2] at h; exact h)) (fun x25 => ?_))
  refine q0 rfl (o_move ?_)
  refine q0 rfl (o_extract ?_)
  refine q0 rfl (o_extract ?_)
  refine q0 rfl (o_new fun b5 => ?_)
  refine q0 rfl (o_st ?_)
  refine q0 rfl (o_assign ?_)
  refine rg_nil ?_
  refine go_open (t := exA) (vr := x15.1) (vk := x15.2.1) (vs := x15.2.2) (fun hk1 hn1 hm1 => ?_)
  refine go_openTL (ts := (exA).kids) (a := x15.2.1) (fun VR2 VK2 VS2 hl2 hA2 => ?_)
  refine go_kid (ts := (exA).kids) (a := x15.2.1) (VR := VR2) (VK := VK2) (VS := VS2) 0 (by decide) ?_
  refine go_open (t := (((exA).kids).getD 0 t0)) (vr := (VR2 0)) (vk := (VK2 0)) (vs := (VS2 0)) (fun hk3 hn3 hm3 => ?_)
  refine go_openTL (ts := (((exA).kids).getD 0 t0).kids) (a := VK2 0) (fun VR4 VK4 VS4 hl4 hA4 => ?_)
  refine go_open (t := exQ) (vr := x25.1) (vk := x25.2.1) (vs := x25.2.2) (fun hk5 hn5 hm5 => ?_)
  refine go_openTL (ts := (exQ).kids) (a := x25.2.1) (fun VR6 VK6 VS6 hl6 hA6 => ?_)
  refine go_kid (ts := (exQ).kids) (a := x25.2.1) (VR := VR6) (VK := VK6) (VS := VS6) 0 (by decide) ?_
  refine go_open (t := (((exQ).kids).getD 0 t0)) (vr := (VR6 0)) (vk := (VK6 0)) (vs := (VS6 0)) (fun hk7 hn7 hm7 => ?_)
  refine go_state (fun w hs => hs.less (Γ' := [TLx (exA).kids x15.2.1 VR2 VK2 VS2, TLx (((exA).kids).getD 0 t0).kids (VK2 0) VR4 VK4 VS4, TLx (exQ).kids x25.2.1 VR6 VK6 VS6, CL (((exQ).kids).getD 0 t0).r (VR6 0)]) (by simp)) ?_
  have hn9A : (exA).kids.length = 1 := rfl
  have hn9B : (((exA).kids).getD 0 t0).kids.length = 2 := rfl
  have hn9Q : (exQ).kids.length = 1 := rfl
  refine go_seq ?_
  refine go_kid (ts := (((exA).kids).getD 0 t0).kids) (a := VK2 0) (VR := VR4) (VK := VK4) (VS := VS4) 0 (by (first | omega | decide)) ?_
  refine go_kid (ts := (((exA).kids).getD 0 t0).kids) (a := VK2 0) (VR := VR4) (VK := VK4) (VS := VS4) 1 (by (first | omega | decide)) ?_
  refine go_cutS ([(0, .bool (true))]) (fun hK => ?_) (fun base => ?_)
  · refine go_region ⟨_, Try.func8⟩ rfl ?_
    refine q0 rfl (o_move ?_)
    refine q0 rfl (o_eqIY ?_ (hp := by first | rfl | decide))
    refine q0 rfl (o_move ?_)
    refine qT rfl rfl rfl (o_fa ?_)
    refine qT rfl rfl rfl (o_ld ?_)
    refine qT rfl rfl rfl (o_len ?_)
    refine qT rfl rfl rfl (o_eqIY ?_ (hp := by first | rfl | decide))
    refine q0 rfl (o_pickT ?_)
    refine q0 rfl (o_move ?_)
    refine qT rfl rfl rfl (o_fa ?_)
    refine qT rfl rfl rfl (o_ld ?_)
    obtain ⟨bk8, o8, hav8⟩ := hA2 (by (first | omega | decide))
    refine qT rfl rfl rfl (o_ixN ?_ (j := 0))
    refine qT rfl rfl rfl (o_fa ?_)
    refine qT rfl rfl rfl (o_ldTf ?_)
    refine qT rfl rfl rfl (o_len ?_)
    refine qT rfl rfl rfl (o_eqIY ?_ (hp := by first | rfl | decide))
    refine q0 rfl (o_pickT ?_)
    refine q0 rfl (o_move ?_)
    refine qT rfl rfl rfl (o_fa ?_)
    refine qT rfl rfl rfl (o_ld ?_)
    refine qT rfl rfl rfl (o_ixN ?_ (j := 0))
    refine qT rfl rfl rfl (o_fa ?_)
    refine qT rfl rfl rfl (o_ldTf ?_)
    obtain ⟨bk9, o9, hav9⟩ := hA4 (by (first | omega | decide))
    refine qT rfl rfl rfl (o_ixN ?_ (j := 0))
    refine qT rfl rfl rfl (o_fa ?_)
    refine qT rfl rfl rfl (o_ldTf ?_)
    refine qT rfl rfl rfl (o_eqIY ?_ (hp := by first | rfl | decide))
    refine q0 rfl (o_pickT ?_)
    refine q0 rfl (o_move ?_)
    refine qT rfl rfl rfl (o_fa ?_)
    refine qT rfl rfl rfl (o_ld ?_)
    refine qT rfl rfl rfl (o_ixN ?_ (j := 0))
    refine qT rfl rfl rfl (o_fa ?_)
    refine qT rfl rfl rfl (o_ldTf ?_)
    refine qT rfl rfl rfl (o_ixN ?_ (j := 1))
    refine qT rfl rfl rfl (o_fa ?_)
    refine qT rfl rfl rfl (o_ldTf ?_)
    refine qT rfl rfl rfl (o_eqIY ?_ (hp := by first | rfl | decide))
    refine q0 rfl (o_pickT ?_)
    refine q0 rfl (o_move ?_)
    refine qT rfl rfl rfl (o_move ?_)
    refine qT rfl rfl rfl (o_eqIY ?_ (hp := by first | rfl | decide))
    refine q0 rfl (o_pickT ?_)
    refine q0 rfl (o_move ?_)
    refine qT rfl rfl rfl (o_fa ?_)
    refine qT rfl rfl rfl (o_ld ?_)
    refine qT rfl rfl rfl (o_len ?_)
    refine qT rfl rfl rfl (o_eqIY ?_ (hp := by first | rfl | decide))
    refine q0 rfl (o_pickT ?_)
    refine q0 rfl (o_move ?_)
    refine qT rfl rfl rfl (o_fa ?_)
    refine qT rfl rfl rfl (o_ld ?_)
    obtain ⟨bk10, o10, hav10⟩ := hA6 (by (first | omega | decide))
    refine qT rfl rfl rfl (o_ixN ?_ (j := 0))
    refine qT rfl rfl rfl (o_fa ?_)
    refine qT rfl rfl rfl (o_ldTf ?_)
    refine qT rfl rfl rfl (o_build (cs := [.int .u32 ((((⟨5, 0⟩ : Cl)).pos : Nat) : Int), .int .u32 ((((⟨5, 0⟩ : Cl)).neg : Nat) : Int)]) ?_)
    refine qT rfl rfl rfl (o_lit1 fun b84 => ?_)
    refine rg_state (fun w hs => (((((((hs.perm perm4).perm perm4).perm perm4).perm perm4).perm perm4).boxRow (sz := 2) (m := 1) rfl (by decide)).settleCL (l := [⟨5, 0⟩]) hB rfl rfl (by unfold reach; decide) (by intro c hc; simp at hc; subst hc; exact ⟨by decide, by decide⟩))) ?_
    refine qT rfl rfl rfl (o_call Try.call29 ((by have h := rsameC (((exQ).kids).getD 0 t0).r (VR6 0) [⟨5, 0⟩] (some ⟨b84, 0, none⟩, 1); rw [decide_eq_true (show (((exQ).kids).getD 0 t0).r = [⟨5, 0⟩] from rfl)] at h; exact h)) (fun x85 => ?_))
    refine q0 rfl (o_pickT ?_)
    refine q0 rfl (o_assign ?_)
    refine rg_nil ?_
    exact go_state (fun w hs => (hs.less (by simp +contextual))) (hK _ ⟨(by first | rfl | ((conv => lhs; whnf); first | (simp_all [exA, exQ, vE, T.kids, T.kind, T.n, T.r]; done) | (simp_all [exA, exQ, vE, T.kids, T.kind, T.n, T.r]; omega))), trivial⟩)
  · refine ret1 Try.func8 Try.results8 wn_ () (by first | rfl | (simp_all; done)) (fun w hs => hs.none)
end Go.Hy
namespace Go.Hy
set_option linter.unusedVariables false
set_option linter.unusedSimpArgs false
set_option linter.unusedSectionVars false
open Go.Proofs
set_option linter.unusedVariables false
set_option linter.unusedSimpArgs false
set_option maxRecDepth 100000
def binA (t : T) (i : Nat) : Int := bindL t.kind 0 (t.kids.take i)
def binB (t : T) (s : Nat) : Int := max (bindL t.kind 0 t.kids) (bindB (t.sys.take s))
def binC (t : T) (s k : Nat) : Int := max (binB t s) (bindS ((t.sys.getD s br0).kids.take k))
theorem binA_zero (t : T) : binA t 0 = 0 := by simp [binA, bindL]
theorem binA_succ {t : T} {i : Nat} (h : i < t.kids.length) : binA t (i + 1) = if (binds t.kind (i : Int)).2 + bindT (t.kids.getD i t0) > binA t i then (binds t.kind (i : Int)).2 + bindT (t.kids.getD i t0) else binA t i := by
  unfold binA
  have hp := bindL_pos (k := t.kind) (ts := t.kids.take i) (i := 0)
  rw [take_succ_getD (d := t0) h, bindL_snoc, List.length_take, Nat.min_eq_left (by omega), Nat.zero_add]
  split <;> omega
theorem binB_zero (t : T) : binB t 0 = binA t t.kids.length := by
  have hp := bindL_pos (k := t.kind) (ts := t.kids) (i := 0)
  unfold binB binA
  rw [List.take_length, List.take_zero, show bindB [] = 0 from rfl]; omega
theorem binB_all (t : T) : binB t t.sys.length = bindT t := by unfold binB; rw [List.take_length, bindT_eq]
theorem binC_zero (t : T) (s : Nat) : binC t s 0 = binB t s := by
  have hp := bindL_pos (k := t.kind) (ts := t.kids) (i := 0)
  unfold binC binB
  rw [List.take_zero, show bindS [] = 0 from rfl]; omega
theorem binC_succ {t : T} {s k : Nat} (h : k < (t.sys.getD s br0).kids.length) : binC t s (k + 1) = if 1 + bindT ((t.sys.getD s br0).kids.getD k t0) > binC t s k then 1 + bindT ((t.sys.getD s br0).kids.getD k t0) else binC t s k := by
  have hp := bindL_pos (k := t.kind) (ts := t.kids) (i := 0)
  unfold binC binB
  rw [take_succ_getD (d := t0) h, bindS_snoc]
  split <;> omega
theorem binC_all {t : T} {s : Nat} (h : s < t.sys.length) : binC t s (t.sys.getD s br0).kids.length = binB t (s + 1) := by
  have hp := bindL_pos (k := t.kind) (ts := t.kids) (i := 0)
  unfold binC binB
  rw [List.take_length, take_succ_getD (d := br0) h, bindB_snoc]; omega
theorem liftVarsH (t : T) (vr vk vs : SH) (f b : Int) (ha : in64 f) (hb : in64 b) (hz : size t ≤ 1152921504606846) : Spec Try.prog 14 #[.agg (tc t vr vk vs).toArray, .int .i64 f, .int .i64 b] [RT t vr vk vs] [] (fun x : {x : (Int × T) × (SH × SH × SH) // x.1 = varsRes t f b} => .tuple #[.agg (tc x.1.1.2 x.1.2.1 x.1.2.2.1 x.1.2.2.2).toArray, .int .i64 x.1.1.1]) (fun x => [RT x.1.1.2 x.1.2.1 x.1.2.2.1 x.1.2.2.2]) (fun _ => []) :=
  Spec.hide (varsRes t f b) (val := fun (r : Int × T) (x : SH × SH × SH) => .tuple #[.agg (tc r.2 x.1 x.2.1 x.2.2).toArray, .int .i64 r.1]) (N := fun (r : Int × T) (x : SH × SH × SH) => [RT r.2 x.1 x.2.1 x.2.2]) (Ms1 := fun _ _ => []) (liftVarsF t vr vk vs f b ha hb hz)
theorem liftDimsH (t : T) (vr vk vs : SH) (f b : Int) (ha : in64 f) (hb : in64 b) (hz : size t ≤ 1152921504606846) : Spec Try.prog 15 #[.agg (tc t vr vk vs).toArray, .int .i64 f, .int .i64 b] [RT t vr vk vs] [] (fun x : {x : (Int × T) × (SH × SH × SH) // x.1 = dimsRes t f b} => .tuple #[.agg (tc x.1.1.2 x.1.2.1 x.1.2.2.1 x.1.2.2.2).toArray, .int .i64 x.1.1.1]) (fun x => [RT x.1.1.2 x.1.2.1 x.1.2.2.1 x.1.2.2.2]) (fun _ => []) :=
  Spec.hide (dimsRes t f b) (val := fun (r : Int × T) (x : SH × SH × SH) => .tuple #[.agg (tc r.2 x.1 x.2.1 x.2.2).toArray, .int .i64 r.1]) (N := fun (r : Int × T) (x : SH × SH × SH) => [RT r.2 x.1 x.2.1 x.2.2]) (Ms1 := fun _ _ => []) (liftDimsF t vr vk vs f b ha hb hz)
abbrev BindersAt (t : T) : Prop := ∀ (vr_t vk_t vs_t : SH), size t ≤ 1000000000 → Spec Try.prog 20 #[.agg (tc t vr_t vk_t vs_t).toArray] [RT t vr_t vk_t vs_t] [] (fun _ : Unit => .int .i64 (bindT t)) (fun _ : Unit => []) (fun _ : Unit => [])
theorem binders_walk (t : T) (ihk : ∀ k, k ∈ t.kids → BindersAt k) (ihs : ∀ b, b ∈ t.sys → ∀ k, k ∈ b.kids → BindersAt k) (vr_t vk_t vs_t : SH) (hz : size t ≤ 1000000000) : Spec Try.prog 20 #[.agg (tc t vr_t vk_t vs_t).toArray] [RT t vr_t vk_t vs_t] [] (fun _ : Unit => .int .i64 (bindT t)) (fun _ : Unit => []) (fun _ : Unit => []) := by
  refine spec_go (args := [.agg (tc t vr_t vk_t vs_t).toArray]) Try.func20 Try.ntmps20 rfl (by exact Nat.le_of_ble_eq_true rfl) fun B hB => ?_
  refine go_open (t := t) (vr := vr_t) (vk := vk_t) (vs := vs_t) (fun hk1 hn1 hm1 => ?_)
  refine go_openCL (l := (t).r) (a := vr_t) (fun hl2 hA2 hU2 => ?_)
  refine go_openTL (ts := (t).kids) (a := vk_t) (fun VR3 VK3 VS3 hl3 hA3 => ?_)
  refine go_openBL (bs := (t).sys) (a := vs_t) (fun VF4 VK4 hl4 hA4 => ?_)
  refine go_seq ?_
  refine go_region ⟨_, Try.func20⟩ rfl ?_
  refine q0 rfl (o_box fun b1 => ?_)
  refine q0 rfl (o_assign ?_)
  refine rg_nil ?_
  refine go_seq ?_
  refine go_region ⟨_, Try.func20⟩ rfl ?_
  refine q0 rfl (o_assign ?_)
  refine rg_nil ?_
  refine go_seq ?_
  refine go_seq ?_
  refine go_region ⟨_, Try.func20⟩ rfl ?_
  refine q0 rfl (o_fa ?_)
  refine q0 rfl (o_ld ?_)
  refine q0 rfl (o_len ?_)
  refine q0 rfl (o_move ?_)
  refine rg_nil ?_
  refine go_block ?_
  refine go_loopE (X := Nat) (fun s_ => s_ ≤ t.kids.length) (fun s_ => [(1, .pointer (some ⟨b1, 0, none⟩)), (3, .int .i64 ((binA t s_))), (13, sl vk_t ((t).kids.length)), (14, .int .i64 (((t).kids.length : Int))), (15, .int .i64 ((s_ : Int)))]) (fun s_ G_ => G_) (fun s_ => [boxR b1 (tc t vr_t vk_t vs_t) 26]) (fun s_ => t.kids.length - s_) (0) (by omega) (by exact ⟨rfl, (by (conv => lhs; whnf); rw [binA_zero]), rfl, rfl, rfl, trivial⟩) ?_ ?_
  · exact fun w hs => hs
  · intro i base0 hi0 next0
    refine go_seq ?_
    refine go_region ⟨_, Try.func20⟩ rfl ?_
    refine q0 rfl (o_lss ?_)
    refine rg_nil ?_
    refine go_seq ?_
    refine go_condI (fun h16 => ?_) (fun h16 => ?_)
    · have c16 : (decide ((i : Int) < ((t).kids.length : Int))) = true := h16
      try simp only [sC, bne_iff_ne, beq_iff_eq, ne_eq] at c16
      have hbk := bindT_size (t.kids.getD i t0)
      have hbp := bindT_pos (t.kids.getD i t0)
      have hbi := binds_in t.kind (i : Int)
      unfold bindsIn at hbi
      have hsk := size_part_lt (List.mem_of_getElem? (parts_kid t i (by omega)))
      dsimp only at hsk
      refine go_skip ?_
      refine go_seq ?_
      refine go_block ?_
      refine go_seq ?_
      refine go_kid (ts := (t).kids) (a := vk_t) (VR := VR3) (VK := VK3) (VS := VS3) i (by omega) ?_
      refine go_region ⟨_, Try.func20⟩ rfl ?_
      refine q0 rfl (o_move ?_)
      obtain ⟨bk5, o5, hav5⟩ := hA3 (by omega)
      refine q0 rfl (o_ixN ?_ (j := i))
      refine q0 rfl (o_ldT ?_)
      refine q0 rfl (o_new fun b5 => ?_)
      refine q0 rfl (o_assign ?_)
      refine q0 rfl (o_st ?_)
      refine rg_nil ?_
      refine go_seq ?_
      refine go_region ⟨_, Try.func20⟩ rfl ?_
      refine q0 rfl (o_fa ?_)
      refine q0 rfl (o_ld ?_)
      refine q0 rfl (o_move ?_)
      refine q0 rfl (o_call Try.call44 (binds_spec ((t).kind) (i : Int) ) (fun x24 => ?_))
      refine q0 rfl (o_move ?_)
      refine q0 rfl (o_extract ?_)
      refine q0 rfl (o_extract ?_)
      refine q0 rfl (o_assign ?_)
      refine q0 rfl (o_assign ?_)
      refine rg_nil ?_
      refine go_region ⟨_, Try.func20⟩ rfl ?_
      refine q0 rfl (o_move ?_)
      refine q0 rfl (o_move ?_)
      refine q0 rfl (o_lds ?_)
      refine q0 rfl (o_call Try.call20 ((ihk (((t).kids).getD i t0) (getD_mem (show i < ((t).kids).length by omega))) (VR3 i) (VK3 i) (VS3 i) (by omega)) (fun x30 => ?_))
      refine q0 rfl (o_add ?_)
      refine q0 rfl (o_max ?_)
      refine q0 rfl (o_assign ?_)
      refine rg_nil ?_
      refine go_inBlock ?_
      refine go_region ⟨_, Try.func20⟩ rfl ?_
      refine q0 rfl (o_add ?_)
      refine q0 rfl (o_move ?_)
      refine rg_nil ?_
      refine go_state (fun w hs => ?_) (next0 (i + 1) _ (by omega) (by omega) ⟨rfl, (by (conv => lhs; whnf); rw [binA_succ (by omega)]), rfl, rfl, rfl, trivial⟩)
      exact (((hs.less (by simp +contextual)).perm perm1).dropR (A := [_]))
    · have c16 : (decide ((i : Int) < ((t).kids.length : Int))) = false := h16
      try simp only [sC, bne_iff_ne, beq_iff_eq, ne_eq] at c16
      have hei : i = t.kids.length := by omega
      refine go_exit rfl ?_
      refine go_seq ?_
      refine go_seq ?_
      refine go_region ⟨_, Try.func20⟩ rfl ?_
      refine q0 rfl (o_fa ?_)
      refine q0 rfl (o_ld ?_)
      refine q0 rfl (o_len ?_)
      refine q0 rfl (o_move ?_)
      refine rg_nil ?_
      refine go_block ?_
      refine go_loopE (X := Nat) (fun s_ => s_ ≤ t.sys.length) (fun s_ => [(3, .int .i64 ((binB t s_))), (35, sl vs_t ((t).sys.length)), (36, .int .i64 (((t).sys.length : Int))), (37, .int .i64 ((s_ : Int)))]) (fun s_ G_ => G_) (fun s_ => [boxR b1 (tc t vr_t vk_t vs_t) 26]) (fun s_ => t.sys.length - s_) (0) (by omega) (by exact ⟨(by (conv => lhs; whnf); rw [binB_zero, ← hei]), rfl, rfl, rfl, trivial⟩) ?_ ?_
      · exact fun w hs => hs
      · intro s base1 hi1 next1
        refine go_seq ?_
        refine go_region ⟨_, Try.func20⟩ rfl ?_
        refine q0 rfl (o_lss ?_)
        refine rg_nil ?_
        refine go_seq ?_
        refine go_condI (fun h38 => ?_) (fun h38 => ?_)
        · have c38 : (decide ((s : Int) < ((t).sys.length : Int))) = true := h38
          try simp only [sC, bne_iff_ne, beq_iff_eq, ne_eq] at c38
          refine go_skip ?_
          refine go_seq ?_
          refine go_block ?_
          refine go_seq ?_
          refine go_branch (bs := (t).sys) (a := vs_t) (VF := VF4) (VK := VK4) s (by omega) ?_
          refine go_openCL (l := (((t).sys).getD s br0).face) (a := VF4 s) (fun hl6 hA6 hU6 => ?_)
          refine go_openTL (ts := (((t).sys).getD s br0).kids) (a := VK4 s) (fun VR7 VK7 VS7 hl7 hA7 => ?_)
          refine go_region ⟨_, Try.func20⟩ rfl ?_
          obtain ⟨bk8, o8, hav8⟩ := hA4 (by omega)
          refine q0 rfl (o_ixN ?_ (j := s))
          refine q0 rfl (o_ldB ?_)
          refine q0 rfl (o_new fun b9 => ?_)
          refine q0 rfl (o_st ?_)
          refine rg_nil ?_
          refine go_seq ?_
          refine go_region ⟨_, Try.func20⟩ rfl ?_
          refine q0 rfl (o_fa ?_)
          refine q0 rfl (o_ld ?_)
          refine q0 rfl (o_len ?_)
          refine q0 rfl (o_move ?_)
          refine rg_nil ?_
          refine go_block ?_
          refine go_loopE (X := Nat) (fun s_ => s_ ≤ (t.sys.getD s br0).kids.length) (fun s_ => [(3, .int .i64 ((binC t s s_))), (35, sl vs_t ((t).sys.length)), (36, .int .i64 (((t).sys.length : Int))), (37, .int .i64 ((s : Int))), (42, sl (VK4 s) ((((t).sys).getD s br0).kids.length)), (43, .int .i64 (((((t).sys).getD s br0).kids.length : Int))), (44, .int .i64 ((s_ : Int)))]) (fun s_ G_ => G_) (fun s_ => [boxR b9 (bc (((t).sys).getD s br0) (VF4 s) (VK4 s)) 63, boxR b1 (tc t vr_t vk_t vs_t) 26]) (fun s_ => (t.sys.getD s br0).kids.length - s_) (0) (by omega) (by exact ⟨(by (conv => lhs; whnf); rw [binC_zero]), rfl, rfl, rfl, rfl, rfl, rfl, trivial⟩) ?_ ?_
          · exact fun w hs => hs
          · intro k base2 hi2 next2
            refine go_seq ?_
            refine go_region ⟨_, Try.func20⟩ rfl ?_
            refine q0 rfl (o_lss ?_)
            refine rg_nil ?_
            refine go_seq ?_
            refine go_condI (fun h45 => ?_) (fun h45 => ?_)
            · have c45 : (decide ((k : Int) < ((((t).sys).getD s br0).kids.length : Int))) = true := h45
              try simp only [sC, bne_iff_ne, beq_iff_eq, ne_eq] at c45
              have hbk := bindT_size ((t.sys.getD s br0).kids.getD k t0)
              have hbp := bindT_pos ((t.sys.getD s br0).kids.getD k t0)
              have hsk := size_part_lt (List.mem_of_getElem? (parts_sys t s k (by omega) (by omega)))
              dsimp only at hsk
              refine go_skip ?_
              refine go_seq ?_
              refine go_block ?_
              refine go_seq ?_
              refine go_kid (ts := (((t).sys).getD s br0).kids) (a := VK4 s) (VR := VR7) (VK := VK7) (VS := VS7) k (by omega) ?_
              refine go_region ⟨_, Try.func20⟩ rfl ?_
              obtain ⟨bk9, o9, hav9⟩ := hA7 (by omega)
              refine q0 rfl (o_ixN ?_ (j := k))
              refine q0 rfl (o_ldT ?_)
              refine q0 rfl (o_new fun b11 => ?_)
              refine q0 rfl (o_st ?_)
              refine rg_nil ?_
              refine go_region ⟨_, Try.func20⟩ rfl ?_
              refine q0 rfl (o_move ?_)
              refine q0 rfl (o_lds ?_)
              refine q0 rfl (o_call Try.call20 ((ihs (((t).sys).getD s br0) (getD_mem (show s < ((t).sys).length by omega)) (((((t).sys).getD s br0).kids).getD k t0) (getD_mem (show k < ((((t).sys).getD s br0).kids).length by omega))) (VR7 k) (VK7 k) (VS7 k) (by omega)) (fun x50 => ?_))
              refine q0 rfl (o_add ?_)
              refine q0 rfl (o_max ?_)
              refine q0 rfl (o_assign ?_)
              refine rg_nil ?_
              refine go_inBlock ?_
              refine go_region ⟨_, Try.func20⟩ rfl ?_
              refine q0 rfl (o_add ?_)
              refine q0 rfl (o_move ?_)
              refine rg_nil ?_
              refine go_state (fun w hs => ?_) (next2 (k + 1) _ (by omega) (by omega) ⟨(by (conv => lhs; whnf); rw [binC_succ (by omega)]), rfl, rfl, rfl, rfl, rfl, rfl, trivial⟩)
              exact ((((hs.less (by simp +contextual)).perm perm2).perm perm2).dropR (A := [_, _]))
            · have c45 : (decide ((k : Int) < ((((t).sys).getD s br0).kids.length : Int))) = false := h45
              try simp only [sC, bne_iff_ne, beq_iff_eq, ne_eq] at c45
              have hek : k = (t.sys.getD s br0).kids.length := by omega
              refine go_exit rfl ?_
              refine go_inBlock ?_
              refine go_region ⟨_, Try.func20⟩ rfl ?_
              refine q0 rfl (o_add ?_)
              refine q0 rfl (o_move ?_)
              refine rg_nil ?_
              refine go_state (fun w hs => ?_) (next1 (s + 1) _ (by omega) (by omega) ⟨(by (conv => lhs; whnf); rw [hek, binC_all (by omega)]), rfl, rfl, rfl, trivial⟩)
              exact (((hs.less (by simp +contextual)).perm perm1).dropR (A := [_]))
        · have c38 : (decide ((s : Int) < ((t).sys.length : Int))) = false := h38
          try simp only [sC, bne_iff_ne, beq_iff_eq, ne_eq] at c38
          have hes : s = t.sys.length := by omega
          refine go_exit rfl ?_
          refine go_seq ?_
          refine go_region ⟨_, Try.func20⟩ rfl ?_
          refine q0 rfl (o_move ?_)
          refine q0 rfl (o_assign ?_)
          refine rg_nil ?_
          refine ret1 Try.func20 Try.results20 wn_ () (by rw [hes, binB_all]) (fun w hs => hs.none)
theorem binders_spec : ∀ t : T, BindersAt t := T.ind' fun t ihk ihs vr_t vk_t vs_t hz => binders_walk t ihk ihs vr_t vk_t vs_t hz
set_option maxHeartbeats 2000000 in
theorem liftFree_spec (t : T) (vr_t vk_t vs_t : SH) (v : Int) (d : Int) (a : Int) (hv : in64 v) (hd : in64 d) (ha : in64 a) : Spec Try.prog 4 #[.agg (tc t vr_t vk_t vs_t).toArray, .int .i64 (v), .int .i64 (d), .int .i64 (a)] [RT t vr_t vk_t vs_t] [] (fun _ : Unit => .bool (true)) (fun _ : Unit => []) (fun _ : Unit => []) := by
  refine spec_go (args := [.agg (tc t vr_t vk_t vs_t).toArray, .int .i64 (v), .int .i64 (d), .int .i64 (a)]) Try.func4 Try.ntmps4 rfl (by exact Nat.le_of_ble_eq_true rfl) fun B hB => ?_
  have hst := size_le_bulk t
  refine go_seq ?_
  refine go_region ⟨_, Try.func4⟩ rfl ?_
  refine q0 rfl (o_box fun b4 => ?_)
  refine q0 rfl (o_assign ?_)
  refine rg_nil ?_
  refine go_seq ?_
  refine go_seq ?_
  refine go_region ⟨_, Try.func4⟩ rfl ?_
  refine q0 rfl (o_call Try.call8 (works11_spec ) (fun x14 => ?_))
  refine q0 rfl (o_not ?_)
  refine rg_nil ?_
  refine go_condF ?_
  refine go_skip ?_
  refine go_seq ?_
  refine go_seq ?_
  refine go_cutS ([(1, .int .i64 (v)), (2, .int .i64 (d)), (3, .int .i64 (a)), (4, .pointer (some ⟨b4, 0, none⟩)), (36, .bool (((((decide (400 < bulk t)) || (decide ((rightP t v d) ≠ 0))) || (decide (a < 0))) || (decide (1000 < v))) || (decide (24 ≤ d))))]) (fun hK => ?_) (fun base => ?_)
  · refine go_region ⟨_, Try.func4⟩ rfl ?_
    refine q0 rfl (o_lds ?_)
    refine q0 rfl (o_call Try.call9 (great11_spec t vr_t vk_t vs_t ) (fun x17 => ?_))
    refine q0 rfl (o_move ?_)
    refine qI rfl rfl rfl wl_ (fun hg18 => ?_) (fun hg18 => ?_)
    · have g18 : (decide (400 < bulk t)) = false := hg18
      try simp only [sC, bne_iff_ne, beq_iff_eq, ne_eq] at g18
      refine o_lds ?_
      refine qT rfl rfl rfl (o_move ?_)
      refine qT rfl rfl rfl (o_move ?_)
      refine qT rfl rfl rfl (o_call Try.call16 (right_spec t (.inr form_spec) vr_t vk_t vs_t v d om_ om_) (fun x22 => ?_))
      refine qT rfl rfl rfl (o_neI ?_)
      refine q0 rfl (o_pickF ?_)
      refine q0 rfl (o_move ?_)
      refine qI rfl rfl rfl wl_ (fun hg25 => ?_) (fun hg25 => ?_)
      · have g25 : (decide ((rightP t v d) ≠ 0)) = false := hg25
        try simp only [sC, bne_iff_ne, beq_iff_eq, ne_eq] at g25
        refine o_move ?_
        refine qT rfl rfl rfl (o_lss ?_)
        refine q0 rfl (o_pickF ?_)
        refine q0 rfl (o_move ?_)
        refine qI rfl rfl rfl wl_ (fun hg29 => ?_) (fun hg29 => ?_)
        · have g29 : (decide (a < 0)) = false := hg29
          try simp only [sC, bne_iff_ne, beq_iff_eq, ne_eq] at g29
          refine o_move ?_
          refine qT rfl rfl rfl (o_gtr ?_)
          refine q0 rfl (o_pickF ?_)
          refine q0 rfl (o_move ?_)
          refine qI rfl rfl rfl wl_ (fun hg33 => ?_) (fun hg33 => ?_)
          · have g33 : (decide (1000 < v)) = false := hg33
            try simp only [sC, bne_iff_ne, beq_iff_eq, ne_eq] at g33
            refine o_move ?_
            refine qT rfl rfl rfl (o_geq ?_)
            refine q0 rfl (o_pickF ?_)
            refine rg_nil ?_
            exact hK _ ⟨rfl, rfl, rfl, rfl, dn_, trivial⟩
          · have g33 : (decide (1000 < v)) = true := hg33
            try simp only [sC, bne_iff_ne, beq_iff_eq, ne_eq] at g33
            refine qF rfl rfl rfl ?_
            refine q0 rfl (o_pickT ?_)
            refine rg_nil ?_
            exact hK _ ⟨rfl, rfl, rfl, rfl, dn_, trivial⟩
        · have g29 : (decide (a < 0)) = true := hg29
          try simp only [sC, bne_iff_ne, beq_iff_eq, ne_eq] at g29
          refine qF rfl rfl rfl ?_
          refine q0 rfl (o_pickT ?_)
          refine q0 rfl (o_move ?_)
          refine qF rfl rfl rfl ?_
          refine qF rfl rfl rfl ?_
          refine q0 rfl (o_pickT ?_)
          refine rg_nil ?_
          exact hK _ ⟨rfl, rfl, rfl, rfl, dn_, trivial⟩
      · have g25 : (decide ((rightP t v d) ≠ 0)) = true := hg25
        try simp only [sC, bne_iff_ne, beq_iff_eq, ne_eq] at g25
        refine qF rfl rfl rfl ?_
        refine q0 rfl (o_pickT ?_)
        refine q0 rfl (o_move ?_)
        refine qF rfl rfl rfl ?_
        refine qF rfl rfl rfl ?_
        refine q0 rfl (o_pickT ?_)
        refine q0 rfl (o_move ?_)
        refine qF rfl rfl rfl ?_
        refine qF rfl rfl rfl ?_
        refine q0 rfl (o_pickT ?_)
        refine rg_nil ?_
        exact hK _ ⟨rfl, rfl, rfl, rfl, dn_, trivial⟩
    · have g18 : (decide (400 < bulk t)) = true := hg18
      try simp only [sC, bne_iff_ne, beq_iff_eq, ne_eq] at g18
      refine qF rfl rfl rfl ?_
      refine qF rfl rfl rfl ?_
      refine qF rfl rfl rfl ?_
      refine qF rfl rfl rfl ?_
      refine q0 rfl (o_pickT ?_)
      refine q0 rfl (o_move ?_)
      refine qF rfl rfl rfl ?_
      refine qF rfl rfl rfl ?_
      refine q0 rfl (o_pickT ?_)
      refine q0 rfl (o_move ?_)
      refine qF rfl rfl rfl ?_
      refine qF rfl rfl rfl ?_
      refine q0 rfl (o_pickT ?_)
      refine q0 rfl (o_move ?_)
      refine qF rfl rfl rfl ?_
      refine qF rfl rfl rfl ?_
      refine q0 rfl (o_pickT ?_)
      refine rg_nil ?_
      exact hK _ ⟨rfl, rfl, rfl, rfl, dn_, trivial⟩
  · refine go_condI (fun h36 => ?_) (fun h36 => ?_)
    · have c36 : (((((decide (400 < bulk t)) || (decide ((rightP t v d) ≠ 0))) || (decide (a < 0))) || (decide (1000 < v))) || (decide (24 ≤ d))) = true := h36
      try simp only [sC, bne_iff_ne, beq_iff_eq, ne_eq] at c36
      refine go_seq ?_
      refine go_region ⟨_, Try.func4⟩ rfl ?_
      refine q0 rfl (o_assign ?_)
      refine rg_nil ?_
      refine ret1 Try.func4 Try.results4 wn_ () rfl (fun w hs => hs.none)
    · have c36 : (((((decide (400 < bulk t)) || (decide ((rightP t v d) ≠ 0))) || (decide (a < 0))) || (decide (1000 < v))) || (decide (24 ≤ d))) = false := h36
      try simp only [sC, bne_iff_ne, beq_iff_eq, ne_eq] at c36
      have hbt : bulk t ≤ 400 := by omega
      have hR : rightP t v d = 0 := by omega
      have hRz := right_zero.mp hR
      have hbs := bindT_size t
      have hbp := bindT_pos t
      obtain ⟨q1, q2, q3, q4⟩ := free_vars hR hbt (by omega) (by omega) ha
      have q5 := free_dims (a := a) hR hbt (by omega) (by omega) (by omega)
      refine go_skip ?_
      refine go_seq ?_
      refine go_region ⟨_, Try.func4⟩ rfl ?_
      refine q0 rfl (o_lds ?_)
      refine q0 rfl (o_move ?_)
      refine q0 rfl (o_call Try.call14 (liftVarsH t vr_t vk_t vs_t a 1 om_ om_ om_) (fun x40 => ?_))
      refine q0 rfl (o_move ?_)
      refine q0 rfl (o_extract ?_)
      refine q0 rfl (o_extract ?_)
      refine q0 rfl (o_new fun b9 => ?_)
      refine q0 rfl (o_st ?_)
      refine q0 rfl (o_assign ?_)
      refine rg_nil ?_
      rw [← x40.2] at q1 q2 q3 q4
      refine go_seq ?_
      refine go_seq ?_
      refine go_cutS ([(1, .int .i64 (v)), (2, .int .i64 (d)), (3, .int .i64 (a)), (4, .pointer (some ⟨b4, 0, none⟩)), (64, .bool ((((decide (x40.1.1.1 ≠ 0)) || (uses x40.1.1.2 a)) || (decide ((rightP x40.1.1.2 (v + 1) d) ≠ 0))) || (decide ((size x40.1.1.2 : Int) ≠ (size t : Int)))))]) (fun hK => ?_) (fun base => ?_)
      · refine go_draw (pn := 1000000) (tn := false) (A := [0, 1, 3, 7, 7, 31, 63, 127, 255, 255, 767, 255, 4095, 8191, 16383, 32767, 65535, 131071, 65535, 524287, 1048575, 2097151]) (l := [0, 1, 2, 3, 4, 5, 6, 7, 8, 9, 10, 11, 12, 13, 14, 15, 16, 18, 17, 19, 20, 21]) (fin := []) Tab.mixed ⟨_, Try.func4⟩ (by decide +kernel) ?_
        refine n0 rfl (v_move ?_)
        refine n0 rfl (v_neI ?_)
        refine n0 rfl (v_move ?_)
        refine nI rfl rfl rfl wl_ (fun hg45 => ?_) (fun hg45 => ?_)
        · have g45 : (decide (x40.1.1.1 ≠ 0)) = false := hg45
          try simp only [sC, bne_iff_ne, beq_iff_eq, ne_eq] at g45
          refine v_lds ?_
          refine nT rfl rfl rfl (v_move ?_)
          refine nT rfl rfl rfl (v_call Try.call17 (uses_spec x40.1.1.2 a x40.1.2.1 x40.1.2.2.1 x40.1.2.2.2 om_) (fun x48 => ?_))
          refine n0 rfl (v_pickF ?_)
          refine n0 rfl (v_move ?_)
          refine nI rfl rfl rfl wl_ (fun hg50 => ?_) (fun hg50 => ?_)
          · have g50 : ((uses x40.1.1.2 a)) = false := hg50
            try simp only [sC, bne_iff_ne, beq_iff_eq, ne_eq] at g50
            refine v_lds ?_
            refine nT rfl rfl rfl (v_move ?_)
            refine nT rfl rfl rfl (v_add ?_)
            refine nT rfl rfl rfl (v_move ?_)
            refine nT rfl rfl rfl (v_call Try.call16 (right_spec x40.1.1.2 (.inr form_spec) x40.1.2.1 x40.1.2.2.1 x40.1.2.2.2 (v + 1) d om_ om_) (fun x55 => ?_))
            refine nT rfl rfl rfl (v_neI ?_)
            refine n0 rfl (v_pickF ?_)
            refine n0 rfl (v_move ?_)
            refine nI rfl rfl rfl wl_ (fun hg58 => ?_) (fun hg58 => ?_)
            · have g58 : (decide ((rightP x40.1.1.2 (v + 1) d) ≠ 0)) = false := hg58
              try simp only [sC, bne_iff_ne, beq_iff_eq, ne_eq] at g58
              refine v_lds ?_
              refine nT rfl rfl rfl (v_lds ?_)
              refine nT rfl rfl rfl (v_call Try.call18 (size_spec x40.1.1.2 om_ x40.1.2.1 x40.1.2.2.1 x40.1.2.2.2) (fun x60 => ?_))
              refine nT rfl rfl rfl (v_call Try.call18 (size_spec t om_ vr_t vk_t vs_t) (fun x62 => ?_))
              refine nT rfl rfl rfl (v_neI ?_)
              refine n0 rfl (v_pickF ?_)
              refine NV.done ?_
              refine rg_nil ?_
              exact hK _ ⟨rfl, rfl, rfl, rfl, dn_, trivial⟩
            · have g58 : (decide ((rightP x40.1.1.2 (v + 1) d) ≠ 0)) = true := hg58
              try simp only [sC, bne_iff_ne, beq_iff_eq, ne_eq] at g58
              refine nF rfl rfl rfl ?_
              refine nF rfl rfl rfl ?_
              refine nF rfl rfl rfl ?_
              refine nF rfl rfl rfl ?_
              refine n0 rfl (v_pickT ?_)
              refine NV.done ?_
              refine rg_nil ?_
              exact hK _ ⟨rfl, rfl, rfl, rfl, dn_, trivial⟩
          · have g50 : ((uses x40.1.1.2 a)) = true := hg50
            try simp only [sC, bne_iff_ne, beq_iff_eq, ne_eq] at g50
            refine nF rfl rfl rfl ?_
            refine nF rfl rfl rfl ?_
            refine nF rfl rfl rfl ?_
            refine nF rfl rfl rfl ?_
            refine nF rfl rfl rfl ?_
            refine n0 rfl (v_pickT ?_)
            refine n0 rfl (v_move ?_)
            refine nF rfl rfl rfl ?_
            refine nF rfl rfl rfl ?_
            refine nF rfl rfl rfl ?_
            refine nF rfl rfl rfl ?_
            refine nF rfl rfl rfl ?_
            refine n0 rfl (v_pickT ?_)
            refine NV.done ?_
            refine rg_nil ?_
            exact hK _ ⟨rfl, rfl, rfl, rfl, dn_, trivial⟩
        · have g45 : (decide (x40.1.1.1 ≠ 0)) = true := hg45
          try simp only [sC, bne_iff_ne, beq_iff_eq, ne_eq] at g45
          refine nF rfl rfl rfl ?_
          refine nF rfl rfl rfl ?_
          refine n0 rfl (v_pickT ?_)
          refine n0 rfl (v_move ?_)
          refine nF rfl rfl rfl ?_
          refine nF rfl rfl rfl ?_
          refine nF rfl rfl rfl ?_
          refine nF rfl rfl rfl ?_
          refine nF rfl rfl rfl ?_
          refine nF rfl rfl rfl ?_
          refine n0 rfl (v_pickT ?_)
          refine n0 rfl (v_move ?_)
          refine nF rfl rfl rfl ?_
          refine nF rfl rfl rfl ?_
          refine nF rfl rfl rfl ?_
          refine nF rfl rfl rfl ?_
          refine nF rfl rfl rfl ?_
          refine n0 rfl (v_pickT ?_)
          refine NV.done ?_
          refine rg_nil ?_
          exact hK _ ⟨rfl, rfl, rfl, rfl, dn_, trivial⟩
      · refine go_condI (fun h64 => ?_) (fun h64 => ?_)
        · have c64 : ((((decide (x40.1.1.1 ≠ 0)) || (uses x40.1.1.2 a)) || (decide ((rightP x40.1.1.2 (v + 1) d) ≠ 0))) || (decide ((size x40.1.1.2 : Int) ≠ (size t : Int)))) = true := h64
          try simp only [sC, bne_iff_ne, beq_iff_eq, ne_eq] at c64
          exact absurd h64 (by simp [q1, q2, q3, q4])
        · have c64 : ((((decide (x40.1.1.1 ≠ 0)) || (uses x40.1.1.2 a)) || (decide ((rightP x40.1.1.2 (v + 1) d) ≠ 0))) || (decide ((size x40.1.1.2 : Int) ≠ (size t : Int)))) = false := h64
          try simp only [sC, bne_iff_ne, beq_iff_eq, ne_eq] at c64
          refine go_skip ?_
          refine go_seq ?_
          refine go_region ⟨_, Try.func4⟩ rfl ?_
          refine q0 rfl (o_lds ?_)
          refine q0 rfl (o_move ?_)
          refine q0 rfl (o_call Try.call15 (liftDimsH t vr_t vk_t vs_t a 1 om_ om_ om_) (fun x68 => ?_))
          refine q0 rfl (o_move ?_)
          refine q0 rfl (o_extract ?_)
          refine q0 rfl (o_extract ?_)
          refine q0 rfl (o_new fun b11 => ?_)
          refine q0 rfl (o_st ?_)
          refine q0 rfl (o_assign ?_)
          refine rg_nil ?_
          have hs3 := dims_size t a 1
          rw [← x68.2] at q5 hs3
          refine go_seq ?_
          refine go_seq ?_
          refine go_region ⟨_, Try.func4⟩ rfl ?_
          refine q0 rfl (o_move ?_)
          refine q0 rfl (o_neI ?_)
          refine rg_nil ?_
          refine go_condI (fun h72 => ?_) (fun h72 => ?_)
          · have c72 : (decide (x68.1.1.1 ≠ 0)) = true := h72
            try simp only [sC, bne_iff_ne, beq_iff_eq, ne_eq] at c72
            have q6 := q5.1 c72
            refine go_seq ?_
            refine go_region ⟨_, Try.func4⟩ rfl ?_
            refine q0 rfl (o_move ?_)
            refine q0 rfl (o_eqI ?_)
            refine q0 rfl (o_assign ?_)
            refine rg_nil ?_
            refine ret1 Try.func4 Try.results4 wn_ () (by rw [decide_eq_true q6]) (fun w hs => hs.none)
          · have c72 : (decide (x68.1.1.1 ≠ 0)) = false := h72
            try simp only [sC, bne_iff_ne, beq_iff_eq, ne_eq] at c72
            obtain ⟨q7, q8⟩ := q5.2 c72
            have hdl := dims_lt x68.1.1.2
            refine go_skip ?_
            refine go_seq ?_
            refine go_seq ?_
            refine go_cutS ([(1, .int .i64 (v)), (2, .int .i64 (d)), (4, .pointer (some ⟨b4, 0, none⟩)), (11, .pointer (some ⟨b11, 0, none⟩)), (85, .bool ((decide (a < 24)) && (decide (((dimsT x68.1.1.2) / 2 ^ (min a.toNat 32) &&& 1) = 1))))]) (fun hK => ?_) (fun base => ?_)
            · refine go_region ⟨_, Try.func4⟩ rfl ?_
              refine q0 rfl (o_move ?_)
              refine q0 rfl (o_lss ?_)
              refine q0 rfl (o_move ?_)
              refine qI rfl rfl rfl wl_ (fun hg77 => ?_) (fun hg77 => ?_)
              · have g77 : (decide (a < 24)) = true := hg77
                try simp only [sC, bne_iff_ne, beq_iff_eq, ne_eq] at g77
                refine o_lds ?_
                refine qT rfl rfl rfl (o_call Try.call19 (dims_spec x68.1.1.2 x68.1.2.1 x68.1.2.2.1 x68.1.2.2.2) (fun x79 => ?_))
                refine qT rfl rfl rfl (o_move ?_)
                refine qT rfl rfl rfl (o_convI6 ?_ (m := a.toNat) (ha := by omega))
                refine qT rfl rfl rfl (o_shrU32 ?_ (a := (dimsT x68.1.1.2)) (m := a.toNat))
                refine qT rfl rfl rfl (o_andU32 ?_ (a := (dimsT x68.1.1.2) / 2 ^ (min a.toNat 32)) (b := 1) (ha := by exact Nat.lt_of_le_of_lt (Nat.div_le_self _ _) (by omega)) (hb := by omega))
                refine qT rfl rfl rfl (o_eqU ?_)
                refine q0 rfl (o_pickT ?_)
                refine rg_nil ?_
                exact hK _ ⟨rfl, rfl, rfl, rfl, dn_, trivial⟩
              · have g77 : (decide (a < 24)) = false := hg77
                try simp only [sC, bne_iff_ne, beq_iff_eq, ne_eq] at g77
                refine qF rfl rfl rfl ?_
                refine qF rfl rfl rfl ?_
                refine qF rfl rfl rfl ?_
                refine qF rfl rfl rfl ?_
                refine qF rfl rfl rfl ?_
                refine qF rfl rfl rfl ?_
                refine q0 rfl (o_pickF ?_)
                refine rg_nil ?_
                exact hK _ ⟨rfl, rfl, rfl, rfl, dn_, trivial⟩
            · refine go_condI (fun h85 => ?_) (fun h85 => ?_)
              · have c85 : ((decide (a < 24)) && (decide (((dimsT x68.1.1.2) / 2 ^ (min a.toNat 32) &&& 1) = 1))) = true := h85
                try simp only [sC, bne_iff_ne, beq_iff_eq, ne_eq] at c85
                exfalso
                have h9 : a < 24 ∧ ((dimsT x68.1.1.2) / 2 ^ (min a.toNat 32) &&& 1) = 1 := by simpa using h85
                have h8 := q7 h9.1
                rw [Nat.testBit_eq_decide_div_mod_eq, decide_eq_false_iff_not] at h8
                rw [Nat.and_one_is_mod, Nat.min_eq_left (by omega)] at h9
                exact h8 h9.2
              · have c85 : ((decide (a < 24)) && (decide (((dimsT x68.1.1.2) / 2 ^ (min a.toNat 32) &&& 1) = 1))) = false := h85
                try simp only [sC, bne_iff_ne, beq_iff_eq, ne_eq] at c85
                refine go_skip ?_
                refine go_seq ?_
                refine go_region ⟨_, Try.func4⟩ rfl ?_
                refine q0 rfl (o_lds ?_)
                refine q0 rfl (o_move ?_)
                refine q0 rfl (o_move ?_)
                refine q0 rfl (o_add ?_)
                refine q0 rfl (o_call Try.call16 (right_spec x68.1.1.2 (.inr form_spec) x68.1.2.1 x68.1.2.2.1 x68.1.2.2.2 v (d + 1) om_ om_) (fun x90 => ?_))
                refine q0 rfl (o_assign ?_)
                refine rg_nil ?_
                refine go_seq ?_
                refine go_cutS ([(8, .bool ((decide ((rightP x68.1.1.2 v (d + 1)) = 0)) || ((decide ((rightP x68.1.1.2 v (d + 1)) = 100)) && (decide (24 ≤ (d + (bindT t)))))))]) (fun hK => ?_) (fun base => ?_)
                · refine go_region ⟨_, Try.func4⟩ rfl ?_
                  refine q0 rfl (o_move ?_)
                  refine q0 rfl (o_eqI ?_)
                  refine q0 rfl (o_move ?_)
                  refine qI rfl rfl rfl wl_ (fun hg93 => ?_) (fun hg93 => ?_)
                  · have g93 : (decide ((rightP x68.1.1.2 v (d + 1)) = 0)) = false := hg93
                    try simp only [sC, bne_iff_ne, beq_iff_eq, ne_eq] at g93
                    refine o_move ?_
                    refine qT rfl rfl rfl (o_eqI ?_)
                    refine qT rfl rfl rfl (o_move ?_)
                    refine qI rfl rfl rfl wl_ (fun hg96 => ?_) (fun hg96 => ?_)
                    · have g96 : (decide ((rightP x68.1.1.2 v (d + 1)) = 100)) = true := hg96
                      try simp only [sC, bne_iff_ne, beq_iff_eq, ne_eq] at g96
                      refine o_move ?_
                      refine qT rfl rfl rfl (o_lds ?_)
                      refine qT rfl rfl rfl (o_call Try.call20 (binders_spec t vr_t vk_t vs_t (by omega)) (fun x99 => ?_))
                      refine qT rfl rfl rfl (o_add ?_)
                      refine qT rfl rfl rfl (o_geq ?_)
                      refine qT rfl rfl rfl (o_pickT ?_)
                      refine q0 rfl (o_pickF ?_)
                      refine q0 rfl (o_assign ?_)
                      refine rg_nil ?_
                      exact hK _ ⟨dn_, trivial⟩
                    · have g96 : (decide ((rightP x68.1.1.2 v (d + 1)) = 100)) = false := hg96
                      try simp only [sC, bne_iff_ne, beq_iff_eq, ne_eq] at g96
                      refine qF rfl rfl rfl ?_
                      refine qF rfl rfl rfl ?_
                      refine qF rfl rfl rfl ?_
                      refine qF rfl rfl rfl ?_
                      refine qT rfl rfl rfl (o_pickF ?_)
                      refine q0 rfl (o_pickF ?_)
                      refine q0 rfl (o_assign ?_)
                      refine rg_nil ?_
                      exact hK _ ⟨dn_, trivial⟩
                  · have g93 : (decide ((rightP x68.1.1.2 v (d + 1)) = 0)) = true := hg93
                    try simp only [sC, bne_iff_ne, beq_iff_eq, ne_eq] at g93
                    refine qF rfl rfl rfl ?_
                    refine qF rfl rfl rfl ?_
                    refine qU rfl rfl rfl ?_
                    refine qU rfl rfl rfl ?_
                    refine qU rfl rfl rfl ?_
                    refine qU rfl rfl rfl ?_
                    refine qU rfl rfl rfl ?_
                    refine qF rfl rfl rfl ?_
                    refine q0 rfl (o_pickT ?_)
                    refine q0 rfl (o_assign ?_)
                    refine rg_nil ?_
                    exact hK _ ⟨dn_, trivial⟩
                · refine ret1 Try.func4 Try.results4 wn_ () (by rcases q8 with q8 | ⟨q8, q9⟩; rw [decide_eq_true q8]; rfl; rw [decide_eq_true q8, decide_eq_true q9]; simp) (fun w hs => hs.none)
end Go.Hy
