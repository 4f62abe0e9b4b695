/- Contracts of functions of this program, one theorem each (printed by a program of this repository). -/
import Derived.Test.YtcofpfnnlageaaaHyAuto3
import Derived.Test.YtcofpfnnlageaaaHyTab
import Derived.Test.YtcofpfnnlageaaaW7
namespace Go.Hy
set_option linter.unusedVariables false
set_option linter.unusedSimpArgs false
set_option linter.unusedSectionVars false
open Go.Proofs
set_option linter.unusedVariables false
set_option linter.unusedSimpArgs false
set_option maxRecDepth 100000
abbrev SpoilO (h : HT) : Prop := Spec Try.prog 27 #[.agg (tc h.er h.vr h.vk h.vs).toArray] [] [bigR (treeR tys h)] (fun _ : Unit => .tuple #[]) (fun _ => []) (fun _ => [])

theorem spoil_walk (k n : Int) (nm : ByteArray) (r : List Cl) (v : SH) (ks : List HT) (u : SH) (ss : List HB) (x : SH) (ih : ∀ c, c ∈ ks → SpoilO c) : Spec Try.prog 27 #[.agg ([.int .i64 (k), .int .i64 (n), .string (nm), sl v (r.length), sl u (ks.length), sl x (ss.length)] : List Value).toArray] [] [rowS 2 tys.c v r.length (clFlat r), rowS 6 tys.t u ks.length (tpFlat (ks.map HT.tp)), rowS 2 tys.b x ss.length (bpFlat (ss.map HB.bp)), bigR (kidsR tys ks), bigR (brsR tys ss)] (fun _ : Unit => .tuple #[]) (fun _ : Unit => []) (fun _ : Unit => []) := by
  refine spec_go (args := [.agg ([.int .i64 (k), .int .i64 (n), .string (nm), sl v (r.length), sl u (ks.length), sl x (ss.length)] : List Value).toArray]) Try.func27 Try.ntmps27 rfl (by exact Nat.le_of_ble_eq_true rfl) fun B hB => ?_
  refine go_know (fun w hs => hs.rowLen (sz := 2) (a := v) (n := r.length) (xs := clFlat r) (by repeat (first | exact List.mem_cons_self | apply List.mem_cons_of_mem))) (fun hb1 => ?_)
  refine go_know (fun w hs => hs.rowLen (sz := 6) (a := u) (n := ks.length) (xs := tpFlat (ks.map HT.tp)) (by repeat (first | exact List.mem_cons_self | apply List.mem_cons_of_mem))) (fun hb2 => ?_)
  refine go_know (fun w hs => hs.rowLen (sz := 2) (a := x) (n := ss.length) (xs := bpFlat (ss.map HB.bp)) (by repeat (first | exact List.mem_cons_self | apply List.mem_cons_of_mem))) (fun hb3 => ?_)
  refine go_seq ?_
  refine go_region ⟨_, Try.func27⟩ rfl ?_
  refine q0 rfl (o_box fun b1 => ?_)
  refine rg_nil ?_
  refine go_seq ?_
  refine go_seq ?_
  refine go_region ⟨_, Try.func27⟩ rfl ?_
  refine q0 rfl (o_fa ?_)
  refine q0 rfl (o_ld ?_)
  refine q0 rfl (o_len ?_)
  refine q0 rfl (o_move ?_)
  refine rg_nil ?_
  refine go_block ?_
  refine go_loopE (X := Nat × List Cl) (fun s_ => s_.1 ≤ r.length ∧ s_.2.length = r.length) (fun s_ => [(1, .pointer (some ⟨b1, 0, none⟩)), (9, .int .i64 ((r.length : Int))), (10, .int .i64 ((s_.1 : Int)))]) (fun s_ G_ => G_) (fun s_ => [boxR b1 [.int .i64 (k), .int .i64 (n), .string (nm), sl v (r.length), sl u (ks.length), sl x (ss.length)] 31, rowS 2 72 v (r.length) (clFlat s_.2), rowS 6 31 u (ks.length) (tpFlat (ks.map HT.tp)), rowS 2 69 x (ss.length) (bpFlat (ss.map HB.bp)), bigR (kidsR tys ks), bigR (brsR tys ss)]) (fun s_ => r.length - s_.1) (0, r) (⟨by omega, rfl⟩) (by exact ⟨rfl, rfl, rfl, trivial⟩) ?_ ?_
  · exact fun w hs => hs
  · intro ⟨i, rl⟩ base0 ⟨hi, hrl⟩ next0
    dsimp only at  hi  hrl  next0 ⊢
    refine go_seq ?_
    refine go_region ⟨_, Try.func27⟩ rfl ?_
    refine q0 rfl (o_lss ?_)
    refine rg_nil ?_
    refine go_seq ?_
    refine go_condI (fun h11 => ?_) (fun h11 => ?_)
    · have c11 : (decide ((i : Int) < (r.length : Int))) = true := h11
      try simp only [decide_eq_true_eq, decide_eq_false_iff_not, Bool.and_eq_true, Bool.or_eq_true, Bool.not_eq_true', Bool.and_eq_false_iff, Bool.or_eq_false_iff, Bool.not_eq_false', bne_iff_ne, beq_iff_eq, ne_eq, not_and, Decidable.not_not, Bool.true_and, Bool.and_true, Bool.false_or, Bool.or_false] at c11
      refine go_skip ?_
      refine go_seq ?_
      refine go_block ?_
      refine go_seq ?_
      refine go_region ⟨_, Try.func27⟩ rfl ?_
      refine q0 rfl (o_move ?_)
      refine q0 rfl (o_assign ?_)
      refine rg_nil ?_
      refine go_know (fun w hs => hs.rowAddr (sz := 2) (e := 72) (a := v) (n := r.length) (xs := clFlat rl) (by repeat (first | exact List.mem_cons_self | apply List.mem_cons_of_mem)) (by omega)) (fun hav1 => ?_)
      obtain ⟨bk1, hav1⟩ := hav1
      refine go_region ⟨_, Try.func27⟩ rfl ?_
      refine q0 rfl (o_fa ?_)
      refine q0 rfl (o_ld ?_)
      refine q0 rfl (o_move ?_)
      refine q0 rfl (o_ixN ?_ (j := i))
      refine q0 rfl (o_fa ?_)
      refine q0 rfl (o_ldRCf ?_)
      refine q0 rfl (o_addU32 ?_ (a := ((rl.getD i cl0).pos)) (b := 1))
      refine q0 rfl (o_ixN ?_ (j := i))
      refine q0 rfl (o_fa ?_)
      refine q0 rfl (o_srfC (⟨(((rl.getD i cl0).pos) + 1) % 4294967296, (rl.getD i cl0).neg⟩ : Cl) ?_ (ls := rl) (i' := i) (k := 0))
      refine rg_nil ?_
      refine go_inBlock ?_
      refine go_region ⟨_, Try.func27⟩ rfl ?_
      refine q0 rfl (o_add ?_)
      refine q0 rfl (o_move ?_)
      refine rg_nil ?_
      refine go_state (fun w hs => ?_) (next0 (i + 1, ((rl).set i (⟨(((rl.getD i cl0).pos) + 1) % 4294967296, (rl.getD i cl0).neg⟩ : Cl))) _ (⟨by omega, by simp [hrl]⟩) (by (try simp only); omega) ⟨rfl, rfl, rfl, trivial⟩)
      exact (((((((hs.less (by simp +contextual)).perm perm5).perm perm5).perm perm5).perm perm5).perm perm4).perm perm5)
    · have c11 : (decide ((i : Int) < (r.length : Int))) = false := h11
      try simp only [decide_eq_true_eq, decide_eq_false_iff_not, Bool.and_eq_true, Bool.or_eq_true, Bool.not_eq_true', Bool.and_eq_false_iff, Bool.or_eq_false_iff, Bool.not_eq_false', bne_iff_ne, beq_iff_eq, ne_eq, not_and, Decidable.not_not, Bool.true_and, Bool.and_true, Bool.false_or, Bool.or_false] at c11
      refine go_exit rfl ?_
      refine go_seq ?_
      refine go_seq ?_
      refine go_region ⟨_, Try.func27⟩ rfl ?_
      refine q0 rfl (o_fa ?_)
      refine q0 rfl (o_ld ?_)
      refine q0 rfl (o_len ?_)
      refine q0 rfl (o_move ?_)
      refine rg_nil ?_
      refine go_block ?_
      refine go_loopE (X := Nat × List TP) (fun s_ => s_.1 ≤ ks.length ∧ s_.2.length = ks.length ∧ ∀ j, s_.1 ≤ j → j < ks.length → s_.2.getD j tp0 = (ks.getD j h0).tp) (fun s_ => [(1, .pointer (some ⟨b1, 0, none⟩)), (25, .int .i64 ((ks.length : Int))), (26, .int .i64 ((s_.1 : Int)))]) (fun s_ G_ => G_) (fun s_ => [boxR b1 [.int .i64 (k), .int .i64 (n), .string (nm), sl v (r.length), sl u (ks.length), sl x (ss.length)] 31, rowS 2 72 v (r.length) (clFlat rl), rowS 6 31 u (ks.length) (tpFlat s_.2), rowS 2 69 x (ss.length) (bpFlat (ss.map HB.bp)), bigR (kidsR tys (ks.drop s_.1)), bigR (brsR tys ss)]) (fun s_ => ks.length - s_.1) (0, ks.map HT.tp) (⟨by omega, by simp, fun j _ hj => getD_map hj⟩) (by exact ⟨rfl, rfl, rfl, trivial⟩) ?_ ?_
      · exact fun w hs => hs
      · intro ⟨i, ps⟩ base1 ⟨hi, hpl, hps⟩ next1
        dsimp only at  hi  hpl  hps  next1 ⊢
        refine go_seq ?_
        refine go_region ⟨_, Try.func27⟩ rfl ?_
        refine q0 rfl (o_lss ?_)
        refine rg_nil ?_
        refine go_seq ?_
        refine go_condI (fun h27 => ?_) (fun h27 => ?_)
        · have c27 : (decide ((i : Int) < (ks.length : Int))) = true := h27
          try simp only [decide_eq_true_eq, decide_eq_false_iff_not, Bool.and_eq_true, Bool.or_eq_true, Bool.not_eq_true', Bool.and_eq_false_iff, Bool.or_eq_false_iff, Bool.not_eq_false', bne_iff_ne, beq_iff_eq, ne_eq, not_and, Decidable.not_not, Bool.true_and, Bool.and_true, Bool.false_or, Bool.or_false] at c27
          refine go_skip ?_
          refine go_seq ?_
          refine go_block ?_
          refine go_seq ?_
          refine go_region ⟨_, Try.func27⟩ rfl ?_
          refine q0 rfl (o_move ?_)
          refine q0 rfl (o_assign ?_)
          refine rg_nil ?_
          refine go_seq ?_
          refine go_state (fun w hs => (((((((hs.perm perm5).perm perm4).perm perm4).perm perm4).perm perm4).perm perm5).peelK (by omega))) ?_
          refine go_know (fun w hs => hs.rowAddr (sz := 6) (e := 31) (a := u) (n := ks.length) (xs := tpFlat ps) (by repeat (first | exact List.mem_cons_self | apply List.mem_cons_of_mem)) (by omega)) (fun hav2 => ?_)
          obtain ⟨bk2, hav2⟩ := hav2
          refine go_region ⟨_, Try.func27⟩ rfl ?_
          refine q0 rfl (o_fa ?_)
          refine q0 rfl (o_ld ?_)
          refine q0 rfl (o_move ?_)
          refine q0 rfl (o_ixN ?_ (j := i))
          refine q0 rfl (o_ldRT ?_)
          rw [hps i (Nat.le_refl i) (by omega)]
          refine q0 rfl (o_call Try.call27 (ih _ (getD_mem (show i < ks.length by omega))) (fun x34 => ?_))
          refine rg_nil ?_
          refine go_region ⟨_, Try.func27⟩ rfl ?_
          refine q0 rfl (o_fa ?_)
          refine q0 rfl (o_ld ?_)
          refine q0 rfl (o_move ?_)
          refine q0 rfl (o_ixN ?_ (j := i))
          refine q0 rfl (o_fa ?_)
          refine q0 rfl (o_srfT (T.mk (-1) ((((ps).getD i tp0).1).n) ((((ps).getD i tp0).1).name) (((ps).getD i tp0).1).r (((ps).getD i tp0).1).kids (((ps).getD i tp0).1).sys, ((ps).getD i tp0).2.1, ((ps).getD i tp0).2.2.1, ((ps).getD i tp0).2.2.2) ?_ (ls := ps) (i' := i) (k := 0))
          refine rg_nil ?_
          refine go_inBlock ?_
          refine go_region ⟨_, Try.func27⟩ rfl ?_
          refine q0 rfl (o_add ?_)
          refine q0 rfl (o_move ?_)
          refine rg_nil ?_
          refine go_state (fun w hs => ?_) (next1 (i + 1, ((ps).set i (T.mk (-1) ((((ps).getD i tp0).1).n) ((((ps).getD i tp0).1).name) (((ps).getD i tp0).1).r (((ps).getD i tp0).1).kids (((ps).getD i tp0).1).sys, ((ps).getD i tp0).2.1, ((ps).getD i tp0).2.2.1, ((ps).getD i tp0).2.2.2))) _ (⟨by omega, by simp [hpl], fun j hj hj2 => by rw [getD_set_ne (by omega)]; exact hps j (by omega) hj2⟩) (by (try simp only); omega) ⟨rfl, rfl, rfl, trivial⟩)
          exact (((((((hs.less (by simp +contextual)).perm perm5).perm perm2).perm perm5).perm perm3).perm perm5).perm perm5)
        · have c27 : (decide ((i : Int) < (ks.length : Int))) = false := h27
          try simp only [decide_eq_true_eq, decide_eq_false_iff_not, Bool.and_eq_true, Bool.or_eq_true, Bool.not_eq_true', Bool.and_eq_false_iff, Bool.or_eq_false_iff, Bool.not_eq_false', bne_iff_ne, beq_iff_eq, ne_eq, not_and, Decidable.not_not, Bool.true_and, Bool.and_true, Bool.false_or, Bool.or_false] at c27
          refine go_exit rfl ?_
          refine go_seq ?_
          refine go_region ⟨_, Try.func27⟩ rfl ?_
          refine q0 rfl (o_fa ?_)
          refine q0 rfl (o_ld ?_)
          refine q0 rfl (o_len ?_)
          refine q0 rfl (o_move ?_)
          refine rg_nil ?_
          refine go_block ?_
          refine go_loopE (X := Nat × List BP) (fun s_ => s_.1 ≤ ss.length ∧ s_.2.length = ss.length ∧ ∀ j, j < ss.length → s_.2.getD j bp0 = (ss.getD j hb0).bp) (fun s_ => [(1, .pointer (some ⟨b1, 0, none⟩)), (43, .int .i64 ((ss.length : Int))), (44, .int .i64 ((s_.1 : Int)))]) (fun s_ G_ => G_) (fun s_ => [boxR b1 [.int .i64 (k), .int .i64 (n), .string (nm), sl v (r.length), sl u (ks.length), sl x (ss.length)] 31, rowS 2 72 v (r.length) (clFlat rl), rowS 6 31 u (ks.length) (tpFlat ps), rowS 2 69 x (ss.length) (bpFlat s_.2), bigR (kidsR tys (ks.drop i)), bigR (brsR tys (ss.drop s_.1))]) (fun s_ => ss.length - s_.1) (0, ss.map HB.bp) (⟨by omega, by simp, fun j hj => getD_map hj⟩) (by exact ⟨rfl, rfl, rfl, trivial⟩) ?_ ?_
          · exact fun w hs => hs
          · intro ⟨s, bl⟩ base2 ⟨hs1, hbn, hbl⟩ next2
            dsimp only at  hs1  hbn  hbl  next2 ⊢
            refine go_seq ?_
            refine go_region ⟨_, Try.func27⟩ rfl ?_
            refine q0 rfl (o_lss ?_)
            refine rg_nil ?_
            refine go_seq ?_
            refine go_condI (fun h45 => ?_) (fun h45 => ?_)
            · have c45 : (decide ((s : Int) < (ss.length : Int))) = true := h45
              try simp only [decide_eq_true_eq, decide_eq_false_iff_not, Bool.and_eq_true, Bool.or_eq_true, Bool.not_eq_true', Bool.and_eq_false_iff, Bool.or_eq_false_iff, Bool.not_eq_false', bne_iff_ne, beq_iff_eq, ne_eq, not_and, Decidable.not_not, Bool.true_and, Bool.and_true, Bool.false_or, Bool.or_false] at c45
              refine go_skip ?_
              refine go_seq ?_
              refine go_block ?_
              refine go_seq ?_
              obtain ⟨f, vf, ks2, vk2, hbe⟩ : ∃ f vf ks2 vk2, ss.getD s hb0 = .mk f vf ks2 vk2 := by cases ss.getD s hb0; exact ⟨_, _, _, _, rfl⟩
              have hb2 : bl.getD s bp0 = (Br.mk f (HT.erL ks2), vf, vk2) := by rw [hbl s (by omega), hbe]; rfl
              have hc0 : (bpCells (bl.getD s bp0))[0]? = some (sl vf f.length) := by rw [hb2]; rfl
              have hkl2 : (HT.erL ks2).length = ks2.length := by rw [HT.erL_eq, List.length_map]
              have hc1 : (bpCells (bl.getD s bp0))[1]? = some (sl vk2 ks2.length) := by rw [hb2, ← hkl2]; rfl
              refine go_state (fun w hs => (((((((hs.perm perm4).perm perm4).perm perm4).perm perm4).perm perm4).perm perm5).peelB (by omega) hbe)) ?_
              refine go_know (fun w hs => hs.rowLen (sz := 2) (a := vf) (n := f.length) (xs := clFlat f) (by repeat (first | exact List.mem_cons_self | apply List.mem_cons_of_mem))) (fun hb4 => ?_)
              refine go_know (fun w hs => hs.rowLen (sz := 6) (a := vk2) (n := ks2.length) (xs := tpFlat (ks2.map HT.tp)) (by repeat (first | exact List.mem_cons_self | apply List.mem_cons_of_mem))) (fun hb5 => ?_)
              refine go_region ⟨_, Try.func27⟩ rfl ?_
              refine q0 rfl (o_move ?_)
              refine q0 rfl (o_assign ?_)
              refine rg_nil ?_
              refine go_seq ?_
              refine go_seq ?_
              refine go_know (fun w hs => hs.rowAddr (sz := 2) (e := 69) (a := x) (n := ss.length) (xs := bpFlat bl) (by repeat (first | exact List.mem_cons_self | apply List.mem_cons_of_mem)) (by omega)) (fun hav3 => ?_)
              obtain ⟨bk3, hav3⟩ := hav3
              refine go_region ⟨_, Try.func27⟩ rfl ?_
              refine q0 rfl (o_fa ?_)
              refine q0 rfl (o_ld ?_)
              refine q0 rfl (o_move ?_)
              refine q0 rfl (o_ixN ?_ (j := s))
              refine q0 rfl (o_fa ?_)
              refine q0 rfl (o_ldRBf ?_ (hk := hc0))
              refine q0 rfl (o_len ?_)
              refine q0 rfl (o_move ?_)
              refine rg_nil ?_
              refine go_block ?_
              refine go_loopE (X := Nat × List Cl) (fun s_ => s_.1 ≤ f.length ∧ s_.2.length = f.length) (fun s_ => [(1, .pointer (some ⟨b1, 0, none⟩)), (4, .int .i64 ((s : Int))), (43, .int .i64 ((ss.length : Int))), (44, .int .i64 ((s : Int))), (53, .int .i64 ((f.length : Int))), (54, .int .i64 ((s_.1 : Int)))]) (fun s_ G_ => G_) (fun s_ => [rowS 2 72 vf (f.length) (clFlat s_.2), rowS 6 31 vk2 (ks2.length) (tpFlat (ks2.map HT.tp)), bigR (kidsR tys ks2), bigR (brsR tys (ss.drop (s + 1))), boxR b1 [.int .i64 (k), .int .i64 (n), .string (nm), sl v (r.length), sl u (ks.length), sl x (ss.length)] 31, rowS 2 72 v (r.length) (clFlat rl), rowS 6 31 u (ks.length) (tpFlat ps), rowS 2 69 x (ss.length) (bpFlat bl), bigR (kidsR tys (ks.drop i))]) (fun s_ => f.length - s_.1) (0, f) (⟨by omega, rfl⟩) (by exact ⟨rfl, rfl, rfl, rfl, rfl, rfl, trivial⟩) ?_ ?_
              · exact fun w hs => hs
              · intro ⟨j, fl⟩ base3 ⟨hj, hfl⟩ next3
                dsimp only at  hj  hfl  next3 ⊢
                refine go_seq ?_
                refine go_region ⟨_, Try.func27⟩ rfl ?_
                refine q0 rfl (o_lss ?_)
                refine rg_nil ?_
                refine go_seq ?_
                refine go_condI (fun h55 => ?_) (fun h55 => ?_)
                · have c55 : (decide ((j : Int) < (f.length : Int))) = true := h55
                  try simp only [decide_eq_true_eq, decide_eq_false_iff_not, Bool.and_eq_true, Bool.or_eq_true, Bool.not_eq_true', Bool.and_eq_false_iff, Bool.or_eq_false_iff, Bool.not_eq_false', bne_iff_ne, beq_iff_eq, ne_eq, not_and, Decidable.not_not, Bool.true_and, Bool.and_true, Bool.false_or, Bool.or_false] at c55
                  refine go_skip ?_
                  refine go_seq ?_
                  refine go_block ?_
                  refine go_seq ?_
                  refine go_region ⟨_, Try.func27⟩ rfl ?_
                  refine q0 rfl (o_move ?_)
                  refine q0 rfl (o_assign ?_)
                  refine rg_nil ?_
                  refine go_know (fun w hs => hs.rowAddr (sz := 2) (e := 72) (a := vf) (n := f.length) (xs := clFlat fl) (by repeat (first | exact List.mem_cons_self | apply List.mem_cons_of_mem)) (by omega)) (fun hav4 => ?_)
                  obtain ⟨bk4, hav4⟩ := hav4
                  refine go_region ⟨_, Try.func27⟩ rfl ?_
                  refine q0 rfl (o_fa ?_)
                  refine q0 rfl (o_ld ?_)
                  refine q0 rfl (o_move ?_)
                  refine q0 rfl (o_ixN ?_ (j := s))
                  refine q0 rfl (o_fa ?_)
                  refine q0 rfl (o_ldRBf ?_ (hk := hc0))
                  refine q0 rfl (o_move ?_)
                  refine q0 rfl (o_ixN ?_ (j := j))
                  refine q0 rfl (o_fa ?_)
                  refine q0 rfl (o_ldRCf ?_)
                  refine q0 rfl (o_addU32 ?_ (a := ((fl.getD j cl0).neg)) (b := 1))
                  refine q0 rfl (o_ixN ?_ (j := j))
                  refine q0 rfl (o_fa ?_)
                  refine q0 rfl (o_srfC (⟨(fl.getD j cl0).pos, (((fl.getD j cl0).neg) + 1) % 4294967296⟩ : Cl) ?_ (ls := fl) (i' := j) (k := 1))
                  refine rg_nil ?_
                  refine go_inBlock ?_
                  refine go_region ⟨_, Try.func27⟩ rfl ?_
                  refine q0 rfl (o_add ?_)
                  refine q0 rfl (o_move ?_)
                  refine rg_nil ?_
                  refine go_state (fun w hs => ?_) (next3 (j + 1, ((fl).set j (⟨(fl.getD j cl0).pos, (((fl.getD j cl0).neg) + 1) % 4294967296⟩ : Cl))) _ (⟨by omega, by simp [hfl]⟩) (by (try simp only); omega) ⟨rfl, rfl, rfl, rfl, rfl, rfl, trivial⟩)
                  exact ((((((((((hs.less (by simp +contextual)).perm perm8).perm perm8).perm perm8).perm perm8).perm perm8).perm perm8).perm perm8).perm perm8).perm perm8)
                · have c55 : (decide ((j : Int) < (f.length : Int))) = false := h55
                  try simp only [decide_eq_true_eq, decide_eq_false_iff_not, Bool.and_eq_true, Bool.or_eq_true, Bool.not_eq_true', Bool.and_eq_false_iff, Bool.or_eq_false_iff, Bool.not_eq_false', bne_iff_ne, beq_iff_eq, ne_eq, not_and, Decidable.not_not, Bool.true_and, Bool.and_true, Bool.false_or, Bool.or_false] at c55
                  refine go_exit rfl ?_
                  refine go_seq ?_
                  refine go_region ⟨_, Try.func27⟩ rfl ?_
                  refine q0 rfl (o_fa ?_)
                  refine q0 rfl (o_ld ?_)
                  refine q0 rfl (o_move ?_)
                  refine q0 rfl (o_ixN ?_ (j := s))
                  refine q0 rfl (o_fa ?_)
                  refine q0 rfl (o_ldRBf ?_ (hk := hc1))
                  refine q0 rfl (o_len ?_)
                  refine q0 rfl (o_move ?_)
                  refine rg_nil ?_
                  refine go_block ?_
                  refine go_loopE (X := Nat × List TP) (fun s_ => s_.1 ≤ ks2.length ∧ s_.2.length = ks2.length) (fun s_ => [(1, .pointer (some ⟨b1, 0, none⟩)), (4, .int .i64 ((s : Int))), (43, .int .i64 ((ss.length : Int))), (44, .int .i64 ((s : Int))), (77, .int .i64 ((ks2.length : Int))), (78, .int .i64 ((s_.1 : Int)))]) (fun s_ G_ => G_) (fun s_ => [rowS 2 72 vf (f.length) (clFlat fl), rowS 6 31 vk2 (ks2.length) (tpFlat s_.2), bigR (kidsR tys ks2), bigR (brsR tys (ss.drop (s + 1))), boxR b1 [.int .i64 (k), .int .i64 (n), .string (nm), sl v (r.length), sl u (ks.length), sl x (ss.length)] 31, rowS 2 72 v (r.length) (clFlat rl), rowS 6 31 u (ks.length) (tpFlat ps), rowS 2 69 x (ss.length) (bpFlat bl), bigR (kidsR tys (ks.drop i))]) (fun s_ => ks2.length - s_.1) (0, ks2.map HT.tp) (⟨by omega, by simp⟩) (by exact ⟨rfl, rfl, rfl, rfl, rfl, rfl, trivial⟩) ?_ ?_
                  · exact fun w hs => hs
                  · intro ⟨j, qs⟩ base4 ⟨hj, hql⟩ next4
                    dsimp only at  hj  hql  next4 ⊢
                    refine go_seq ?_
                    refine go_region ⟨_, Try.func27⟩ rfl ?_
                    refine q0 rfl (o_lss ?_)
                    refine rg_nil ?_
                    refine go_seq ?_
                    refine go_condI (fun h79 => ?_) (fun h79 => ?_)
                    · have c79 : (decide ((j : Int) < (ks2.length : Int))) = true := h79
                      try simp only [decide_eq_true_eq, decide_eq_false_iff_not, Bool.and_eq_true, Bool.or_eq_true, Bool.not_eq_true', Bool.and_eq_false_iff, Bool.or_eq_false_iff, Bool.not_eq_false', bne_iff_ne, beq_iff_eq, ne_eq, not_and, Decidable.not_not, Bool.true_and, Bool.and_true, Bool.false_or, Bool.or_false] at c79
                      refine go_skip ?_
                      refine go_seq ?_
                      refine go_block ?_
                      refine go_seq ?_
                      refine go_region ⟨_, Try.func27⟩ rfl ?_
                      refine q0 rfl (o_move ?_)
                      refine q0 rfl (o_assign ?_)
                      refine rg_nil ?_
                      refine go_know (fun w hs => hs.rowAddr (sz := 6) (e := 31) (a := vk2) (n := ks2.length) (xs := tpFlat qs) (by repeat (first | exact List.mem_cons_self | apply List.mem_cons_of_mem)) (by omega)) (fun hav5 => ?_)
                      obtain ⟨bk5, hav5⟩ := hav5
                      refine go_region ⟨_, Try.func27⟩ rfl ?_
                      refine q0 rfl (o_fa ?_)
                      refine q0 rfl (o_ld ?_)
                      refine q0 rfl (o_move ?_)
                      refine q0 rfl (o_ixN ?_ (j := s))
                      refine q0 rfl (o_fa ?_)
                      refine q0 rfl (o_ldRBf ?_ (hk := hc1))
                      refine q0 rfl (o_move ?_)
                      refine q0 rfl (o_ixN ?_ (j := j))
                      refine q0 rfl (o_fa ?_)
                      refine q0 rfl (o_srfT (T.mk (-1) ((((qs).getD j tp0).1).n) ((((qs).getD j tp0).1).name) (((qs).getD j tp0).1).r (((qs).getD j tp0).1).kids (((qs).getD j tp0).1).sys, ((qs).getD j tp0).2.1, ((qs).getD j tp0).2.2.1, ((qs).getD j tp0).2.2.2) ?_ (ls := qs) (i' := j) (k := 0))
                      refine rg_nil ?_
                      refine go_inBlock ?_
                      refine go_region ⟨_, Try.func27⟩ rfl ?_
                      refine q0 rfl (o_add ?_)
                      refine q0 rfl (o_move ?_)
                      refine rg_nil ?_
                      refine go_state (fun w hs => ?_) (next4 (j + 1, ((qs).set j (T.mk (-1) ((((qs).getD j tp0).1).n) ((((qs).getD j tp0).1).name) (((qs).getD j tp0).1).r (((qs).getD j tp0).1).kids (((qs).getD j tp0).1).sys, ((qs).getD j tp0).2.1, ((qs).getD j tp0).2.2.1, ((qs).getD j tp0).2.2.2))) _ (⟨by omega, by simp [hql]⟩) (by (try simp only); omega) ⟨rfl, rfl, rfl, rfl, rfl, rfl, trivial⟩)
                      exact ((((((((((hs.less (by simp +contextual)).perm perm8).perm perm8).perm perm8).perm perm8).perm perm8).perm perm8).perm perm8).perm perm7).perm perm8)
                    · have c79 : (decide ((j : Int) < (ks2.length : Int))) = false := h79
                      try simp only [decide_eq_true_eq, decide_eq_false_iff_not, Bool.and_eq_true, Bool.or_eq_true, Bool.not_eq_true', Bool.and_eq_false_iff, Bool.or_eq_false_iff, Bool.not_eq_false', bne_iff_ne, beq_iff_eq, ne_eq, not_and, Decidable.not_not, Bool.true_and, Bool.and_true, Bool.false_or, Bool.or_false] at c79
                      refine go_exit rfl ?_
                      refine go_inBlock ?_
                      refine go_region ⟨_, Try.func27⟩ rfl ?_
                      refine q0 rfl (o_add ?_)
                      refine q0 rfl (o_move ?_)
                      refine rg_nil ?_
                      refine go_state (fun w hs => ?_) (next2 (s + 1, bl) _ (⟨by omega, hbn, hbl⟩) (by (try simp only); omega) ⟨rfl, rfl, rfl, trivial⟩)
                      exact ((((((((hs.less (by simp +contextual)).perm perm3).perm perm8).perm perm8).perm perm8).perm perm8).perm perm8).dropR (A := [_, _, _, _, _, _]))
            · have c45 : (decide ((s : Int) < (ss.length : Int))) = false := h45
              try simp only [decide_eq_true_eq, decide_eq_false_iff_not, Bool.and_eq_true, Bool.or_eq_true, Bool.not_eq_true', Bool.and_eq_false_iff, Bool.or_eq_false_iff, Bool.not_eq_false', bne_iff_ne, beq_iff_eq, ne_eq, not_and, Decidable.not_not, Bool.true_and, Bool.and_true, Bool.false_or, Bool.or_false] at c45
              refine go_exit rfl ?_
              -- leaf 0: 
              refine end0 Try.func27 Try.results27 () (by first | rfl | (simp_all; done) | (simp_all; omega)) (fun w hs => hs.none)

theorem spoil_spec : ∀ h : HT, SpoilO h := HT.indK fun k n nm r v ks u ss x ih => by
  refine (spoil_walk k n nm r v ks u ss x ih).conv ?_ (fun b => ?_) (fun B w hs => hs.openHT)
  · simp only [HT.er, HT.vr, HT.vk, HT.vs, tc, T.kind, T.n, T.name, T.r, T.kids, T.sys, HT.erL_eq, HT.erB_eq, List.length_map]
  · simp only [domAll_cons, bigR_dom, treeR, domAll_append, domAll_nil, or_false, or_assoc]

end Go.Hy
