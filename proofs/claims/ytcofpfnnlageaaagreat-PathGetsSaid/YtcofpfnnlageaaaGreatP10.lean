/- Contracts of this program's functions and the laws that they need: a separation logic over the machine's rules, one theorem each (partly printed by a program of this repository). -/
import Derived.Test.YtcofpfnnlageaaaGreatP5
import Derived.Test.YtcofpfnnlageaaaGreatP6
import Derived.Test.YtcofpfnnlageaaaGreatP7
import Derived.Test.YtcofpfnnlageaaaGreatP8
import Derived.Test.YtcofpfnnlageaaaGreatP9
namespace Go.Hy
set_option linter.unusedVariables false
set_option linter.unusedSimpArgs false
set_option linter.unusedSectionVars false
open Go.Proofs
set_option linter.unusedVariables false
set_option linter.unusedSimpArgs false
set_option maxRecDepth 100000
theorem works30_spec   : Spec Tryz.prog 15 #[] [] [] (fun _ : Unit => .bool (true)) (fun _ : Unit => []) (fun _ : Unit => []) := by
  refine spec_go (args := []) Tryz.func15 Tryz.ntmps15 rfl (by exact Nat.le_of_ble_eq_true rfl) fun B hB => ?_
  refine go_seq ?_
  refine go_region ⟨_, Tryz.func15⟩ rfl ?_
  refine q0 rfl (o_assign ?_)
  refine rg_nil ?_
  refine go_seq ?_
  refine go_region ⟨_, Tryz.func15⟩ rfl ?_
  refine q0 rfl (o_build (cs := [.int .i64 (1), .int .i64 (0), .string ((ByteArray.mk #[])), sl (none, 0) (0), sl (none, 0) (0), sl (none, 0) (0)]) ?_)
  refine q0 rfl (o_new fun b1 => ?_)
  refine q0 rfl (o_st ?_)
  refine rg_nil ?_
  refine go_seq ?_
  refine go_region ⟨_, Tryz.func15⟩ rfl ?_
  refine q0 rfl (o_build (cs := [.int .i64 (1), .int .i64 (1), .string ((ByteArray.mk #[])), sl (none, 0) (0), sl (none, 0) (0), sl (none, 0) (0)]) ?_)
  refine q0 rfl (o_lds ?_)
  refine q0 rfl (o_lit1 fun b12 => ?_)
  refine q0 rfl (o_build (cs := [.int .i64 (5), .int .i64 (0), .string ((ByteArray.mk #[])), sl (none, 0) (0), sl (some ⟨b12, 0, none⟩, 1) (1), sl (none, 0) (0)]) ?_)
  refine q0 rfl (o_lit2 fun b14 => ?_)
  refine q0 rfl (o_build (cs := [.int .i64 (6), .int .i64 (0), .string ((ByteArray.mk #[])), sl (none, 0) (0), sl (some ⟨b14, 0, none⟩, 2) (2), sl (none, 0) (0)]) ?_)
  refine q0 rfl (o_new fun b2 => ?_)
  refine q0 rfl (o_st ?_)
  refine rg_nil ?_
  refine go_state (fun w hs => ?_) (?_ : GoT _ _ _ _ _ _ _ [RT exT nul (some ⟨b14, 0, none⟩, 2) nul] [boxR b2 (tc exT nul (some ⟨b14, 0, none⟩, 2) nul) 26])
  · have g1 := ((((((hs.perm perm3).perm perm1).perm perm2).perm perm3).leaf 1 0 ⟨#[]⟩ (in_lit (by omega) (by omega)) (in_lit (by omega) (by omega)) (Nat.zero_le _)).lit1T (t := varT 0) (vr := nul) (vk := nul) (vs := nul) hB (by simp [varT]) rfl).node 5 0 [varT 0] (some ⟨b12, 0, none⟩, 1) (in_lit (by omega) (by omega)) (in_lit (by omega) (by omega)) (by simp)
    have g3 := ((g1.leaf 1 1 ⟨#[]⟩ (in_lit (by omega) (by omega)) (in_lit (by omega) (by omega)) (Nat.zero_le _)).lit2T (t := varT 1) (vr := nul) (vk := nul) (vs := nul) (u := lamT (varT 0)) (ur := nul) (uk := (some ⟨b12, 0, none⟩, 1)) (us := nul) hB (by simp [varT]) (by simp [lamT]) rfl).node 6 0 [varT 1, lamT (varT 0)] (some ⟨b14, 0, none⟩, 2) (in_lit (by omega) (by omega)) (in_lit (by omega) (by omega)) (by simp)
    exact (g3.less (by simp [lamT, exT, varT])).dropR (A := [_])
  refine go_seq ?_
  refine go_region ⟨_, Tryz.func15⟩ rfl ?_
  refine q0 rfl (o_lds ?_)
  refine q0 rfl (o_call Tryz.call25 (allP_spec exT nul (some ⟨b14, 0, none⟩, 2) nul (by rw [ex_size.1]; omega)) (fun x18 => ?_))
  refine q0 rfl (o_move ?_)
  refine q0 rfl (o_extract ?_)
  refine q0 rfl (o_extract ?_)
  refine q0 rfl (o_assign ?_)
  refine q0 rfl (o_assign ?_)
  refine rg_nil ?_
  have hx18 : x18.1.2.map (fun z : IP => z.1) = [[], [0], [1], [1, 0]] := x18.2.trans ex_all
  have hl18 : x18.1.2.length = 4 := by have h9 := congrArg List.length hx18; simpa using h9
  have h18 : (x18.1.2.getD 3 ip0).1 = [1, 0] := by have h9 := getD_map (d := ip0) (e := ([] : List Int)) (f := fun z : IP => z.1) (l := x18.1.2) (i := 3) (by omega); rw [hx18] at h9; exact h9.symm
  refine go_seq ?_
  refine go_region ⟨_, Tryz.func15⟩ rfl ?_
  refine q0 rfl (o_lds ?_)
  refine q0 rfl (o_lit2 fun b23 => ?_)
  refine rg_state (fun w hs => (((hs.perm perm1).perm perm1).litI [1, 0] hB rfl (by decide) (by intro c hc; simp at hc; unfold in64; omega))) ?_
  have hget := getWalk exT nul (some ⟨b14, 0, none⟩, 2) nul [1, 0] (some ⟨b23, 0, none⟩, 2) (by rw [ex_size.1]; omega)
  simp only [ex_get1, ex_get2] at hget
  refine q0 rfl (o_call Tryz.call20 (hget) (fun x24 => ?_))
  refine q0 rfl (o_move ?_)
  refine q0 rfl (o_extract ?_)
  refine q0 rfl (o_extract ?_)
  refine q0 rfl (o_new fun b5 => ?_)
  refine q0 rfl (o_st ?_)
  refine q0 rfl (o_assign ?_)
  refine rg_nil ?_
  refine go_seq ?_
  refine go_region ⟨_, Tryz.func15⟩ rfl ?_
  refine q0 rfl (o_lds ?_)
  refine q0 rfl (o_lit1 fun b29 => ?_)
  refine q0 rfl (o_build (cs := [.int .i64 (3), .int .i64 (0), .string ((ByteArray.mk #[])), sl (none, 0) (0), sl (none, 0) (0), sl (none, 0) (0)]) ?_)
  refine rg_state (fun w hs => ((((hs.perm perm2).perm perm2).perm perm2).litI [0] hB rfl (by decide) (by intro c hc; simp at hc; unfold in64; omega))) ?_
  have hput := putP_walk exT nul (some ⟨b14, 0, none⟩, 2) nul [0] (some ⟨b29, 0, none⟩, 1) exU nul nul nul (by rw [ex_size.1]; omega) (by rw [ex_size.2]; omega)
  simp only [ex_put1, ex_put2] at hput
  refine rg_state (fun w hs => show St B (RT exU nul nul nul :: _) _ w from hs.leaf 3 0 ⟨#[]⟩ (in_lit (by omega) (by omega)) (in_lit (by omega) (by omega)) (Nat.zero_le _)) ?_
  refine q0 rfl (o_call Tryz.call17 (hput) (fun x31 => ?_))
  refine q0 rfl (o_move ?_)
  refine q0 rfl (o_extract ?_)
  refine q0 rfl (o_extract ?_)
  refine q0 rfl (o_new fun b7 => ?_)
  refine q0 rfl (o_st ?_)
  refine q0 rfl (o_assign ?_)
  refine rg_nil ?_
  refine go_open (t := exR) (vr := x31.1) (vk := x31.2.1) (vs := x31.2.2) (fun hk1 hn1 hm1 => ?_)
  refine go_openTL (ts := (exR).kids) (a := x31.2.1) (fun VR2 VK2 VS2 hl2 hA2 => ?_)
  refine go_seq ?_
  refine go_openRow (l := x18.1.2) (a := x18.1.1) (bt := 24) (F := ipCells) (E := ipE) (d := ip0) mm_ (fun hl3 hA3 => ?_)
  refine go_elem (l := x18.1.2) (a := x18.1.1) (bt := 24) (F := ipCells) (E := ipE) (d := ip0) mm_ 3 (by (first | omega | decide)) ?_
  refine go_kid (ts := (exR).kids) (a := x31.2.1) (VR := VR2) (VK := VK2) (VS := VS2) 0 (by (first | omega | decide)) ?_
  refine go_cutS ([(0, .bool (true))]) (fun hK => ?_) (fun base => ?_)
  · refine go_region ⟨_, Tryz.func15⟩ rfl ?_
    refine q0 rfl (o_move ?_)
    refine q0 rfl (o_eqI ?_)
    refine q0 rfl (o_move ?_)
    refine qI rfl rfl rfl wl_ (fun hg36 => ?_) (fun hg36 => ?_)
    · have g36 : (decide ((formedP exT) = 0)) = true := hg36
      try simp only [sC, bne_iff_ne, beq_iff_eq, ne_eq] at g36
      refine o_move ?_
      refine qT rfl rfl rfl (o_len ?_)
      refine qT rfl rfl rfl (o_eqI ?_)
      refine q0 rfl (o_pickT ?_)
      refine q0 rfl (o_move ?_)
      refine qI rfl rfl rfl wl_ (fun hg41 => ?_) (fun hg41 => ?_)
      · have g41 : (decide (((x18.1.2).length : Int) = 4)) = true := hg41
        try simp only [sC, bne_iff_ne, beq_iff_eq, ne_eq] at g41
        refine o_move ?_
        obtain ⟨bk4, o4, hav4⟩ := hA3 (by (first | omega | decide))
        refine qT rfl rfl rfl (o_ixN ?_ (j := 3))
        refine qT rfl rfl rfl (o_ldII ?_)
        refine qT rfl rfl rfl (o_lit2 fun b45 => ?_)
        refine rg_state (fun w hs => (((((hs.perm perm3).perm perm3).perm perm3).perm perm3).litI [1, 0] hB rfl (by decide) (by intro c hc; simp at hc; unfold in64; omega))) ?_
        refine qT rfl rfl rfl (o_call Tryz.call29 (ints_spec (((x18.1.2).getD 3 ip0).1) (((x18.1.2).getD 3 ip0).2) ([1, 0]) (some ⟨b45, 0, none⟩, [1, 0].length) ) (fun x46 => ?_))
        refine q0 rfl (o_pickT ?_)
        refine q0 rfl (o_move ?_)
        refine qI rfl rfl rfl wl_ (fun hg48 => ?_) (fun hg48 => ?_)
        · have g48 : ((decide ((((x18.1.2).getD 3 ip0).1) = ([1, 0])))) = true := hg48
          try simp only [sC, bne_iff_ne, beq_iff_eq, ne_eq] at g48
          refine o_move ?_
          refine qT rfl rfl rfl (o_eqI ?_)
          refine q0 rfl (o_pickT ?_)
          refine q0 rfl (o_move ?_)
          refine qI rfl rfl rfl wl_ (fun hg52 => ?_) (fun hg52 => ?_)
          · have g52 : (decide (0 = 0)) = true := hg52
            try simp only [sC, bne_iff_ne, beq_iff_eq, ne_eq] at g52
            refine o_fa ?_
            refine qT rfl rfl rfl (o_fa ?_)
            refine qT rfl rfl rfl (o_ld ?_)
            refine qT rfl rfl rfl (o_eqI ?_)
            refine q0 rfl (o_pickT ?_)
            refine q0 rfl (o_move ?_)
            refine qI rfl rfl rfl wl_ (fun hg58 => ?_) (fun hg58 => ?_)
            · have g58 : (decide (((varT0).kind) = 1)) = true := hg58
              try simp only [sC, bne_iff_ne, beq_iff_eq, ne_eq] at g58
              refine o_fa ?_
              refine qT rfl rfl rfl (o_ld ?_)
              refine qT rfl rfl rfl (o_eqI ?_)
              refine q0 rfl (o_pickT ?_)
              refine q0 rfl (o_move ?_)
              refine qI rfl rfl rfl wl_ (fun hg63 => ?_) (fun hg63 => ?_)
              · have g63 : (decide (1 = 1)) = true := hg63
                try simp only [sC, bne_iff_ne, beq_iff_eq, ne_eq] at g63
                refine o_move ?_
                refine qT rfl rfl rfl (o_eqI ?_)
                refine q0 rfl (o_pickT ?_)
                refine q0 rfl (o_move ?_)
                refine qI rfl rfl rfl wl_ (fun hg67 => ?_) (fun hg67 => ?_)
                · have g67 : (decide (0 = 0)) = true := hg67
                  try simp only [sC, bne_iff_ne, beq_iff_eq, ne_eq] at g67
                  refine o_fa ?_
                  refine qT rfl rfl rfl (o_ld ?_)
                  refine qT rfl rfl rfl (o_len ?_)
                  refine qT rfl rfl rfl (o_eqI ?_)
                  refine q0 rfl (o_pickT ?_)
                  refine q0 rfl (o_move ?_)
                  refine qI rfl rfl rfl wl_ (fun hg73 => ?_) (fun hg73 => ?_)
                  · have g73 : (decide (((exR).kids.length : Int) = 2)) = true := hg73
                    try simp only [sC, bne_iff_ne, beq_iff_eq, ne_eq] at g73
                    refine o_fa ?_
                    refine qT rfl rfl rfl (o_ld ?_)
                    obtain ⟨bk5, o5, hav5⟩ := hA2 (by (first | omega | decide))
                    refine qT rfl rfl rfl (o_ixN ?_ (j := 0))
                    refine qT rfl rfl rfl (o_fa ?_)
                    refine qT rfl rfl rfl (o_ldTf ?_)
                    refine qT rfl rfl rfl (o_eqI ?_)
                    refine q0 rfl (o_pickT ?_)
                    refine q0 rfl (o_assign ?_)
                    refine rg_nil ?_
                    exact go_state (fun w hs => (hs.less (by simp +contextual))) (hK _ ⟨(by first | rfl | ((conv => lhs; whnf); first | (simp_all [exR, exU, varT0, T.kids, T.kind, ex_formed, h18, hl18]; done) | (simp_all [exR, exU, varT0, T.kids, T.kind, ex_formed, h18, hl18]; omega))), trivial⟩)
                  · have g73 : (decide (((exR).kids.length : Int) = 2)) = false := hg73
                    try simp only [sC, bne_iff_ne, beq_iff_eq, ne_eq] at g73
                    refine qF rfl rfl rfl ?_
                    refine qF rfl rfl rfl ?_
                    refine qF rfl rfl rfl ?_
                    refine qF rfl rfl rfl ?_
                    refine qF rfl rfl rfl ?_
                    refine q0 rfl (o_pickF ?_)
                    refine q0 rfl (o_assign ?_)
                    refine rg_nil ?_
                    exact go_state (fun w hs => (hs.less (by simp +contextual))) (hK _ ⟨(by first | rfl | ((conv => lhs; whnf); first | (simp_all [exR, exU, varT0, T.kids, T.kind, ex_formed, h18, hl18]; done) | (simp_all [exR, exU, varT0, T.kids, T.kind, ex_formed, h18, hl18]; omega))), trivial⟩)
                · have g67 : (decide (0 = 0)) = false := hg67
                  try simp only [sC, bne_iff_ne, beq_iff_eq, ne_eq] at g67
                  refine qF rfl rfl rfl ?_
                  refine qF rfl rfl rfl ?_
                  refine qF rfl rfl rfl ?_
                  refine q0 rfl (o_pickF ?_)
                  refine q0 rfl (o_move ?_)
                  refine qF rfl rfl rfl ?_
                  refine qF rfl rfl rfl ?_
                  refine qF rfl rfl rfl ?_
                  refine qF rfl rfl rfl ?_
                  refine qF rfl rfl rfl ?_
                  refine qF rfl rfl rfl ?_
                  refine q0 rfl (o_pickF ?_)
                  refine q0 rfl (o_assign ?_)
                  refine rg_nil ?_
                  exact go_state (fun w hs => (hs.less (by simp +contextual))) (hK _ ⟨(by first | rfl | ((conv => lhs; whnf); first | (simp_all [exR, exU, varT0, T.kids, T.kind, ex_formed, h18, hl18]; done) | (simp_all [exR, exU, varT0, T.kids, T.kind, ex_formed, h18, hl18]; omega))), trivial⟩)
              · have g63 : (decide (1 = 1)) = false := hg63
                try simp only [sC, bne_iff_ne, beq_iff_eq, ne_eq] at g63
                refine qF rfl rfl rfl ?_
                refine q0 rfl (o_pickF ?_)
                refine q0 rfl (o_move ?_)
                refine qF rfl rfl rfl ?_
                refine qF rfl rfl rfl ?_
                refine qF rfl rfl rfl ?_
                refine qF rfl rfl rfl ?_
                refine q0 rfl (o_pickF ?_)
                refine q0 rfl (o_move ?_)
                refine qF rfl rfl rfl ?_
                refine qF rfl rfl rfl ?_
                refine qF rfl rfl rfl ?_
                refine qF rfl rfl rfl ?_
                refine qF rfl rfl rfl ?_
                refine qF rfl rfl rfl ?_
                refine q0 rfl (o_pickF ?_)
                refine q0 rfl (o_assign ?_)
                refine rg_nil ?_
                exact go_state (fun w hs => (hs.less (by simp +contextual))) (hK _ ⟨(by first | rfl | ((conv => lhs; whnf); first | (simp_all [exR, exU, varT0, T.kids, T.kind, ex_formed, h18, hl18]; done) | (simp_all [exR, exU, varT0, T.kids, T.kind, ex_formed, h18, hl18]; omega))), trivial⟩)
            · have g58 : (decide (((varT0).kind) = 1)) = false := hg58
              try simp only [sC, bne_iff_ne, beq_iff_eq, ne_eq] at g58
              refine qF rfl rfl rfl ?_
              refine qF rfl rfl rfl ?_
              refine q0 rfl (o_pickF ?_)
              refine q0 rfl (o_move ?_)
              refine qF rfl rfl rfl ?_
              refine qF rfl rfl rfl ?_
              refine q0 rfl (o_pickF ?_)
              refine q0 rfl (o_move ?_)
              refine qF rfl rfl rfl ?_
              refine qF rfl rfl rfl ?_
              refine qF rfl rfl rfl ?_
              refine qF rfl rfl rfl ?_
              refine q0 rfl (o_pickF ?_)
              refine q0 rfl (o_move ?_)
              refine qF rfl rfl rfl ?_
              refine qF rfl rfl rfl ?_
              refine qF rfl rfl rfl ?_
              refine qF rfl rfl rfl ?_
              refine qF rfl rfl rfl ?_
              refine qF rfl rfl rfl ?_
              refine q0 rfl (o_pickF ?_)
              refine q0 rfl (o_assign ?_)
              refine rg_nil ?_
              exact go_state (fun w hs => (hs.less (by simp +contextual))) (hK _ ⟨(by first | rfl | ((conv => lhs; whnf); first | (simp_all [exR, exU, varT0, T.kids, T.kind, ex_formed, h18, hl18]; done) | (simp_all [exR, exU, varT0, T.kids, T.kind, ex_formed, h18, hl18]; omega))), trivial⟩)
          · have g52 : (decide (0 = 0)) = false := hg52
            try simp only [sC, bne_iff_ne, beq_iff_eq, ne_eq] at g52
            refine qF rfl rfl rfl ?_
            refine qF rfl rfl rfl ?_
            refine qF rfl rfl rfl ?_
            refine q0 rfl (o_pickF ?_)
            refine q0 rfl (o_move ?_)
            refine qF rfl rfl rfl ?_
            refine qF rfl rfl rfl ?_
            refine qF rfl rfl rfl ?_
            refine q0 rfl (o_pickF ?_)
            refine q0 rfl (o_move ?_)
            refine qF rfl rfl rfl ?_
            refine qF rfl rfl rfl ?_
            refine q0 rfl (o_pickF ?_)
            refine q0 rfl (o_move ?_)
            refine qF rfl rfl rfl ?_
            refine qF rfl rfl rfl ?_
            refine qF rfl rfl rfl ?_
            refine qF rfl rfl rfl ?_
            refine q0 rfl (o_pickF ?_)
            refine q0 rfl (o_move ?_)
            refine qF rfl rfl rfl ?_
            refine qF rfl rfl rfl ?_
            refine qF rfl rfl rfl ?_
            refine qF rfl rfl rfl ?_
            refine qF rfl rfl rfl ?_
            refine qF rfl rfl rfl ?_
            refine q0 rfl (o_pickF ?_)
            refine q0 rfl (o_assign ?_)
            refine rg_nil ?_
            exact go_state (fun w hs => (hs.less (by simp +contextual))) (hK _ ⟨(by first | rfl | ((conv => lhs; whnf); first | (simp_all [exR, exU, varT0, T.kids, T.kind, ex_formed, h18, hl18]; done) | (simp_all [exR, exU, varT0, T.kids, T.kind, ex_formed, h18, hl18]; omega))), trivial⟩)
        · have g48 : ((decide ((((x18.1.2).getD 3 ip0).1) = ([1, 0])))) = false := hg48
          try simp only [sC, bne_iff_ne, beq_iff_eq, ne_eq] at g48
          refine qF rfl rfl rfl ?_
          refine q0 rfl (o_pickF ?_)
          refine q0 rfl (o_move ?_)
          refine qF rfl rfl rfl ?_
          refine qF rfl rfl rfl ?_
          refine qF rfl rfl rfl ?_
          refine qF rfl rfl rfl ?_
          refine q0 rfl (o_pickF ?_)
          refine q0 rfl (o_move ?_)
          refine qF rfl rfl rfl ?_
          refine qF rfl rfl rfl ?_
          refine qF rfl rfl rfl ?_
          refine q0 rfl (o_pickF ?_)
          refine q0 rfl (o_move ?_)
          refine qF rfl rfl rfl ?_
          refine qF rfl rfl rfl ?_
          refine q0 rfl (o_pickF ?_)
          refine q0 rfl (o_move ?_)
          refine qF rfl rfl rfl ?_
          refine qF rfl rfl rfl ?_
          refine qF rfl rfl rfl ?_
          refine qF rfl rfl rfl ?_
          refine q0 rfl (o_pickF ?_)
          refine q0 rfl (o_move ?_)
          refine qF rfl rfl rfl ?_
          refine qF rfl rfl rfl ?_
          refine qF rfl rfl rfl ?_
          refine qF rfl rfl rfl ?_
          refine qF rfl rfl rfl ?_
          refine qF rfl rfl rfl ?_
          refine q0 rfl (o_pickF ?_)
          refine q0 rfl (o_assign ?_)
          refine rg_nil ?_
          exact go_state (fun w hs => (hs.less (by simp +contextual))) (hK _ ⟨(by first | rfl | ((conv => lhs; whnf); first | (simp_all [exR, exU, varT0, T.kids, T.kind, ex_formed, h18, hl18]; done) | (simp_all [exR, exU, varT0, T.kids, T.kind, ex_formed, h18, hl18]; omega))), trivial⟩)
      · have g41 : (decide (((x18.1.2).length : Int) = 4)) = false := hg41
        try simp only [sC, bne_iff_ne, beq_iff_eq, ne_eq] at g41
        refine qF rfl rfl rfl ?_
        refine qF rfl rfl rfl ?_
        refine qF rfl rfl rfl ?_
        refine qF rfl rfl rfl ?_
        refine q0 rfl (o_pickF ?_)
        refine q0 rfl (o_move ?_)
        refine qF rfl rfl rfl ?_
        refine qF rfl rfl rfl ?_
        refine q0 rfl (o_pickF ?_)
        refine q0 rfl (o_move ?_)
        refine qF rfl rfl rfl ?_
        refine qF rfl rfl rfl ?_
        refine qF rfl rfl rfl ?_
        refine qF rfl rfl rfl ?_
        refine q0 rfl (o_pickF ?_)
        refine q0 rfl (o_move ?_)
        refine qF rfl rfl rfl ?_
        refine qF rfl rfl rfl ?_
        refine qF rfl rfl rfl ?_
        refine q0 rfl (o_pickF ?_)
        refine q0 rfl (o_move ?_)
        refine qF rfl rfl rfl ?_
        refine qF rfl rfl rfl ?_
        refine q0 rfl (o_pickF ?_)
        refine q0 rfl (o_move ?_)
        refine qF rfl rfl rfl ?_
        refine qF rfl rfl rfl ?_
        refine qF rfl rfl rfl ?_
        refine qF rfl rfl rfl ?_
        refine q0 rfl (o_pickF ?_)
        refine q0 rfl (o_move ?_)
        refine qF rfl rfl rfl ?_
        refine qF rfl rfl rfl ?_
        refine qF rfl rfl rfl ?_
        refine qF rfl rfl rfl ?_
        refine qF rfl rfl rfl ?_
        refine qF rfl rfl rfl ?_
        refine q0 rfl (o_pickF ?_)
        refine q0 rfl (o_assign ?_)
        refine rg_nil ?_
        exact hK _ ⟨(by first | rfl | ((conv => lhs; whnf); first | (simp_all [exR, exU, varT0, T.kids, T.kind, ex_formed, h18, hl18]; done) | (simp_all [exR, exU, varT0, T.kids, T.kind, ex_formed, h18, hl18]; omega))), trivial⟩
    · have g36 : (decide ((formedP exT) = 0)) = false := hg36
      try simp only [sC, bne_iff_ne, beq_iff_eq, ne_eq] at g36
      refine qF rfl rfl rfl ?_
      refine qF rfl rfl rfl ?_
      refine q0 rfl (o_pickF ?_)
      refine q0 rfl (o_move ?_)
      refine qF rfl rfl rfl ?_
      refine qF rfl rfl rfl ?_
      refine qF rfl rfl rfl ?_
      refine qF rfl rfl rfl ?_
      refine qF rfl rfl rfl ?_
      refine q0 rfl (o_pickF ?_)
      refine q0 rfl (o_move ?_)
      refine qF rfl rfl rfl ?_
      refine qF rfl rfl rfl ?_
      refine q0 rfl (o_pickF ?_)
      refine q0 rfl (o_move ?_)
      refine qF rfl rfl rfl ?_
      refine qF rfl rfl rfl ?_
      refine qF rfl rfl rfl ?_
      refine qF rfl rfl rfl ?_
      refine q0 rfl (o_pickF ?_)
      refine q0 rfl (o_move ?_)
      refine qF rfl rfl rfl ?_
      refine qF rfl rfl rfl ?_
      refine qF rfl rfl rfl ?_
      refine q0 rfl (o_pickF ?_)
      refine q0 rfl (o_move ?_)
      refine qF rfl rfl rfl ?_
      refine qF rfl rfl rfl ?_
      refine q0 rfl (o_pickF ?_)
      refine q0 rfl (o_move ?_)
      refine qF rfl rfl rfl ?_
      refine qF rfl rfl rfl ?_
      refine qF rfl rfl rfl ?_
      refine qF rfl rfl rfl ?_
      refine q0 rfl (o_pickF ?_)
      refine q0 rfl (o_move ?_)
      refine qF rfl rfl rfl ?_
      refine qF rfl rfl rfl ?_
      refine qF rfl rfl rfl ?_
      refine qF rfl rfl rfl ?_
      refine qF rfl rfl rfl ?_
      refine qF rfl rfl rfl ?_
      refine q0 rfl (o_pickF ?_)
      refine q0 rfl (o_assign ?_)
      refine rg_nil ?_
      exact hK _ ⟨(by first | rfl | ((conv => lhs; whnf); first | (simp_all [exR, exU, varT0, T.kids, T.kind, ex_formed, h18, hl18]; done) | (simp_all [exR, exU, varT0, T.kids, T.kind, ex_formed, h18, hl18]; omega))), trivial⟩
  · refine ret1 Tryz.func15 Tryz.results15 wn_ () (by first | rfl | (simp_all; done)) (fun w hs => hs.none)
end Go.Hy
namespace Go.Hy
set_option linter.unusedVariables false
set_option linter.unusedSimpArgs false
set_option linter.unusedSectionVars false
open Go.Proofs
set_option linter.unusedVariables false
set_option linter.unusedSimpArgs false
set_option maxRecDepth 100000
theorem rkids30_walk (t : T) (vr_t vk_t vs_t : SH) (hz : size t ≤ 1000000000) : Spec Tryz.prog 24 #[.agg (tc t vr_t vk_t vs_t).toArray] [RT t vr_t vk_t vs_t] [] (fun x : {x : SH × List QP // x.2.map qer = parts t} => sl x.1.1 x.1.2.length) (fun x : {x : SH × List QP // x.2.map qer = parts t} => [SPF x.1.2 x.1.1]) (fun x : {x : SH × List QP // x.2.map qer = parts t} => []) := by
  refine spec_go (args := [.agg (tc t vr_t vk_t vs_t).toArray]) Tryz.func24 Tryz.ntmps24 rfl (by exact Nat.le_of_ble_eq_true rfl) fun B hB => ?_
  refine go_open (t := t) (vr := vr_t) (vk := vk_t) (vs := vs_t) (fun hk1 hn1 hm1 => ?_)
  refine go_openCL (l := (t).r) (a := vr_t) (fun hl2 hA2 hU2 => ?_)
  refine go_openTL (ts := (t).kids) (a := vk_t) (fun VR3 VK3 VS3 hl3 hA3 => ?_)
  refine go_openBL (bs := (t).sys) (a := vs_t) (fun VF4 VK4 hl4 hA4 => ?_)
  have hpn := parts_len t
  have hp0 : t.kids.length ≤ (parts t).length := sys_le (t := t) (Nat.zero_le _)
  refine go_seq ?_
  refine go_region ⟨_, Tryz.func24⟩ rfl ?_
  refine q0 rfl (o_box fun b1 => ?_)
  refine q0 rfl (o_assign ?_)
  refine rg_nil ?_
  refine go_seq ?_
  refine go_region ⟨_, Tryz.func24⟩ rfl ?_
  refine q0 rfl (o_assign ?_)
  refine rg_nil ?_
  refine go_seq ?_
  refine go_seq ?_
  refine go_region ⟨_, Tryz.func24⟩ rfl ?_
  refine q0 rfl (o_assign ?_)
  refine rg_nil ?_
  refine go_block ?_
  refine go_loopE (X := Nat × SH × List QP) (fun s_ => s_.1 ≤ t.kids.length ∧ s_.2.2.map qer = (parts t).take s_.1) (fun s_ => [(1, .pointer (some ⟨b1, 0, none⟩)), (3, sl s_.2.1 (s_.1)), (4, .int .i64 ((s_.1 : Int)))]) (fun s_ G_ => AllF qE s_.2.2 :: G_) (fun s_ => [rowS 8 47 s_.2.1 (s_.1) (spFlat s_.2.2), boxR b1 (tc t vr_t vk_t vs_t) 26]) (fun s_ => t.kids.length - s_.1) (0, (none, 0), []) (⟨by omega, rfl⟩) (by exact ⟨rfl, rfl, rfl, trivial⟩) ?_ ?_
  · exact fun w hs => ((hs.rowS0 8 47).allNil qE)
  · intro ⟨i, a, qs⟩ base0 ⟨hi, hqs⟩ next0
    dsimp only at  hi  hqs  next0 ⊢
    refine go_seq ?_
    refine go_seq ?_
    refine go_region ⟨_, Tryz.func24⟩ rfl ?_
    refine q0 rfl (o_move ?_)
    refine q0 rfl (o_fa ?_)
    refine q0 rfl (o_ld ?_)
    refine q0 rfl (o_len ?_)
    refine q0 rfl (o_lss ?_)
    refine rg_nil ?_
    refine go_condI (fun h13 => ?_) (fun h13 => ?_)
    · have c13 : (decide ((i : Int) < ((t).kids.length : Int))) = true := h13
      try simp only [sC, bne_iff_ne, beq_iff_eq, ne_eq] at c13
      refine go_skip ?_
      refine go_seq ?_
      refine go_block ?_
      refine go_seq ?_
      refine go_region ⟨_, Tryz.func24⟩ rfl ?_
      refine q0 rfl (o_fa ?_)
      refine q0 rfl (o_ld ?_)
      refine q0 rfl (o_move ?_)
      refine q0 rfl (o_call Tryz.call39 (rbinds_spec ((t).kind) (i : Int) ) (fun x20 => ?_))
      refine q0 rfl (o_move ?_)
      refine q0 rfl (o_extract ?_)
      refine q0 rfl (o_extract ?_)
      refine q0 rfl (o_assign ?_)
      refine q0 rfl (o_assign ?_)
      refine rg_nil ?_
      refine go_kid (ts := (t).kids) (a := vk_t) (VR := VR3) (VK := VK3) (VS := VS3) i (by omega) ?_
      refine go_region ⟨_, Tryz.func24⟩ rfl ?_
      refine q0 rfl (o_move ?_)
      refine q0 rfl (o_fa ?_)
      refine q0 rfl (o_ld ?_)
      refine q0 rfl (o_move ?_)
      obtain ⟨bk5, o5, hav5⟩ := hA3 (by omega)
      refine q0 rfl (o_ixN ?_ (j := i))
      refine q0 rfl (o_ldT ?_)
      refine q0 rfl (o_move ?_)
      refine q0 rfl (o_move ?_)
      refine q0 rfl (o_build (cs := [.int .i64 ((((t).kids).getD i t0).kind), .int .i64 ((((t).kids).getD i t0).n), .string ((((t).kids).getD i t0).name), sl (VR3 i) ((((t).kids).getD i t0).r.length), sl (VK3 i) ((((t).kids).getD i t0).kids.length), sl (VS3 i) ((((t).kids).getD i t0).sys.length), .int .i64 ((binds ((t).kind) (i : Int)).1), .int .i64 ((binds ((t).kind) (i : Int)).2)]) ?_ (hb := fill_spot012 (by rfl) (by rfl)))
      refine q0 rfl (o_lit1 fun b32 => ?_)
      refine q0 rfl (o_appS (fun a33 => ?_) (a := a) (n' := i))
      refine rg_state (fun w hs => ((hs.perm perm1).drop).snocQ (q := ((((t).kids).getD i t0, VR3 i, VK3 i, VS3 i), (binds ((t).kind) (i : Int)).1, (binds ((t).kind) (i : Int)).2)) rfl) ?_
      refine q0 rfl (o_assign ?_)
      refine rg_nil ?_
      refine go_inBlock ?_
      refine go_region ⟨_, Tryz.func24⟩ rfl ?_
      refine q0 rfl (o_move ?_)
      refine q0 rfl (o_add ?_)
      refine q0 rfl (o_assign ?_)
      refine rg_nil ?_
      refine go_state (fun w hs => ?_) (next0 (i + 1, a33, (qs ++ [((((t).kids).getD i t0, VR3 i, VK3 i, VS3 i), (binds ((t).kind) (i : Int)).1, (binds ((t).kind) (i : Int)).2)])) _ (⟨by omega, by rw [List.map_append, hqs, take_snoc (parts_kid t i (by omega))]; rfl⟩) (by (try simp only); omega) ⟨rfl, rfl, rfl, trivial⟩)
      exact ((((hs.allAdd (E := qE) (l := qs) (x := ((((t).kids).getD i t0, VR3 i, VK3 i, VS3 i), (binds ((t).kind) (i : Int)).1, (binds ((t).kind) (i : Int)).2)) mf_ mf_).less (by simp +contextual)).perm perm1).perm perm1)
    · have c13 : (decide ((i : Int) < ((t).kids.length : Int))) = false := h13
      try simp only [sC, bne_iff_ne, beq_iff_eq, ne_eq] at c13
      have hei : i = t.kids.length := by omega
      refine go_ms (Ms' := [rowS 8 47 a (t.kids.length) (spFlat qs), boxR b1 (tc t vr_t vk_t vs_t) 26]) (by rw [hei]) ?_
      refine go_exit rfl ?_
      refine go_seq ?_
      refine go_seq ?_
      refine go_region ⟨_, Tryz.func24⟩ rfl ?_
      refine q0 rfl (o_assign ?_)
      refine rg_nil ?_
      refine go_block ?_
      refine go_loopE (X := Nat × SH × List QP) (fun s_ => s_.1 ≤ t.sys.length ∧ s_.2.2.map qer = (parts t).take (t.kids.length + sysBefore s_.1 t.sys)) (fun s_ => [(1, .pointer (some ⟨b1, 0, none⟩)), (3, sl s_.2.1 ((t.kids.length + sysBefore s_.1 t.sys))), (7, .int .i64 ((s_.1 : Int)))]) (fun s_ G_ => AllF qE s_.2.2 :: G_) (fun s_ => [rowS 8 47 s_.2.1 ((t.kids.length + sysBefore s_.1 t.sys)) (spFlat s_.2.2), boxR b1 (tc t vr_t vk_t vs_t) 26]) (fun s_ => t.sys.length - s_.1) (0, a, qs) (⟨by omega, by rw [hqs, hei]; rfl⟩) (by exact ⟨rfl, (by (conv => lhs; whnf); rw [hei]; rfl), rfl, trivial⟩) ?_ ?_
      · exact fun w hs => (hs.less (by simp +contextual))
      · intro ⟨s, a2, qs2⟩ base1 ⟨hs1, hq2⟩ next1
        dsimp only at  hs1  hq2  next1 ⊢
        refine go_seq ?_
        refine go_seq ?_
        refine go_region ⟨_, Tryz.func24⟩ rfl ?_
        refine q0 rfl (o_move ?_)
        refine q0 rfl (o_fa ?_)
        refine q0 rfl (o_ld ?_)
        refine q0 rfl (o_len ?_)
        refine q0 rfl (o_lss ?_)
        refine rg_nil ?_
        refine go_condI (fun h38 => ?_) (fun h38 => ?_)
        · have c38 : (decide ((s : Int) < ((t).sys.length : Int))) = true := h38
          try simp only [sC, bne_iff_ne, beq_iff_eq, ne_eq] at c38
          have hp1 := sys_le (t := t) (s := s + 1) (by omega)
          rw [sysBefore_succ s t.sys (by omega)] at hp1
          refine go_skip ?_
          refine go_seq ?_
          refine go_block ?_
          refine go_seq ?_
          refine go_region ⟨_, Tryz.func24⟩ rfl ?_
          refine q0 rfl (o_assign ?_)
          refine rg_nil ?_
          refine go_block ?_
          refine go_loopE (X := Nat × SH × List QP) (fun s_ => s_.1 ≤ (t.sys.getD s br0).kids.length ∧ s_.2.2.map qer = (parts t).take (t.kids.length + sysBefore s t.sys + s_.1)) (fun s_ => [(1, .pointer (some ⟨b1, 0, none⟩)), (3, sl s_.2.1 ((t.kids.length + sysBefore s t.sys + s_.1))), (7, .int .i64 ((s : Int))), (8, .int .i64 ((s_.1 : Int)))]) (fun s_ G_ => AllF qE s_.2.2 :: G_) (fun s_ => [rowS 8 47 s_.2.1 ((t.kids.length + sysBefore s t.sys + s_.1)) (spFlat s_.2.2), boxR b1 (tc t vr_t vk_t vs_t) 26]) (fun s_ => (t.sys.getD s br0).kids.length - s_.1) (0, a2, qs2) (⟨by omega, hq2⟩) (by exact ⟨rfl, rfl, rfl, rfl, trivial⟩) ?_ ?_
          · exact fun w hs => (hs.less (by simp +contextual))
          · intro ⟨k, a3, qs3⟩ base2 ⟨hk1, hq3⟩ next2
            dsimp only at  hk1  hq3  next2 ⊢
            refine go_seq ?_
            refine go_seq ?_
            refine go_branch (bs := (t).sys) (a := vs_t) (VF := VF4) (VK := VK4) s (by omega) ?_
            refine go_openCL (l := (((t).sys).getD s br0).face) (a := VF4 s) (fun hl6 hA6 hU6 => ?_)
            refine go_openTL (ts := (((t).sys).getD s br0).kids) (a := VK4 s) (fun VR7 VK7 VS7 hl7 hA7 => ?_)
            refine go_region ⟨_, Tryz.func24⟩ rfl ?_
            refine q0 rfl (o_move ?_)
            refine q0 rfl (o_fa ?_)
            refine q0 rfl (o_ld ?_)
            refine q0 rfl (o_move ?_)
            obtain ⟨bk8, o8, hav8⟩ := hA4 (by omega)
            refine q0 rfl (o_ixN ?_ (j := s))
            refine q0 rfl (o_fa ?_)
            refine q0 rfl (o_ldBf ?_)
            refine q0 rfl (o_len ?_)
            refine q0 rfl (o_lss ?_)
            refine rg_nil ?_
            refine go_condI (fun h49 => ?_) (fun h49 => ?_)
            · have c49 : (decide ((k : Int) < ((((t).sys).getD s br0).kids.length : Int))) = true := h49
              try simp only [sC, bne_iff_ne, beq_iff_eq, ne_eq] at c49
              refine go_skip ?_
              refine go_seq ?_
              refine go_block ?_
              refine go_kid (ts := (((t).sys).getD s br0).kids) (a := VK4 s) (VR := VR7) (VK := VK7) (VS := VS7) k (by omega) ?_
              refine go_draw (tn := false) (A := [0, 0, 2, 0, 14, 30, 62, 0, 254, 510, 0, 1024, 3072, 8190, 16382, 32767, 65535]) (l := [0, 1, 2, 3, 4, 5, 6, 7, 8, 9, 10, 11, 12, 13, 14]) (fin := [15, 16]) Tab.mixed ⟨_, Tryz.func24⟩ (by rfl) ?_
              refine n0 rfl (v_move ?_)
              refine n0 rfl (v_fa ?_)
              refine n0 rfl (v_ld ?_)
              refine n0 rfl (v_move ?_)
              refine n0 rfl (v_ixN ?_ (j := s))
              refine n0 rfl (v_fa ?_)
              refine n0 rfl (v_ldBf ?_)
              refine n0 rfl (v_move ?_)
              obtain ⟨bk9, o9, hav9⟩ := hA7 (by omega)
              refine n0 rfl (v_ixN ?_ (j := k))
              refine n0 rfl (v_ldT ?_)
              refine n0 rfl (v_fa ?_)
              refine n0 rfl (v_ld ?_)
              refine n0 rfl (v_call Tryz.call51 (rmore_spec ((t).kind) ) (fun x64 => ?_))
              refine n0 rfl (v_build (cs := [.int .i64 ((((((t).sys).getD s br0).kids).getD k t0).kind), .int .i64 ((((((t).sys).getD s br0).kids).getD k t0).n), .string ((((((t).sys).getD s br0).kids).getD k t0).name), sl (VR7 k) ((((((t).sys).getD s br0).kids).getD k t0).r.length), sl (VK7 k) ((((((t).sys).getD s br0).kids).getD k t0).kids.length), sl (VS7 k) ((((((t).sys).getD s br0).kids).getD k t0).sys.length), .int .i64 (0), .int .i64 (more ((t).kind))]) ?_ (hb := fill_spot02 (by rfl) (by rfl)))
              refine n0 rfl (v_lit1 fun b66 => ?_)
              refine NV.done ?_
              refine q0 rfl (o_appS (fun a67 => ?_) (a := a3) (n' := (t.kids.length + sysBefore s t.sys + k)))
              refine rg_state (fun w hs => ((hs.perm perm1).drop).snocQ (q := ((((((t).sys).getD s br0).kids).getD k t0, VR7 k, VK7 k, VS7 k), 0, more ((t).kind))) rfl) ?_
              refine q0 rfl (o_assign ?_)
              refine rg_nil ?_
              refine go_inBlock ?_
              refine go_region ⟨_, Tryz.func24⟩ rfl ?_
              refine q0 rfl (o_move ?_)
              refine q0 rfl (o_add ?_)
              refine q0 rfl (o_assign ?_)
              refine rg_nil ?_
              refine go_state (fun w hs => ?_) (next2 (k + 1, a67, (qs3 ++ [((((((t).sys).getD s br0).kids).getD k t0, VR7 k, VK7 k, VS7 k), 0, more ((t).kind))])) _ (⟨by omega, by rw [List.map_append, hq3, ← Nat.add_assoc, take_snoc (parts_sys t s k (by omega) (by omega))]; rfl⟩) (by (try simp only); omega) ⟨rfl, rfl, rfl, rfl, trivial⟩)
              exact ((((hs.allAdd (E := qE) (l := qs3) (x := ((((((t).sys).getD s br0).kids).getD k t0, VR7 k, VK7 k, VS7 k), 0, more ((t).kind))) mf_ mf_).less (by simp +contextual)).perm perm1).perm perm1)
            · have c49 : (decide ((k : Int) < ((((t).sys).getD s br0).kids.length : Int))) = false := h49
              try simp only [sC, bne_iff_ne, beq_iff_eq, ne_eq] at c49
              have hek : k = (t.sys.getD s br0).kids.length := by omega
              refine go_ms (Ms' := [rowS 8 47 a3 ((t.kids.length + sysBefore s t.sys + (t.sys.getD s br0).kids.length)) (spFlat qs3), boxR b1 (tc t vr_t vk_t vs_t) 26]) (by rw [hek]) ?_
              refine go_exit rfl ?_
              refine go_inBlock ?_
              refine go_region ⟨_, Tryz.func24⟩ rfl ?_
              refine q0 rfl (o_move ?_)
              refine q0 rfl (o_add ?_)
              refine q0 rfl (o_assign ?_)
              refine rg_nil ?_
              refine go_state (fun w hs => ?_) (next1 (s + 1, a3, qs3) _ (⟨by omega, by rw [hq3, hek, sysBefore_succ s t.sys (by omega), Nat.add_assoc]⟩) (by (try simp only); omega) ⟨rfl, (by (conv => lhs; whnf); rw [hek, Nat.add_assoc, ← sysBefore_succ s t.sys (by omega)]; rfl), rfl, trivial⟩)
              have e9 : t.kids.length + sysBefore s t.sys + (t.sys.getD s br0).kids.length = t.kids.length + sysBefore (s + 1) t.sys := by rw [Nat.add_assoc, ← sysBefore_succ s t.sys (by omega)]
              rw [← e9]; exact (((hs.less (by simp +contextual)).perm perm1).perm perm1)
        · have c38 : (decide ((s : Int) < ((t).sys.length : Int))) = false := h38
          try simp only [sC, bne_iff_ne, beq_iff_eq, ne_eq] at c38
          refine go_exit rfl ?_
          refine go_seq ?_
          refine go_region ⟨_, Tryz.func24⟩ rfl ?_
          refine q0 rfl (o_move ?_)
          refine q0 rfl (o_assign ?_)
          refine rg_nil ?_
          have hes : s = t.sys.length := by omega
          have hnn : t.kids.length + sysBefore s t.sys = (parts t).length := by rw [parts_length, hes]
          have hfull : qs2.map qer = parts t := by rw [hq2, hnn, List.take_length]
          have hln : t.kids.length + sysBefore s t.sys = qs2.length := by rw [hnn, ← hfull, List.length_map]
          rw [hln]
          refine ret1 Tryz.func24 Tryz.results24 wn_ ⟨(a2, qs2), hfull⟩ rfl (fun w hs => ((((hs.perm perm1).perm perm1).settleRow (F := spCells) (E := qE) (d := qp0) (bt := 120) (l := qs2) (fun _ => rfl) hB mf_ rfl rfl (by rw [← hln, hnn]; unfold reach; omega)).bare.less (by simp)))
end Go.Hy
namespace Go.Hy
set_option linter.unusedVariables false
set_option linter.unusedSimpArgs false
set_option linter.unusedSectionVars false
open Go.Proofs
set_option linter.unusedVariables false
set_option linter.unusedSimpArgs false
set_option maxRecDepth 100000
abbrev RgetO (p : List Int) : Prop := ∀ (a_p : SH) (t : T) (vr vk vs : SH), size t ≤ 1000000000 → Spec Tryz.prog 21 #[.agg (tc t vr vk vs).toArray, sl a_p p.length] [RT t vr vk vs, IL p a_p] [] (fun x : SH × SH × SH => .tuple #[.agg ([.int .i64 (((getRes t p).2.1).kind), .int .i64 (((getRes t p).2.1).n), .string (((getRes t p).2.1).name), sl x.1 (((getRes t p).2.1).r.length), sl x.2.1 (((getRes t p).2.1).kids.length), sl x.2.2 (((getRes t p).2.1).sys.length), .int .i64 ((getRes t p).2.2.1), .int .i64 ((getRes t p).2.2.2)] : List Value).toArray, .int .i64 (getRes t p).1]) (fun x => [RT (getRes t p).2.1 x.1 x.2.1 x.2.2]) (fun _ => [])
set_option maxHeartbeats 4000000 in
theorem rget30_walk (t : T) (vr_t vk_t vs_t : SH) (p : List Int) (a_p : SH) (ih : 0 < p.length → RgetO (p.drop 1)) (hz : size t ≤ 1000000000) : Spec Tryz.prog 21 #[.agg (tc t vr_t vk_t vs_t).toArray, sl a_p (p.length)] [RT t vr_t vk_t vs_t, IL p a_p] [] (fun x : SH × SH × SH => .tuple #[.agg ([.int .i64 (((getRes t p).2.1).kind), .int .i64 (((getRes t p).2.1).n), .string (((getRes t p).2.1).name), sl x.1 (((getRes t p).2.1).r.length), sl x.2.1 (((getRes t p).2.1).kids.length), sl x.2.2 (((getRes t p).2.1).sys.length), .int .i64 ((getRes t p).2.2.1), .int .i64 ((getRes t p).2.2.2)] : List Value).toArray, .int .i64 (getRes t p).1]) (fun x : SH × SH × SH => [RT (getRes t p).2.1 x.1 x.2.1 x.2.2]) (fun x : SH × SH × SH => []) := by
  refine spec_go (args := [.agg (tc t vr_t vk_t vs_t).toArray, sl a_p (p.length)]) Tryz.func21 Tryz.ntmps21 rfl (by exact Nat.le_of_ble_eq_true rfl) fun B hB => ?_
  refine go_open (t := t) (vr := vr_t) (vk := vk_t) (vs := vs_t) (fun hk1 hn1 hm1 => ?_)
  refine go_openCL (l := (t).r) (a := vr_t) (fun hl2 hA2 hU2 => ?_)
  refine go_openTL (ts := (t).kids) (a := vk_t) (fun VR3 VK3 VS3 hl3 hA3 => ?_)
  refine go_openBL (bs := (t).sys) (a := vs_t) (fun VF4 VK4 hl4 hA4 => ?_)
  refine go_openIL (l := p) (a := a_p) (fun hl5 hA5 hU5 => ?_)
  have hdt := depth_le_size t
  refine go_seq ?_
  refine go_region ⟨_, Tryz.func21⟩ rfl ?_
  refine q0 rfl (o_box fun b2 => ?_)
  refine q0 rfl (o_new fun b4 => ?_)
  refine q0 rfl (o_assign ?_)
  refine rg_nil ?_
  refine go_seq ?_
  refine go_region ⟨_, Tryz.func21⟩ rfl ?_
  refine q0 rfl (o_lds ?_)
  refine q0 rfl (o_call Tryz.call8 (rformed_spec t vr_t vk_t vs_t om_) (fun x10 => ?_))
  refine q0 rfl (o_assign ?_)
  refine rg_nil ?_
  refine go_seq ?_
  refine go_seq ?_
  refine go_region ⟨_, Tryz.func21⟩ rfl ?_
  refine q0 rfl (o_move ?_)
  refine q0 rfl (o_neI ?_)
  refine rg_nil ?_
  refine go_condI (fun h12 => ?_) (fun h12 => ?_)
  · have c12 : (decide ((formedP t) ≠ 0)) = true := h12
    try simp only [sC, bne_iff_ne, beq_iff_eq, ne_eq] at c12
    have hgr : getRes t p = (formedP t, (t0, 0, 0)) := getRes_bad (by simpa using h12)
    refine go_seq ?_
    refine go_region ⟨_, Tryz.func21⟩ rfl ?_
    refine q0 rfl (o_build (cs := [.int .i64 (0), .int .i64 (0), .string ((ByteArray.mk #[])), sl (none, 0) (0), sl (none, 0) (0), sl (none, 0) (0), .int .i64 (0), .int .i64 (0)]) ?_)
    refine q0 rfl (o_move ?_)
    refine q0 rfl (o_st ?_)
    refine q0 rfl (o_assign ?_)
    refine rg_nil ?_
    refine retCT Tryz.func21 Tryz.results21 ((none, 0), (none, 0), (none, 0)) rfl mf_ rfl rfl rfl rfl (by rw [hgr]; rfl) (fun w hs => by rw [hgr]; exact hs.bare.zeroRT.less (by simp))
  · have c12 : (decide ((formedP t) ≠ 0)) = false := h12
    try simp only [sC, bne_iff_ne, beq_iff_eq, ne_eq] at c12
    have hf0 : formedP t = 0 := by simpa using h12
    refine go_skip ?_
    refine go_seq ?_
    refine go_seq ?_
    refine go_region ⟨_, Tryz.func21⟩ rfl ?_
    refine q0 rfl (o_move ?_)
    refine q0 rfl (o_len ?_)
    refine q0 rfl (o_eqI ?_)
    refine rg_nil ?_
    refine go_condI (fun h17 => ?_) (fun h17 => ?_)
    · have c17 : (decide ((p.length : Int) = 0)) = true := h17
      try simp only [sC, bne_iff_ne, beq_iff_eq, ne_eq] at c17
      have hgr : getRes t p = (0, (t, 0, 0)) := getRes_nil hf0 (by omega)
      refine go_seq ?_
      refine go_region ⟨_, Tryz.func21⟩ rfl ?_
      refine q0 rfl (o_lds ?_)
      refine q0 rfl (o_build (cs := [.int .i64 ((t).kind), .int .i64 ((t).n), .string ((t).name), sl vr_t ((t).r.length), sl vk_t ((t).kids.length), sl vs_t ((t).sys.length), .int .i64 (0), .int .i64 (0)]) ?_ (hb := fill_spot0 (by rfl) (by rfl)))
      refine q0 rfl (o_st ?_)
      refine q0 rfl (o_assign ?_)
      refine rg_nil ?_
      refine retCT Tryz.func21 Tryz.results21 (vr_t, vk_t, vs_t) rfl mf_ rfl rfl rfl rfl (by rw [hgr]; rfl) (fun w hs => by rw [hgr]; exact hs.bare.less (by simp))
    · have c17 : (decide ((p.length : Int) = 0)) = false := h17
      try simp only [sC, bne_iff_ne, beq_iff_eq, ne_eq] at c17
      have hpp : 0 < p.length := by omega
      refine go_skip ?_
      refine go_seq ?_
      refine go_region ⟨_, Tryz.func21⟩ rfl ?_
      refine q0 rfl (o_lds ?_)
      refine q0 rfl (o_call Tryz.call24 (rkids30_walk t vr_t vk_t vs_t om_) (fun x21 => ?_))
      refine q0 rfl (o_assign ?_)
      refine rg_nil ?_
      have hxl := congrArg List.length x21.2
      rw [List.length_map] at hxl
      refine go_seq ?_
      refine go_seq ?_
      refine go_cutS ([(1, sl a_p (p.length)), (4, .pointer (some ⟨b4, 0, none⟩)), (7, sl x21.1.1 ((x21.1.2).length)), (33, .bool ((decide ((p.getD 0 0) < 0)) || (decide (((x21.1.2).length : Int) ≤ (p.getD 0 0)))))]) (fun hK => ?_) (fun base => ?_)
      · refine go_region ⟨_, Tryz.func21⟩ rfl ?_
        refine q0 rfl (o_move ?_)
        obtain ⟨bk6, o6, hav6⟩ := hA5 (by (first | omega | assumption))
        refine q0 rfl (o_ixN ?_ (j := 0))
        refine q0 rfl (o_ldI ?_)
        refine q0 rfl (o_lss ?_)
        refine q0 rfl (o_move ?_)
        refine qI rfl rfl rfl wl_ (fun hg26 => ?_) (fun hg26 => ?_)
        · have g26 : (decide ((p.getD 0 0) < 0)) = false := hg26
          try simp only [sC, bne_iff_ne, beq_iff_eq, ne_eq] at g26
          refine o_move ?_
          refine qT rfl rfl rfl (o_ixN ?_ (j := 0))
          refine qT rfl rfl rfl (o_ldI ?_)
          refine qT rfl rfl rfl (o_move ?_)
          refine qT rfl rfl rfl (o_len ?_)
          refine qT rfl rfl rfl (o_geq ?_)
          refine q0 rfl (o_pickF ?_)
          refine rg_nil ?_
          exact hK _ ⟨rfl, rfl, rfl, dn_, trivial⟩
        · have g26 : (decide ((p.getD 0 0) < 0)) = true := hg26
          try simp only [sC, bne_iff_ne, beq_iff_eq, ne_eq] at g26
          refine qF rfl rfl rfl ?_
          refine qF rfl rfl rfl ?_
          refine qF rfl rfl rfl ?_
          refine qF rfl rfl rfl ?_
          refine qF rfl rfl rfl ?_
          refine q0 rfl (o_pickT ?_)
          refine rg_nil ?_
          exact hK _ ⟨rfl, rfl, rfl, dn_, trivial⟩
      · refine go_condI (fun h33 => ?_) (fun h33 => ?_)
        · have c33 : ((decide ((p.getD 0 0) < 0)) || (decide (((x21.1.2).length : Int) ≤ (p.getD 0 0)))) = true := h33
          try simp only [sC, bne_iff_ne, beq_iff_eq, ne_eq] at c33
          have hgr : getRes t p = (90, (t0, 0, 0)) := getRes_miss hf0 hpp (by rcases c33 with h | h <;> omega)
          refine go_seq ?_
          refine go_region ⟨_, Tryz.func21⟩ rfl ?_
          refine q0 rfl (o_build (cs := [.int .i64 (0), .int .i64 (0), .string ((ByteArray.mk #[])), sl (none, 0) (0), sl (none, 0) (0), sl (none, 0) (0), .int .i64 (0), .int .i64 (0)]) ?_)
          refine q0 rfl (o_st ?_)
          refine q0 rfl (o_assign ?_)
          refine rg_nil ?_
          refine retCT Tryz.func21 Tryz.results21 ((none, 0), (none, 0), (none, 0)) rfl mf_ rfl rfl rfl rfl (by rw [hgr]; rfl) (fun w hs => by rw [hgr]; exact hs.bare.zeroRT.less (by simp))
        · have c33 : ((decide ((p.getD 0 0) < 0)) || (decide (((x21.1.2).length : Int) ≤ (p.getD 0 0)))) = false := h33
          try simp only [sC, bne_iff_ne, beq_iff_eq, ne_eq] at c33
          obtain ⟨m, hm⟩ : ∃ m : Nat, p.getD 0 0 = (m : Int) := ⟨(p.getD 0 0).toNat, by omega⟩
          have hml : m < x21.1.2.length := by omega
          have hqm := qer_at x21.2 hml
          have h01 := parts_01 (List.mem_of_getElem? hqm)
          have hzl := size_part_lt (List.mem_of_getElem? hqm)
          simp only [qer] at h01 hzl
          have hga : getRes t p = if (getRes ((x21.1.2).getD m qp0).1.1 (p.drop 1)).1 ≠ 0 then ((getRes ((x21.1.2).getD m qp0).1.1 (p.drop 1)).1, t0, 0, 0) else (0, addPt (qer ((x21.1.2).getD m qp0)) (getRes ((x21.1.2).getD m qp0).1.1 (p.drop 1)).2) := getRes_at hf0 hpp hm hqm
          refine go_state (fun w hs => hs.dropIL (l := p) (a := a_p) 1 mf_ (by omega)) ?_
          have hih := ih hpp (dropSH a_p 1 1) ((x21.1.2).getD m qp0).1.1 ((x21.1.2).getD m qp0).1.2.1 ((x21.1.2).getD m qp0).1.2.2.1 ((x21.1.2).getD m qp0).1.2.2.2 (by omega)
          rw [show (p.drop 1).length = p.length - 1 by simp] at hih
          refine go_skip ?_
          refine go_seq ?_
          refine go_openRow (l := x21.1.2) (a := x21.1.1) (bt := 120) (F := spCells) (E := qE) (d := qp0) mm_ (fun hl7 hA7 => ?_)
          refine go_elem (l := x21.1.2) (a := x21.1.1) (bt := 120) (F := spCells) (E := qE) (d := qp0) mm_ m (by (first | omega | assumption)) ?_
          refine go_draw (tn := false) (A := [0, 0, 2, 6, 15, 31, 63, 0, 128, 511, 1023, 2047, 2047, 0, 12287, 32767]) (l := [0, 1, 2, 3, 4, 5, 6, 7, 8, 9, 10, 11, 12, 13, 14, 15]) (fin := []) Tab.mixed ⟨_, Tryz.func21⟩ (by rfl) ?_
          refine n0 rfl (v_move ?_)
          refine n0 rfl (v_move ?_)
          obtain ⟨bk8, o8, hav8⟩ := hA5 (by (first | omega | assumption))
          refine n0 rfl (v_ixN ?_ (j := 0))
          refine n0 rfl (v_ldI ?_ (ls := p) (i' := 0))
          rw [hm]
          obtain ⟨bk9, o9, hav9⟩ := hA7 (by (first | omega | assumption))
          refine n0 rfl (v_ixN ?_ (j := m))
          refine n0 rfl (v_fa ?_)
          refine n0 rfl (f_ldQs ?_ (k := 0))
          refine n0 rfl (v_move ?_)
          refine n0 rfl (v_sliceLo ?_ (k := 1) (a := a_p))
          refine n0 rfl (v_call Tryz.call21 (hih) (fun x45 => ?_))
          refine n0 rfl (v_move ?_)
          refine n0 rfl (v_extract ?_)
          refine n0 rfl (v_extract ?_)
          refine n0 rfl (v_new fun b8 => ?_)
          refine n0 rfl (v_st ?_)
          refine n0 rfl (v_assign ?_)
          refine NV.done ?_
          refine rg_nil ?_
          refine go_seq ?_
          refine go_seq ?_
          refine go_region ⟨_, Tryz.func21⟩ rfl ?_
          refine q0 rfl (o_move ?_)
          refine q0 rfl (o_neI ?_)
          refine rg_nil ?_
          refine go_condI (fun h49 => ?_) (fun h49 => ?_)
          · have c49 : (decide (((getRes ((x21.1.2).getD m qp0).1.1 (p.drop 1)).1) ≠ 0)) = true := h49
            try simp only [sC, bne_iff_ne, beq_iff_eq, ne_eq] at c49
            have hgr : getRes t p = ((getRes ((x21.1.2).getD m qp0).1.1 (p.drop 1)).1, (t0, 0, 0)) := by rw [hga]; exact if_pos (by simpa using h49)
            refine go_seq ?_
            refine go_region ⟨_, Tryz.func21⟩ rfl ?_
            refine q0 rfl (o_build (cs := [.int .i64 (0), .int .i64 (0), .string ((ByteArray.mk #[])), sl (none, 0) (0), sl (none, 0) (0), sl (none, 0) (0), .int .i64 (0), .int .i64 (0)]) ?_)
            refine q0 rfl (o_move ?_)
            refine q0 rfl (o_st ?_)
            refine q0 rfl (o_assign ?_)
            refine rg_nil ?_
            refine retCT Tryz.func21 Tryz.results21 ((none, 0), (none, 0), (none, 0)) rfl mf_ rfl rfl rfl rfl (by rw [hgr]; rfl) (fun w hs => by rw [hgr]; exact hs.bare.zeroRT.less (by simp))
          · have c49 : (decide (((getRes ((x21.1.2).getD m qp0).1.1 (p.drop 1)).1) ≠ 0)) = false := h49
            try simp only [sC, bne_iff_ne, beq_iff_eq, ne_eq] at c49
            have hg0 : (getRes ((x21.1.2).getD m qp0).1.1 (p.drop 1)).1 = 0 := by simpa using h49
            have hgr : getRes t p = (0, addPt (qer ((x21.1.2).getD m qp0)) (getRes ((x21.1.2).getD m qp0).1.1 (p.drop 1)).2) := by rw [hga]; exact if_neg (by simpa using hg0)
            have hgl := getRes_len hg0
            refine go_skip ?_
            refine go_seq ?_
            refine go_draw (tn := false) (A := [0, 1, 0, 4, 0, 0, 32, 96, 240, 496, 1008, 2044, 0, 4096, 0, 0, 32768, 98304, 245760, 507904, 1032192, 2093056, 4194303, 8388607, 16777215]) (l := [0, 1, 2, 3, 4, 5, 6, 7, 8, 9, 10, 11, 12, 13, 14, 15, 16, 17, 18, 19, 20, 21, 22]) (fin := [23, 24]) Tab.mixed ⟨_, Tryz.func21⟩ (by decide +kernel) ?_
            refine n0 rfl (v_fa ?_)
            refine n0 rfl (v_lds ?_)
            refine n0 rfl (v_fa ?_)
            refine n0 rfl (v_ld ?_)
            refine n0 rfl (v_move ?_)
            refine n0 rfl (v_move ?_)
            refine n0 rfl (v_ixN ?_ (j := 0))
            refine n0 rfl (v_ldI ?_ (ls := p) (i' := 0))
            rw [hm]
            refine n0 rfl (v_ixN ?_ (j := m))
            refine n0 rfl (v_fa ?_)
            refine n0 rfl (f_ldQf ?_)
            refine n0 rfl (v_add ?_)
            refine n0 rfl (v_fa ?_)
            refine n0 rfl (v_ld ?_)
            refine n0 rfl (v_move ?_)
            refine n0 rfl (v_move ?_)
            refine n0 rfl (v_ixN ?_ (j := 0))
            refine n0 rfl (v_ldI ?_ (ls := p) (i' := 0))
            rw [hm]
            refine n0 rfl (v_ixN ?_ (j := m))
            refine n0 rfl (v_fa ?_)
            refine n0 rfl (f_ldQf ?_)
            refine n0 rfl (v_add ?_)
            refine n0 rfl (v_build (cs := [.int .i64 (((getRes ((x21.1.2).getD m qp0).1.1 (p.drop 1)).2.1).kind), .int .i64 (((getRes ((x21.1.2).getD m qp0).1.1 (p.drop 1)).2.1).n), .string (((getRes ((x21.1.2).getD m qp0).1.1 (p.drop 1)).2.1).name), sl x45.1 (((getRes ((x21.1.2).getD m qp0).1.1 (p.drop 1)).2.1).r.length), sl x45.2.1 (((getRes ((x21.1.2).getD m qp0).1.1 (p.drop 1)).2.1).kids.length), sl x45.2.2 (((getRes ((x21.1.2).getD m qp0).1.1 (p.drop 1)).2.1).sys.length), .int .i64 (((getRes ((x21.1.2).getD m qp0).1.1 (p.drop 1)).2.2.1) + (((x21.1.2).getD m qp0).2.1)), .int .i64 (((getRes ((x21.1.2).getD m qp0).1.1 (p.drop 1)).2.2.2) + (((x21.1.2).getD m qp0).2.2))]) ?_ (hb := fill_spot012 (by rfl) (by rfl)))
            refine NV.done ?_
            refine q0 rfl (o_st ?_)
            refine q0 rfl (o_assign ?_)
            refine rg_nil ?_
            refine retCT Tryz.func21 Tryz.results21 (x45.1, x45.2.1, x45.2.2) rfl mf_ rfl rfl rfl rfl (by rw [hgr]; rfl) (fun w hs => by rw [hgr]; exact hs.bare.less (by simp [addPt]))
theorem rgetO : ∀ p : List Int, RgetO p := list_len_ind fun p ih a_p t vr vk vs hz => rget30_walk t vr vk vs p a_p ih hz
end Go.Hy
namespace Go.Hy
set_option linter.unusedVariables false
set_option linter.unusedSimpArgs false
set_option linter.unusedSectionVars false
open Go.Proofs
set_option linter.unusedVariables false
set_option linter.unusedSimpArgs false
set_option maxRecDepth 100000
theorem pathKidsO (t : T) (vr_t vk_t vs_t : SH) (hz : size t ≤ 1000000000) : Spec Tryz.prog 23 #[.agg (tc t vr_t vk_t vs_t).toArray] [RT t vr_t vk_t vs_t] [] (fun x : {x : SH × List HQ // x.2.map hqe = parts t} => sl x.1.1 x.1.2.length) (fun x : {x : SH × List HQ // x.2.map hqe = parts t} => []) (fun x : {x : SH × List HQ // x.2.map hqe = parts t} => [rowS 8 44 x.1.1 x.1.2.length (spFlat (x.1.2.map hq)), bigR (kidsR tys (x.1.2.map (·.1)))]) := by
  refine spec_go (args := [.agg (tc t vr_t vk_t vs_t).toArray]) Tryz.func23 Tryz.ntmps23 rfl (by exact Nat.le_of_ble_eq_true rfl) fun B hB => ?_
  refine go_open (t := t) (vr := vr_t) (vk := vk_t) (vs := vs_t) (fun hk1 hn1 hm1 => ?_)
  refine go_openCL (l := (t).r) (a := vr_t) (fun hl2 hA2 hU2 => ?_)
  refine go_openTL (ts := (t).kids) (a := vk_t) (fun VR3 VK3 VS3 hl3 hA3 => ?_)
  refine go_openBL (bs := (t).sys) (a := vs_t) (fun VF4 VK4 hl4 hA4 => ?_)
  have hpn := parts_len t
  refine go_seq ?_
  refine go_region ⟨_, Tryz.func23⟩ rfl ?_
  refine q0 rfl (o_box fun b1 => ?_)
  refine q0 rfl (o_assign ?_)
  refine rg_nil ?_
  refine go_seq ?_
  refine go_region ⟨_, Tryz.func23⟩ rfl ?_
  refine q0 rfl (o_lds ?_)
  refine q0 rfl (o_call Tryz.call50 (parts_walk t vr_t vk_t vs_t om_) (fun x6 => ?_))
  refine q0 rfl (o_assign ?_)
  refine rg_nil ?_
  have hxl := congrArg List.length x6.2
  rw [List.length_map] at hxl
  refine go_seq ?_
  refine go_seq ?_
  refine go_region ⟨_, Tryz.func23⟩ rfl ?_
  refine q0 rfl (o_move ?_)
  refine q0 rfl (o_len ?_)
  refine q0 rfl (o_move ?_)
  refine rg_nil ?_
  refine go_block ?_
  refine go_loopE (X := Nat × List QP × List HQ) (fun s_ => s_.1 ≤ x6.1.2.length ∧ s_.2.2.length = s_.1 ∧ s_.2.1 = s_.2.2.map hq ++ x6.1.2.drop s_.1 ∧ s_.2.2.map hqe = (parts t).take s_.1) (fun s_ => [(3, sl x6.1.1 (x6.1.2.length)), (8, .int .i64 ((x6.1.2.length : Int))), (9, .int .i64 ((s_.1 : Int)))]) (fun s_ G_ => AllF qE x6.1.2 :: G_) (fun s_ => [bigR (kidsR tys (s_.2.2.map (·.1))), rowS 8 44 x6.1.1 (x6.1.2.length) (spFlat s_.2.1), boxR b1 (tc t vr_t vk_t vs_t) 26]) (fun s_ => x6.1.2.length - s_.1) (0, x6.1.2, []) (⟨by omega, rfl, rfl, rfl⟩) (by exact ⟨rfl, rfl, rfl, trivial⟩) ?_ ?_
  · exact fun w hs => ((hs.bigNil).less (by simp +contextual))
  · intro ⟨i, ls, hs⟩ base0 ⟨hi, hhl, hls, hhs⟩ next0
    dsimp only at  hi  hhl  hls  hhs  next0 ⊢
    refine go_seq ?_
    refine go_region ⟨_, Tryz.func23⟩ rfl ?_
    refine q0 rfl (o_lss ?_)
    refine rg_nil ?_
    refine go_seq ?_
    refine go_condI (fun h10 => ?_) (fun h10 => ?_)
    · have c10 : (decide ((i : Int) < (x6.1.2.length : Int))) = true := h10
      try simp only [sC, bne_iff_ne, beq_iff_eq, ne_eq] at c10
      have hlo : ls.getD i qp0 = x6.1.2.getD i qp0 := by rw [hls, hq_old hhl]
      have hll : ls.length = x6.1.2.length := by rw [hls, List.length_append, List.length_map, List.length_drop, hhl]; omega
      refine go_skip ?_
      refine go_seq ?_
      refine go_block ?_
      refine go_seq ?_
      refine go_region ⟨_, Tryz.func23⟩ rfl ?_
      refine q0 rfl (o_move ?_)
      refine q0 rfl (o_assign ?_)
      refine rg_nil ?_
      refine go_state (fun w hs => hs.allElem (E := qE) (l := x6.1.2) (x := x6.1.2.getD i qp0) mf_ (getD_mem (by omega))) ?_
      refine go_know (fun w hs => hs.rowAddr (sz := 8) (e := 44) (a := x6.1.1) (n := x6.1.2.length) (xs := spFlat ls) mm_ (by omega)) (fun hav5 => ?_)
      obtain ⟨bk5, hav5⟩ := hav5
      refine go_region ⟨_, Tryz.func23⟩ rfl ?_
      refine q0 rfl (o_move ?_)
      refine q0 rfl (o_move ?_)
      refine q0 rfl (o_move ?_)
      refine q0 rfl (o_move ?_)
      refine q0 rfl (o_ixN ?_ (j := i))
      refine q0 rfl (o_fa ?_)
      refine q0 rfl (o_ldRQs ?_ (k := 0) (ls := ls) (cs := tc (x6.1.2.getD i qp0).1.1 (x6.1.2.getD i qp0).1.2.1 (x6.1.2.getD i qp0).1.2.2.1 (x6.1.2.getD i qp0).1.2.2.2) (hk := by rw [hlo]; rfl))
      refine q0 rfl (o_call Tryz.call36 (copyO ((x6.1.2.getD i qp0).1.1) ((x6.1.2.getD i qp0).1.2.1) ((x6.1.2.getD i qp0).1.2.2.1) ((x6.1.2.getD i qp0).1.2.2.2)) (fun x19 => ?_))
      refine q0 rfl (o_ixN ?_ (j := i))
      refine q0 rfl (o_fa ?_)
      refine q0 rfl (o_srpQ (hq (x19.1, (x6.1.2.getD i qp0).2.1, (x6.1.2.getD i qp0).2.2)) ?_ (ls := ls) (i' := i) (k := 0) (vs := tc (x6.1.2.getD i qp0).1.1 x19.1.vr x19.1.vk x19.1.vs) (hu := by rw [hlo]; simp only [hq, HT.tp, spCells, tpCells, x19.2]; rfl))
      refine rg_nil ?_
      refine go_inBlock ?_
      refine go_region ⟨_, Tryz.func23⟩ rfl ?_
      refine q0 rfl (o_add ?_)
      refine q0 rfl (o_move ?_)
      refine rg_nil ?_
      refine go_state (fun w hs => ?_) (next0 (i + 1, ls.set i (hq (x19.1, (x6.1.2.getD i qp0).2.1, (x6.1.2.getD i qp0).2.2)), hs ++ [(x19.1, (x6.1.2.getD i qp0).2.1, (x6.1.2.getD i qp0).2.2)]) _ (⟨by omega, by simp [hhl], by rw [hls]; exact hq_step hhl (by omega), by rw [List.map_append, hhs, take_snoc (qer_at x6.2 (by omega))]; simp only [List.map_cons, List.map_nil, hqe, x19.2]; rfl⟩) (by (try simp only); omega) ⟨rfl, rfl, rfl, trivial⟩)
      simp only [List.map_append, List.map_cons, List.map_nil]
      exact (((((((((hs.less (by simp +contextual)).perm perm3).perm perm1).perm perm3).perm perm3).joinK).perm perm2).perm perm2).perm perm2)
    · have c10 : (decide ((i : Int) < (x6.1.2.length : Int))) = false := h10
      try simp only [sC, bne_iff_ne, beq_iff_eq, ne_eq] at c10
      refine go_exit rfl ?_
      refine go_seq ?_
      refine go_region ⟨_, Tryz.func23⟩ rfl ?_
      refine q0 rfl (o_move ?_)
      refine q0 rfl (o_assign ?_)
      refine rg_nil ?_
      have hie : i = x6.1.2.length := by omega
      have hfull : hs.map hqe = parts t := by rw [hhs, hie, hxl, List.take_length]
      have hln : x6.1.2.length = hs.length := by rw [hhl, hie]
      have hlse : ls = hs.map hq := by rw [hls, hie, List.drop_length, List.append_nil]
      refine ret1 Tryz.func23 Tryz.results23 wn_ ⟨(x6.1.1, hs), hfull⟩ (by (conv => lhs; whnf); rw [hln]; rfl) (fun w hs' => by have h := (((hs'.less (Γ' := []) (by simp)).perm perm1).dropR (A := [_, _])); rw [hln, hlse] at h; exact h)
theorem spots_spec (t : T) (vr vk vs : SH) (v d : Int) (u : T) (ur uk us : SH) (v2 d2 : Int)  : Spec Tryz.prog 22 #[.agg ([.int .i64 ((t).kind), .int .i64 ((t).n), .string ((t).name), sl vr ((t).r.length), sl vk ((t).kids.length), sl vs ((t).sys.length), .int .i64 (v), .int .i64 (d)] : List Value).toArray, .agg ([.int .i64 ((u).kind), .int .i64 ((u).n), .string ((u).name), sl ur ((u).r.length), sl uk ((u).kids.length), sl us ((u).sys.length), .int .i64 (v2), .int .i64 (d2)] : List Value).toArray] [RT t vr vk vs, RT u ur uk us] [] (fun _ : Unit => .bool ((decide (t = u) && decide (v = v2)) && decide (d = d2))) (fun _ : Unit => []) (fun _ : Unit => []) := by
  refine spec_go (args := [.agg ([.int .i64 ((t).kind), .int .i64 ((t).n), .string ((t).name), sl vr ((t).r.length), sl vk ((t).kids.length), sl vs ((t).sys.length), .int .i64 (v), .int .i64 (d)] : List Value).toArray, .agg ([.int .i64 ((u).kind), .int .i64 ((u).n), .string ((u).name), sl ur ((u).r.length), sl uk ((u).kids.length), sl us ((u).sys.length), .int .i64 (v2), .int .i64 (d2)] : List Value).toArray]) Tryz.func22 Tryz.ntmps22 rfl (by exact Nat.le_of_ble_eq_true rfl) fun B hB => ?_
  refine go_seq ?_
  refine go_region ⟨_, Tryz.func22⟩ rfl ?_
  refine q0 rfl (o_box fun b2 => ?_)
  refine q0 rfl (o_box fun b3 => ?_)
  refine q0 rfl (o_assign ?_)
  refine rg_nil ?_
  refine go_seq ?_
  refine go_cutS ([(4, .bool (((decide (t = u)) && (decide (v = v2))) && (decide (d = d2))))]) (fun hK => ?_) (fun base => ?_)
  · refine go_region ⟨_, Tryz.func22⟩ rfl ?_
    refine q0 rfl (o_fa ?_)
    refine q0 rfl (o_lds ?_)
    refine q0 rfl (o_fa ?_)
    refine q0 rfl (o_lds ?_)
    refine q0 rfl (o_call Tryz.call19 (rsame t u vr vk vs ur uk us) (fun x9 => ?_))
    refine q0 rfl (o_move ?_)
    refine qI rfl rfl rfl wl_ (fun hg10 => ?_) (fun hg10 => ?_)
    · have g10 : ((decide (t = u))) = true := hg10
      try simp only [sC, bne_iff_ne, beq_iff_eq, ne_eq] at g10
      refine o_fa ?_
      refine qT rfl rfl rfl (o_ld ?_)
      refine qT rfl rfl rfl (o_fa ?_)
      refine qT rfl rfl rfl (o_ld ?_)
      refine qT rfl rfl rfl (o_eqI ?_)
      refine q0 rfl (o_pickT ?_)
      refine q0 rfl (o_move ?_)
      refine qI rfl rfl rfl wl_ (fun hg17 => ?_) (fun hg17 => ?_)
      · have g17 : (decide (v = v2)) = true := hg17
        try simp only [sC, bne_iff_ne, beq_iff_eq, ne_eq] at g17
        refine o_fa ?_
        refine qT rfl rfl rfl (o_ld ?_)
        refine qT rfl rfl rfl (o_fa ?_)
        refine qT rfl rfl rfl (o_ld ?_)
        refine qT rfl rfl rfl (o_eqI ?_)
        refine q0 rfl (o_pickT ?_)
        refine q0 rfl (o_assign ?_)
        refine rg_nil ?_
        exact hK _ ⟨dn_, trivial⟩
      · have g17 : (decide (v = v2)) = false := hg17
        try simp only [sC, bne_iff_ne, beq_iff_eq, ne_eq] at g17
        refine qF rfl rfl rfl ?_
        refine qF rfl rfl rfl ?_
        refine qF rfl rfl rfl ?_
        refine qF rfl rfl rfl ?_
        refine q0 rfl (o_pickF ?_)
        refine q0 rfl (o_assign ?_)
        refine rg_nil ?_
        exact hK _ ⟨dn_, trivial⟩
    · have g10 : ((decide (t = u))) = false := hg10
      try simp only [sC, bne_iff_ne, beq_iff_eq, ne_eq] at g10
      refine qF rfl rfl rfl ?_
      refine qF rfl rfl rfl ?_
      refine qF rfl rfl rfl ?_
      refine qF rfl rfl rfl ?_
      refine q0 rfl (o_pickF ?_)
      refine q0 rfl (o_move ?_)
      refine qF rfl rfl rfl ?_
      refine qF rfl rfl rfl ?_
      refine qF rfl rfl rfl ?_
      refine qF rfl rfl rfl ?_
      refine qF rfl rfl rfl ?_
      refine q0 rfl (o_pickF ?_)
      refine q0 rfl (o_assign ?_)
      refine rg_nil ?_
      exact hK _ ⟨dn_, trivial⟩
  · refine ret1 Tryz.func22 Tryz.results22 wn_ () (by first | rfl | (simp_all; done) | (simp_all; omega)) (fun w hs => hs.none)
theorem spotsI (t : T) (vr vk vs : SH) (v d : Int) (u : T) (ur uk us : SH) (v2 d2 : Int) (h1 : t = u) (h2 : v = v2) (h3 : d = d2) : Spec Tryz.prog 22 #[.agg ([.int .i64 ((t).kind), .int .i64 ((t).n), .string ((t).name), sl vr ((t).r.length), sl vk ((t).kids.length), sl vs ((t).sys.length), .int .i64 (v), .int .i64 (d)] : List Value).toArray, .agg ([.int .i64 ((u).kind), .int .i64 ((u).n), .string ((u).name), sl ur ((u).r.length), sl uk ((u).kids.length), sl us ((u).sys.length), .int .i64 (v2), .int .i64 (d2)] : List Value).toArray] [RT t vr vk vs, RT u ur uk us] [] (fun _ : Unit => .bool true) (fun _ => []) (fun _ => []) := by
  have h := spots_spec t vr vk vs v d u ur uk us v2 d2
  rw [decide_eq_true h1, decide_eq_true h2, decide_eq_true h3] at h
  exact h
set_option maxHeartbeats 2000000 in
theorem pathGets_spec (t : T) (vr_t vk_t vs_t : SH) (p : List Int) (a_p : SH)  : Spec Tryz.prog 5 #[.agg (tc t vr_t vk_t vs_t).toArray, sl a_p (p.length)] [RT t vr_t vk_t vs_t, IL p a_p] [] (fun _ : Unit => .bool (true)) (fun _ : Unit => []) (fun _ : Unit => []) := by
  refine spec_go (args := [.agg (tc t vr_t vk_t vs_t).toArray, sl a_p (p.length)]) Tryz.func5 Tryz.ntmps5 rfl (by exact Nat.le_of_ble_eq_true rfl) fun B hB => ?_
  refine go_open (t := t) (vr := vr_t) (vk := vk_t) (vs := vs_t) (fun hk1 hn1 hm1 => ?_)
  refine go_openCL (l := (t).r) (a := vr_t) (fun hl2 hA2 hU2 => ?_)
  refine go_openTL (ts := (t).kids) (a := vk_t) (fun VR3 VK3 VS3 hl3 hA3 => ?_)
  refine go_openBL (bs := (t).sys) (a := vs_t) (fun VF4 VK4 hl4 hA4 => ?_)
  refine go_openIL (l := p) (a := a_p) (fun hl5 hA5 hU5 => ?_)
  refine go_know (p := okT t) (fun w hs => ok_of (hs.facts (RT t vr_t vk_t vs_t) (by simp))) (fun hokt => ?_)
  refine go_seq ?_
  refine go_region ⟨_, Tryz.func5⟩ rfl ?_
  refine q0 rfl (o_box fun b2 => ?_)
  refine q0 rfl (o_assign ?_)
  refine rg_nil ?_
  refine go_seq ?_
  refine go_seq ?_
  refine go_region ⟨_, Tryz.func5⟩ rfl ?_
  refine q0 rfl (o_lds ?_)
  refine q0 rfl (o_move ?_)
  refine q0 rfl (o_call Tryz.call14 (great30_spec t vr_t vk_t vs_t p a_p ) (fun x16 => ?_))
  refine rg_nil ?_
  refine go_condI (fun h16 => ?_) (fun h16 => ?_)
  · have c16 : ((decide (250 < bulk t) || decide (300 < p.length))) = true := h16
    try simp only [sC, bne_iff_ne, beq_iff_eq, ne_eq] at c16
    refine go_seq ?_
    refine go_region ⟨_, Tryz.func5⟩ rfl ?_
    refine q0 rfl (o_call Tryz.call15 (works30_spec) (fun x17 => ?_))
    refine q0 rfl (o_assign ?_)
    refine rg_nil ?_
    refine ret1 Tryz.func5 Tryz.results5 wn_ () (by first | rfl | (simp_all; done)) (fun w hs => hs.none)
  · have c16 : ((decide (250 < bulk t) || decide (300 < p.length))) = false := h16
    try simp only [sC, bne_iff_ne, beq_iff_eq, ne_eq] at c16
    have hbt : bulk t ≤ 250 := by simp_all
    have hst := size_le_bulk t
    refine go_skip ?_
    refine go_seq ?_
    refine go_region ⟨_, Tryz.func5⟩ rfl ?_
    refine q0 rfl (o_lds ?_)
    refine q0 rfl (o_call Tryz.call16 (rcopyF t vr_t vk_t vs_t) (fun x19 => ?_))
    refine q0 rfl (o_new fun b5 => ?_)
    refine q0 rfl (o_st ?_)
    refine rg_nil ?_
    refine go_seq ?_
    refine go_region ⟨_, Tryz.func5⟩ rfl ?_
    refine q0 rfl (o_lds ?_)
    refine q0 rfl (o_move ?_)
    refine q0 rfl (o_call Tryz.call20 (getWalk t x19.1 x19.2.1 x19.2.2 p a_p om_) (fun x23 => ?_))
    refine q0 rfl (o_move ?_)
    refine q0 rfl (o_extract ?_)
    refine q0 rfl (o_extract ?_)
    refine q0 rfl (o_new fun b6 => ?_)
    refine q0 rfl (o_st ?_)
    refine q0 rfl (o_assign ?_)
    refine rg_nil ?_
    refine go_seq ?_
    refine go_region ⟨_, Tryz.func5⟩ rfl ?_
    refine q0 rfl (o_lds ?_)
    refine q0 rfl (o_move ?_)
    refine q0 rfl (o_call Tryz.call21 (rgetO p a_p t vr_t vk_t vs_t om_) (fun x29 => ?_))
    refine q0 rfl (o_move ?_)
    refine q0 rfl (o_extract ?_)
    refine q0 rfl (o_extract ?_)
    refine q0 rfl (o_new fun b8 => ?_)
    refine q0 rfl (o_st ?_)
    refine q0 rfl (o_assign ?_)
    refine rg_nil ?_
    refine go_seq ?_
    refine go_seq ?_
    refine go_cutS ([(2, .pointer (some ⟨b2, 0, none⟩)), (5, .pointer (some ⟨b5, 0, none⟩)), (40, .bool (false))]) (fun hK => ?_) (fun base => ?_)
    · refine go_region ⟨_, Tryz.func5⟩ rfl ?_
      refine q0 rfl (o_lds ?_)
      refine q0 rfl (o_lds ?_)
      refine q0 rfl (o_call Tryz.call22 (spotsI (getRes t p).2.1 x23.1 x23.2.1 x23.2.2 (getRes t p).2.2.1 (getRes t p).2.2.2 (getRes t p).2.1 x29.1 x29.2.1 x29.2.2 (getRes t p).2.2.1 (getRes t p).2.2.2 rfl rfl rfl) (fun x34 => ?_))
      refine q0 rfl (o_not ?_)
      refine q0 rfl (o_move ?_)
      refine qT rfl rfl rfl (o_move ?_)
      refine qT rfl rfl rfl (o_move ?_)
      refine qT rfl rfl rfl (o_neIN ?_)
      refine q0 rfl (o_pickF ?_)
      refine rg_nil ?_
      exact hK _ ⟨rfl, rfl, dn_, trivial⟩
    · refine go_condF ?_
      refine go_skip ?_
      refine go_seq ?_
      refine go_draw (tn := false) (A := [0, 1, 0, 7, 15, 31]) (l := [0, 2, 1, 3, 4, 5]) (fin := []) Tab.mixed ⟨_, Tryz.func5⟩ (by rfl) ?_
      refine n0 rfl (v_lds ?_)
      refine n0 rfl (v_lds ?_)
      refine n0 rfl (v_call Tryz.call23 (pathKidsO t x19.1 x19.2.1 x19.2.2 om_) (fun x42 => ?_))
      refine n0 rfl (v_call Tryz.call24 (rkids30_walk t vr_t vk_t vs_t om_) (fun x44 => ?_))
      refine n0 rfl (v_assign ?_)
      refine n0 rfl (v_assign ?_)
      refine NV.done ?_
      refine rg_nil ?_
      have hlen : x42.1.2.length = x44.1.2.length := by have h9 := congrArg List.length (x42.2.trans x44.2.symm); simpa only [List.length_map] using h9
      refine go_seq ?_
      refine go_seq ?_
      refine go_region ⟨_, Tryz.func5⟩ rfl ?_
      refine q0 rfl (o_move ?_)
      refine q0 rfl (o_len ?_)
      refine q0 rfl (o_move ?_)
      refine q0 rfl (o_len ?_)
      refine q0 rfl (o_neIN ?_ (hp := by rw [hlen]; simp))
      refine rg_nil ?_
      refine go_condF ?_
      refine go_skip ?_
      refine go_seq ?_
      refine go_seq ?_
      refine go_region ⟨_, Tryz.func5⟩ rfl ?_
      refine q0 rfl (o_move ?_)
      refine q0 rfl (o_len ?_)
      refine q0 rfl (o_move ?_)
      refine rg_nil ?_
      refine go_block ?_
      refine go_loopE (X := Nat) (fun s_ => s_ ≤ x42.1.2.length) (fun s_ => [(2, .pointer (some ⟨b2, 0, none⟩)), (5, .pointer (some ⟨b5, 0, none⟩)), (10, sl x42.1.1 (x42.1.2.length)), (11, sl x44.1.1 ((x44.1.2).length)), (51, .int .i64 ((x42.1.2.length : Int))), (52, .int .i64 ((s_ : Int)))]) (fun s_ G_ => G_) (fun s_ => [rowS 8 44 x42.1.1 (x42.1.2.length) (spFlat (x42.1.2.map hq)), bigR (kidsR tys ((x42.1.2.map (fun z : HQ => z.1)).drop s_)), boxR b8 [.int .i64 (((getRes t p).2.1).kind), .int .i64 (((getRes t p).2.1).n), .string (((getRes t p).2.1).name), sl x29.1 (((getRes t p).2.1).r.length), sl x29.2.1 (((getRes t p).2.1).kids.length), sl x29.2.2 (((getRes t p).2.1).sys.length), .int .i64 ((getRes t p).2.2.1), .int .i64 ((getRes t p).2.2.2)] 47, boxR b6 [.int .i64 (((getRes t p).2.1).kind), .int .i64 (((getRes t p).2.1).n), .string (((getRes t p).2.1).name), sl x23.1 (((getRes t p).2.1).r.length), sl x23.2.1 (((getRes t p).2.1).kids.length), sl x23.2.2 (((getRes t p).2.1).sys.length), .int .i64 ((getRes t p).2.2.1), .int .i64 ((getRes t p).2.2.2)] 44, boxR b5 (tc t x19.1 x19.2.1 x19.2.2) 26, boxR b2 (tc t vr_t vk_t vs_t) 26]) (fun s_ => x42.1.2.length - s_) (0) (Nat.zero_le _) (by exact ⟨rfl, rfl, rfl, rfl, rfl, rfl, trivial⟩) ?_ ?_
      · exact fun w hs => hs
      · intro i base0 hi next0
        refine go_seq ?_
        refine go_region ⟨_, Tryz.func5⟩ rfl ?_
        refine q0 rfl (o_lss ?_)
        refine rg_nil ?_
        refine go_seq ?_
        refine go_condI (fun h53 => ?_) (fun h53 => ?_)
        · have c53 : (decide ((i : Int) < (x42.1.2.length : Int))) = true := h53
          try simp only [sC, bne_iff_ne, beq_iff_eq, ne_eq] at c53
          have hqq := hq_part x42.2 x44.2 (i := i) (by omega)
          have hokh := okT_hq hokt x42.2 (i := i) (by omega)
          have hsp := spotsI (x42.1.2.getD i hq0).1.er (x42.1.2.getD i hq0).1.vr (x42.1.2.getD i hq0).1.vk (x42.1.2.getD i hq0).1.vs (x42.1.2.getD i hq0).2.1 (x42.1.2.getD i hq0).2.2 ((x44.1.2).getD i qp0).1.1 ((x44.1.2).getD i qp0).1.2.1 ((x44.1.2).getD i qp0).1.2.2.1 ((x44.1.2).getD i qp0).1.2.2.2 ((x44.1.2).getD i qp0).2.1 ((x44.1.2).getD i qp0).2.2 (congrArg (fun z : Part => z.1) hqq) (congrArg (fun z : Part => z.2.1) hqq) (congrArg (fun z : Part => z.2.2) hqq)
          refine go_skip ?_
          refine go_seq ?_
          refine go_block ?_
          refine go_seq ?_
          refine go_region ⟨_, Tryz.func5⟩ rfl ?_
          refine q0 rfl (o_move ?_)
          refine q0 rfl (o_assign ?_)
          refine rg_nil ?_
          refine go_seq ?_
          refine go_seq ?_
          refine go_state (fun w hs => (((((((hs.perm perm5).perm perm5).perm perm5).perm perm5).perm perm4).perm perm5).peelK (ks := x42.1.2.map (fun z : HQ => z.1)) (i := i) (by rw [List.length_map]; omega))) ?_
          rw [show (x42.1.2.map (fun z : HQ => z.1)).getD i h0 = (x42.1.2.getD i hq0).1 from getD_map (d := hq0) (by omega)]
          refine go_know (fun w hs => hs.rowAddr (sz := 8) (e := 44) (a := x42.1.1) (n := x42.1.2.length) (xs := spFlat (x42.1.2.map hq)) mm_ (by omega)) (fun hav6 => ?_)
          obtain ⟨bk6, hav6⟩ := hav6
          refine go_openRow (l := x44.1.2) (a := x44.1.1) (bt := 120) (F := spCells) (E := qE) (d := qp0) mm_ (fun hl7 hA7 => ?_)
          refine go_elem (l := x44.1.2) (a := x44.1.1) (bt := 120) (F := spCells) (E := qE) (d := qp0) mm_ i (by omega) ?_
          refine go_lend (Ms2 := [bigR (kidsR tys ((x42.1.2.map (fun z : HQ => z.1)).drop (i + 1))), rowS 8 44 x42.1.1 (x42.1.2.length) (spFlat (x42.1.2.map hq)), boxR b8 [.int .i64 (((getRes t p).2.1).kind), .int .i64 (((getRes t p).2.1).n), .string (((getRes t p).2.1).name), sl x29.1 (((getRes t p).2.1).r.length), sl x29.2.1 (((getRes t p).2.1).kids.length), sl x29.2.2 (((getRes t p).2.1).sys.length), .int .i64 ((getRes t p).2.2.1), .int .i64 ((getRes t p).2.2.2)] 47, boxR b6 [.int .i64 (((getRes t p).2.1).kind), .int .i64 (((getRes t p).2.1).n), .string (((getRes t p).2.1).name), sl x23.1 (((getRes t p).2.1).r.length), sl x23.2.1 (((getRes t p).2.1).kids.length), sl x23.2.2 (((getRes t p).2.1).sys.length), .int .i64 ((getRes t p).2.2.1), .int .i64 ((getRes t p).2.2.2)] 44, boxR b5 (tc t x19.1 x19.2.1 x19.2.2) 26, boxR b2 (tc t vr_t vk_t vs_t) 26]) (bigR (treeR tys (x42.1.2.getD i hq0).1)) (lends_tree tys (x42.1.2.getD i hq0).1 hokh) (by exact perm0) ([(2, .pointer (some ⟨b2, 0, none⟩)), (5, .pointer (some ⟨b5, 0, none⟩)), (10, sl x42.1.1 (x42.1.2.length)), (11, sl x44.1.1 ((x44.1.2).length)), (12, .int .i64 ((i : Int))), (51, .int .i64 ((x42.1.2.length : Int))), (52, .int .i64 ((i : Int))), (64, .bool (false))]) (fun B' hK => ?_) (fun base => ?_)
          · refine go_draw (tn := false) (A := [0, 0, 3, 7, 0, 0, 48, 112, 255, 511]) (l := [0, 1, 2, 3, 4, 5, 6, 7, 8, 9]) (fin := []) Tab.mixed ⟨_, Tryz.func5⟩ (by rfl) ?_
            refine n0 rfl (v_move ?_)
            refine n0 rfl (v_move ?_)
            refine n0 rfl (v_ixN ?_ (j := i))
            refine n0 rfl (v_ldRQ ?_)
            rw [hq_at (hs := x42.1.2) (i := i) (by omega)]
            refine n0 rfl (v_move ?_)
            refine n0 rfl (v_move ?_)
            obtain ⟨bk8, o8, hav8⟩ := hA7 (by omega)
            refine n0 rfl (v_ixN ?_ (j := i))
            refine n0 rfl (f_ldQ ?_)
            refine n0 rfl (v_call Tryz.call22 (hsp) (fun x63 => ?_))
            refine n0 rfl (v_not ?_)
            refine NV.done ?_
            refine rg_nil ?_
            exact hK _ ⟨rfl, rfl, rfl, rfl, rfl, rfl, rfl, dn_, trivial⟩
          · refine go_condF ?_
            refine go_skip ?_
            refine go_seq ?_
            obtain ⟨⟨k, n, nm, r, v, ks, u, ss, x⟩, hhe⟩ : ∃ h : HT, (x42.1.2.getD i hq0).1 = h := ⟨_, rfl⟩
            refine go_ms (Ms' := [bigR (treeR tys (HT.mk k n nm r v ks u ss x)), bigR (kidsR tys ((x42.1.2.map (fun z : HQ => z.1)).drop (i + 1))), rowS 8 44 x42.1.1 (x42.1.2.length) (spFlat (x42.1.2.map hq)), boxR b8 [.int .i64 (((getRes t p).2.1).kind), .int .i64 (((getRes t p).2.1).n), .string (((getRes t p).2.1).name), sl x29.1 (((getRes t p).2.1).r.length), sl x29.2.1 (((getRes t p).2.1).kids.length), sl x29.2.2 (((getRes t p).2.1).sys.length), .int .i64 ((getRes t p).2.2.1), .int .i64 ((getRes t p).2.2.2)] 47, boxR b6 [.int .i64 (((getRes t p).2.1).kind), .int .i64 (((getRes t p).2.1).n), .string (((getRes t p).2.1).name), sl x23.1 (((getRes t p).2.1).r.length), sl x23.2.1 (((getRes t p).2.1).kids.length), sl x23.2.2 (((getRes t p).2.1).sys.length), .int .i64 ((getRes t p).2.2.1), .int .i64 ((getRes t p).2.2.2)] 44, boxR b5 (tc t x19.1 x19.2.1 x19.2.2) 26, boxR b2 (tc t vr_t vk_t vs_t) 26]) (by rw [hhe]) ?_
            refine go_state (fun w hs => ((((((((hs.perm perm6).perm perm6).perm perm6).perm perm6).perm perm6).perm perm6).perm perm6).openHT)) ?_
            refine go_know (fun w hs => hs.rowLen (sz := 6) (a := u) (n := ks.length) (xs := tpFlat (ks.map HT.tp)) mm_) (fun hb2 => ?_)
            have hcq : (spCells ((x42.1.2.map hq).getD i qp0))[4]? = some (sl u ks.length) := by rw [hq_at (by omega)]; simp only [hq, HT.tp, hhe, HT.er, HT.vr, HT.vk, HT.vs, spCells, tpCells, tc, T.kind, T.n, T.name, T.r, T.kids, T.sys, HT.erL_eq, HT.erB_eq, List.length_map]; rfl
            refine go_region ⟨_, Tryz.func5⟩ rfl ?_
            refine q0 rfl (o_move ?_)
            refine q0 rfl (o_move ?_)
            refine q0 rfl (o_ixN ?_ (j := i))
            refine q0 rfl (o_fa ?_)
            refine q0 rfl (o_fa ?_)
            refine q0 rfl (o_ldRQf ?_ (hk := hcq))
            refine q0 rfl (o_len ?_)
            refine q0 rfl (o_move ?_)
            refine rg_nil ?_
            refine go_block ?_
            refine go_loopE (X := Nat × List TP) (fun s_ => s_.1 ≤ ks.length ∧ s_.2.length = ks.length) (fun s_ => [(2, .pointer (some ⟨b2, 0, none⟩)), (5, .pointer (some ⟨b5, 0, none⟩)), (10, sl x42.1.1 (x42.1.2.length)), (11, sl x44.1.1 ((x44.1.2).length)), (12, .int .i64 ((i : Int))), (51, .int .i64 ((x42.1.2.length : Int))), (52, .int .i64 ((i : Int))), (71, .int .i64 ((ks.length : Int))), (72, .int .i64 ((s_.1 : Int)))]) (fun s_ G_ => G_) (fun s_ => [rowS 2 89 v (r.length) (clFlat r), rowS 6 26 u (ks.length) (tpFlat s_.2), rowS 2 71 x (ss.length) (bpFlat (ss.map HB.bp)), bigR (kidsR tys ks), bigR (brsR tys ss), bigR (kidsR tys ((x42.1.2.map (fun z : HQ => z.1)).drop (i + 1))), rowS 8 44 x42.1.1 (x42.1.2.length) (spFlat (x42.1.2.map hq)), boxR b8 [.int .i64 (((getRes t p).2.1).kind), .int .i64 (((getRes t p).2.1).n), .string (((getRes t p).2.1).name), sl x29.1 (((getRes t p).2.1).r.length), sl x29.2.1 (((getRes t p).2.1).kids.length), sl x29.2.2 (((getRes t p).2.1).sys.length), .int .i64 ((getRes t p).2.2.1), .int .i64 ((getRes t p).2.2.2)] 47, boxR b6 [.int .i64 (((getRes t p).2.1).kind), .int .i64 (((getRes t p).2.1).n), .string (((getRes t p).2.1).name), sl x23.1 (((getRes t p).2.1).r.length), sl x23.2.1 (((getRes t p).2.1).kids.length), sl x23.2.2 (((getRes t p).2.1).sys.length), .int .i64 ((getRes t p).2.2.1), .int .i64 ((getRes t p).2.2.2)] 44, boxR b5 (tc t x19.1 x19.2.1 x19.2.2) 26, boxR b2 (tc t vr_t vk_t vs_t) 26]) (fun s_ => ks.length - s_.1) (0, ks.map HT.tp) (⟨by omega, by simp⟩) (by exact ⟨rfl, rfl, rfl, rfl, rfl, rfl, rfl, rfl, rfl, trivial⟩) ?_ ?_
            · exact fun w hs => hs
            · intro ⟨j, ps⟩ base1 ⟨hj, hpl⟩ next1
              dsimp only at  hj  hpl  next1 ⊢
              refine go_seq ?_
              refine go_region ⟨_, Tryz.func5⟩ rfl ?_
              refine q0 rfl (o_lss ?_)
              refine rg_nil ?_
              refine go_seq ?_
              refine go_condI (fun h73 => ?_) (fun h73 => ?_)
              · have c73 : (decide ((j : Int) < (ks.length : Int))) = true := h73
                try simp only [sC, bne_iff_ne, beq_iff_eq, ne_eq] at c73
                refine go_skip ?_
                refine go_seq ?_
                refine go_block ?_
                refine go_seq ?_
                refine go_region ⟨_, Tryz.func5⟩ rfl ?_
                refine q0 rfl (o_move ?_)
                refine q0 rfl (o_assign ?_)
                refine rg_nil ?_
                refine go_know (fun w hs => hs.rowAddr (sz := 6) (e := 26) (a := u) (n := ks.length) (xs := tpFlat ps) mm_ (by omega)) (fun hav9 => ?_)
                obtain ⟨bk9, hav9⟩ := hav9
                refine go_region ⟨_, Tryz.func5⟩ rfl ?_
                refine q0 rfl (o_move ?_)
                refine q0 rfl (o_move ?_)
                refine q0 rfl (o_ixN ?_ (j := i))
                refine q0 rfl (o_fa ?_)
                refine q0 rfl (o_fa ?_)
                refine q0 rfl (o_ldRQf ?_ (hk := hcq))
                refine q0 rfl (o_move ?_)
                refine q0 rfl (o_ixN ?_ (j := j))
                refine q0 rfl (o_fa ?_)
                refine q0 rfl (o_srfT (T.mk (-1) ((((ps).getD j tp0).1).n) ((((ps).getD j tp0).1).name) (((ps).getD j tp0).1).r (((ps).getD j tp0).1).kids (((ps).getD j tp0).1).sys, ((ps).getD j tp0).2.1, ((ps).getD j tp0).2.2.1, ((ps).getD j tp0).2.2.2) ?_ (ls := ps) (i' := j) (k := 0))
                refine rg_nil ?_
                refine go_inBlock ?_
                refine go_region ⟨_, Tryz.func5⟩ rfl ?_
                refine q0 rfl (o_add ?_)
                refine q0 rfl (o_move ?_)
                refine rg_nil ?_
                refine go_state (fun w hs => ?_) (next1 (j + 1, ((ps).set j (T.mk (-1) ((((ps).getD j tp0).1).n) ((((ps).getD j tp0).1).name) (((ps).getD j tp0).1).r (((ps).getD j tp0).1).kids (((ps).getD j tp0).1).sys, ((ps).getD j tp0).2.1, ((ps).getD j tp0).2.2.1, ((ps).getD j tp0).2.2.2))) _ (⟨by omega, by simp [hpl]⟩) (by omega) ⟨rfl, rfl, rfl, rfl, rfl, rfl, rfl, rfl, rfl, trivial⟩)
                exact ((((((((((((hs.less (by simp +contextual)).perm perm10).perm perm10).perm perm10).perm perm10).perm perm10).perm perm10).perm perm10).perm perm10).perm perm10).perm perm9).perm perm10)
              · have c73 : (decide ((j : Int) < (ks.length : Int))) = false := h73
                try simp only [sC, bne_iff_ne, beq_iff_eq, ne_eq] at c73
                refine go_exit rfl ?_
                refine go_inBlock ?_
                refine go_region ⟨_, Tryz.func5⟩ rfl ?_
                refine q0 rfl (o_add ?_)
                refine q0 rfl (o_move ?_)
                refine rg_nil ?_
                refine go_state (fun w hs => ?_) (next0 (i + 1) _ (by omega) (by omega) ⟨rfl, rfl, rfl, rfl, rfl, rfl, trivial⟩)
                exact ((((((((hs.less (by simp +contextual)).perm perm10).perm perm10).perm perm10).perm perm10).perm perm9).perm perm10).dropR (A := [_, _, _, _, _, _]))
        · have c53 : (decide ((i : Int) < (x42.1.2.length : Int))) = false := h53
          try simp only [sC, bne_iff_ne, beq_iff_eq, ne_eq] at c53
          refine go_exit rfl ?_
          refine go_seq ?_
          refine go_cutS ([(4, .bool (true))]) (fun hK => ?_) (fun base => ?_)
          · refine go_region ⟨_, Tryz.func5⟩ rfl ?_
            refine q0 rfl (o_lds ?_)
            refine q0 rfl (o_lds ?_)
            refine q0 rfl (o_call Tryz.call19 (rsameI t t rfl x19.1 x19.2.1 x19.2.2 vr_t vk_t vs_t) (fun x88 => ?_))
            refine q0 rfl (o_move ?_)
            refine qT rfl rfl rfl (o_call Tryz.call15 (works30_spec) (fun x90 => ?_))
            refine q0 rfl (o_pickT ?_)
            refine q0 rfl (o_assign ?_)
            refine rg_nil ?_
            exact hK _ ⟨dn_, trivial⟩
          · refine ret1 Tryz.func5 Tryz.results5 wn_ () (by first | rfl | (simp_all; done)) (fun w hs => hs.none)
end Go.Hy
