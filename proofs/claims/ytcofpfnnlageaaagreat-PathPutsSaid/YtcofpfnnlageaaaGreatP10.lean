/- Contracts of this program's functions and the laws that they need: a separation logic over the machine's rules, one theorem each (partly printed by a program of this repository). -/
import Derived.Test.YtcofpfnnlageaaaGreatP4
import Derived.Test.YtcofpfnnlageaaaGreatP5
import Derived.Test.YtcofpfnnlageaaaGreatP6
import Derived.Test.YtcofpfnnlageaaaGreatP7
import Derived.Test.YtcofpfnnlageaaaGreatP8
import Derived.Test.YtcofpfnnlageaaaGreatP9
namespace Go.Hy
set_option linter.unusedVariables false
set_option linter.unusedSimpArgs false
set_option linter.unusedSectionVars false
open Go.Proofs
set_option linter.unusedVariables false
set_option linter.unusedSimpArgs false
set_option maxRecDepth 100000
theorem works30_spec   : Spec Tryz.prog 15 #[] [] [] (fun _ : Unit => .bool (true)) (fun _ : Unit => []) (fun _ : Unit => []) := by
  refine spec_go (args := []) Tryz.func15 Tryz.ntmps15 rfl (by exact Nat.le_of_ble_eq_true rfl) fun B hB => ?_
  refine go_seq ?_
  refine go_region ⟨_, Tryz.func15⟩ rfl ?_
  refine q0 rfl (o_assign ?_)
  refine rg_nil ?_
  refine go_seq ?_
  refine go_region ⟨_, Tryz.func15⟩ rfl ?_
  refine q0 rfl (o_build (cs := [.int .i64 (1), .int .i64 (0), .string ((ByteArray.mk #[])), sl (none, 0) (0), sl (none, 0) (0), sl (none, 0) (0)]) ?_)
  refine q0 rfl (o_new fun b1 => ?_)
  refine q0 rfl (o_st ?_)
  refine rg_nil ?_
  refine go_seq ?_
  refine go_region ⟨_, Tryz.func15⟩ rfl ?_
  refine q0 rfl (o_build (cs := [.int .i64 (1), .int .i64 (1), .string ((ByteArray.mk #[])), sl (none, 0) (0), sl (none, 0) (0), sl (none, 0) (0)]) ?_)
  refine q0 rfl (o_lds ?_)
  refine q0 rfl (o_lit1 fun b12 => ?_)
  refine q0 rfl (o_build (cs := [.int .i64 (5), .int .i64 (0), .string ((ByteArray.mk #[])), sl (none, 0) (0), sl (some ⟨b12, 0, none⟩, 1) (1), sl (none, 0) (0)]) ?_)
  refine q0 rfl (o_lit2 fun b14 => ?_)
  refine q0 rfl (o_build (cs := [.int .i64 (6), .int .i64 (0), .string ((ByteArray.mk #[])), sl (none, 0) (0), sl (some ⟨b14, 0, none⟩, 2) (2), sl (none, 0) (0)]) ?_)
  refine q0 rfl (o_new fun b2 => ?_)
  refine q0 rfl (o_st ?_)
  refine rg_nil ?_
  refine go_state (fun w hs => ?_) (?_ : GoT _ _ _ _ _ _ _ [RT exT nul (some ⟨b14, 0, none⟩, 2) nul] [boxR b2 (tc exT nul (some ⟨b14, 0, none⟩, 2) nul) 26])
  · have g1 := ((((((hs.perm perm3).perm perm1).perm perm2).perm perm3).leaf 1 0 ⟨#[]⟩ (in_lit (by omega) (by omega)) (in_lit (by omega) (by omega)) (Nat.zero_le _)).lit1T (t := varT 0) (vr := nul) (vk := nul) (vs := nul) hB (by simp [varT]) rfl).node 5 0 [varT 0] (some ⟨b12, 0, none⟩, 1) (in_lit (by omega) (by omega)) (in_lit (by omega) (by omega)) (by simp)
    have g3 := ((g1.leaf 1 1 ⟨#[]⟩ (in_lit (by omega) (by omega)) (in_lit (by omega) (by omega)) (Nat.zero_le _)).lit2T (t := varT 1) (vr := nul) (vk := nul) (vs := nul) (u := lamT (varT 0)) (ur := nul) (uk := (some ⟨b12, 0, none⟩, 1)) (us := nul) hB (by simp [varT]) (by simp [lamT]) rfl).node 6 0 [varT 1, lamT (varT 0)] (some ⟨b14, 0, none⟩, 2) (in_lit (by omega) (by omega)) (in_lit (by omega) (by omega)) (by simp)
    exact (g3.less (by simp [lamT, exT, varT])).dropR (A := [_])
  refine go_seq ?_
  refine go_region ⟨_, Tryz.func15⟩ rfl ?_
  refine q0 rfl (o_lds ?_)
  refine q0 rfl (o_call Tryz.call25 (allP_spec exT nul (some ⟨b14, 0, none⟩, 2) nul (by rw [ex_size.1]; omega)) (fun x18 => ?_))
  refine q0 rfl (o_move ?_)
  refine q0 rfl (o_extract ?_)
  refine q0 rfl (o_extract ?_)
  refine q0 rfl (o_assign ?_)
  refine q0 rfl (o_assign ?_)
  refine rg_nil ?_
  have hx18 : x18.1.2.map (fun z : IP => z.1) = [[], [0], [1], [1, 0]] := x18.2.trans ex_all
  have hl18 : x18.1.2.length = 4 := by have h9 := congrArg List.length hx18; simpa using h9
  have h18 : (x18.1.2.getD 3 ip0).1 = [1, 0] := by have h9 := getD_map (d := ip0) (e := ([] : List Int)) (f := fun z : IP => z.1) (l := x18.1.2) (i := 3) (by omega); rw [hx18] at h9; exact h9.symm
  refine go_seq ?_
  refine go_region ⟨_, Tryz.func15⟩ rfl ?_
  refine q0 rfl (o_lds ?_)
  refine q0 rfl (o_lit2 fun b23 => ?_)
  refine rg_state (fun w hs => (((hs.perm perm1).perm perm1).litI [1, 0] hB rfl (by decide) (by intro c hc; simp at hc; unfold in64; omega))) ?_
  have hget := getWalk exT nul (some ⟨b14, 0, none⟩, 2) nul [1, 0] (some ⟨b23, 0, none⟩, 2) (by rw [ex_size.1]; omega)
  simp only [ex_get1, ex_get2] at hget
  refine q0 rfl (o_call Tryz.call20 (hget) (fun x24 => ?_))
  refine q0 rfl (o_move ?_)
  refine q0 rfl (o_extract ?_)
  refine q0 rfl (o_extract ?_)
  refine q0 rfl (o_new fun b5 => ?_)
  refine q0 rfl (o_st ?_)
  refine q0 rfl (o_assign ?_)
  refine rg_nil ?_
  refine go_seq ?_
  refine go_region ⟨_, Tryz.func15⟩ rfl ?_
  refine q0 rfl (o_lds ?_)
  refine q0 rfl (o_lit1 fun b29 => ?_)
  refine q0 rfl (o_build (cs := [.int .i64 (3), .int .i64 (0), .string ((ByteArray.mk #[])), sl (none, 0) (0), sl (none, 0) (0), sl (none, 0) (0)]) ?_)
  refine rg_state (fun w hs => ((((hs.perm perm2).perm perm2).perm perm2).litI [0] hB rfl (by decide) (by intro c hc; simp at hc; unfold in64; omega))) ?_
  have hput := putP_walk exT nul (some ⟨b14, 0, none⟩, 2) nul [0] (some ⟨b29, 0, none⟩, 1) exU nul nul nul (by rw [ex_size.1]; omega) (by rw [ex_size.2]; omega)
  simp only [ex_put1, ex_put2] at hput
  refine rg_state (fun w hs => show St B (RT exU nul nul nul :: _) _ w from hs.leaf 3 0 ⟨#[]⟩ (in_lit (by omega) (by omega)) (in_lit (by omega) (by omega)) (Nat.zero_le _)) ?_
  refine q0 rfl (o_call Tryz.call17 (hput) (fun x31 => ?_))
  refine q0 rfl (o_move ?_)
  refine q0 rfl (o_extract ?_)
  refine q0 rfl (o_extract ?_)
  refine q0 rfl (o_new fun b7 => ?_)
  refine q0 rfl (o_st ?_)
  refine q0 rfl (o_assign ?_)
  refine rg_nil ?_
  refine go_open (t := exR) (vr := x31.1) (vk := x31.2.1) (vs := x31.2.2) (fun hk1 hn1 hm1 => ?_)
  refine go_openTL (ts := (exR).kids) (a := x31.2.1) (fun VR2 VK2 VS2 hl2 hA2 => ?_)
  refine go_seq ?_
  refine go_openRow (l := x18.1.2) (a := x18.1.1) (bt := 24) (F := ipCells) (E := ipE) (d := ip0) mm_ (fun hl3 hA3 => ?_)
  refine go_elem (l := x18.1.2) (a := x18.1.1) (bt := 24) (F := ipCells) (E := ipE) (d := ip0) mm_ 3 (by (first | omega | decide)) ?_
  refine go_kid (ts := (exR).kids) (a := x31.2.1) (VR := VR2) (VK := VK2) (VS := VS2) 0 (by (first | omega | decide)) ?_
  refine go_cutS ([(0, .bool (true))]) (fun hK => ?_) (fun base => ?_)
  · refine go_region ⟨_, Tryz.func15⟩ rfl ?_
    refine q0 rfl (o_move ?_)
    refine q0 rfl (o_eqI ?_)
    refine q0 rfl (o_move ?_)
    refine qI rfl rfl rfl wl_ (fun hg36 => ?_) (fun hg36 => ?_)
    · have g36 : (decide ((formedP exT) = 0)) = true := hg36
      try simp only [sC, bne_iff_ne, beq_iff_eq, ne_eq] at g36
      refine o_move ?_
      refine qT rfl rfl rfl (o_len ?_)
      refine qT rfl rfl rfl (o_eqI ?_)
      refine q0 rfl (o_pickT ?_)
      refine q0 rfl (o_move ?_)
      refine qI rfl rfl rfl wl_ (fun hg41 => ?_) (fun hg41 => ?_)
      · have g41 : (decide (((x18.1.2).length : Int) = 4)) = true := hg41
        try simp only [sC, bne_iff_ne, beq_iff_eq, ne_eq] at g41
        refine o_move ?_
        obtain ⟨bk4, o4, hav4⟩ := hA3 (by (first | omega | decide))
        refine qT rfl rfl rfl (o_ixN ?_ (j := 3))
        refine qT rfl rfl rfl (o_ldII ?_)
        refine qT rfl rfl rfl (o_lit2 fun b45 => ?_)
        refine rg_state (fun w hs => (((((hs.perm perm3).perm perm3).perm perm3).perm perm3).litI [1, 0] hB rfl (by decide) (by intro c hc; simp at hc; unfold in64; omega))) ?_
        refine qT rfl rfl rfl (o_call Tryz.call29 (ints_spec (((x18.1.2).getD 3 ip0).1) (((x18.1.2).getD 3 ip0).2) ([1, 0]) (some ⟨b45, 0, none⟩, [1, 0].length) ) (fun x46 => ?_))
        refine q0 rfl (o_pickT ?_)
        refine q0 rfl (o_move ?_)
        refine qI rfl rfl rfl wl_ (fun hg48 => ?_) (fun hg48 => ?_)
        · have g48 : ((decide ((((x18.1.2).getD 3 ip0).1) = ([1, 0])))) = true := hg48
          try simp only [sC, bne_iff_ne, beq_iff_eq, ne_eq] at g48
          refine o_move ?_
          refine qT rfl rfl rfl (o_eqI ?_)
          refine q0 rfl (o_pickT ?_)
          refine q0 rfl (o_move ?_)
          refine qI rfl rfl rfl wl_ (fun hg52 => ?_) (fun hg52 => ?_)
          · have g52 : (decide (0 = 0)) = true := hg52
            try simp only [sC, bne_iff_ne, beq_iff_eq, ne_eq] at g52
            refine o_fa ?_
            refine qT rfl rfl rfl (o_fa ?_)
            refine qT rfl rfl rfl (o_ld ?_)
            refine qT rfl rfl rfl (o_eqI ?_)
            refine q0 rfl (o_pickT ?_)
            refine q0 rfl (o_move ?_)
            refine qI rfl rfl rfl wl_ (fun hg58 => ?_) (fun hg58 => ?_)
            · have g58 : (decide (((varT0).kind) = 1)) = true := hg58
              try simp only [sC, bne_iff_ne, beq_iff_eq, ne_eq] at g58
              refine o_fa ?_
              refine qT rfl rfl rfl (o_ld ?_)
              refine qT rfl rfl rfl (o_eqI ?_)
              refine q0 rfl (o_pickT ?_)
              refine q0 rfl (o_move ?_)
              refine qI rfl rfl rfl wl_ (fun hg63 => ?_) (fun hg63 => ?_)
              · have g63 : (decide (1 = 1)) = true := hg63
                try simp only [sC, bne_iff_ne, beq_iff_eq, ne_eq] at g63
                refine o_move ?_
                refine qT rfl rfl rfl (o_eqI ?_)
                refine q0 rfl (o_pickT ?_)
                refine q0 rfl (o_move ?_)
                refine qI rfl rfl rfl wl_ (fun hg67 => ?_) (fun hg67 => ?_)
                · have g67 : (decide (0 = 0)) = true := hg67
                  try simp only [sC, bne_iff_ne, beq_iff_eq, ne_eq] at g67
                  refine o_fa ?_
                  refine qT rfl rfl rfl (o_ld ?_)
                  refine qT rfl rfl rfl (o_len ?_)
                  refine qT rfl rfl rfl (o_eqI ?_)
                  refine q0 rfl (o_pickT ?_)
                  refine q0 rfl (o_move ?_)
                  refine qI rfl rfl rfl wl_ (fun hg73 => ?_) (fun hg73 => ?_)
                  · have g73 : (decide (((exR).kids.length : Int) = 2)) = true := hg73
                    try simp only [sC, bne_iff_ne, beq_iff_eq, ne_eq] at g73
                    refine o_fa ?_
                    refine qT rfl rfl rfl (o_ld ?_)
                    obtain ⟨bk5, o5, hav5⟩ := hA2 (by (first | omega | decide))
                    refine qT rfl rfl rfl (o_ixN ?_ (j := 0))
                    refine qT rfl rfl rfl (o_fa ?_)
                    refine qT rfl rfl rfl (o_ldTf ?_)
                    refine qT rfl rfl rfl (o_eqI ?_)
                    refine q0 rfl (o_pickT ?_)
                    refine q0 rfl (o_assign ?_)
                    refine rg_nil ?_
                    exact go_state (fun w hs => (hs.less (by simp +contextual))) (hK _ ⟨(by first | rfl | ((conv => lhs; whnf); first | (simp_all [exR, exU, varT0, T.kids, T.kind, ex_formed, h18, hl18]; done) | (simp_all [exR, exU, varT0, T.kids, T.kind, ex_formed, h18, hl18]; omega))), trivial⟩)
                  · have g73 : (decide (((exR).kids.length : Int) = 2)) = false := hg73
                    try simp only [sC, bne_iff_ne, beq_iff_eq, ne_eq] at g73
                    refine qF rfl rfl rfl ?_
                    refine qF rfl rfl rfl ?_
                    refine qF rfl rfl rfl ?_
                    refine qF rfl rfl rfl ?_
                    refine qF rfl rfl rfl ?_
                    refine q0 rfl (o_pickF ?_)
                    refine q0 rfl (o_assign ?_)
                    refine rg_nil ?_
                    exact go_state (fun w hs => (hs.less (by simp +contextual))) (hK _ ⟨(by first | rfl | ((conv => lhs; whnf); first | (simp_all [exR, exU, varT0, T.kids, T.kind, ex_formed, h18, hl18]; done) | (simp_all [exR, exU, varT0, T.kids, T.kind, ex_formed, h18, hl18]; omega))), trivial⟩)
                · have g67 : (decide (0 = 0)) = false := hg67
                  try simp only [sC, bne_iff_ne, beq_iff_eq, ne_eq] at g67
                  refine qF rfl rfl rfl ?_
                  refine qF rfl rfl rfl ?_
                  refine qF rfl rfl rfl ?_
                  refine q0 rfl (o_pickF ?_)
                  refine q0 rfl (o_move ?_)
                  refine qF rfl rfl rfl ?_
                  refine qF rfl rfl rfl ?_
                  refine qF rfl rfl rfl ?_
                  refine qF rfl rfl rfl ?_
                  refine qF rfl rfl rfl ?_
                  refine qF rfl rfl rfl ?_
                  refine q0 rfl (o_pickF ?_)
                  refine q0 rfl (o_assign ?_)
                  refine rg_nil ?_
                  exact go_state (fun w hs => (hs.less (by simp +contextual))) (hK _ ⟨(by first | rfl | ((conv => lhs; whnf); first | (simp_all [exR, exU, varT0, T.kids, T.kind, ex_formed, h18, hl18]; done) | (simp_all [exR, exU, varT0, T.kids, T.kind, ex_formed, h18, hl18]; omega))), trivial⟩)
              · have g63 : (decide (1 = 1)) = false := hg63
                try simp only [sC, bne_iff_ne, beq_iff_eq, ne_eq] at g63
                refine qF rfl rfl rfl ?_
                refine q0 rfl (o_pickF ?_)
                refine q0 rfl (o_move ?_)
                refine qF rfl rfl rfl ?_
                refine qF rfl rfl rfl ?_
                refine qF rfl rfl rfl ?_
                refine qF rfl rfl rfl ?_
                refine q0 rfl (o_pickF ?_)
                refine q0 rfl (o_move ?_)
                refine qF rfl rfl rfl ?_
                refine qF rfl rfl rfl ?_
                refine qF rfl rfl rfl ?_
                refine qF rfl rfl rfl ?_
                refine qF rfl rfl rfl ?_
                refine qF rfl rfl rfl ?_
                refine q0 rfl (o_pickF ?_)
                refine q0 rfl (o_assign ?_)
                refine rg_nil ?_
                exact go_state (fun w hs => (hs.less (by simp +contextual))) (hK _ ⟨(by first | rfl | ((conv => lhs; whnf); first | (simp_all [exR, exU, varT0, T.kids, T.kind, ex_formed, h18, hl18]; done) | (simp_all [exR, exU, varT0, T.kids, T.kind, ex_formed, h18, hl18]; omega))), trivial⟩)
            · have g58 : (decide (((varT0).kind) = 1)) = false := hg58
              try simp only [sC, bne_iff_ne, beq_iff_eq, ne_eq] at g58
              refine qF rfl rfl rfl ?_
              refine qF rfl rfl rfl ?_
              refine q0 rfl (o_pickF ?_)
              refine q0 rfl (o_move ?_)
              refine qF rfl rfl rfl ?_
              refine qF rfl rfl rfl ?_
              refine q0 rfl (o_pickF ?_)
              refine q0 rfl (o_move ?_)
              refine qF rfl rfl rfl ?_
              refine qF rfl rfl rfl ?_
              refine qF rfl rfl rfl ?_
              refine qF rfl rfl rfl ?_
              refine q0 rfl (o_pickF ?_)
              refine q0 rfl (o_move ?_)
              refine qF rfl rfl rfl ?_
              refine qF rfl rfl rfl ?_
              refine qF rfl rfl rfl ?_
              refine qF rfl rfl rfl ?_
              refine qF rfl rfl rfl ?_
              refine qF rfl rfl rfl ?_
              refine q0 rfl (o_pickF ?_)
              refine q0 rfl (o_assign ?_)
              refine rg_nil ?_
              exact go_state (fun w hs => (hs.less (by simp +contextual))) (hK _ ⟨(by first | rfl | ((conv => lhs; whnf); first | (simp_all [exR, exU, varT0, T.kids, T.kind, ex_formed, h18, hl18]; done) | (simp_all [exR, exU, varT0, T.kids, T.kind, ex_formed, h18, hl18]; omega))), trivial⟩)
          · have g52 : (decide (0 = 0)) = false := hg52
            try simp only [sC, bne_iff_ne, beq_iff_eq, ne_eq] at g52
            refine qF rfl rfl rfl ?_
            refine qF rfl rfl rfl ?_
            refine qF rfl rfl rfl ?_
            refine q0 rfl (o_pickF ?_)
            refine q0 rfl (o_move ?_)
            refine qF rfl rfl rfl ?_
            refine qF rfl rfl rfl ?_
            refine qF rfl rfl rfl ?_
            refine q0 rfl (o_pickF ?_)
            refine q0 rfl (o_move ?_)
            refine qF rfl rfl rfl ?_
            refine qF rfl rfl rfl ?_
            refine q0 rfl (o_pickF ?_)
            refine q0 rfl (o_move ?_)
            refine qF rfl rfl rfl ?_
            refine qF rfl rfl rfl ?_
            refine qF rfl rfl rfl ?_
            refine qF rfl rfl rfl ?_
            refine q0 rfl (o_pickF ?_)
            refine q0 rfl (o_move ?_)
            refine qF rfl rfl rfl ?_
            refine qF rfl rfl rfl ?_
            refine qF rfl rfl rfl ?_
            refine qF rfl rfl rfl ?_
            refine qF rfl rfl rfl ?_
            refine qF rfl rfl rfl ?_
            refine q0 rfl (o_pickF ?_)
            refine q0 rfl (o_assign ?_)
            refine rg_nil ?_
            exact go_state (fun w hs => (hs.less (by simp +contextual))) (hK _ ⟨(by first | rfl | ((conv => lhs; whnf); first | (simp_all [exR, exU, varT0, T.kids, T.kind, ex_formed, h18, hl18]; done) | (simp_all [exR, exU, varT0, T.kids, T.kind, ex_formed, h18, hl18]; omega))), trivial⟩)
        · have g48 : ((decide ((((x18.1.2).getD 3 ip0).1) = ([1, 0])))) = false := hg48
          try simp only [sC, bne_iff_ne, beq_iff_eq, ne_eq] at g48
          refine qF rfl rfl rfl ?_
          refine q0 rfl (o_pickF ?_)
          refine q0 rfl (o_move ?_)
          refine qF rfl rfl rfl ?_
          refine qF rfl rfl rfl ?_
          refine qF rfl rfl rfl ?_
          refine qF rfl rfl rfl ?_
          refine q0 rfl (o_pickF ?_)
          refine q0 rfl (o_move ?_)
          refine qF rfl rfl rfl ?_
          refine qF rfl rfl rfl ?_
          refine qF rfl rfl rfl ?_
          refine q0 rfl (o_pickF ?_)
          refine q0 rfl (o_move ?_)
          refine qF rfl rfl rfl ?_
          refine qF rfl rfl rfl ?_
          refine q0 rfl (o_pickF ?_)
          refine q0 rfl (o_move ?_)
          refine qF rfl rfl rfl ?_
          refine qF rfl rfl rfl ?_
          refine qF rfl rfl rfl ?_
          refine qF rfl rfl rfl ?_
          refine q0 rfl (o_pickF ?_)
          refine q0 rfl (o_move ?_)
          refine qF rfl rfl rfl ?_
          refine qF rfl rfl rfl ?_
          refine qF rfl rfl rfl ?_
          refine qF rfl rfl rfl ?_
          refine qF rfl rfl rfl ?_
          refine qF rfl rfl rfl ?_
          refine q0 rfl (o_pickF ?_)
          refine q0 rfl (o_assign ?_)
          refine rg_nil ?_
          exact go_state (fun w hs => (hs.less (by simp +contextual))) (hK _ ⟨(by first | rfl | ((conv => lhs; whnf); first | (simp_all [exR, exU, varT0, T.kids, T.kind, ex_formed, h18, hl18]; done) | (simp_all [exR, exU, varT0, T.kids, T.kind, ex_formed, h18, hl18]; omega))), trivial⟩)
      · have g41 : (decide (((x18.1.2).length : Int) = 4)) = false := hg41
        try simp only [sC, bne_iff_ne, beq_iff_eq, ne_eq] at g41
        refine qF rfl rfl rfl ?_
        refine qF rfl rfl rfl ?_
        refine qF rfl rfl rfl ?_
        refine qF rfl rfl rfl ?_
        refine q0 rfl (o_pickF ?_)
        refine q0 rfl (o_move ?_)
        refine qF rfl rfl rfl ?_
        refine qF rfl rfl rfl ?_
        refine q0 rfl (o_pickF ?_)
        refine q0 rfl (o_move ?_)
        refine qF rfl rfl rfl ?_
        refine qF rfl rfl rfl ?_
        refine qF rfl rfl rfl ?_
        refine qF rfl rfl rfl ?_
        refine q0 rfl (o_pickF ?_)
        refine q0 rfl (o_move ?_)
        refine qF rfl rfl rfl ?_
        refine qF rfl rfl rfl ?_
        refine qF rfl rfl rfl ?_
        refine q0 rfl (o_pickF ?_)
        refine q0 rfl (o_move ?_)
        refine qF rfl rfl rfl ?_
        refine qF rfl rfl rfl ?_
        refine q0 rfl (o_pickF ?_)
        refine q0 rfl (o_move ?_)
        refine qF rfl rfl rfl ?_
        refine qF rfl rfl rfl ?_
        refine qF rfl rfl rfl ?_
        refine qF rfl rfl rfl ?_
        refine q0 rfl (o_pickF ?_)
        refine q0 rfl (o_move ?_)
        refine qF rfl rfl rfl ?_
        refine qF rfl rfl rfl ?_
        refine qF rfl rfl rfl ?_
        refine qF rfl rfl rfl ?_
        refine qF rfl rfl rfl ?_
        refine qF rfl rfl rfl ?_
        refine q0 rfl (o_pickF ?_)
        refine q0 rfl (o_assign ?_)
        refine rg_nil ?_
        exact hK _ ⟨(by first | rfl | ((conv => lhs; whnf); first | (simp_all [exR, exU, varT0, T.kids, T.kind, ex_formed, h18, hl18]; done) | (simp_all [exR, exU, varT0, T.kids, T.kind, ex_formed, h18, hl18]; omega))), trivial⟩
    · have g36 : (decide ((formedP exT) = 0)) = false := hg36
      try simp only [sC, bne_iff_ne, beq_iff_eq, ne_eq] at g36
      refine qF rfl rfl rfl ?_
      refine qF rfl rfl rfl ?_
      refine q0 rfl (o_pickF ?_)
      refine q0 rfl (o_move ?_)
      refine qF rfl rfl rfl ?_
      refine qF rfl rfl rfl ?_
      refine qF rfl rfl rfl ?_
      refine qF rfl rfl rfl ?_
      refine qF rfl rfl rfl ?_
      refine q0 rfl (o_pickF ?_)
      refine q0 rfl (o_move ?_)
      refine qF rfl rfl rfl ?_
      refine qF rfl rfl rfl ?_
      refine q0 rfl (o_pickF ?_)
      refine q0 rfl (o_move ?_)
      refine qF rfl rfl rfl ?_
      refine qF rfl rfl rfl ?_
      refine qF rfl rfl rfl ?_
      refine qF rfl rfl rfl ?_
      refine q0 rfl (o_pickF ?_)
      refine q0 rfl (o_move ?_)
      refine qF rfl rfl rfl ?_
      refine qF rfl rfl rfl ?_
      refine qF rfl rfl rfl ?_
      refine q0 rfl (o_pickF ?_)
      refine q0 rfl (o_move ?_)
      refine qF rfl rfl rfl ?_
      refine qF rfl rfl rfl ?_
      refine q0 rfl (o_pickF ?_)
      refine q0 rfl (o_move ?_)
      refine qF rfl rfl rfl ?_
      refine qF rfl rfl rfl ?_
      refine qF rfl rfl rfl ?_
      refine qF rfl rfl rfl ?_
      refine q0 rfl (o_pickF ?_)
      refine q0 rfl (o_move ?_)
      refine qF rfl rfl rfl ?_
      refine qF rfl rfl rfl ?_
      refine qF rfl rfl rfl ?_
      refine qF rfl rfl rfl ?_
      refine qF rfl rfl rfl ?_
      refine qF rfl rfl rfl ?_
      refine q0 rfl (o_pickF ?_)
      refine q0 rfl (o_assign ?_)
      refine rg_nil ?_
      exact hK _ ⟨(by first | rfl | ((conv => lhs; whnf); first | (simp_all [exR, exU, varT0, T.kids, T.kind, ex_formed, h18, hl18]; done) | (simp_all [exR, exU, varT0, T.kids, T.kind, ex_formed, h18, hl18]; omega))), trivial⟩
  · refine ret1 Tryz.func15 Tryz.results15 wn_ () (by first | rfl | (simp_all; done)) (fun w hs => hs.none)
end Go.Hy
namespace Go.Hy
set_option linter.unusedVariables false
set_option linter.unusedSimpArgs false
set_option linter.unusedSectionVars false
open Go.Proofs
set_option linter.unusedVariables false
set_option linter.unusedSimpArgs false
set_option maxRecDepth 100000
abbrev RsetO (p : List Int) : Prop := ∀ (a_p : SH) (t : T) (vr vk vs : SH) (u : T) (ur uk us : SH), formedP t = 0 → 0 < u.kind → Spec Tryz.prog 47 #[.agg (tc t vr vk vs).toArray, sl a_p p.length, .agg (tc u ur uk us).toArray] [RT t vr vk vs, IL p a_p, RT u ur uk us] [] (fun x : SH × SH × SH => .agg (tc (setR t p u) x.1 x.2.1 x.2.2).toArray) (fun x => [RT (setR t p u) x.1 x.2.1 x.2.2]) (fun _ => [])
set_option maxHeartbeats 4000000 in
theorem rset_walk (t : T) (vr_t vk_t vs_t : SH) (p : List Int) (a_p : SH) (u : T) (vr_u vk_u vs_u : SH) (ih : 0 < p.length → RsetO (p.drop 1)) (hf : formedP t = 0) (huk : 0 < u.kind) : Spec Tryz.prog 47 #[.agg (tc t vr_t vk_t vs_t).toArray, sl a_p (p.length), .agg (tc u vr_u vk_u vs_u).toArray] [RT t vr_t vk_t vs_t, IL p a_p, RT u vr_u vk_u vs_u] [] (fun x : SH × SH × SH => .agg (tc (setR t p u) x.1 x.2.1 x.2.2).toArray) (fun x : SH × SH × SH => [RT (setR t p u) x.1 x.2.1 x.2.2]) (fun x : SH × SH × SH => []) := by
  refine spec_go (args := [.agg (tc t vr_t vk_t vs_t).toArray, sl a_p (p.length), .agg (tc u vr_u vk_u vs_u).toArray]) Tryz.func47 Tryz.ntmps47 rfl (by exact Nat.le_of_ble_eq_true rfl) fun B hB => ?_
  refine go_open (t := t) (vr := vr_t) (vk := vk_t) (vs := vs_t) (fun hk1 hn1 hm1 => ?_)
  refine go_openCL (l := (t).r) (a := vr_t) (fun hl2 hA2 hU2 => ?_)
  refine go_openTL (ts := (t).kids) (a := vk_t) (fun VR3 VK3 VS3 hl3 hA3 => ?_)
  refine go_openBL (bs := (t).sys) (a := vs_t) (fun VF4 VK4 hl4 hA4 => ?_)
  refine go_openIL (l := p) (a := a_p) (fun hl5 hA5 hU5 => ?_)
  refine go_know (p := okT t) (fun w hs => ok_of (hs.facts (RT t vr_t vk_t vs_t) (by simp))) (fun hokt => ?_)
  have hpz := formed_size hf
  have hpn := parts_len t
  have hp0 : t.kids.length ≤ (parts t).length := sys_le (t := t) (Nat.zero_le _)
  refine go_seq ?_
  refine go_region ⟨_, Tryz.func47⟩ rfl ?_
  refine q0 rfl (o_box fun b3 => ?_)
  refine q0 rfl (o_box fun b5 => ?_)
  refine q0 rfl (o_new fun b6 => ?_)
  refine rg_nil ?_
  refine go_seq ?_
  refine go_seq ?_
  refine go_region ⟨_, Tryz.func47⟩ rfl ?_
  refine q0 rfl (o_move ?_)
  refine q0 rfl (o_len ?_)
  refine q0 rfl (o_eqI ?_)
  refine rg_nil ?_
  refine go_condI (fun h14 => ?_) (fun h14 => ?_)
  · have c14 : (decide ((p.length : Int) = 0)) = true := h14
    try simp only [sC, bne_iff_ne, beq_iff_eq, ne_eq] at c14
    have hgr : setR t p u = u := setR_nil (by omega)
    refine go_seq ?_
    refine go_region ⟨_, Tryz.func47⟩ rfl ?_
    refine q0 rfl (o_lds ?_)
    refine q0 rfl (o_st ?_)
    refine rg_nil ?_
    refine retC Tryz.func47 Tryz.results47 (vr_u, vk_u, vs_u) rfl mf_ rfl rfl rfl (by rw [hgr]; rfl) (fun w hs => by rw [hgr]; exact hs.bare.less (by simp))
  · have c14 : (decide ((p.length : Int) = 0)) = false := h14
    try simp only [sC, bne_iff_ne, beq_iff_eq, ne_eq] at c14
    have hpp : 0 < p.length := by omega
    refine go_skip ?_
    refine go_seq ?_
    refine go_region ⟨_, Tryz.func47⟩ rfl ?_
    refine q0 rfl (o_lds ?_)
    refine q0 rfl (o_call Tryz.call16 (rcopyO t vr_t vk_t vs_t) (fun x17 => ?_))
    refine q0 rfl (o_new fun b7 => ?_)
    refine q0 rfl (o_st ?_)
    refine rg_nil ?_
    refine go_seq ?_
    refine go_region ⟨_, Tryz.func47⟩ rfl ?_
    refine q0 rfl (o_assign ?_)
    refine rg_nil ?_
    refine go_seq ?_
    refine go_seq ?_
    refine go_region ⟨_, Tryz.func47⟩ rfl ?_
    refine q0 rfl (o_assign ?_)
    refine rg_nil ?_
    refine go_block ?_
    refine go_loopE (X := Nat) (fun s_ => s_ ≤ t.kids.length ∧ ∀ j : Nat, j < s_ → p.getD 0 0 ≠ (j : Int)) (fun s_ => [(1, sl a_p (p.length)), (3, .pointer (some ⟨b3, 0, none⟩)), (5, .pointer (some ⟨b5, 0, none⟩)), (6, .pointer (some ⟨b6, 0, none⟩)), (7, .pointer (some ⟨b7, 0, none⟩)), (8, .int .i64 ((s_ : Int))), (9, .int .i64 ((s_ : Int)))]) (fun s_ G_ => G_) (fun s_ => [boxR b7 (tc t x17.1.vr x17.1.vk x17.1.vs) 26, bigR (treeR tys x17.1), boxR b6 [.int .i64 (0), .int .i64 (0), .string ((ByteArray.mk #[])), sl (none, 0) (0), sl (none, 0) (0), sl (none, 0) (0)] 26, boxR b5 (tc u vr_u vk_u vs_u) 26, boxR b3 (tc t vr_t vk_t vs_t) 26]) (fun s_ => t.kids.length - s_) (0) (⟨by omega, fun j hj => by omega⟩) (by exact ⟨rfl, rfl, rfl, rfl, rfl, rfl, rfl, trivial⟩) ?_ ?_
    · exact fun w hs => hs
    · intro i base0 ⟨hi, hno⟩ next0
      refine go_seq ?_
      refine go_seq ?_
      refine go_region ⟨_, Tryz.func47⟩ rfl ?_
      refine q0 rfl (o_move ?_)
      refine q0 rfl (o_fa ?_)
      refine q0 rfl (o_ld ?_)
      refine q0 rfl (o_len ?_)
      refine q0 rfl (o_lss ?_)
      refine rg_nil ?_
      refine go_condI (fun h22 => ?_) (fun h22 => ?_)
      · have c22 : (decide ((i : Int) < ((t).kids.length : Int))) = true := h22
        try simp only [sC, bne_iff_ne, beq_iff_eq, ne_eq] at c22
        refine go_skip ?_
        refine go_seq ?_
        refine go_block ?_
        refine go_seq ?_
        refine go_seq ?_
        refine go_region ⟨_, Tryz.func47⟩ rfl ?_
        refine q0 rfl (o_move ?_)
        refine q0 rfl (o_move ?_)
        obtain ⟨bk6, o6, hav6⟩ := hA5 (by (first | omega | assumption))
        refine q0 rfl (o_ixN ?_ (j := 0))
        refine q0 rfl (o_ldI ?_ (ls := p) (i' := 0))
        refine q0 rfl (o_eqI ?_)
        refine rg_nil ?_
        refine go_condI (fun h29 => ?_) (fun h29 => ?_)
        · have c29 : (decide ((i : Int) = (p.getD 0 0))) = true := h29
          try simp only [sC, bne_iff_ne, beq_iff_eq, ne_eq] at c29
          have hm : p.getD 0 0 = ((i : Nat) : Int) := by omega
          have hqm := parts_kid t i (by omega)
          have hfk := formed_part hf (List.mem_of_getElem? hqm)
          have hkk := formed_kind hfk
          have hga := setR_at hpp hm hqm hkk huk
          refine go_state (fun w hs => hs.dropIL (l := p) (a := a_p) 1 mf_ (by omega)) ?_
          have hih := fun vr vk vs => ih hpp (dropSH a_p 1 1) ((t).kids.getD i t0) vr vk vs u vr_u vk_u vs_u hfk huk
          simp only [show (p.drop 1).length = p.length - 1 by simp] at hih
          have hkl9 : x17.1.kids.length = t.kids.length := er_kids x17.2
          refine go_state (fun w hs => St.openKids tys hB x17.2 hokt ((((((hs.perm perm4).perm perm4).perm perm4).perm perm3).perm perm4))) ?_
          refine go_ms (Ms' := [rowS 6 26 x17.1.vk ((t).kids.length) (tpFlat (x17.1.kids.map HT.tp)), boxR b7 [.int .i64 ((t).kind), .int .i64 ((t).n), .string ((t).name), sl x17.1.vr ((t).r.length), sl x17.1.vk ((t).kids.length), sl x17.1.vs ((t).sys.length)] 26, boxR b6 [.int .i64 (0), .int .i64 (0), .string ((ByteArray.mk #[])), sl (none, 0) (0), sl (none, 0) (0), sl (none, 0) (0)] 26, boxR b5 (tc u vr_u vk_u vs_u) 26, boxR b3 (tc t vr_t vk_t vs_t) 26]) (by rfl) ?_
          refine go_seq ?_
          refine go_know (fun w hs => hs.rowAddr (sz := 6) (e := 26) (a := x17.1.vk) (n := ((t).kids.length)) (xs := tpFlat (x17.1.kids.map HT.tp)) mm_ (by (first | omega | assumption))) (fun hav7 => ?_)
          obtain ⟨bk7, hav7⟩ := hav7
          refine go_kid (ts := (t).kids) (a := vk_t) (VR := VR3) (VK := VK3) (VS := VS3) i (by (first | omega | assumption)) ?_
          refine go_draw (tn := false) (A := [0, 1, 0, 0, 8, 0, 56, 120, 0, 256, 0, 2040, 4095, 8191]) (l := [0, 1, 2, 3, 4, 5, 6, 7, 8, 9, 10, 11, 12]) (fin := [13]) Tab.mixed ⟨_, Tryz.func47⟩ (by rfl) ?_
          refine n0 rfl (v_fa ?_)
          refine n0 rfl (v_ld ?_)
          refine n0 rfl (v_move ?_)
          refine n0 rfl (v_fa ?_)
          refine n0 rfl (v_ld ?_)
          refine n0 rfl (v_move ?_)
          obtain ⟨bk8, o8, hav8⟩ := hA3 (by (first | omega | assumption))
          refine n0 rfl (v_ixN ?_ (j := i))
          refine n0 rfl (v_ldT ?_)
          refine n0 rfl (v_move ?_)
          refine n0 rfl (v_sliceLo ?_ (k := 1) (a := a_p))
          refine n0 rfl (v_lds ?_)
          refine n0 rfl (v_call Tryz.call47 (hih (VR3 i) (VK3 i) (VS3 i)) (fun x41 => ?_))
          refine n0 rfl (v_ixN ?_ (j := i))
          refine NV.done ?_
          refine q0 rfl (o_sreT ((setR (((t).kids).getD i t0) (p.drop 1) u), x41.1, x41.2.1, x41.2.2) ?_ (ls := (x17.1.kids.map HT.tp)) (i' := i))
          refine rg_nil ?_
          have hge : ((x17.1.kids.map HT.tp).set i ((setR ((t).kids.getD i t0) (p.drop 1) u), x41.1, x41.2.1, x41.2.2)).getD i tp0 = ((setR ((t).kids.getD i t0) (p.drop 1) u), x41.1, x41.2.1, x41.2.2) := getD_set_eq (by rw [List.length_map, er_kids x17.2]; omega)
          refine go_seq ?_
          refine go_seq ?_
          refine go_region ⟨_, Tryz.func47⟩ rfl ?_
          refine q0 rfl (o_fa ?_)
          refine q0 rfl (o_ld ?_)
          refine q0 rfl (o_move ?_)
          refine q0 rfl (o_ixN ?_ (j := i))
          refine q0 rfl (o_fa ?_)
          refine q0 rfl (o_ldRTf ?_)
          rw [hge]
          refine q0 rfl (o_lss ?_)
          refine rg_nil ?_
          refine go_condI (fun h49 => ?_) (fun h49 => ?_)
          · have c49 : (decide ((((setR ((t).kids.getD i t0) (p.drop 1) u)).kind) < 0)) = true := h49
            try simp only [sC, bne_iff_ne, beq_iff_eq, ne_eq] at c49
            refine go_seq ?_
            refine go_region ⟨_, Tryz.func47⟩ rfl ?_
            refine q0 rfl (o_fa ?_)
            refine q0 rfl (o_ld ?_)
            refine q0 rfl (o_move ?_)
            refine q0 rfl (o_ixN ?_ (j := i))
            refine q0 rfl (o_ldRT ?_)
            rw [hge]
            refine q0 rfl (o_st ?_)
            refine rg_nil ?_
            have hgr : setR t p u = (setR ((t).kids.getD i t0) (p.drop 1) u) := by rw [hga]; exact if_pos (by simpa using h49)
            refine retC Tryz.func47 Tryz.results47 (x41.1, x41.2.1, x41.2.2) rfl mf_ rfl rfl rfl (by rw [hgr]; rfl) (fun w hs => by rw [hgr]; exact hs.bare.less (by simp))
          · have c49 : (decide ((((setR ((t).kids.getD i t0) (p.drop 1) u)).kind) < 0)) = false := h49
            try simp only [sC, bne_iff_ne, beq_iff_eq, ne_eq] at c49
            refine go_skip ?_
            refine go_seq ?_
            refine go_region ⟨_, Tryz.func47⟩ rfl ?_
            refine q0 rfl (o_lds ?_)
            refine q0 rfl (o_st ?_)
            refine rg_nil ?_
            have hgr : setR t p u = putPart t i (setR ((t).kids.getD i t0) (p.drop 1) u) := by rw [hga]; exact if_neg (by simpa using h49)
            refine retC Tryz.func47 Tryz.results47 (x17.1.vr, x17.1.vk, x17.1.vs) rfl mf_ rfl rfl rfl (by rw [hgr, putPart_kids (show i < t.kids.length by omega)]; simp [tc, T.kind, T.n, T.name, T.r, T.kids, T.sys]) (fun w hs => by rw [hgr]; exact ((St.closeKids hB x17.2 hokt (show i < t.kids.length by omega) ((((((hs.perm perm4).perm perm4).perm perm4).perm perm3).perm perm4)) mf_ mf_ mf_ mf_).bare.less (by simp)))
        · have c29 : (decide ((i : Int) = (p.getD 0 0))) = false := h29
          try simp only [sC, bne_iff_ne, beq_iff_eq, ne_eq] at c29
          refine go_skip ?_
          refine go_region ⟨_, Tryz.func47⟩ rfl ?_
          refine q0 rfl (o_move ?_)
          refine q0 rfl (o_add ?_)
          refine q0 rfl (o_assign ?_)
          refine rg_nil ?_
          refine go_inBlock ?_
          refine go_region ⟨_, Tryz.func47⟩ rfl ?_
          refine q0 rfl (o_move ?_)
          refine q0 rfl (o_add ?_)
          refine q0 rfl (o_assign ?_)
          refine rg_nil ?_
          refine go_state (fun w hs => ?_) (next0 (i + 1) _ (⟨by omega, fun j hj => by rcases Nat.lt_succ_iff_lt_or_eq.mp hj with h | h; exact hno j h; subst h; exact fun e => c29 e.symm⟩) (by omega) ⟨rfl, rfl, rfl, rfl, rfl, rfl, rfl, trivial⟩)
          exact ((((((hs.less (by simp +contextual)).perm perm4).perm perm4).perm perm4).perm perm4).perm perm4)
      · have c22 : (decide ((i : Int) < ((t).kids.length : Int))) = false := h22
        try simp only [sC, bne_iff_ne, beq_iff_eq, ne_eq] at c22
        have hei : i = t.kids.length := by omega
        refine go_exit rfl ?_
        refine go_seq ?_
        refine go_seq ?_
        refine go_region ⟨_, Tryz.func47⟩ rfl ?_
        refine q0 rfl (o_assign ?_)
        refine rg_nil ?_
        refine go_block ?_
        refine go_loopE (X := Nat) (fun s_ => s_ ≤ t.sys.length ∧ ∀ j : Nat, j < t.kids.length + sysBefore s_ t.sys → p.getD 0 0 ≠ (j : Int)) (fun s_ => [(1, sl a_p (p.length)), (3, .pointer (some ⟨b3, 0, none⟩)), (5, .pointer (some ⟨b5, 0, none⟩)), (6, .pointer (some ⟨b6, 0, none⟩)), (7, .pointer (some ⟨b7, 0, none⟩)), (8, .int .i64 (((t.kids.length + sysBefore s_ t.sys : Nat) : Int))), (10, .int .i64 ((s_ : Int)))]) (fun s_ G_ => G_) (fun s_ => [boxR b7 (tc t x17.1.vr x17.1.vk x17.1.vs) 26, bigR (treeR tys x17.1), boxR b6 [.int .i64 (0), .int .i64 (0), .string ((ByteArray.mk #[])), sl (none, 0) (0), sl (none, 0) (0), sl (none, 0) (0)] 26, boxR b5 (tc u vr_u vk_u vs_u) 26, boxR b3 (tc t vr_t vk_t vs_t) 26]) (fun s_ => t.sys.length - s_) (0) (⟨by omega, fun j hj => hno j (by simp only [sysBefore] at hj; omega)⟩) (by exact ⟨rfl, rfl, rfl, rfl, rfl, (by (conv => lhs; whnf); rw [hei]; rfl), rfl, trivial⟩) ?_ ?_
        · exact fun w hs => hs
        · intro s base1 ⟨hs1, hno2⟩ next1
          refine go_seq ?_
          refine go_seq ?_
          refine go_region ⟨_, Tryz.func47⟩ rfl ?_
          refine q0 rfl (o_move ?_)
          refine q0 rfl (o_fa ?_)
          refine q0 rfl (o_ld ?_)
          refine q0 rfl (o_len ?_)
          refine q0 rfl (o_lss ?_)
          refine rg_nil ?_
          refine go_condI (fun h62 => ?_) (fun h62 => ?_)
          · have c62 : (decide ((s : Int) < ((t).sys.length : Int))) = true := h62
            try simp only [sC, bne_iff_ne, beq_iff_eq, ne_eq] at c62
            have hp1 := sys_le (t := t) (s := s + 1) (by omega)
            rw [sysBefore_succ s t.sys (by omega)] at hp1
            refine go_skip ?_
            refine go_seq ?_
            refine go_block ?_
            refine go_seq ?_
            refine go_region ⟨_, Tryz.func47⟩ rfl ?_
            refine q0 rfl (o_assign ?_)
            refine rg_nil ?_
            refine go_block ?_
            refine go_loopE (X := Nat) (fun s_ => s_ ≤ ((t).sys.getD s br0).kids.length ∧ ∀ j : Nat, j < t.kids.length + sysBefore s t.sys + s_ → p.getD 0 0 ≠ (j : Int)) (fun s_ => [(1, sl a_p (p.length)), (3, .pointer (some ⟨b3, 0, none⟩)), (5, .pointer (some ⟨b5, 0, none⟩)), (6, .pointer (some ⟨b6, 0, none⟩)), (7, .pointer (some ⟨b7, 0, none⟩)), (8, .int .i64 (((t.kids.length + sysBefore s t.sys + s_ : Nat) : Int))), (10, .int .i64 ((s : Int))), (11, .int .i64 ((s_ : Int)))]) (fun s_ G_ => G_) (fun s_ => [boxR b7 (tc t x17.1.vr x17.1.vk x17.1.vs) 26, bigR (treeR tys x17.1), boxR b6 [.int .i64 (0), .int .i64 (0), .string ((ByteArray.mk #[])), sl (none, 0) (0), sl (none, 0) (0), sl (none, 0) (0)] 26, boxR b5 (tc u vr_u vk_u vs_u) 26, boxR b3 (tc t vr_t vk_t vs_t) 26]) (fun s_ => ((t).sys.getD s br0).kids.length - s_) (0) (⟨by omega, hno2⟩) (by exact ⟨rfl, rfl, rfl, rfl, rfl, rfl, rfl, rfl, trivial⟩) ?_ ?_
            · exact fun w hs => hs
            · intro k base2 ⟨hk1, hno3⟩ next2
              refine go_seq ?_
              refine go_seq ?_
              refine go_branch (bs := (t).sys) (a := vs_t) (VF := VF4) (VK := VK4) s (by (first | omega | assumption)) ?_
              refine go_openCL (l := (((t).sys).getD s br0).face) (a := VF4 s) (fun hl9 hA9 hU9 => ?_)
              refine go_openTL (ts := (((t).sys).getD s br0).kids) (a := VK4 s) (fun VR10 VK10 VS10 hl10 hA10 => ?_)
              refine go_region ⟨_, Tryz.func47⟩ rfl ?_
              refine q0 rfl (o_move ?_)
              refine q0 rfl (o_fa ?_)
              refine q0 rfl (o_ld ?_)
              refine q0 rfl (o_move ?_)
              obtain ⟨bk11, o11, hav11⟩ := hA4 (by (first | omega | assumption))
              refine q0 rfl (o_ixN ?_ (j := s))
              refine q0 rfl (o_fa ?_)
              refine q0 rfl (o_ldBf ?_)
              refine q0 rfl (o_len ?_)
              refine q0 rfl (o_lss ?_)
              refine rg_nil ?_
              refine go_condI (fun h73 => ?_) (fun h73 => ?_)
              · have c73 : (decide ((k : Int) < ((((t).sys).getD s br0).kids.length : Int))) = true := h73
                try simp only [sC, bne_iff_ne, beq_iff_eq, ne_eq] at c73
                refine go_skip ?_
                refine go_seq ?_
                refine go_block ?_
                refine go_seq ?_
                refine go_seq ?_
                refine go_region ⟨_, Tryz.func47⟩ rfl ?_
                refine q0 rfl (o_move ?_)
                refine q0 rfl (o_move ?_)
                obtain ⟨bk12, o12, hav12⟩ := hA5 (by (first | omega | assumption))
                refine q0 rfl (o_ixN ?_ (j := 0))
                refine q0 rfl (o_ldI ?_ (ls := p) (i' := 0))
                refine q0 rfl (o_eqI ?_)
                refine rg_nil ?_
                refine go_condI (fun h80 => ?_) (fun h80 => ?_)
                · have c80 : (decide (((t.kids.length + sysBefore s t.sys + k : Nat) : Int) = (p.getD 0 0))) = true := h80
                  try simp only [sC, bne_iff_ne, beq_iff_eq, ne_eq] at c80
                  have hm : p.getD 0 0 = ((t.kids.length + sysBefore s t.sys + k : Nat) : Int) := by omega
                  have hqm := parts_sys t s k (by omega) (by omega)
                  have hfk := formed_part hf (List.mem_of_getElem? hqm)
                  have hkk := formed_kind hfk
                  have hga := setR_at hpp hm hqm hkk huk
                  refine go_state (fun w hs => hs.dropIL (l := p) (a := a_p) 1 mf_ (by omega)) ?_
                  have hih := fun vr vk vs => ih hpp (dropSH a_p 1 1) (((t).sys.getD s br0).kids.getD k t0) vr vk vs u vr_u vk_u vs_u hfk huk
                  simp only [show (p.drop 1).length = p.length - 1 by simp] at hih
                  obtain ⟨f3, vf3, ks3, vk3, hbe⟩ : ∃ f vf ks2 vk2, x17.1.sys.getD s hb0 = .mk f vf ks2 vk2 := by cases x17.1.sys.getD s hb0; exact ⟨_, _, _, _, rfl⟩
                  have hsl : x17.1.sys.length = t.sys.length := er_sys x17.2
                  have hbr := er_branch x17.2 (show s < x17.1.sys.length by omega) hbe
                  have hk3 : ks3.length = ((t).sys.getD s br0).kids.length := by rw [hbr]; simp [Br.kids]
                  refine go_state (fun w hs => St.openBr tys hB x17.2 hokt (show s < x17.1.sys.length by omega) hbe ((((((hs.perm perm4).perm perm4).perm perm4).perm perm3).perm perm4))) ?_
                  refine go_ms (Ms' := [rowS 2 71 x17.1.vs ((t).sys.length) (bpFlat (x17.1.sys.map HB.bp)), rowS 6 26 vk3 (ks3.length) (tpFlat (ks3.map HT.tp)), boxR b7 [.int .i64 ((t).kind), .int .i64 ((t).n), .string ((t).name), sl x17.1.vr ((t).r.length), sl x17.1.vk ((t).kids.length), sl x17.1.vs ((t).sys.length)] 26, boxR b6 [.int .i64 (0), .int .i64 (0), .string ((ByteArray.mk #[])), sl (none, 0) (0), sl (none, 0) (0), sl (none, 0) (0)] 26, boxR b5 (tc u vr_u vk_u vs_u) 26, boxR b3 (tc t vr_t vk_t vs_t) 26]) (by rfl) ?_
                  have hc1 : (bpCells ((x17.1.sys.map HB.bp).getD s bp0))[1]? = some (sl vk3 ks3.length) := by rw [getD_map (d := hb0) (show s < x17.1.sys.length by omega), hbe]; simp [HB.bp, HB.er, HB.vf, HB.vk, HT.erL_eq, bpCells, bc, Br.kids, Br.face]
                  refine go_seq ?_
                  refine go_know (fun w hs => hs.rowAddr (sz := 2) (e := 71) (a := x17.1.vs) (n := ((t).sys.length)) (xs := bpFlat (x17.1.sys.map HB.bp)) mm_ (by (first | omega | assumption))) (fun hav13 => ?_)
                  obtain ⟨bk13, hav13⟩ := hav13
                  refine go_know (fun w hs => hs.rowAddr (sz := 6) (e := 26) (a := vk3) (n := ks3.length) (xs := tpFlat (ks3.map HT.tp)) mm_ (by (first | omega | assumption))) (fun hav14 => ?_)
                  obtain ⟨bk14, hav14⟩ := hav14
                  refine go_kid (ts := (((t).sys).getD s br0).kids) (a := VK4 s) (VR := VR10) (VK := VK10) (VS := VS10) k (by (first | omega | assumption)) ?_
                  refine go_draw (tn := false) (A := [0, 1, 0, 7, 15, 31, 0, 0, 128, 0, 896, 1920, 3968, 0, 16256, 32640, 0, 65536, 0, 524160, 1048575, 2097151]) (l := [0, 1, 2, 3, 4, 5, 6, 7, 8, 9, 10, 11, 12, 13, 14, 15, 16, 17, 18, 19, 20]) (fin := [21]) Tab.mixed ⟨_, Tryz.func47⟩ (by decide +kernel) ?_
                  refine n0 rfl (v_fa ?_)
                  refine n0 rfl (v_ld ?_)
                  refine n0 rfl (v_move ?_)
                  refine n0 rfl (v_ixN ?_ (j := s))
                  refine n0 rfl (v_fa ?_)
                  refine n0 rfl (v_ldRBf ?_ (hk := hc1))
                  refine n0 rfl (v_move ?_)
                  refine n0 rfl (v_fa ?_)
                  refine n0 rfl (v_ld ?_)
                  refine n0 rfl (v_move ?_)
                  refine n0 rfl (v_ixN ?_ (j := s))
                  refine n0 rfl (v_fa ?_)
                  refine n0 rfl (v_ldBf ?_)
                  refine n0 rfl (v_move ?_)
                  obtain ⟨bk15, o15, hav15⟩ := hA10 (by (first | omega | assumption))
                  refine n0 rfl (v_ixN ?_ (j := k))
                  refine n0 rfl (v_ldT ?_)
                  refine n0 rfl (v_move ?_)
                  refine n0 rfl (v_sliceLo ?_ (k := 1) (a := a_p))
                  refine n0 rfl (v_lds ?_)
                  refine n0 rfl (v_call Tryz.call47 (hih (VR10 k) (VK10 k) (VS10 k)) (fun x100 => ?_))
                  refine n0 rfl (v_ixN ?_ (j := k))
                  refine NV.done ?_
                  refine q0 rfl (o_sreT ((setR (((((t).sys).getD s br0).kids).getD k t0) (p.drop 1) u), x100.1, x100.2.1, x100.2.2) ?_ (ls := (ks3.map HT.tp)) (i' := k))
                  refine rg_nil ?_
                  have hge : ((ks3.map HT.tp).set k ((setR (((t).sys.getD s br0).kids.getD k t0) (p.drop 1) u), x100.1, x100.2.1, x100.2.2)).getD k tp0 = ((setR (((t).sys.getD s br0).kids.getD k t0) (p.drop 1) u), x100.1, x100.2.1, x100.2.2) := getD_set_eq (by rw [List.length_map]; omega)
                  refine go_seq ?_
                  refine go_seq ?_
                  refine go_region ⟨_, Tryz.func47⟩ rfl ?_
                  refine q0 rfl (o_fa ?_)
                  refine q0 rfl (o_ld ?_)
                  refine q0 rfl (o_move ?_)
                  refine q0 rfl (o_ixN ?_ (j := s))
                  refine q0 rfl (o_fa ?_)
                  refine q0 rfl (o_ldRBf ?_ (hk := hc1))
                  refine q0 rfl (o_move ?_)
                  refine q0 rfl (o_ixN ?_ (j := k))
                  refine q0 rfl (o_fa ?_)
                  refine q0 rfl (o_ldRTf ?_)
                  rw [hge]
                  refine q0 rfl (o_lss ?_)
                  refine rg_nil ?_
                  refine go_condI (fun h112 => ?_) (fun h112 => ?_)
                  · have c112 : (decide ((((setR (((t).sys.getD s br0).kids.getD k t0) (p.drop 1) u)).kind) < 0)) = true := h112
                    try simp only [sC, bne_iff_ne, beq_iff_eq, ne_eq] at c112
                    refine go_seq ?_
                    refine go_region ⟨_, Tryz.func47⟩ rfl ?_
                    refine q0 rfl (o_fa ?_)
                    refine q0 rfl (o_ld ?_)
                    refine q0 rfl (o_move ?_)
                    refine q0 rfl (o_ixN ?_ (j := s))
                    refine q0 rfl (o_fa ?_)
                    refine q0 rfl (o_ldRBf ?_ (hk := hc1))
                    refine q0 rfl (o_move ?_)
                    refine q0 rfl (o_ixN ?_ (j := k))
                    refine q0 rfl (o_ldRT ?_)
                    rw [hge]
                    refine q0 rfl (o_st ?_)
                    refine rg_nil ?_
                    have hgr : setR t p u = (setR (((t).sys.getD s br0).kids.getD k t0) (p.drop 1) u) := by rw [hga]; exact if_pos (by simpa using h112)
                    refine retC Tryz.func47 Tryz.results47 (x100.1, x100.2.1, x100.2.2) rfl mf_ rfl rfl rfl (by rw [hgr]; rfl) (fun w hs => by rw [hgr]; exact hs.bare.less (by simp))
                  · have c112 : (decide ((((setR (((t).sys.getD s br0).kids.getD k t0) (p.drop 1) u)).kind) < 0)) = false := h112
                    try simp only [sC, bne_iff_ne, beq_iff_eq, ne_eq] at c112
                    refine go_skip ?_
                    refine go_seq ?_
                    refine go_region ⟨_, Tryz.func47⟩ rfl ?_
                    refine q0 rfl (o_lds ?_)
                    refine q0 rfl (o_st ?_)
                    refine rg_nil ?_
                    have hgr : setR t p u = putPart t (t.kids.length + sysBefore s t.sys + k) (setR (((t).sys.getD s br0).kids.getD k t0) (p.drop 1) u) := by rw [hga]; exact if_neg (by simpa using h112)
                    refine retC Tryz.func47 Tryz.results47 (x17.1.vr, x17.1.vk, x17.1.vs) rfl mf_ rfl rfl rfl (by rw [hgr, putPart_sys (show ¬ t.kids.length + sysBefore s t.sys + k < t.kids.length by omega)]; simp [tc, T.kind, T.n, T.name, T.r, T.kids, T.sys, setBr_len]) (fun w hs => by rw [hgr]; exact ((St.closeBr hB x17.2 hokt (show s < x17.1.sys.length by omega) hbe (show k < ks3.length by omega) (((((((hs.perm perm5).perm perm5).perm perm5).perm perm3).perm perm5).perm perm5)) mf_ mf_ mf_ mf_ mf_ mf_).bare.less (by simp)))
                · have c80 : (decide (((t.kids.length + sysBefore s t.sys + k : Nat) : Int) = (p.getD 0 0))) = false := h80
                  try simp only [sC, bne_iff_ne, beq_iff_eq, ne_eq] at c80
                  refine go_skip ?_
                  refine go_region ⟨_, Tryz.func47⟩ rfl ?_
                  refine q0 rfl (o_move ?_)
                  refine q0 rfl (o_add ?_)
                  refine q0 rfl (o_assign ?_)
                  refine rg_nil ?_
                  refine go_inBlock ?_
                  refine go_region ⟨_, Tryz.func47⟩ rfl ?_
                  refine q0 rfl (o_move ?_)
                  refine q0 rfl (o_add ?_)
                  refine q0 rfl (o_assign ?_)
                  refine rg_nil ?_
                  refine go_state (fun w hs => ?_) (next2 (k + 1) _ (⟨by omega, fun j hj => by rcases Nat.lt_succ_iff_lt_or_eq.mp (show j < t.kids.length + sysBefore s t.sys + k + 1 from hj) with h | h; exact hno3 j h; subst h; exact fun e => c80 e.symm⟩) (by omega) ⟨rfl, rfl, rfl, rfl, rfl, rfl, rfl, rfl, trivial⟩)
                  exact ((((((hs.less (by simp +contextual)).perm perm4).perm perm4).perm perm4).perm perm4).perm perm4)
              · have c73 : (decide ((k : Int) < ((((t).sys).getD s br0).kids.length : Int))) = false := h73
                try simp only [sC, bne_iff_ne, beq_iff_eq, ne_eq] at c73
                have hek : k = ((t).sys.getD s br0).kids.length := by omega
                refine go_exit rfl ?_
                refine go_inBlock ?_
                refine go_region ⟨_, Tryz.func47⟩ rfl ?_
                refine q0 rfl (o_move ?_)
                refine q0 rfl (o_add ?_)
                refine q0 rfl (o_assign ?_)
                refine rg_nil ?_
                refine go_state (fun w hs => ?_) (next1 (s + 1) _ (⟨by omega, by rw [sysBefore_succ s t.sys (by omega), ← Nat.add_assoc, ← hek]; exact hno3⟩) (by omega) ⟨rfl, rfl, rfl, rfl, rfl, (by (conv => lhs; whnf); rw [hek, Nat.add_assoc, ← sysBefore_succ s t.sys (by omega)]), rfl, trivial⟩)
                exact ((((((hs.less (by simp +contextual)).perm perm4).perm perm4).perm perm4).perm perm4).perm perm4)
          · have c62 : (decide ((s : Int) < ((t).sys.length : Int))) = false := h62
            try simp only [sC, bne_iff_ne, beq_iff_eq, ne_eq] at c62
            have hes : s = t.sys.length := by omega
            have hgr : setR t p u = badT 90 := setR_miss hpp (by rw [parts_length, ← hes]; rcases Int.lt_or_le (p.getD 0 0) 0 with h | h; exact .inl h; exact .inr (by have h9 := hno2 (p.getD 0 0).toNat; omega))
            refine go_exit rfl ?_
            refine go_seq ?_
            refine go_region ⟨_, Tryz.func47⟩ rfl ?_
            refine q0 rfl (o_build (cs := [.int .i64 (-90), .int .i64 (0), .string ((ByteArray.mk #[])), sl (none, 0) (0), sl (none, 0) (0), sl (none, 0) (0)]) ?_)
            refine q0 rfl (o_st ?_)
            refine rg_nil ?_
            refine retC Tryz.func47 Tryz.results47 (nul, nul, nul) rfl mf_ rfl rfl rfl (by rw [hgr]; rfl) (fun w hs => by rw [hgr]; exact ((hs.bare.leaf (-90) 0 ⟨#[]⟩ (by unfold in64; omega) (by unfold in64; omega) (Nat.zero_le _)).less (by simp [badT])))
theorem rsetO : ∀ p : List Int, RsetO p := list_len_ind fun p ih a_p t vr vk vs u ur uk us hf hu => rset_walk t vr vk vs p a_p u ur uk us ih hf hu
theorem rput_spec (t : T) (vr_t vk_t vs_t : SH) (p : List Int) (a_p : SH) (u : T) (vr_u vk_u vs_u : SH) (hz : size t ≤ 400000000) (hzu : size u ≤ 400000000) : Spec Tryz.prog 18 #[.agg (tc t vr_t vk_t vs_t).toArray, sl a_p (p.length), .agg (tc u vr_u vk_u vs_u).toArray] [RT t vr_t vk_t vs_t, IL p a_p, RT u vr_u vk_u vs_u] [] (fun x : SH × SH × SH => .tuple #[.agg (tc (putRes t p u).2 x.1 x.2.1 x.2.2).toArray, .int .i64 (putRes t p u).1]) (fun x : SH × SH × SH => [RT (putRes t p u).2 x.1 x.2.1 x.2.2]) (fun x : SH × SH × SH => []) := by
  refine spec_go (args := [.agg (tc t vr_t vk_t vs_t).toArray, sl a_p (p.length), .agg (tc u vr_u vk_u vs_u).toArray]) Tryz.func18 Tryz.ntmps18 rfl (by exact Nat.le_of_ble_eq_true rfl) fun B hB => ?_
  refine go_openIL (l := p) (a := a_p) (fun hl1 hA1 hU1 => ?_)
  refine go_seq ?_
  refine go_region ⟨_, Tryz.func18⟩ rfl ?_
  refine q0 rfl (o_box fun b3 => ?_)
  refine q0 rfl (o_box fun b5 => ?_)
  refine q0 rfl (o_new fun b6 => ?_)
  refine q0 rfl (o_assign ?_)
  refine rg_nil ?_
  refine go_seq ?_
  refine go_region ⟨_, Tryz.func18⟩ rfl ?_
  refine q0 rfl (o_lds ?_)
  refine q0 rfl (o_call Tryz.call8 (rformed_spec t vr_t vk_t vs_t om_) (fun x11 => ?_))
  refine q0 rfl (o_assign ?_)
  refine rg_nil ?_
  refine go_seq ?_
  refine go_seq ?_
  refine go_region ⟨_, Tryz.func18⟩ rfl ?_
  refine q0 rfl (o_move ?_)
  refine q0 rfl (o_eqI ?_)
  refine rg_nil ?_
  refine go_cutS ([(1, sl a_p (p.length)), (3, .pointer (some ⟨b3, 0, none⟩)), (5, .pointer (some ⟨b5, 0, none⟩)), (6, .pointer (some ⟨b6, 0, none⟩)), (8, .int .i64 ((if formedP t = 0 then formedP u else formedP t)))]) (fun hK => ?_) (fun base => ?_)
  · refine go_condI (fun h13 => ?_) (fun h13 => ?_)
    · have c13 : (decide ((formedP t) = 0)) = true := h13
      try simp only [sC, bne_iff_ne, beq_iff_eq, ne_eq] at c13
      refine go_region ⟨_, Tryz.func18⟩ rfl ?_
      refine q0 rfl (o_lds ?_)
      refine q0 rfl (o_call Tryz.call8 (rformed_spec u vr_u vk_u vs_u om_) (fun x15 => ?_))
      refine q0 rfl (o_assign ?_)
      refine rg_nil ?_
      exact hK _ ⟨rfl, rfl, rfl, rfl, (by (conv => lhs; whnf); first | (rw [if_pos (by simpa using h13)]; done) | (rw [if_neg (by simpa using h13)]; done) | (rw [if_pos (by simpa using h13)]; rfl) | (rw [if_neg (by simpa using h13)]; rfl)), trivial⟩
    · have c13 : (decide ((formedP t) = 0)) = false := h13
      try simp only [sC, bne_iff_ne, beq_iff_eq, ne_eq] at c13
      refine go_skip ?_
      exact hK _ ⟨rfl, rfl, rfl, rfl, (by (conv => lhs; whnf); first | (rw [if_pos (by simpa using h13)]; done) | (rw [if_neg (by simpa using h13)]; done) | (rw [if_pos (by simpa using h13)]; rfl) | (rw [if_neg (by simpa using h13)]; rfl)), trivial⟩
  · refine go_seq ?_
    refine go_seq ?_
    refine go_region ⟨_, Tryz.func18⟩ rfl ?_
    refine q0 rfl (o_move ?_)
    refine q0 rfl (o_neI ?_)
    refine rg_nil ?_
    refine go_condI (fun h17 => ?_) (fun h17 => ?_)
    · have c17 : (decide ((if formedP t = 0 then formedP u else formedP t) ≠ 0)) = true := h17
      try simp only [sC, bne_iff_ne, beq_iff_eq, ne_eq] at c17
      have hgr : putRes t p u = ((if formedP t = 0 then formedP u else formedP t), t0) := put_wrong (by simpa using h17)
      refine go_seq ?_
      refine go_region ⟨_, Tryz.func18⟩ rfl ?_
      refine q0 rfl (o_build (cs := [.int .i64 (0), .int .i64 (0), .string ((ByteArray.mk #[])), sl (none, 0) (0), sl (none, 0) (0), sl (none, 0) (0)]) ?_)
      refine q0 rfl (o_move ?_)
      refine q0 rfl (o_st ?_)
      refine q0 rfl (o_assign ?_)
      refine rg_nil ?_
      refine retCT Tryz.func18 Tryz.results18 ((none, 0), (none, 0), (none, 0)) rfl mf_ rfl rfl rfl rfl (by rw [hgr]; rfl) (fun w hs => by rw [hgr]; exact hs.bare.zeroRT.less (by simp))
    · have c17 : (decide ((if formedP t = 0 then formedP u else formedP t) ≠ 0)) = false := h17
      try simp only [sC, bne_iff_ne, beq_iff_eq, ne_eq] at c17
      obtain ⟨hf0, hfu⟩ := put_fine (by simpa using h17)
      have hkt := formed_kind hf0
      have huk := formed_kind hfu
      have hbb := setR_bad (p := p) hkt huk
      refine go_skip ?_
      refine go_seq ?_
      refine go_region ⟨_, Tryz.func18⟩ rfl ?_
      refine q0 rfl (o_lds ?_)
      refine q0 rfl (o_move ?_)
      refine q0 rfl (o_lds ?_)
      refine q0 rfl (o_call Tryz.call47 (rsetO p a_p t vr_t vk_t vs_t u vr_u vk_u vs_u hf0 huk) (fun x23 => ?_))
      refine q0 rfl (o_new fun b9 => ?_)
      refine q0 rfl (o_st ?_)
      refine rg_nil ?_
      refine go_seq ?_
      refine go_seq ?_
      refine go_region ⟨_, Tryz.func18⟩ rfl ?_
      refine q0 rfl (o_fa ?_)
      refine q0 rfl (o_ld ?_)
      refine q0 rfl (o_lss ?_)
      refine rg_nil ?_
      refine go_condI (fun h26 => ?_) (fun h26 => ?_)
      · have c26 : (decide ((((setR t p u)).kind) < 0)) = true := h26
        try simp only [sC, bne_iff_ne, beq_iff_eq, ne_eq] at c26
        have hx9 : setP t p u = none := hbb.mp (by simpa using h26)
        have hgr : putRes t p u = (90, t0) := by rw [putRes, if_neg (by simp [hf0]), if_neg (by simp [hfu]), hx9]
        have hsr : (setR t p u) = badT 90 := by rw [setR, hx9]; rfl
        refine go_seq ?_
        refine go_state (fun w hs => (((((hs.perm perm3).perm perm3).perm perm3).perm perm3).settleBox hB)) ?_
        refine go_draw (tn := true) (A := [0, 0, 2, 6, 1, 31]) (l := [0, 1, 2, 3, 4, 5]) (fin := []) Tab.mixed ⟨_, Tryz.func18⟩ (by rfl) ?_
        refine n0 rfl (v_build (cs := [.int .i64 (0), .int .i64 (0), .string ((ByteArray.mk #[])), sl (none, 0) (0), sl (none, 0) (0), sl (none, 0) (0)]) ?_)
        refine n0 rfl (v_fa ?_)
        refine n0 rfl (f_ldg ?_)
        refine n0 rfl (v_neg ?_ (a := ((setR t p u)).kind) (h := by rw [hsr]; exact ⟨by decide, by decide⟩))
        refine n0 rfl (v_st ?_)
        refine n0 rfl (v_assign ?_)
        refine NV.done ?_
        refine rg_nil ?_
        refine retCT Tryz.func18 Tryz.results18 ((none, 0), (none, 0), (none, 0)) rfl mf_ rfl rfl rfl rfl (by rw [hgr, hsr]; rfl) (fun w hs => by rw [hgr]; exact hs.bare.zeroRT.less (by simp))
      · have c26 : (decide ((((setR t p u)).kind) < 0)) = false := h26
        try simp only [sC, bne_iff_ne, beq_iff_eq, ne_eq] at c26
        obtain ⟨x9, hx9⟩ : ∃ x, setP t p u = some x := by cases hx : setP t p u with | none => exact absurd (hbb.mpr hx) (by simpa using h26) | some x => exact ⟨x, rfl⟩
        have hsr : (setR t p u) = x9 := by rw [setR, hx9]; rfl
        obtain ⟨s9, _, hs9⟩ := size_setP p hx9
        rw [← hsr] at hs9 hx9
        refine go_skip ?_
        refine go_seq ?_
        refine go_region ⟨_, Tryz.func18⟩ rfl ?_
        refine q0 rfl (o_lds ?_)
        refine q0 rfl (o_call Tryz.call8 (rformed_spec (setR t p u) x23.1 x23.2.1 x23.2.2 om_) (fun x32 => ?_))
        refine q0 rfl (o_assign ?_)
        refine rg_nil ?_
        refine go_seq ?_
        refine go_seq ?_
        refine go_region ⟨_, Tryz.func18⟩ rfl ?_
        refine q0 rfl (o_move ?_)
        refine q0 rfl (o_neI ?_)
        refine rg_nil ?_
        refine go_condI (fun h34 => ?_) (fun h34 => ?_)
        · have c34 : (decide ((formedP (setR t p u)) ≠ 0)) = true := h34
          try simp only [sC, bne_iff_ne, beq_iff_eq, ne_eq] at c34
          have hgr : putRes t p u = (formedP (setR t p u), t0) := by rw [putRes, if_neg (by simp [hf0]), if_neg (by simp [hfu]), hx9]; exact if_pos (by simpa using h34)
          refine go_seq ?_
          refine go_region ⟨_, Tryz.func18⟩ rfl ?_
          refine q0 rfl (o_build (cs := [.int .i64 (0), .int .i64 (0), .string ((ByteArray.mk #[])), sl (none, 0) (0), sl (none, 0) (0), sl (none, 0) (0)]) ?_)
          refine q0 rfl (o_move ?_)
          refine q0 rfl (o_st ?_)
          refine q0 rfl (o_assign ?_)
          refine rg_nil ?_
          refine retCT Tryz.func18 Tryz.results18 ((none, 0), (none, 0), (none, 0)) rfl mf_ rfl rfl rfl rfl (by rw [hgr]; rfl) (fun w hs => by rw [hgr]; exact hs.bare.zeroRT.less (by simp))
        · have c34 : (decide ((formedP (setR t p u)) ≠ 0)) = false := h34
          try simp only [sC, bne_iff_ne, beq_iff_eq, ne_eq] at c34
          have hgr : putRes t p u = (0, (setR t p u)) := by rw [putRes, if_neg (by simp [hf0]), if_neg (by simp [hfu]), hx9]; exact if_neg (by simpa using h34)
          refine go_skip ?_
          refine go_seq ?_
          refine go_region ⟨_, Tryz.func18⟩ rfl ?_
          refine q0 rfl (o_lds ?_)
          refine q0 rfl (o_st ?_)
          refine q0 rfl (o_assign ?_)
          refine rg_nil ?_
          refine retCT Tryz.func18 Tryz.results18 (x23.1, x23.2.1, x23.2.2) rfl mf_ rfl rfl rfl rfl (by rw [hgr]; rfl) (fun w hs => by rw [hgr]; exact hs.bare.less (by simp))
theorem pathPuts_spec (t : T) (vr_t vk_t vs_t : SH) (p : List Int) (a_p : SH) (u : T) (vr_u vk_u vs_u : SH)  : Spec Tryz.prog 4 #[.agg (tc t vr_t vk_t vs_t).toArray, sl a_p (p.length), .agg (tc u vr_u vk_u vs_u).toArray] [RT t vr_t vk_t vs_t, IL p a_p, RT u vr_u vk_u vs_u] [] (fun _ : Unit => .bool (true)) (fun _ : Unit => []) (fun _ : Unit => []) := by
  refine spec_go (args := [.agg (tc t vr_t vk_t vs_t).toArray, sl a_p (p.length), .agg (tc u vr_u vk_u vs_u).toArray]) Tryz.func4 Tryz.ntmps4 rfl (by exact Nat.le_of_ble_eq_true rfl) fun B hB => ?_
  refine go_openIL (l := p) (a := a_p) (fun hl1 hA1 hU1 => ?_)
  refine go_seq ?_
  refine go_region ⟨_, Tryz.func4⟩ rfl ?_
  refine q0 rfl (o_box fun b3 => ?_)
  refine q0 rfl (o_box fun b5 => ?_)
  refine q0 rfl (o_assign ?_)
  refine rg_nil ?_
  refine go_seq ?_
  refine go_seq ?_
  refine go_state (fun w hs => hs.nilIL 0) ?_
  refine go_cutS ([(1, sl a_p (p.length)), (3, .pointer (some ⟨b3, 0, none⟩)), (5, .pointer (some ⟨b5, 0, none⟩)), (19, .bool ((decide (250 < bulk t) || decide (300 < p.length)) || (decide (250 < bulk u) || decide (300 < ([] : List Int).length))))]) (fun hK => ?_) (fun base => ?_)
  · refine go_region ⟨_, Tryz.func4⟩ rfl ?_
    refine q0 rfl (o_lds ?_)
    refine q0 rfl (o_move ?_)
    refine q0 rfl (o_call Tryz.call14 (great30_spec t vr_t vk_t vs_t p a_p ) (fun x15 => ?_))
    refine q0 rfl (o_move ?_)
    refine qI rfl rfl rfl wl_ (fun hg16 => ?_) (fun hg16 => ?_)
    · have g16 : ((decide (250 < bulk t) || decide (300 < p.length))) = false := hg16
      try simp only [sC, bne_iff_ne, beq_iff_eq, ne_eq] at g16
      refine o_lds ?_
      refine qT rfl rfl rfl (o_call Tryz.call14 (great30_spec u vr_u vk_u vs_u ([] : List Int) (none, 0) ) (fun x18 => ?_))
      refine q0 rfl (o_pickF ?_)
      refine rg_nil ?_
      exact hK _ ⟨rfl, rfl, rfl, dn_, trivial⟩
    · have g16 : ((decide (250 < bulk t) || decide (300 < p.length))) = true := hg16
      try simp only [sC, bne_iff_ne, beq_iff_eq, ne_eq] at g16
      refine qF rfl rfl rfl ?_
      refine q0 rfl (o_pickT ?_)
      refine rg_nil ?_
      exact hK _ ⟨rfl, rfl, rfl, dn_, trivial⟩
  · refine go_condI (fun h19 => ?_) (fun h19 => ?_)
    · have c19 : ((decide (250 < bulk t) || decide (300 < p.length)) || (decide (250 < bulk u) || decide (300 < ([] : List Int).length))) = true := h19
      try simp only [sC, bne_iff_ne, beq_iff_eq, ne_eq] at c19
      refine go_seq ?_
      refine go_region ⟨_, Tryz.func4⟩ rfl ?_
      refine q0 rfl (o_call Tryz.call15 (works30_spec) (fun x20 => ?_))
      refine q0 rfl (o_assign ?_)
      refine rg_nil ?_
      refine ret1 Tryz.func4 Tryz.results4 wn_ () (by first | rfl | (simp_all; done)) (fun w hs => hs.none)
    · have c19 : ((decide (250 < bulk t) || decide (300 < p.length)) || (decide (250 < bulk u) || decide (300 < ([] : List Int).length))) = false := h19
      try simp only [sC, bne_iff_ne, beq_iff_eq, ne_eq] at c19
      have hbt : bulk t ≤ 250 := by simp_all
      have hbu : bulk u ≤ 250 := by simp_all
      have hst := size_le_bulk t
      have hsu := size_le_bulk u
      refine go_skip ?_
      refine go_seq ?_
      refine go_draw (tn := false) (A := [0, 1, 0, 7, 0, 0, 63, 127]) (l := [0, 2, 1, 3, 4, 5]) (fin := [6, 7]) Tab.mixed ⟨_, Tryz.func4⟩ (by rfl) ?_
      refine n0 rfl (v_lds ?_)
      refine n0 rfl (v_lds ?_)
      refine n0 rfl (v_call Tryz.call16 (rcopyF t vr_t vk_t vs_t) (fun x22 => ?_))
      refine n0 rfl (v_call Tryz.call16 (rcopyF u vr_u vk_u vs_u) (fun x24 => ?_))
      refine n0 rfl (v_new fun b7 => ?_)
      refine n0 rfl (v_new fun b8 => ?_)
      refine NV.done ?_
      refine q0 rfl (o_st ?_)
      refine q0 rfl (o_st ?_)
      refine rg_nil ?_
      refine go_seq ?_
      refine go_region ⟨_, Tryz.func4⟩ rfl ?_
      refine q0 rfl (o_lds ?_)
      refine q0 rfl (o_move ?_)
      refine q0 rfl (o_lds ?_)
      refine q0 rfl (o_call Tryz.call17 (putP_walk t x22.1 x22.2.1 x22.2.2 p a_p u x24.1 x24.2.1 x24.2.2 om_ om_) (fun x29 => ?_))
      refine q0 rfl (o_move ?_)
      refine q0 rfl (o_extract ?_)
      refine q0 rfl (o_extract ?_)
      refine q0 rfl (o_new fun b9 => ?_)
      refine q0 rfl (o_st ?_)
      refine q0 rfl (o_assign ?_)
      refine rg_nil ?_
      refine go_seq ?_
      refine go_region ⟨_, Tryz.func4⟩ rfl ?_
      refine q0 rfl (o_lds ?_)
      refine q0 rfl (o_move ?_)
      refine q0 rfl (o_lds ?_)
      refine q0 rfl (o_call Tryz.call18 (rput_spec t vr_t vk_t vs_t p a_p u vr_u vk_u vs_u om_ om_) (fun x36 => ?_))
      refine q0 rfl (o_move ?_)
      refine q0 rfl (o_extract ?_)
      refine q0 rfl (o_extract ?_)
      refine q0 rfl (o_new fun b11 => ?_)
      refine q0 rfl (o_st ?_)
      refine q0 rfl (o_assign ?_)
      refine rg_nil ?_
      refine go_seq ?_
      refine go_cutS ([(6, .bool (true))]) (fun hK => ?_) (fun base => ?_)
      · refine go_region ⟨_, Tryz.func4⟩ rfl ?_
        refine q0 rfl (o_lds ?_)
        refine q0 rfl (o_lds ?_)
        refine q0 rfl (o_call Tryz.call19 (rsameI ((putRes t p u).2) ((putRes t p u).2) rfl x29.1 x29.2.1 x29.2.2 x36.1 x36.2.1 x36.2.2) (fun x41 => ?_))
        refine q0 rfl (o_move ?_)
        refine qT rfl rfl rfl (o_move ?_)
        refine qT rfl rfl rfl (o_move ?_)
        refine qT rfl rfl rfl (o_eqIY ?_)
        refine q0 rfl (o_pickT ?_)
        refine q0 rfl (o_move ?_)
        refine qT rfl rfl rfl (o_lds ?_)
        refine qT rfl rfl rfl (o_lds ?_)
        refine qT rfl rfl rfl (o_call Tryz.call19 (rsameI t t rfl x22.1 x22.2.1 x22.2.2 vr_t vk_t vs_t) (fun x50 => ?_))
        refine q0 rfl (o_pickT ?_)
        refine q0 rfl (o_move ?_)
        refine qT rfl rfl rfl (o_lds ?_)
        refine qT rfl rfl rfl (o_lds ?_)
        refine qT rfl rfl rfl (o_call Tryz.call19 (rsameI u u rfl x24.1 x24.2.1 x24.2.2 vr_u vk_u vs_u) (fun x55 => ?_))
        refine q0 rfl (o_pickT ?_)
        refine q0 rfl (o_move ?_)
        refine qT rfl rfl rfl (o_call Tryz.call15 (works30_spec) (fun x58 => ?_))
        refine q0 rfl (o_pickT ?_)
        refine q0 rfl (o_assign ?_)
        refine rg_nil ?_
        exact hK _ ⟨dn_, trivial⟩
      · refine ret1 Tryz.func4 Tryz.results4 wn_ () (by first | rfl | (simp_all; done)) (fun w hs => hs.none)
end Go.Hy
