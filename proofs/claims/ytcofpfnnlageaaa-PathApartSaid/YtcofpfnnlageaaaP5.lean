/- Contracts of this program's functions and the laws that they need: a separation logic over the machine's rules, one theorem each (partly printed by a program of this repository). -/
import Derived.Test.YtcofpfnnlageaaaP2
import Derived.Test.YtcofpfnnlageaaaP3
import Derived.Test.YtcofpfnnlageaaaP4
namespace Go.Hy
set_option linter.unusedVariables false
set_option linter.unusedSimpArgs false
set_option linter.unusedSectionVars false
open Go.Proofs
set_option linter.unusedVariables false
set_option linter.unusedSimpArgs false
set_option maxRecDepth 100000
theorem kids_spec (k : Int) : Spec Try.prog 13 #[.int .i64 k] [] [] (fun _ : Unit => .int .i64 (kidsN k)) (fun _ => []) (fun _ => []) := by
  refine spec_go (args := [.int .i64 k]) Try.func13 Try.ntmps13 rfl (by exact Nat.le_of_ble_eq_true rfl) fun B hB => ?_
  refine go_seq ?_
  refine go_region ⟨_, Try.func13⟩ rfl ?_
  refine q0 rfl (o_assign ?_)
  refine rg_nil ?_
  refine go_seq ?_
  refine go_seq ?_
  refine go_region ⟨_, Try.func13⟩ rfl ?_
  refine q0 rfl (o_move ?_)
  refine rg_nil ?_
  refine go_block ?_
  refine go_seq ?_
  refine go_seq ?_
  refine go_region ⟨_, Try.func13⟩ rfl ?_
  refine q0 rfl (o_eqI ?_)
  refine q0 rfl (o_assign ?_)
  refine rg_nil ?_
  refine go_condI (fun h4 => ?_) (fun h4 => ?_)
  · refine go_skip ?_
    refine go_condT ?_
    refine go_seq ?_
    refine go_region ⟨_, Try.func13⟩ rfl ?_
    refine q0 rfl (o_assign ?_)
    refine rg_nil ?_
    refine ret1 Try.func13 Try.results13 (by first | ((conv => lhs; whnf); done) | rfl) () (by simp_all [kidsN]) (fun w hs => hs.none)
  · refine go_seq ?_
    refine go_region ⟨_, Try.func13⟩ rfl ?_
    refine q0 rfl (o_eqI ?_)
    refine q0 rfl (o_assign ?_)
    refine rg_nil ?_
    refine go_condI (fun h4 => ?_) (fun h4 => ?_)
    · refine go_skip ?_
      refine go_condT ?_
      refine go_seq ?_
      refine go_region ⟨_, Try.func13⟩ rfl ?_
      refine q0 rfl (o_assign ?_)
      refine rg_nil ?_
      refine ret1 Try.func13 Try.results13 (by first | ((conv => lhs; whnf); done) | rfl) () (by simp_all [kidsN]) (fun w hs => hs.none)
    · refine go_seq ?_
      refine go_region ⟨_, Try.func13⟩ rfl ?_
      refine q0 rfl (o_eqI ?_)
      refine q0 rfl (o_assign ?_)
      refine rg_nil ?_
      refine go_condI (fun h4 => ?_) (fun h4 => ?_)
      · refine go_skip ?_
        refine go_condT ?_
        refine go_seq ?_
        refine go_region ⟨_, Try.func13⟩ rfl ?_
        refine q0 rfl (o_assign ?_)
        refine rg_nil ?_
        refine ret1 Try.func13 Try.results13 (by first | ((conv => lhs; whnf); done) | rfl) () (by simp_all [kidsN]) (fun w hs => hs.none)
      · refine go_seq ?_
        refine go_region ⟨_, Try.func13⟩ rfl ?_
        refine q0 rfl (o_eqI ?_)
        refine q0 rfl (o_assign ?_)
        refine rg_nil ?_
        refine go_condI (fun h4 => ?_) (fun h4 => ?_)
        · refine go_skip ?_
          refine go_condT ?_
          refine go_seq ?_
          refine go_region ⟨_, Try.func13⟩ rfl ?_
          refine q0 rfl (o_assign ?_)
          refine rg_nil ?_
          refine ret1 Try.func13 Try.results13 (by first | ((conv => lhs; whnf); done) | rfl) () (by simp_all [kidsN]) (fun w hs => hs.none)
        · refine go_seq ?_
          refine go_region ⟨_, Try.func13⟩ rfl ?_
          refine q0 rfl (o_eqI ?_)
          refine q0 rfl (o_assign ?_)
          refine rg_nil ?_
          refine go_condI (fun h4 => ?_) (fun h4 => ?_)
          · refine go_skip ?_
            refine go_condT ?_
            refine go_seq ?_
            refine go_region ⟨_, Try.func13⟩ rfl ?_
            refine q0 rfl (o_assign ?_)
            refine rg_nil ?_
            refine ret1 Try.func13 Try.results13 (by first | ((conv => lhs; whnf); done) | rfl) () (by simp_all [kidsN]) (fun w hs => hs.none)
          · refine go_seq ?_
            refine go_region ⟨_, Try.func13⟩ rfl ?_
            refine q0 rfl (o_eqI ?_)
            refine q0 rfl (o_assign ?_)
            refine rg_nil ?_
            refine go_condI (fun h4 => ?_) (fun h4 => ?_)
            · refine go_skip ?_
              refine go_condT ?_
              refine go_seq ?_
              refine go_region ⟨_, Try.func13⟩ rfl ?_
              refine q0 rfl (o_assign ?_)
              refine rg_nil ?_
              refine ret1 Try.func13 Try.results13 (by first | ((conv => lhs; whnf); done) | rfl) () (by simp_all [kidsN]) (fun w hs => hs.none)
            · refine go_seq ?_
              refine go_region ⟨_, Try.func13⟩ rfl ?_
              refine q0 rfl (o_eqI ?_)
              refine q0 rfl (o_assign ?_)
              refine rg_nil ?_
              refine go_condI (fun h4 => ?_) (fun h4 => ?_)
              · refine go_skip ?_
                refine go_condT ?_
                refine go_seq ?_
                refine go_region ⟨_, Try.func13⟩ rfl ?_
                refine q0 rfl (o_assign ?_)
                refine rg_nil ?_
                refine ret1 Try.func13 Try.results13 (by first | ((conv => lhs; whnf); done) | rfl) () (by simp_all [kidsN]) (fun w hs => hs.none)
              · refine go_region ⟨_, Try.func13⟩ rfl ?_
                refine q0 rfl (o_eqI ?_)
                refine q0 rfl (o_assign ?_)
                refine rg_nil ?_
                refine go_condI (fun h4 => ?_) (fun h4 => ?_)
                · refine go_seq ?_
                  refine go_region ⟨_, Try.func13⟩ rfl ?_
                  refine q0 rfl (o_assign ?_)
                  refine rg_nil ?_
                  refine ret1 Try.func13 Try.results13 (by first | ((conv => lhs; whnf); done) | rfl) () (by simp_all [kidsN]) (fun w hs => hs.none)
                · refine go_seq ?_
                  refine go_seq ?_
                  refine go_region ⟨_, Try.func13⟩ rfl ?_
                  refine q0 rfl (o_eqI ?_)
                  refine q0 rfl (o_assign ?_)
                  refine rg_nil ?_
                  refine go_condI (fun h13 => ?_) (fun h13 => ?_)
                  · refine go_skip ?_
                    refine go_condT ?_
                    refine go_seq ?_
                    refine go_region ⟨_, Try.func13⟩ rfl ?_
                    refine q0 rfl (o_assign ?_)
                    refine rg_nil ?_
                    refine ret1 Try.func13 Try.results13 (by first | ((conv => lhs; whnf); done) | rfl) () (by simp_all [kidsN]) (fun w hs => hs.none)
                  · refine go_seq ?_
                    refine go_region ⟨_, Try.func13⟩ rfl ?_
                    refine q0 rfl (o_eqI ?_)
                    refine q0 rfl (o_assign ?_)
                    refine rg_nil ?_
                    refine go_condI (fun h13 => ?_) (fun h13 => ?_)
                    · refine go_skip ?_
                      refine go_condT ?_
                      refine go_seq ?_
                      refine go_region ⟨_, Try.func13⟩ rfl ?_
                      refine q0 rfl (o_assign ?_)
                      refine rg_nil ?_
                      refine ret1 Try.func13 Try.results13 (by first | ((conv => lhs; whnf); done) | rfl) () (by simp_all [kidsN]) (fun w hs => hs.none)
                    · refine go_seq ?_
                      refine go_region ⟨_, Try.func13⟩ rfl ?_
                      refine q0 rfl (o_eqI ?_)
                      refine q0 rfl (o_assign ?_)
                      refine rg_nil ?_
                      refine go_condI (fun h13 => ?_) (fun h13 => ?_)
                      · refine go_skip ?_
                        refine go_condT ?_
                        refine go_seq ?_
                        refine go_region ⟨_, Try.func13⟩ rfl ?_
                        refine q0 rfl (o_assign ?_)
                        refine rg_nil ?_
                        refine ret1 Try.func13 Try.results13 (by first | ((conv => lhs; whnf); done) | rfl) () (by simp_all [kidsN]) (fun w hs => hs.none)
                      · refine go_seq ?_
                        refine go_region ⟨_, Try.func13⟩ rfl ?_
                        refine q0 rfl (o_eqI ?_)
                        refine q0 rfl (o_assign ?_)
                        refine rg_nil ?_
                        refine go_condI (fun h13 => ?_) (fun h13 => ?_)
                        · refine go_skip ?_
                          refine go_condT ?_
                          refine go_seq ?_
                          refine go_region ⟨_, Try.func13⟩ rfl ?_
                          refine q0 rfl (o_assign ?_)
                          refine rg_nil ?_
                          refine ret1 Try.func13 Try.results13 (by first | ((conv => lhs; whnf); done) | rfl) () (by simp_all [kidsN]) (fun w hs => hs.none)
                        · refine go_seq ?_
                          refine go_region ⟨_, Try.func13⟩ rfl ?_
                          refine q0 rfl (o_eqI ?_)
                          refine q0 rfl (o_assign ?_)
                          refine rg_nil ?_
                          refine go_condI (fun h13 => ?_) (fun h13 => ?_)
                          · refine go_skip ?_
                            refine go_condT ?_
                            refine go_seq ?_
                            refine go_region ⟨_, Try.func13⟩ rfl ?_
                            refine q0 rfl (o_assign ?_)
                            refine rg_nil ?_
                            refine ret1 Try.func13 Try.results13 (by first | ((conv => lhs; whnf); done) | rfl) () (by simp_all [kidsN]) (fun w hs => hs.none)
                          · refine go_seq ?_
                            refine go_region ⟨_, Try.func13⟩ rfl ?_
                            refine q0 rfl (o_eqI ?_)
                            refine q0 rfl (o_assign ?_)
                            refine rg_nil ?_
                            refine go_condI (fun h13 => ?_) (fun h13 => ?_)
                            · refine go_skip ?_
                              refine go_condT ?_
                              refine go_seq ?_
                              refine go_region ⟨_, Try.func13⟩ rfl ?_
                              refine q0 rfl (o_assign ?_)
                              refine rg_nil ?_
                              refine ret1 Try.func13 Try.results13 (by first | ((conv => lhs; whnf); done) | rfl) () (by simp_all [kidsN]) (fun w hs => hs.none)
                            · refine go_seq ?_
                              refine go_region ⟨_, Try.func13⟩ rfl ?_
                              refine q0 rfl (o_eqI ?_)
                              refine q0 rfl (o_assign ?_)
                              refine rg_nil ?_
                              refine go_condI (fun h13 => ?_) (fun h13 => ?_)
                              · refine go_skip ?_
                                refine go_condT ?_
                                refine go_seq ?_
                                refine go_region ⟨_, Try.func13⟩ rfl ?_
                                refine q0 rfl (o_assign ?_)
                                refine rg_nil ?_
                                refine ret1 Try.func13 Try.results13 (by first | ((conv => lhs; whnf); done) | rfl) () (by simp_all [kidsN]) (fun w hs => hs.none)
                              · refine go_seq ?_
                                refine go_region ⟨_, Try.func13⟩ rfl ?_
                                refine q0 rfl (o_eqI ?_)
                                refine q0 rfl (o_assign ?_)
                                refine rg_nil ?_
                                refine go_condI (fun h13 => ?_) (fun h13 => ?_)
                                · refine go_skip ?_
                                  refine go_condT ?_
                                  refine go_seq ?_
                                  refine go_region ⟨_, Try.func13⟩ rfl ?_
                                  refine q0 rfl (o_assign ?_)
                                  refine rg_nil ?_
                                  refine ret1 Try.func13 Try.results13 (by first | ((conv => lhs; whnf); done) | rfl) () (by simp_all [kidsN]) (fun w hs => hs.none)
                                · refine go_region ⟨_, Try.func13⟩ rfl ?_
                                  refine q0 rfl (o_eqI ?_)
                                  refine q0 rfl (o_assign ?_)
                                  refine rg_nil ?_
                                  refine go_condI (fun h13 => ?_) (fun h13 => ?_)
                                  · refine go_seq ?_
                                    refine go_region ⟨_, Try.func13⟩ rfl ?_
                                    refine q0 rfl (o_assign ?_)
                                    refine rg_nil ?_
                                    refine ret1 Try.func13 Try.results13 (by first | ((conv => lhs; whnf); done) | rfl) () (by simp_all [kidsN]) (fun w hs => hs.none)
                                  · refine go_seq ?_
                                    refine go_seq ?_
                                    refine go_region ⟨_, Try.func13⟩ rfl ?_
                                    refine q0 rfl (o_eqI ?_)
                                    refine q0 rfl (o_assign ?_)
                                    refine rg_nil ?_
                                    refine go_condI (fun h23 => ?_) (fun h23 => ?_)
                                    · refine go_skip ?_
                                      refine go_condT ?_
                                      refine go_seq ?_
                                      refine go_region ⟨_, Try.func13⟩ rfl ?_
                                      refine q0 rfl (o_assign ?_)
                                      refine rg_nil ?_
                                      refine ret1 Try.func13 Try.results13 (by first | ((conv => lhs; whnf); done) | rfl) () (by simp_all [kidsN]) (fun w hs => hs.none)
                                    · refine go_seq ?_
                                      refine go_region ⟨_, Try.func13⟩ rfl ?_
                                      refine q0 rfl (o_eqI ?_)
                                      refine q0 rfl (o_assign ?_)
                                      refine rg_nil ?_
                                      refine go_condI (fun h23 => ?_) (fun h23 => ?_)
                                      · refine go_skip ?_
                                        refine go_condT ?_
                                        refine go_seq ?_
                                        refine go_region ⟨_, Try.func13⟩ rfl ?_
                                        refine q0 rfl (o_assign ?_)
                                        refine rg_nil ?_
                                        refine ret1 Try.func13 Try.results13 (by first | ((conv => lhs; whnf); done) | rfl) () (by simp_all [kidsN]) (fun w hs => hs.none)
                                      · refine go_seq ?_
                                        refine go_region ⟨_, Try.func13⟩ rfl ?_
                                        refine q0 rfl (o_eqI ?_)
                                        refine q0 rfl (o_assign ?_)
                                        refine rg_nil ?_
                                        refine go_condI (fun h23 => ?_) (fun h23 => ?_)
                                        · refine go_skip ?_
                                          refine go_condT ?_
                                          refine go_seq ?_
                                          refine go_region ⟨_, Try.func13⟩ rfl ?_
                                          refine q0 rfl (o_assign ?_)
                                          refine rg_nil ?_
                                          refine ret1 Try.func13 Try.results13 (by first | ((conv => lhs; whnf); done) | rfl) () (by simp_all [kidsN]) (fun w hs => hs.none)
                                        · refine go_seq ?_
                                          refine go_region ⟨_, Try.func13⟩ rfl ?_
                                          refine q0 rfl (o_eqI ?_)
                                          refine q0 rfl (o_assign ?_)
                                          refine rg_nil ?_
                                          refine go_condI (fun h23 => ?_) (fun h23 => ?_)
                                          · refine go_skip ?_
                                            refine go_condT ?_
                                            refine go_seq ?_
                                            refine go_region ⟨_, Try.func13⟩ rfl ?_
                                            refine q0 rfl (o_assign ?_)
                                            refine rg_nil ?_
                                            refine ret1 Try.func13 Try.results13 (by first | ((conv => lhs; whnf); done) | rfl) () (by simp_all [kidsN]) (fun w hs => hs.none)
                                          · refine go_seq ?_
                                            refine go_region ⟨_, Try.func13⟩ rfl ?_
                                            refine q0 rfl (o_eqI ?_)
                                            refine q0 rfl (o_assign ?_)
                                            refine rg_nil ?_
                                            refine go_condI (fun h23 => ?_) (fun h23 => ?_)
                                            · refine go_skip ?_
                                              refine go_condT ?_
                                              refine go_seq ?_
                                              refine go_region ⟨_, Try.func13⟩ rfl ?_
                                              refine q0 rfl (o_assign ?_)
                                              refine rg_nil ?_
                                              refine ret1 Try.func13 Try.results13 (by first | ((conv => lhs; whnf); done) | rfl) () (by simp_all [kidsN]) (fun w hs => hs.none)
                                            · refine go_seq ?_
                                              refine go_region ⟨_, Try.func13⟩ rfl ?_
                                              refine q0 rfl (o_eqI ?_)
                                              refine q0 rfl (o_assign ?_)
                                              refine rg_nil ?_
                                              refine go_condI (fun h23 => ?_) (fun h23 => ?_)
                                              · refine go_skip ?_
                                                refine go_condT ?_
                                                refine go_seq ?_
                                                refine go_region ⟨_, Try.func13⟩ rfl ?_
                                                refine q0 rfl (o_assign ?_)
                                                refine rg_nil ?_
                                                refine ret1 Try.func13 Try.results13 (by first | ((conv => lhs; whnf); done) | rfl) () (by simp_all [kidsN]) (fun w hs => hs.none)
                                              · refine go_region ⟨_, Try.func13⟩ rfl ?_
                                                refine q0 rfl (o_eqI ?_)
                                                refine q0 rfl (o_assign ?_)
                                                refine rg_nil ?_
                                                refine go_condI (fun h23 => ?_) (fun h23 => ?_)
                                                · refine go_seq ?_
                                                  refine go_region ⟨_, Try.func13⟩ rfl ?_
                                                  refine q0 rfl (o_assign ?_)
                                                  refine rg_nil ?_
                                                  refine ret1 Try.func13 Try.results13 (by first | ((conv => lhs; whnf); done) | rfl) () (by simp_all [kidsN]) (fun w hs => hs.none)
                                                · refine go_seq ?_
                                                  refine go_seq ?_
                                                  refine go_region ⟨_, Try.func13⟩ rfl ?_
                                                  refine q0 rfl (o_eqI ?_)
                                                  refine q0 rfl (o_assign ?_)
                                                  refine rg_nil ?_
                                                  refine go_condI (fun h31 => ?_) (fun h31 => ?_)
                                                  · refine go_skip ?_
                                                    refine go_condT ?_
                                                    refine go_seq ?_
                                                    refine go_region ⟨_, Try.func13⟩ rfl ?_
                                                    refine q0 rfl (o_assign ?_)
                                                    refine rg_nil ?_
                                                    refine ret1 Try.func13 Try.results13 (by first | ((conv => lhs; whnf); done) | rfl) () (by simp_all [kidsN]) (fun w hs => hs.none)
                                                  · refine go_region ⟨_, Try.func13⟩ rfl ?_
                                                    refine q0 rfl (o_eqI ?_)
                                                    refine q0 rfl (o_assign ?_)
                                                    refine rg_nil ?_
                                                    refine go_condI (fun h31 => ?_) (fun h31 => ?_)
                                                    · refine go_seq ?_
                                                      refine go_region ⟨_, Try.func13⟩ rfl ?_
                                                      refine q0 rfl (o_assign ?_)
                                                      refine rg_nil ?_
                                                      refine ret1 Try.func13 Try.results13 (by first | ((conv => lhs; whnf); done) | rfl) () (by simp_all [kidsN]) (fun w hs => hs.none)
                                                    · refine go_seq ?_
                                                      refine go_region ⟨_, Try.func13⟩ rfl ?_
                                                      refine q0 rfl (o_eqI ?_)
                                                      refine q0 rfl (o_assign ?_)
                                                      refine rg_nil ?_
                                                      refine go_condI (fun h34 => ?_) (fun h34 => ?_)
                                                      · refine go_seq ?_
                                                        refine go_region ⟨_, Try.func13⟩ rfl ?_
                                                        refine q0 rfl (o_assign ?_)
                                                        refine rg_nil ?_
                                                        refine ret1 Try.func13 Try.results13 (by first | ((conv => lhs; whnf); done) | rfl) () (by simp_all [kidsN]) (fun w hs => hs.none)
                                                      · refine go_seq ?_
                                                        refine go_region ⟨_, Try.func13⟩ rfl ?_
                                                        refine q0 rfl (o_eqI ?_)
                                                        refine q0 rfl (o_assign ?_)
                                                        refine rg_nil ?_
                                                        refine go_condI (fun h36 => ?_) (fun h36 => ?_)
                                                        · refine go_seq ?_
                                                          refine go_region ⟨_, Try.func13⟩ rfl ?_
                                                          refine q0 rfl (o_assign ?_)
                                                          refine rg_nil ?_
                                                          refine ret1 Try.func13 Try.results13 (by first | ((conv => lhs; whnf); done) | rfl) () (by simp_all [kidsN]) (fun w hs => hs.none)
                                                        · refine go_skip ?_
                                                          refine go_inBlock ?_
                                                          refine go_seq ?_
                                                          refine go_region ⟨_, Try.func13⟩ rfl ?_
                                                          refine q0 rfl (o_assign ?_)
                                                          refine rg_nil ?_
                                                          refine ret1 Try.func13 Try.results13 (by first | ((conv => lhs; whnf); done) | rfl) () (by simp_all [kidsN]) (fun w hs => hs.none)
theorem parts_spec (k : Int) : Spec Try.prog 15 #[.int .i64 k] [] [] (fun _ : Unit => .int .i64 (partsN k)) (fun _ => []) (fun _ => []) := by
  refine spec_go (args := [.int .i64 k]) Try.func15 Try.ntmps15 rfl (by exact Nat.le_of_ble_eq_true rfl) fun B hB => ?_
  refine go_seq ?_
  refine go_region ⟨_, Try.func15⟩ rfl ?_
  refine q0 rfl (o_assign ?_)
  refine rg_nil ?_
  refine go_seq ?_
  refine go_seq ?_
  refine go_region ⟨_, Try.func15⟩ rfl ?_
  refine q0 rfl (o_move ?_)
  refine rg_nil ?_
  refine go_block ?_
  refine go_seq ?_
  refine go_seq ?_
  refine go_region ⟨_, Try.func15⟩ rfl ?_
  refine q0 rfl (o_eqI ?_)
  refine q0 rfl (o_assign ?_)
  refine rg_nil ?_
  refine go_condI (fun h4 => ?_) (fun h4 => ?_)
  · refine go_skip ?_
    refine go_condT ?_
    refine go_seq ?_
    refine go_region ⟨_, Try.func15⟩ rfl ?_
    refine q0 rfl (o_assign ?_)
    refine rg_nil ?_
    refine ret1 Try.func15 Try.results15 (by first | ((conv => lhs; whnf); done) | rfl) () (by simp_all [partsN]) (fun w hs => hs.none)
  · refine go_seq ?_
    refine go_region ⟨_, Try.func15⟩ rfl ?_
    refine q0 rfl (o_eqI ?_)
    refine q0 rfl (o_assign ?_)
    refine rg_nil ?_
    refine go_condI (fun h4 => ?_) (fun h4 => ?_)
    · refine go_skip ?_
      refine go_condT ?_
      refine go_seq ?_
      refine go_region ⟨_, Try.func15⟩ rfl ?_
      refine q0 rfl (o_assign ?_)
      refine rg_nil ?_
      refine ret1 Try.func15 Try.results15 (by first | ((conv => lhs; whnf); done) | rfl) () (by simp_all [partsN]) (fun w hs => hs.none)
    · refine go_region ⟨_, Try.func15⟩ rfl ?_
      refine q0 rfl (o_eqI ?_)
      refine q0 rfl (o_assign ?_)
      refine rg_nil ?_
      refine go_condI (fun h4 => ?_) (fun h4 => ?_)
      · refine go_seq ?_
        refine go_region ⟨_, Try.func15⟩ rfl ?_
        refine q0 rfl (o_assign ?_)
        refine rg_nil ?_
        refine ret1 Try.func15 Try.results15 (by first | ((conv => lhs; whnf); done) | rfl) () (by simp_all [partsN]) (fun w hs => hs.none)
      · refine go_seq ?_
        refine go_region ⟨_, Try.func15⟩ rfl ?_
        refine q0 rfl (o_eqI ?_)
        refine q0 rfl (o_assign ?_)
        refine rg_nil ?_
        refine go_condI (fun h8 => ?_) (fun h8 => ?_)
        · refine go_seq ?_
          refine go_region ⟨_, Try.func15⟩ rfl ?_
          refine q0 rfl (o_assign ?_)
          refine rg_nil ?_
          refine ret1 Try.func15 Try.results15 (by first | ((conv => lhs; whnf); done) | rfl) () (by simp_all [partsN]) (fun w hs => hs.none)
        · refine go_skip ?_
          refine go_inBlock ?_
          refine go_seq ?_
          refine go_region ⟨_, Try.func15⟩ rfl ?_
          refine q0 rfl (o_assign ?_)
          refine rg_nil ?_
          refine ret1 Try.func15 Try.results15 (by first | ((conv => lhs; whnf); done) | rfl) () (by simp_all [partsN]) (fun w hs => hs.none)
end Go.Hy
namespace Go.Hy
set_option linter.unusedVariables false
set_option linter.unusedSimpArgs false
set_option linter.unusedSectionVars false
open Go.Proofs
set_option linter.unusedVariables false
set_option linter.unusedSimpArgs false
set_option maxRecDepth 100000
/-- A test of all parts. -/
theorem each_bool (t : T) (vr vk vs : SH) (c : FuncId) (cap : List Value) (FΓ : List Fact) (M : List Res) (g : Part → Bool)
    (hc : ∀ (args : Array Value) (w : World), (callFunc c args).run Try.prog w = .ok (.enter c args) w)
    (hcl : ∀ k v d, (k, v, d) ∈ parts t → ∀ vr vk vs, Spec Try.prog c (.agg (tc k vr vk vs).toArray :: .int .i64 v :: .int .i64 d :: cap).toArray (RT k vr vk vs :: FΓ) M (fun _ : Unit => .bool (g (k, v, d))) (fun _ => []) (fun _ => M)) :
    Spec Try.prog 45 #[.agg (tc t vr vk vs).toArray, .func (.func c) #[] cap.toArray] (RT t vr vk vs :: FΓ) M (fun _ : Unit => .bool ((parts t).all g)) (fun _ => []) (fun _ => M) := by
  have h := each_spec t vr vk vs c cap FΓ (fun _ => M) (fun _ => M) (atPart t g) hc (fun m k v d hm _ vr vk vs => by simpa [atPart_some hm] using hcl k v d (parts_mem hm) vr vk vs)
  rw [ff_parts] at h
  simpa using h
abbrev ShallowAt (t : T) : Prop := ∀ (left : Int) vr vk vs, in64 left → Spec Try.prog 67 #[.agg (tc t vr vk vs).toArray, .int .i64 left] [RT t vr vk vs] [] (fun _ : Unit => .bool (decide ((depth t : Int) ≤ left))) (fun _ => []) (fun _ => [])
theorem shallow1_walk (k : T) (vr vk vs : SH) (b : Nat) (left v d : Int) (h0 : 0 < left) (hl : in64 left) (ih : ShallowAt k) : Spec Try.prog 82 #[.agg (tc k vr vk vs).toArray, .int .i64 v, .int .i64 d, .pointer (some ⟨b, 0, none⟩)] [RT k vr vk vs] [boxR b [.int .i64 left] 3] (fun _ : Unit => .bool (decide ((depth k : Int) ≤ left - 1))) (fun _ => []) (fun _ => [boxR b [.int .i64 left] 3]) := by
  refine spec_go (args := [.agg (tc k vr vk vs).toArray, .int .i64 v, .int .i64 d, .pointer (some ⟨b, 0, none⟩)]) Try.func82 Try.ntmps82 rfl (by exact Nat.le_of_ble_eq_true rfl) fun B hB => ?_
  refine go_seq ?_
  refine go_region ⟨_, Try.func82⟩ rfl ?_
  refine q0 rfl (o_box fun b4 => ?_)
  refine q0 rfl (o_assign ?_)
  refine rg_nil ?_
  refine go_seq ?_
  refine go_region ⟨_, Try.func82⟩ rfl ?_
  refine q0 rfl (o_lds ?_)
  refine q0 rfl (o_ld ?_)
  refine q0 rfl (o_sub ?_)
  refine q0 rfl (o_call Try.call67 (ih (left - 1) vr vk vs (by unfold in64 at *; omega)) (fun x11 => ?_))
  refine q0 rfl (o_assign ?_)
  refine rg_nil ?_
  refine ret1 Try.func82 Try.results82 (by first | ((conv => lhs; whnf); done) | rfl) () rfl (fun w hs => (hs.less (by simp)).drop)
theorem shallow_walk (t : T) (ih : ∀ p, p ∈ parts t → ShallowAt p.1) (left : Int) (vr vk vs : SH) (hl : in64 left) : Spec Try.prog 67 #[.agg (tc t vr vk vs).toArray, .int .i64 left] [RT t vr vk vs] [] (fun _ : Unit => .bool (decide ((depth t : Int) ≤ left))) (fun _ => []) (fun _ => []) := by
  refine spec_go (args := [.agg (tc t vr vk vs).toArray, .int .i64 left]) Try.func67 Try.ntmps67 rfl (by exact Nat.le_of_ble_eq_true rfl) fun B hB => ?_
  refine go_seq ?_
  refine go_region ⟨_, Try.func67⟩ rfl ?_
  refine q0 rfl (o_box fun b2 => ?_)
  refine q0 rfl (o_box fun b3 => ?_)
  refine q0 rfl (o_assign ?_)
  refine rg_nil ?_
  refine go_seq ?_
  refine go_region ⟨_, Try.func67⟩ rfl ?_
  refine q0 rfl (o_ld ?_)
  refine q0 rfl (o_gtr ?_)
  refine q0 rfl (o_move ?_)
  refine qI rfl rfl rfl (by conv => lhs; whnf) (fun hg7 => o_lds ?_) (fun hg7 => ?_)
  · refine qT rfl rfl rfl (o_func ?_)
    have h0 : 0 < left := of_decide_eq_true hg7
    have hE := each_bool t vr vk vs 82 [.pointer (some ⟨b3, 0, none⟩)] [] [boxR b3 [.int .i64 left] 3] (fun p => decide ((depth p.1 : Int) ≤ left - 1)) Try.call82 (fun k v d hm vr vk vs => shallow1_walk k vr vk vs b3 left v d h0 hl (ih _ hm))
    rw [← depth_int t left h0] at hE
    refine qT rfl rfl rfl (o_call Try.call45 (hE) (fun x10 => ?_))
    refine q0 rfl (o_pickT ?_)
    refine q0 rfl (o_assign ?_)
    refine rg_nil ?_
    refine ret1 Try.func67 Try.results67 (by first | ((conv => lhs; whnf); done) | rfl) () rfl (fun w hs => hs.none)
  · refine qF rfl rfl rfl ?_
    refine qF rfl rfl rfl ?_
    refine q0 rfl (o_pickF ?_)
    refine q0 rfl (o_assign ?_)
    refine rg_nil ?_
    have h0 : ¬ 0 < left := of_decide_eq_false hg7
    have hp := depth_pos t
    refine ret1 Try.func67 Try.results67 (by first | ((conv => lhs; whnf); done) | rfl) () (by rw [decide_eq_false (by omega)]) (fun w hs => hs.none)
theorem shallow_spec : ∀ t : T, ShallowAt t := T.ind fun t ih left vr vk vs hl => shallow_walk t ih left vr vk vs hl
/-- What is left of a number of nodes. -/
def leftOf (t : T) (m : Int) : Int := if (size t : Int) ≤ m then m - size t else -1
abbrev CountCap (b bc : Nat) : List Value := [.pointer (some ⟨b, 0, none⟩), .pointer (some ⟨bc, 0, none⟩)]
abbrev CountM (b bc : Nat) (m : Int) : List Res := [boxR b [.int .i64 m] 3, boxR bc [.func (.func 83) #[] (CountCap b bc).toArray] 32]
abbrev CountAt (t : T) : Prop := ∀ (m : Int) b bc vr vk vs, 0 ≤ m → in64 m → Spec Try.prog 83 #[.agg (tc t vr vk vs).toArray, .pointer (some ⟨b, 0, none⟩), .pointer (some ⟨bc, 0, none⟩)] [RT t vr vk vs] (CountM b bc m) (fun _ : Unit => .bool (decide ((size t : Int) ≤ m))) (fun _ => []) (fun _ => CountM b bc (leftOf t m))
theorem small11_walk (k : T) (vr vk vs : SH) (b bc : Nat) (m v d : Int) (h0 : 0 ≤ m) (hl : in64 m) (ih : CountAt k) : Spec Try.prog 84 #[.agg (tc k vr vk vs).toArray, .int .i64 v, .int .i64 d, .pointer (some ⟨bc, 0, none⟩)] [RT k vr vk vs] (CountM b bc m) (fun _ : Unit => .bool (decide ((size k : Int) ≤ m))) (fun _ => []) (fun _ => CountM b bc (leftOf k m)) := by
  refine spec_go (args := [.agg (tc k vr vk vs).toArray, .int .i64 v, .int .i64 d, .pointer (some ⟨bc, 0, none⟩)]) Try.func84 Try.ntmps84 rfl (by exact Nat.le_of_ble_eq_true rfl) fun B hB => ?_
  refine go_seq ?_
  refine go_region ⟨_, Try.func84⟩ rfl ?_
  refine q0 rfl (o_box fun b4 => ?_)
  refine q0 rfl (o_assign ?_)
  refine rg_nil ?_
  refine go_seq ?_
  refine go_region ⟨_, Try.func84⟩ rfl ?_
  refine q0 rfl (o_ld ?_)
  refine q0 rfl (o_lds ?_)
  refine q0 rfl (o_callC Try.call83 (ih m b bc vr vk vs h0 hl) (cap := CountCap b bc) (fun x10 => ?_))
  refine q0 rfl (o_assign ?_)
  refine rg_nil ?_
  refine ret1 Try.func84 Try.results84 (by first | ((conv => lhs; whnf); done) | rfl) () rfl (fun w hs => (hs.less (by simp)).dropR (A := CountM b bc (leftOf k m)))
theorem count_each (t : T) (ih : ∀ p, p ∈ parts t → CountAt p.1) (m : Int) (b bc : Nat) (vr vk vs : SH) (h0 : 0 < m) (hl : in64 m) :
    Spec Try.prog 45 #[.agg (tc t vr vk vs).toArray, .func (.func 84) #[] #[.pointer (some ⟨bc, 0, none⟩)]] [RT t vr vk vs] (CountM b bc (m - 1)) (fun _ : Unit => .bool (decide ((size t : Int) ≤ m))) (fun _ => []) (fun _ => CountM b bc (leftOf t m)) := by
  have h := each_spec t vr vk vs 84 [.pointer (some ⟨bc, 0, none⟩)] [] (fun j => CountM b bc (if (sizeUpto t j : Int) ≤ m then m - sizeUpto t j else -1)) (fun _ => CountM b bc (-1)) (fun j => decide ((sizeUpto t (j + 1) : Int) ≤ m)) Try.call84 ?_
  · have hall : (ff (fun j => decide ((sizeUpto t (j + 1) : Int) ≤ m)) (parts t).length == (parts t).length) = decide ((size t : Int) ≤ m) := by
      rw [Bool.eq_iff_iff, beq_iff_eq, ff_eq_iff, decide_eq_true_iff]
      constructor
      · intro h
        cases hn : (parts t).length with
        | zero => have := sizeUpto_all t; rw [hn, sizeUpto_zero] at this; omega
        | succ n =>
          have := h n (by omega)
          rw [← hn, sizeUpto_all] at this
          exact of_decide_eq_true this
      · intro h j hj
        have := sizeUpto_le t (j + 1)
        exact decide_eq_true (by omega)
    simp only [hall, sizeUpto_zero, sizeUpto_all, beq_iff_eq] at h
    rw [if_pos (by omega)] at h
    by_cases hs : (size t : Int) ≤ m
    · have e : ff (fun j => decide ((sizeUpto t (j + 1) : Int) ≤ m)) (parts t).length = (parts t).length := by rw [← beq_iff_eq, hall]; exact decide_eq_true hs
      simp only [e, if_true, if_pos hs] at h
      unfold leftOf; rw [if_pos hs]; exact h
    · have e : ¬ ff (fun j => decide ((sizeUpto t (j + 1) : Int) ≤ m)) (parts t).length = (parts t).length := by rw [← beq_iff_eq, hall]; simpa using hs
      simp only [if_neg e] at h
      unfold leftOf; rw [if_neg hs]; exact h
  · intro j k v d hm hβ vr vk vs
    have hs := sizeUpto_succ hm
    simp only at hs
    have hp := size_pos k
    have hj : (sizeUpto t j : Int) ≤ m := by
      cases j with
      | zero => rw [sizeUpto_zero]; omega
      | succ j => exact of_decide_eq_true (hβ j (by omega))
    have := small11_walk k vr vk vs b bc (m - sizeUpto t j) v d (by omega) (by unfold in64 at *; omega) (ih _ (parts_mem hm))
    rw [if_pos hj]
    have e1 : decide ((size k : Int) ≤ m - sizeUpto t j) = decide ((sizeUpto t (j + 1) : Int) ≤ m) := by rw [hs]; congr 1; apply propext; omega
    rw [e1] at this
    have e2 : CountM b bc (leftOf k (m - sizeUpto t j)) = if decide ((sizeUpto t (j + 1) : Int) ≤ m) = true then CountM b bc (if (sizeUpto t (j + 1) : Int) ≤ m then m - sizeUpto t (j + 1) else -1) else CountM b bc (-1) := by
      unfold leftOf
      by_cases hk : (sizeUpto t (j + 1) : Int) ≤ m
      · rw [if_pos (by omega), if_pos (decide_eq_true hk), if_pos hk, hs]; congr 1; omega
      · rw [if_neg (by omega), if_neg (by simpa using hk)]
    rw [e2] at this
    exact this
theorem small1_walk (t : T) (ih : ∀ p, p ∈ parts t → CountAt p.1) (m : Int) (b bc : Nat) (vr vk vs : SH) (h0 : 0 ≤ m) (hl : in64 m) : Spec Try.prog 83 #[.agg (tc t vr vk vs).toArray, .pointer (some ⟨b, 0, none⟩), .pointer (some ⟨bc, 0, none⟩)] [RT t vr vk vs] (CountM b bc m) (fun _ : Unit => .bool (decide ((size t : Int) ≤ m))) (fun _ => []) (fun _ => CountM b bc (leftOf t m)) := by
  refine spec_go (args := [.agg (tc t vr vk vs).toArray, .pointer (some ⟨b, 0, none⟩), .pointer (some ⟨bc, 0, none⟩)]) Try.func83 Try.ntmps83 rfl (by exact Nat.le_of_ble_eq_true rfl) fun B hB => ?_
  refine go_seq ?_
  refine go_region ⟨_, Try.func83⟩ rfl ?_
  refine q0 rfl (o_box fun b3 => ?_)
  refine q0 rfl (o_assign ?_)
  refine rg_nil ?_
  refine go_seq ?_
  refine go_region ⟨_, Try.func83⟩ rfl ?_
  refine q0 rfl (o_ld ?_)
  refine q0 rfl (o_sub ?_)
  refine q0 rfl (o_stc ?_)
  refine rg_nil ?_
  refine go_seq ?_
  refine go_region ⟨_, Try.func83⟩ rfl ?_
  refine q0 rfl (o_ld ?_)
  refine q0 rfl (o_geq ?_)
  refine q0 rfl (o_move ?_)
  refine qI rfl rfl rfl (by conv => lhs; whnf) (fun hg9 => o_lds ?_) (fun hg9 => ?_)
  · refine qT rfl rfl rfl (o_func ?_)
    have h1 : 0 ≤ m - 1 := of_decide_eq_true hg9
    have hE := count_each t ih m b bc vr vk vs (by omega) hl
    refine qT rfl rfl rfl (o_call Try.call45 (hE) (fun x12 => ?_) (hm := (List.Perm.swap _ _ _).cons _))
    refine q0 rfl (o_pickT ?_)
    refine q0 rfl (o_assign ?_)
    refine rg_nil ?_
    refine ret1 Try.func83 Try.results83 (by first | ((conv => lhs; whnf); done) | rfl) () rfl (fun w hs => (hs.less (by simp)).dropR (A := CountM b bc (leftOf t m)))
  · refine qF rfl rfl rfl ?_
    refine qF rfl rfl rfl ?_
    refine q0 rfl (o_pickF ?_)
    refine q0 rfl (o_assign ?_)
    refine rg_nil ?_
    have h1 : ¬ 0 ≤ m - 1 := of_decide_eq_false hg9
    have hp := size_pos t
    refine ret1 Try.func83 Try.results83 (by first | ((conv => lhs; whnf); done) | rfl) () (by rw [decide_eq_false (by omega)]) (fun w hs => by rw [leftOf, if_neg (by omega), show (-1 : Int) = m - 1 by omega]; exact ((hs.less (Γ' := []) (by simp)).perm ((List.Perm.swap _ _ _).cons _)).dropR (A := CountM b bc (m - 1)))
theorem count_spec : ∀ t : T, CountAt t := T.ind fun t ih m b bc vr vk vs h0 hl => small1_walk t ih m b bc vr vk vs h0 hl
end Go.Hy
namespace Go.Hy
set_option linter.unusedVariables false
set_option linter.unusedSimpArgs false
set_option linter.unusedSectionVars false
open Go.Proofs
set_option linter.unusedVariables false
set_option linter.unusedSimpArgs false
set_option maxRecDepth 100000
def tys : Tys := ⟨72, 31, 69⟩
theorem cloneO (l : List Cl) (a_l : SH)  : Spec Try.prog 43 #[sl a_l (l.length)] [CL l a_l] [] (fun x : SH => sl x l.length) (fun x : SH => []) (fun x : SH => [rowS 2 tys.c x l.length (clFlat l)]) := by
  refine spec_go (args := [sl a_l (l.length)]) Try.func43 Try.ntmps43 rfl (by exact Nat.le_of_ble_eq_true rfl) fun B hB => ?_
  refine go_openCL (l := l) (a := a_l) (fun hl1 hA1 hU1 => ?_)
  refine go_seq ?_
  refine go_region ⟨_, Try.func43⟩ rfl ?_
  refine q0 rfl (o_assign ?_)
  refine rg_nil ?_
  refine go_seq ?_
  refine go_seq ?_
  refine go_region ⟨_, Try.func43⟩ rfl ?_
  refine q0 rfl (o_move ?_)
  refine q0 rfl (o_eqNil ?_)
  refine rg_nil ?_
  refine go_condI (fun h4 => ?_) (fun h4 => ?_)
  · refine go_seq ?_
    refine go_region ⟨_, Try.func43⟩ rfl ?_
    refine q0 rfl (o_assign ?_)
    refine rg_nil ?_
    -- leaf 0: sl (none, 0) (0)
    have hl : l = [] := by (rcases Nat.eq_zero_or_pos l.length with h | h; exact List.eq_nil_of_length_eq_zero h; obtain ⟨bk, o, hav⟩ := hA1 h; rw [hav] at h4; cases h4)
    subst hl
    refine ret1 Try.func43 Try.results43 (by first | ((conv => lhs; whnf); done) | rfl) (none, 0) rfl (fun w hs => ((hs.less (by simp)).bare).rowS0 2 72)
  · refine go_skip ?_
    refine go_seq ?_
    refine go_region ⟨_, Try.func43⟩ rfl ?_
    refine q0 rfl (o_lit0 fun b5 => ?_)
    refine q0 rfl (o_move ?_)
    refine rg_state (fun w hs => hs.boxRow (sz := 2) (m := 0) rfl (by decide)) ?_
    refine q0 rfl (o_appCL (fun a7 => ?_) (by simp) (a := (some ⟨b5, 0, none⟩, 0)) (n' := 0) (b := a_l) (ls := l))
    refine rg_state (fun w hs => hs.appFlatC (l := []) (m := l)) ?_
    refine q0 rfl (o_assign ?_)
    refine rg_nil ?_
    -- leaf 1: sl a7 (0 + l.length)
    refine ret1 Try.func43 Try.results43 (by first | ((conv => lhs; whnf); done) | rfl) a7 (by (conv => lhs; whnf); simp [sl]) (fun w hs => by have h := hs.less (Γ' := []) (by simp); simp only [Nat.zero_add, List.nil_append] at h; exact h)
abbrev CopyO (t : T) : Prop := ∀ vr vk vs, Spec Try.prog 20 #[.agg (tc t vr vk vs).toArray] [RT t vr vk vs] [] (fun x : {h : HT // h.er = t} => .agg (tc t x.1.vr x.1.vk x.1.vs).toArray) (fun _ => []) (fun x => [bigR (treeR tys x.1)])
theorem copiedO (ts : List T) (a_ts : SH) (ih : ∀ t, t ∈ ts → CopyO t) : Spec Try.prog 44 #[sl a_ts (ts.length)] [TL ts a_ts] [] (fun x : SH × {hs : List HT // hs.map HT.er = ts} => sl x.1 ts.length) (fun x : SH × {hs : List HT // hs.map HT.er = ts} => []) (fun x : SH × {hs : List HT // hs.map HT.er = ts} => [rowS 6 tys.t x.1 ts.length (tpFlat (x.2.1.map HT.tp)), bigR (kidsR tys x.2.1)]) := by
  refine spec_go (args := [sl a_ts (ts.length)]) Try.func44 Try.ntmps44 rfl (by exact Nat.le_of_ble_eq_true rfl) fun B hB => ?_
  refine go_openTL (ts := ts) (a := a_ts) (fun VR1 VK1 VS1 hl1 hA1 => ?_)
  refine go_seq ?_
  refine go_region ⟨_, Try.func44⟩ rfl ?_
  refine q0 rfl (o_assign ?_)
  refine rg_nil ?_
  refine go_seq ?_
  refine go_region ⟨_, Try.func44⟩ rfl ?_
  refine q0 rfl (o_assign ?_)
  refine rg_nil ?_
  refine go_seq ?_
  refine go_seq ?_
  refine go_region ⟨_, Try.func44⟩ rfl ?_
  refine q0 rfl (o_move ?_)
  refine q0 rfl (o_len ?_)
  refine q0 rfl (o_move ?_)
  refine rg_nil ?_
  refine go_block ?_
  refine go_loopE (X := Nat × SH × List HT) (fun s_ => s_.1 ≤ ts.length ∧ s_.2.2.map HT.er = ts.take s_.1) (fun s_ => [(3, sl s_.2.1 (s_.1)), (6, sl a_ts (ts.length)), (7, .int .i64 ((ts.length : Int))), (8, .int .i64 ((s_.1 : Int)))]) (fun s_ G_ => G_) (fun s_ => [bigR (kidsR tys s_.2.2), rowS 6 31 s_.2.1 (s_.1) (tpFlat (s_.2.2.map HT.tp))]) (fun s_ => ts.length - s_.1) (0, (none, 0), []) (⟨by omega, rfl⟩) (by exact ⟨rfl, rfl, rfl, rfl, trivial⟩) ?_ ?_
  · exact fun w hs => ((hs.rowS0 6 31).bigNil)
  · intro ⟨i, a, ks⟩ base0 ⟨hi, hks⟩ next0
    dsimp only at  hi  hks  next0 ⊢
    refine go_seq ?_
    refine go_region ⟨_, Try.func44⟩ rfl ?_
    refine q0 rfl (o_lss ?_)
    refine rg_nil ?_
    refine go_seq ?_
    refine go_condI (fun h9 => ?_) (fun h9 => ?_)
    · have c9 : (decide ((i : Int) < (ts.length : Int))) = true := h9
      try simp only [decide_eq_true_eq, decide_eq_false_iff_not, Bool.and_eq_true, Bool.or_eq_true, Bool.not_eq_true', Bool.and_eq_false_iff, Bool.or_eq_false_iff, Bool.not_eq_false', bne_iff_ne, beq_iff_eq, ne_eq, not_and, Decidable.not_not, Bool.true_and, Bool.and_true, Bool.false_or, Bool.or_false] at c9
      refine go_skip ?_
      refine go_seq ?_
      refine go_block ?_
      refine go_seq ?_
      refine go_kid (ts := ts) (a := a_ts) (VR := VR1) (VK := VK1) (VS := VS1) i (by omega) ?_
      refine go_region ⟨_, Try.func44⟩ rfl ?_
      obtain ⟨bk2, o2, hav2⟩ := hA1 (by omega)
      refine q0 rfl (o_ixN ?_ (j := i))
      refine q0 rfl (o_ldT ?_)
      refine q0 rfl (o_new fun b5 => ?_)
      refine q0 rfl (o_st ?_)
      refine rg_nil ?_
      refine go_region ⟨_, Try.func44⟩ rfl ?_
      refine q0 rfl (o_move ?_)
      refine q0 rfl (o_lds ?_)
      refine q0 rfl (o_call Try.call20 (ih _ (getD_mem (show i < ts.length by omega)) (VR1 i) (VK1 i) (VS1 i)) (fun x14 => ?_))
      refine q0 rfl (o_lit1 fun b15 => ?_)
      refine q0 rfl (o_appS (fun a16 => ?_) (a := a) (n' := i))
      refine rg_state (fun w hs => ((hs.perm perm1).drop).snocT) ?_
      refine q0 rfl (o_assign ?_)
      refine rg_nil ?_
      refine go_inBlock ?_
      refine go_region ⟨_, Try.func44⟩ rfl ?_
      refine q0 rfl (o_add ?_)
      refine q0 rfl (o_move ?_)
      refine rg_nil ?_
      refine go_state (fun w hs => ?_) (next0 (i + 1, a16, ks ++ [x14.1]) _ (⟨by omega, by rw [List.map_append, hks, take_succ_getD (d := t0) (by omega)]; simp [x14.2]⟩) (by (try simp only); omega) ⟨rfl, rfl, rfl, rfl, trivial⟩)
      have e1 : (ks ++ [x14.1]).map HT.tp = ks.map HT.tp ++ [(ts.getD i t0, x14.1.vr, x14.1.vk, x14.1.vs)] := by simp only [List.map_append, List.map_cons, List.map_nil, HT.tp, x14.2]
      rw [e1]; exact (((((((((hs.less (by simp +contextual)).perm perm2).perm perm1).perm perm3).perm perm3).joinK).perm perm1).perm perm1).dropR (A := [_, _]))
    · have c9 : (decide ((i : Int) < (ts.length : Int))) = false := h9
      try simp only [decide_eq_true_eq, decide_eq_false_iff_not, Bool.and_eq_true, Bool.or_eq_true, Bool.not_eq_true', Bool.and_eq_false_iff, Bool.or_eq_false_iff, Bool.not_eq_false', bne_iff_ne, beq_iff_eq, ne_eq, not_and, Decidable.not_not, Bool.true_and, Bool.and_true, Bool.false_or, Bool.or_false] at c9
      refine go_exit rfl ?_
      refine go_seq ?_
      refine go_region ⟨_, Try.func44⟩ rfl ?_
      refine q0 rfl (o_move ?_)
      refine q0 rfl (o_assign ?_)
      refine rg_nil ?_
      -- leaf 0: sl a (i)
      have he : i = ts.length := by omega
      have hks2 : ks.map HT.er = ts := by rw [hks, he, List.take_length]
      refine ret1 Try.func44 Try.results44 (by first | ((conv => lhs; whnf); done) | rfl) (a, ⟨ks, hks2⟩) (by rw [he]; rfl) (fun w hs => by rw [← he]; exact ((hs.perm perm1).less (by simp)))
theorem copyO_walk (t : T) (vr_t vk_t vs_t : SH) (ih : ∀ p, p ∈ parts t → CopyO p.1) : Spec Try.prog 20 #[.agg (tc t vr_t vk_t vs_t).toArray] [RT t vr_t vk_t vs_t] [] (fun x : {h : HT // h.er = t} => .agg (tc t x.1.vr x.1.vk x.1.vs).toArray) (fun x : {h : HT // h.er = t} => []) (fun x : {h : HT // h.er = t} => [bigR (treeR tys x.1)]) := by
  refine spec_go (args := [.agg (tc t vr_t vk_t vs_t).toArray]) Try.func20 Try.ntmps20 rfl (by exact Nat.le_of_ble_eq_true rfl) fun B hB => ?_
  refine go_open (t := t) (vr := vr_t) (vk := vk_t) (vs := vs_t) (fun hk1 hn1 hm1 => ?_)
  refine go_openCL (l := (t).r) (a := vr_t) (fun hl2 hA2 hU2 => ?_)
  refine go_openTL (ts := (t).kids) (a := vk_t) (fun VR3 VK3 VS3 hl3 hA3 => ?_)
  refine go_openBL (bs := (t).sys) (a := vs_t) (fun VF4 VK4 hl4 hA4 => ?_)
  refine go_seq ?_
  refine go_region ⟨_, Try.func20⟩ rfl ?_
  refine q0 rfl (o_box fun b1 => ?_)
  refine q0 rfl (o_new fun b2 => ?_)
  refine rg_nil ?_
  refine go_seq ?_
  refine go_draw (tn := false) (A := [0, 1, 0, 4, 0, 16, 0, 64, 192, 0, 512, 1984, 4095, 0, 16383]) (l := [0, 1, 2, 3, 4, 5, 6, 7, 9, 10, 8, 11, 12, 13]) (fin := [14]) Tab.mixed ⟨_, Try.func20⟩ (by rfl) ?_
  refine n0 rfl (v_fa ?_)
  refine n0 rfl (v_ld ?_)
  refine n0 rfl (v_fa ?_)
  refine n0 rfl (v_ld ?_)
  refine n0 rfl (v_fa ?_)
  refine n0 rfl (v_ld ?_)
  refine n0 rfl (v_fa ?_)
  refine n0 rfl (v_ld ?_)
  refine n0 rfl (v_fa ?_)
  refine n0 rfl (v_ld ?_)
  refine n0 rfl (v_call Try.call43 (cloneO ((t).r) vr_t ) (fun x14 => ?_))
  refine n0 rfl (v_call Try.call44 (copiedO ((t).kids) vk_t (fun k hk => (by obtain ⟨p, hp, e⟩ := kid_mem_parts hk; exact e ▸ ih p hp))) (fun x17 => ?_))
  refine n0 rfl (v_build (cs := [.int .i64 ((t).kind), .int .i64 ((t).n), .string ((t).name), sl x14 (((t).r).length), sl x17.1 (((t).kids).length), sl (none, 0) (0)]) ?_)
  refine n0 rfl (v_new fun b3 => ?_)
  refine NV.done ?_
  refine q0 rfl (o_st ?_)
  refine rg_nil ?_
  refine go_seq ?_
  refine go_seq ?_
  refine go_region ⟨_, Try.func20⟩ rfl ?_
  refine q0 rfl (o_fa ?_)
  refine q0 rfl (o_ld ?_)
  refine q0 rfl (o_len ?_)
  refine q0 rfl (o_move ?_)
  refine rg_nil ?_
  refine go_block ?_
  refine go_loopE (X := Nat × SH × List HB) (fun s_ => s_.1 ≤ t.sys.length ∧ s_.2.2.map HB.er = t.sys.take s_.1) (fun s_ => [(2, .pointer (some ⟨b2, 0, none⟩)), (3, .pointer (some ⟨b3, 0, none⟩)), (20, sl vs_t ((t).sys.length)), (21, .int .i64 (((t).sys.length : Int))), (22, .int .i64 ((s_.1 : Int)))]) (fun s_ G_ => G_) (fun s_ => [bigR (brsR tys s_.2.2), rowS 2 69 s_.2.1 (s_.1) (bpFlat (s_.2.2.map HB.bp)), boxR b3 [.int .i64 (t.kind), .int .i64 (t.n), .string (t.name), sl x14 (t.r.length), sl x17.1 (t.kids.length), sl s_.2.1 (s_.1)] 31, rowS 6 31 x17.1 (((t).kids).length) (tpFlat (x17.2.1.map HT.tp)), bigR (kidsR tys x17.2.1), rowS 2 72 x14 (((t).r).length) (clFlat ((t).r)), boxR b2 [.int .i64 (0), .int .i64 (0), .string ((ByteArray.mk #[])), sl (none, 0) (0), sl (none, 0) (0), sl (none, 0) (0)] 31, boxR b1 (tc t vr_t vk_t vs_t) 31]) (fun s_ => t.sys.length - s_.1) (0, (none, 0), []) (⟨by omega, rfl⟩) (by exact ⟨rfl, rfl, rfl, rfl, rfl, trivial⟩) ?_ ?_
  · exact fun w hs => ((hs.rowS0 2 69).bigNil)
  · intro ⟨i, a, bs⟩ base0 ⟨hi, hbs⟩ next0
    dsimp only at  hi  hbs  next0 ⊢
    refine go_seq ?_
    refine go_region ⟨_, Try.func20⟩ rfl ?_
    refine q0 rfl (o_lss ?_)
    refine rg_nil ?_
    refine go_seq ?_
    refine go_condI (fun h23 => ?_) (fun h23 => ?_)
    · have c23 : (decide ((i : Int) < ((t).sys.length : Int))) = true := h23
      try simp only [decide_eq_true_eq, decide_eq_false_iff_not, Bool.and_eq_true, Bool.or_eq_true, Bool.not_eq_true', Bool.and_eq_false_iff, Bool.or_eq_false_iff, Bool.not_eq_false', bne_iff_ne, beq_iff_eq, ne_eq, not_and, Decidable.not_not, Bool.true_and, Bool.and_true, Bool.false_or, Bool.or_false] at c23
      refine go_skip ?_
      refine go_seq ?_
      refine go_block ?_
      refine go_seq ?_
      refine go_branch (bs := (t).sys) (a := vs_t) (VF := VF4) (VK := VK4) i (by omega) ?_
      refine go_openCL (l := (((t).sys).getD i br0).face) (a := VF4 i) (fun hl5 hA5 hU5 => ?_)
      refine go_openTL (ts := (((t).sys).getD i br0).kids) (a := VK4 i) (fun VR6 VK6 VS6 hl6 hA6 => ?_)
      refine go_region ⟨_, Try.func20⟩ rfl ?_
      obtain ⟨bk7, o7, hav7⟩ := hA4 (by omega)
      refine q0 rfl (o_ixN ?_ (j := i))
      refine q0 rfl (o_ldB ?_)
      refine q0 rfl (o_new fun b5 => ?_)
      refine q0 rfl (o_st ?_)
      refine rg_nil ?_
      refine go_draw (tn := false) (A := [0, 1, 0, 4, 12, 0, 32, 124, 252, 508, 1023, 2047, 4095]) (l := [0, 1, 2, 3, 5, 6, 4, 7, 8, 9]) (fin := [10, 11, 12]) Tab.mixed ⟨_, Try.func20⟩ (by rfl) ?_
      refine n0 rfl (v_fa ?_)
      refine n0 rfl (v_ld ?_)
      refine n0 rfl (v_fa ?_)
      refine n0 rfl (v_ld ?_)
      refine n0 rfl (v_fa ?_)
      refine n0 rfl (v_ld ?_)
      refine n0 rfl (v_call Try.call43 (cloneO ((((t).sys).getD i br0).face) (VF4 i) ) (fun x30 => ?_))
      refine n0 rfl (v_call Try.call44 (copiedO ((((t).sys).getD i br0).kids) (VK4 i) (fun k hk => (by obtain ⟨p, hp, e⟩ := sys_mem_parts (getD_mem (show i < t.sys.length by omega)) hk; exact e ▸ ih p hp))) (fun x33 => ?_))
      refine n0 rfl (v_build (cs := bc (t.sys.getD i br0) x30 x33.1) ?_)
      refine n0 rfl (v_lit1 fun b35 => ?_)
      refine NV.done ?_
      refine q0 rfl (o_appS (fun a36 => ?_) (a := a) (n' := i))
      refine rg_state (fun w hs => ((hs.perm perm1).drop).snocB) ?_
      refine q0 rfl (o_fa ?_)
      refine q0 rfl (o_stc ?_)
      refine rg_nil ?_
      refine go_inBlock ?_
      refine go_region ⟨_, Try.func20⟩ rfl ?_
      refine q0 rfl (o_add ?_)
      refine q0 rfl (o_move ?_)
      refine rg_nil ?_
      refine go_state (fun w hs => ?_) (next0 (i + 1, a36, bs ++ [HB.mk (t.sys.getD i br0).face x30 x33.2.1 x33.1]) _ (⟨by omega, by rw [List.map_append, hbs, take_succ_getD (d := br0) (by omega)]; simp [HB.er, HT.erL_eq, x33.2.2, Br.eta]⟩) (by (try simp only); omega) ⟨rfl, rfl, rfl, rfl, rfl, trivial⟩)
      have e1 : (bs ++ [HB.mk (t.sys.getD i br0).face x30 x33.2.1 x33.1]).map HB.bp = bs.map HB.bp ++ [(t.sys.getD i br0, x30, x33.1)] := by simp only [List.map_append, List.map_cons, List.map_nil, HB.bp, HB.er, HB.vf, HB.vk, HT.erL_eq, x33.2.2, Br.eta]
      rw [e1]; exact (((((((((((((((((((((((hs.less (by simp +contextual)).perm perm11).perm perm11).perm perm11).perm perm11).perm perm11).perm perm10).perm perm7).perm perm7).perm perm11).perm perm10).perm perm10).perm perm11).joinB rfl (by simpa using (congrArg List.length x33.2.2).symm) rfl rfl).perm perm8).perm perm8).perm perm8).perm perm8).perm perm8).perm perm6).perm perm7).perm perm7).dropR (A := [_, _, _, _, _, _, _, _]))
    · have c23 : (decide ((i : Int) < ((t).sys.length : Int))) = false := h23
      try simp only [decide_eq_true_eq, decide_eq_false_iff_not, Bool.and_eq_true, Bool.or_eq_true, Bool.not_eq_true', Bool.and_eq_false_iff, Bool.or_eq_false_iff, Bool.not_eq_false', bne_iff_ne, beq_iff_eq, ne_eq, not_and, Decidable.not_not, Bool.true_and, Bool.and_true, Bool.false_or, Bool.or_false] at c23
      refine go_exit rfl ?_
      refine go_seq ?_
      refine go_region ⟨_, Try.func20⟩ rfl ?_
      refine q0 rfl (o_lds ?_)
      refine q0 rfl (o_st ?_)
      refine rg_nil ?_
      -- leaf 0: .pointer (some ⟨b2, 0, none⟩)
      have he : i = t.sys.length := by omega
      have hb2 : bs.map HB.er = t.sys := by rw [hbs, he, List.take_length]
      have hbl : bs.length = t.sys.length := by rw [← hb2]; simp
      have hkl : x17.2.1.length = t.kids.length := by rw [← congrArg List.length x17.2.2]; simp
      have her : (HT.mk t.kind t.n t.name t.r x14 x17.2.1 x17.1 bs a).er = t := by simp only [HT.er, HT.erL_eq, HT.erB_eq]; rw [x17.2.2, hb2, T.eta]
      refine retC Try.func20 Try.results20 ⟨(HT.mk t.kind t.n t.name t.r x14 x17.2.1 x17.1 bs a), her⟩ rfl (by repeat (first | exact List.mem_cons_self | apply List.mem_cons_of_mem)) rfl rfl rfl (by simp only [tc, HT.vr, HT.vk, HT.vs, he]; rfl) (fun w hs => ?_)
      exact (((((((((((hs.less (by simp)).perm perm7).perm perm4).perm perm2).perm perm3).perm perm6).perm perm5).perm perm6).perm perm7).joinT (y := tys) (k := t.kind) (n := t.n) (nm := t.name) rfl hkl.symm (by omega) rfl rfl rfl).dropR (A := [_]))
theorem copyO : ∀ t : T, CopyO t := T.ind fun t ih vr vk vs => copyO_walk t vr vk vs ih
end Go.Hy
namespace Go.Hy
set_option linter.unusedVariables false
set_option linter.unusedSimpArgs false
set_option linter.unusedSectionVars false
open Go.Proofs
set_option linter.unusedVariables false
set_option linter.unusedSimpArgs false
set_option maxRecDepth 100000
theorem pmore (k : Int)  : Spec Try.prog 80 #[.int .i64 (k)] [] [] (fun _ : Unit => .int .i64 (more k)) (fun _ : Unit => []) (fun _ : Unit => []) := by
  refine spec_go (args := [.int .i64 (k)]) Try.func80 Try.ntmps80 rfl (by exact Nat.le_of_ble_eq_true rfl) fun B hB => ?_
  refine go_seq ?_
  refine go_region ⟨_, Try.func80⟩ rfl ?_
  refine q0 rfl (o_assign ?_)
  refine rg_nil ?_
  refine go_seq ?_
  refine go_seq ?_
  refine go_region ⟨_, Try.func80⟩ rfl ?_
  refine q0 rfl (o_move ?_)
  refine q0 rfl (o_eqI ?_)
  refine rg_nil ?_
  refine go_condI (fun h4 => ?_) (fun h4 => ?_)
  · have c4 : (decide (k = 15)) = true := h4
    try simp only [decide_eq_true_eq, decide_eq_false_iff_not, Bool.and_eq_true, Bool.or_eq_true, Bool.not_eq_true', Bool.and_eq_false_iff, Bool.or_eq_false_iff, Bool.not_eq_false', bne_iff_ne, beq_iff_eq, ne_eq, not_and, Decidable.not_not, Bool.true_and, Bool.and_true, Bool.false_or, Bool.or_false] at c4
    refine go_seq ?_
    refine go_region ⟨_, Try.func80⟩ rfl ?_
    refine q0 rfl (o_assign ?_)
    refine rg_nil ?_
    -- leaf 0: .int .i64 (1)
    refine ret1 Try.func80 Try.results80 (by first | ((conv => lhs; whnf); done) | rfl) () (by first | rfl | (simp_all [more]; done) | (simp_all [more]; omega)) (fun w hs => hs.none)
  · have c4 : (decide (k = 15)) = false := h4
    try simp only [decide_eq_true_eq, decide_eq_false_iff_not, Bool.and_eq_true, Bool.or_eq_true, Bool.not_eq_true', Bool.and_eq_false_iff, Bool.or_eq_false_iff, Bool.not_eq_false', bne_iff_ne, beq_iff_eq, ne_eq, not_and, Decidable.not_not, Bool.true_and, Bool.and_true, Bool.false_or, Bool.or_false] at c4
    refine go_skip ?_
    refine go_seq ?_
    refine go_region ⟨_, Try.func80⟩ rfl ?_
    refine q0 rfl (o_assign ?_)
    refine rg_nil ?_
    -- leaf 1: .int .i64 (0)
    refine ret1 Try.func80 Try.results80 (by first | ((conv => lhs; whnf); done) | rfl) () (by first | rfl | (simp_all [more]; done) | (simp_all [more]; omega)) (fun w hs => hs.none)
end Go.Hy
namespace Go.Hy
set_option linter.unusedVariables false
set_option linter.unusedSimpArgs false
set_option linter.unusedSectionVars false
open Go.Proofs
set_option linter.unusedVariables false
set_option linter.unusedSimpArgs false
set_option maxRecDepth 100000
theorem parts_walk (t : T) (vr_t vk_t vs_t : SH) (hz : size t ≤ 1000000000) : Spec Try.prog 65 #[.agg (tc t vr_t vk_t vs_t).toArray] [RT t vr_t vk_t vs_t] [] (fun x : {x : SH × List QP // x.2.map qer = parts t} => sl x.1.1 x.1.2.length) (fun x : {x : SH × List QP // x.2.map qer = parts t} => [AllF qE x.1.2]) (fun x : {x : SH × List QP // x.2.map qer = parts t} => [rowS 8 60 x.1.1 x.1.2.length (spFlat x.1.2)]) := by
  refine spec_go (args := [.agg (tc t vr_t vk_t vs_t).toArray]) Try.func65 Try.ntmps65 rfl (by exact Nat.le_of_ble_eq_true rfl) fun B hB => ?_
  refine go_open (t := t) (vr := vr_t) (vk := vk_t) (vs := vs_t) (fun hk1 hn1 hm1 => ?_)
  refine go_openCL (l := (t).r) (a := vr_t) (fun hl2 hA2 hU2 => ?_)
  refine go_openTL (ts := (t).kids) (a := vk_t) (fun VR3 VK3 VS3 hl3 hA3 => ?_)
  refine go_openBL (bs := (t).sys) (a := vs_t) (fun VF4 VK4 hl4 hA4 => ?_)
  have hpn := parts_len t
  have hp0 : t.kids.length ≤ (parts t).length := sys_le (t := t) (Nat.zero_le _)
  refine go_seq ?_
  refine go_region ⟨_, Try.func65⟩ rfl ?_
  refine q0 rfl (o_box fun b1 => ?_)
  refine q0 rfl (o_assign ?_)
  refine rg_nil ?_
  refine go_seq ?_
  refine go_region ⟨_, Try.func65⟩ rfl ?_
  refine q0 rfl (o_assign ?_)
  refine rg_nil ?_
  refine go_seq ?_
  refine go_seq ?_
  refine go_region ⟨_, Try.func65⟩ rfl ?_
  refine q0 rfl (o_fa ?_)
  refine q0 rfl (o_ld ?_)
  refine q0 rfl (o_len ?_)
  refine q0 rfl (o_move ?_)
  refine rg_nil ?_
  refine go_block ?_
  refine go_loopE (X := Nat × SH × List QP) (fun s_ => s_.1 ≤ t.kids.length ∧ s_.2.2.map qer = (parts t).take s_.1) (fun s_ => [(1, .pointer (some ⟨b1, 0, none⟩)), (3, sl s_.2.1 (s_.1)), (13, sl vk_t ((t).kids.length)), (14, .int .i64 (((t).kids.length : Int))), (15, .int .i64 ((s_.1 : Int)))]) (fun s_ G_ => AllF qE s_.2.2 :: G_) (fun s_ => [rowS 8 60 s_.2.1 (s_.1) (spFlat s_.2.2), boxR b1 (tc t vr_t vk_t vs_t) 31]) (fun s_ => t.kids.length - s_.1) (0, (none, 0), []) (⟨by omega, rfl⟩) (by exact ⟨rfl, rfl, rfl, rfl, rfl, trivial⟩) ?_ ?_
  · exact fun w hs => ((hs.rowS0 8 60).allNil qE)
  · intro ⟨i, a, qs⟩ base0 ⟨hi, hqs⟩ next0
    dsimp only at  hi  hqs  next0 ⊢
    refine go_seq ?_
    refine go_region ⟨_, Try.func65⟩ rfl ?_
    refine q0 rfl (o_lss ?_)
    refine rg_nil ?_
    refine go_seq ?_
    refine go_condI (fun h16 => ?_) (fun h16 => ?_)
    · have c16 : (decide ((i : Int) < ((t).kids.length : Int))) = true := h16
      try simp only [decide_eq_true_eq, decide_eq_false_iff_not, Bool.and_eq_true, Bool.or_eq_true, Bool.not_eq_true', Bool.and_eq_false_iff, Bool.or_eq_false_iff, Bool.not_eq_false', bne_iff_ne, beq_iff_eq, ne_eq, not_and, Decidable.not_not, Bool.true_and, Bool.and_true, Bool.false_or, Bool.or_false] at c16
      refine go_skip ?_
      refine go_seq ?_
      refine go_block ?_
      refine go_seq ?_
      refine go_kid (ts := (t).kids) (a := vk_t) (VR := VR3) (VK := VK3) (VS := VS3) i (by omega) ?_
      refine go_region ⟨_, Try.func65⟩ rfl ?_
      refine q0 rfl (o_move ?_)
      obtain ⟨bk5, o5, hav5⟩ := hA3 (by omega)
      refine q0 rfl (o_ixN ?_ (j := i))
      refine q0 rfl (o_ldT ?_)
      refine q0 rfl (o_new fun b5 => ?_)
      refine q0 rfl (o_assign ?_)
      refine q0 rfl (o_st ?_)
      refine rg_nil ?_
      refine go_seq ?_
      refine go_region ⟨_, Try.func65⟩ rfl ?_
      refine q0 rfl (o_fa ?_)
      refine q0 rfl (o_ld ?_)
      refine q0 rfl (o_move ?_)
      refine q0 rfl (o_call Try.call11 (binds_spec ((t).kind) (i : Int) ) (fun x24 => ?_))
      refine q0 rfl (o_move ?_)
      refine q0 rfl (o_extract ?_)
      refine q0 rfl (o_extract ?_)
      refine q0 rfl (o_assign ?_)
      refine q0 rfl (o_assign ?_)
      refine rg_nil ?_
      refine go_region ⟨_, Try.func65⟩ rfl ?_
      refine q0 rfl (o_move ?_)
      refine q0 rfl (o_lds ?_)
      refine q0 rfl (o_move ?_)
      refine q0 rfl (o_move ?_)
      refine q0 rfl (o_build (cs := [.int .i64 ((((t).kids).getD i t0).kind), .int .i64 ((((t).kids).getD i t0).n), .string ((((t).kids).getD i t0).name), sl (VR3 i) ((((t).kids).getD i t0).r.length), sl (VK3 i) ((((t).kids).getD i t0).kids.length), sl (VS3 i) ((((t).kids).getD i t0).sys.length), .int .i64 ((binds ((t).kind) (i : Int)).1), .int .i64 ((binds ((t).kind) (i : Int)).2)]) ?_ (hb := fill_spot012 (by rfl) (by rfl)))
      refine q0 rfl (o_lit1 fun b32 => ?_)
      refine q0 rfl (o_appS (fun a33 => ?_) (a := a) (n' := i))
      refine rg_state (fun w hs => ((hs.perm perm1).drop).snocQ (q := ((((t).kids).getD i t0, VR3 i, VK3 i, VS3 i), (binds ((t).kind) (i : Int)).1, (binds ((t).kind) (i : Int)).2)) rfl) ?_
      refine q0 rfl (o_assign ?_)
      refine rg_nil ?_
      refine go_inBlock ?_
      refine go_region ⟨_, Try.func65⟩ rfl ?_
      refine q0 rfl (o_add ?_)
      refine q0 rfl (o_move ?_)
      refine rg_nil ?_
      refine go_state (fun w hs => ?_) (next0 (i + 1, a33, (qs ++ [((((t).kids).getD i t0, VR3 i, VK3 i, VS3 i), (binds ((t).kind) (i : Int)).1, (binds ((t).kind) (i : Int)).2)])) _ (⟨by omega, by rw [List.map_append, hqs, take_snoc (parts_kid t i (by omega))]; rfl⟩) (by (try simp only); omega) ⟨rfl, rfl, rfl, rfl, rfl, trivial⟩)
      exact (((((hs.allAdd (E := qE) (l := qs) (x := ((((t).kids).getD i t0, VR3 i, VK3 i, VS3 i), (binds ((t).kind) (i : Int)).1, (binds ((t).kind) (i : Int)).2)) (by first | ((repeat (first | exact List.mem_cons_self | apply List.mem_cons_of_mem)); done) | (simp only [List.nil_append, List.cons_append]; (repeat (first | exact List.mem_cons_self | apply List.mem_cons_of_mem)))) (by first | ((repeat (first | exact List.mem_cons_self | apply List.mem_cons_of_mem)); done) | (simp only [List.nil_append, List.cons_append]; (repeat (first | exact List.mem_cons_self | apply List.mem_cons_of_mem))))).less (by simp +contextual)).perm perm2).perm perm1).dropR (A := [_, _]))
    · have c16 : (decide ((i : Int) < ((t).kids.length : Int))) = false := h16
      try simp only [decide_eq_true_eq, decide_eq_false_iff_not, Bool.and_eq_true, Bool.or_eq_true, Bool.not_eq_true', Bool.and_eq_false_iff, Bool.or_eq_false_iff, Bool.not_eq_false', bne_iff_ne, beq_iff_eq, ne_eq, not_and, Decidable.not_not, Bool.true_and, Bool.and_true, Bool.false_or, Bool.or_false] at c16
      have hei : i = t.kids.length := by omega
      refine go_ms (Ms' := [rowS 8 60 a (t.kids.length) (spFlat qs), boxR b1 (tc t vr_t vk_t vs_t) 31]) (by rw [hei]) ?_
      refine go_exit rfl ?_
      refine go_seq ?_
      refine go_seq ?_
      refine go_region ⟨_, Try.func65⟩ rfl ?_
      refine q0 rfl (o_fa ?_)
      refine q0 rfl (o_ld ?_)
      refine q0 rfl (o_len ?_)
      refine q0 rfl (o_move ?_)
      refine rg_nil ?_
      refine go_block ?_
      refine go_loopE (X := Nat × SH × List QP) (fun s_ => s_.1 ≤ t.sys.length ∧ s_.2.2.map qer = (parts t).take (t.kids.length + sysBefore s_.1 t.sys)) (fun s_ => [(1, .pointer (some ⟨b1, 0, none⟩)), (3, sl s_.2.1 ((t.kids.length + sysBefore s_.1 t.sys))), (36, sl vs_t ((t).sys.length)), (37, .int .i64 (((t).sys.length : Int))), (38, .int .i64 ((s_.1 : Int)))]) (fun s_ G_ => AllF qE s_.2.2 :: G_) (fun s_ => [rowS 8 60 s_.2.1 ((t.kids.length + sysBefore s_.1 t.sys)) (spFlat s_.2.2), boxR b1 (tc t vr_t vk_t vs_t) 31]) (fun s_ => t.sys.length - s_.1) (0, a, qs) (⟨by omega, by rw [hqs, hei]; rfl⟩) (by exact ⟨rfl, (by (conv => lhs; whnf); rw [hei]; rfl), rfl, rfl, rfl, trivial⟩) ?_ ?_
      · exact fun w hs => (hs.less (by simp +contextual))
      · intro ⟨s, a2, qs2⟩ base1 ⟨hs1, hq2⟩ next1
        dsimp only at  hs1  hq2  next1 ⊢
        refine go_seq ?_
        refine go_region ⟨_, Try.func65⟩ rfl ?_
        refine q0 rfl (o_lss ?_)
        refine rg_nil ?_
        refine go_seq ?_
        refine go_condI (fun h39 => ?_) (fun h39 => ?_)
        · have c39 : (decide ((s : Int) < ((t).sys.length : Int))) = true := h39
          try simp only [decide_eq_true_eq, decide_eq_false_iff_not, Bool.and_eq_true, Bool.or_eq_true, Bool.not_eq_true', Bool.and_eq_false_iff, Bool.or_eq_false_iff, Bool.not_eq_false', bne_iff_ne, beq_iff_eq, ne_eq, not_and, Decidable.not_not, Bool.true_and, Bool.and_true, Bool.false_or, Bool.or_false] at c39
          have hp1 := sys_le (t := t) (s := s + 1) (by omega)
          rw [sysBefore_succ s t.sys (by omega)] at hp1
          refine go_skip ?_
          refine go_seq ?_
          refine go_block ?_
          refine go_seq ?_
          refine go_branch (bs := (t).sys) (a := vs_t) (VF := VF4) (VK := VK4) s (by omega) ?_
          refine go_openCL (l := (((t).sys).getD s br0).face) (a := VF4 s) (fun hl6 hA6 hU6 => ?_)
          refine go_openTL (ts := (((t).sys).getD s br0).kids) (a := VK4 s) (fun VR7 VK7 VS7 hl7 hA7 => ?_)
          refine go_region ⟨_, Try.func65⟩ rfl ?_
          obtain ⟨bk8, o8, hav8⟩ := hA4 (by omega)
          refine q0 rfl (o_ixN ?_ (j := s))
          refine q0 rfl (o_ldB ?_)
          refine q0 rfl (o_new fun b9 => ?_)
          refine q0 rfl (o_st ?_)
          refine rg_nil ?_
          refine go_seq ?_
          refine go_region ⟨_, Try.func65⟩ rfl ?_
          refine q0 rfl (o_fa ?_)
          refine q0 rfl (o_ld ?_)
          refine q0 rfl (o_len ?_)
          refine q0 rfl (o_move ?_)
          refine rg_nil ?_
          refine go_block ?_
          refine go_loopE (X := Nat × SH × List QP) (fun s_ => s_.1 ≤ (t.sys.getD s br0).kids.length ∧ s_.2.2.map qer = (parts t).take (t.kids.length + sysBefore s t.sys + s_.1)) (fun s_ => [(1, .pointer (some ⟨b1, 0, none⟩)), (3, sl s_.2.1 ((t.kids.length + sysBefore s t.sys + s_.1))), (36, sl vs_t ((t).sys.length)), (37, .int .i64 (((t).sys.length : Int))), (38, .int .i64 ((s : Int))), (43, sl (VK4 s) ((((t).sys).getD s br0).kids.length)), (44, .int .i64 (((((t).sys).getD s br0).kids.length : Int))), (45, .int .i64 ((s_.1 : Int)))]) (fun s_ G_ => AllF qE s_.2.2 :: G_) (fun s_ => [boxR b9 (bc (((t).sys).getD s br0) (VF4 s) (VK4 s)) 69, rowS 8 60 s_.2.1 ((t.kids.length + sysBefore s t.sys + s_.1)) (spFlat s_.2.2), boxR b1 (tc t vr_t vk_t vs_t) 31]) (fun s_ => (t.sys.getD s br0).kids.length - s_.1) (0, a2, qs2) (⟨by omega, hq2⟩) (by exact ⟨rfl, rfl, rfl, rfl, rfl, rfl, rfl, rfl, trivial⟩) ?_ ?_
          · exact fun w hs => (hs.less (by simp +contextual))
          · intro ⟨k, a3, qs3⟩ base2 ⟨hk1, hq3⟩ next2
            dsimp only at  hk1  hq3  next2 ⊢
            refine go_seq ?_
            refine go_region ⟨_, Try.func65⟩ rfl ?_
            refine q0 rfl (o_lss ?_)
            refine rg_nil ?_
            refine go_seq ?_
            refine go_condI (fun h46 => ?_) (fun h46 => ?_)
            · have c46 : (decide ((k : Int) < ((((t).sys).getD s br0).kids.length : Int))) = true := h46
              try simp only [decide_eq_true_eq, decide_eq_false_iff_not, Bool.and_eq_true, Bool.or_eq_true, Bool.not_eq_true', Bool.and_eq_false_iff, Bool.or_eq_false_iff, Bool.not_eq_false', bne_iff_ne, beq_iff_eq, ne_eq, not_and, Decidable.not_not, Bool.true_and, Bool.and_true, Bool.false_or, Bool.or_false] at c46
              refine go_skip ?_
              refine go_seq ?_
              refine go_block ?_
              refine go_seq ?_
              refine go_kid (ts := (((t).sys).getD s br0).kids) (a := VK4 s) (VR := VR7) (VK := VK7) (VS := VS7) k (by omega) ?_
              refine go_region ⟨_, Try.func65⟩ rfl ?_
              obtain ⟨bk9, o9, hav9⟩ := hA7 (by omega)
              refine q0 rfl (o_ixN ?_ (j := k))
              refine q0 rfl (o_ldT ?_)
              refine q0 rfl (o_new fun b11 => ?_)
              refine q0 rfl (o_st ?_)
              refine rg_nil ?_
              refine go_draw (tn := false) (A := [0, 0, 0, 4, 12, 30, 62, 127, 255]) (l := [0, 1, 2, 3, 4, 5, 6]) (fin := [7, 8]) Tab.mixed ⟨_, Try.func65⟩ (by rfl) ?_
              refine n0 rfl (v_move ?_)
              refine n0 rfl (v_lds ?_)
              refine n0 rfl (v_fa ?_)
              refine n0 rfl (v_ld ?_)
              refine n0 rfl (v_call Try.call80 (pmore ((t).kind) ) (fun x53 => ?_))
              refine n0 rfl (v_build (cs := [.int .i64 ((((((t).sys).getD s br0).kids).getD k t0).kind), .int .i64 ((((((t).sys).getD s br0).kids).getD k t0).n), .string ((((((t).sys).getD s br0).kids).getD k t0).name), sl (VR7 k) ((((((t).sys).getD s br0).kids).getD k t0).r.length), sl (VK7 k) ((((((t).sys).getD s br0).kids).getD k t0).kids.length), sl (VS7 k) ((((((t).sys).getD s br0).kids).getD k t0).sys.length), .int .i64 (0), .int .i64 (more ((t).kind))]) ?_ (hb := fill_spot012 (by rfl) (by rfl)))
              refine n0 rfl (v_lit1 fun b55 => ?_)
              refine NV.done ?_
              refine q0 rfl (o_appS (fun a56 => ?_) (a := a3) (n' := (t.kids.length + sysBefore s t.sys + k)))
              refine rg_state (fun w hs => ((hs.perm perm1).drop).snocQ (q := ((((((t).sys).getD s br0).kids).getD k t0, VR7 k, VK7 k, VS7 k), 0, more ((t).kind))) rfl) ?_
              refine q0 rfl (o_assign ?_)
              refine rg_nil ?_
              refine go_inBlock ?_
              refine go_region ⟨_, Try.func65⟩ rfl ?_
              refine q0 rfl (o_add ?_)
              refine q0 rfl (o_move ?_)
              refine rg_nil ?_
              refine go_state (fun w hs => ?_) (next2 (k + 1, a56, (qs3 ++ [((((((t).sys).getD s br0).kids).getD k t0, VR7 k, VK7 k, VS7 k), 0, more ((t).kind))])) _ (⟨by omega, by rw [List.map_append, hq3, ← Nat.add_assoc, take_snoc (parts_sys t s k (by omega) (by omega))]; rfl⟩) (by (try simp only); omega) ⟨rfl, rfl, rfl, rfl, rfl, rfl, rfl, rfl, trivial⟩)
              exact ((((((hs.allAdd (E := qE) (l := qs3) (x := ((((((t).sys).getD s br0).kids).getD k t0, VR7 k, VK7 k, VS7 k), 0, more ((t).kind))) (by first | ((repeat (first | exact List.mem_cons_self | apply List.mem_cons_of_mem)); done) | (simp only [List.nil_append, List.cons_append]; (repeat (first | exact List.mem_cons_self | apply List.mem_cons_of_mem)))) (by first | ((repeat (first | exact List.mem_cons_self | apply List.mem_cons_of_mem)); done) | (simp only [List.nil_append, List.cons_append]; (repeat (first | exact List.mem_cons_self | apply List.mem_cons_of_mem))))).less (by simp +contextual)).perm perm3).perm perm1).perm perm3).dropR (A := [_, _, _]))
            · have c46 : (decide ((k : Int) < ((((t).sys).getD s br0).kids.length : Int))) = false := h46
              try simp only [decide_eq_true_eq, decide_eq_false_iff_not, Bool.and_eq_true, Bool.or_eq_true, Bool.not_eq_true', Bool.and_eq_false_iff, Bool.or_eq_false_iff, Bool.not_eq_false', bne_iff_ne, beq_iff_eq, ne_eq, not_and, Decidable.not_not, Bool.true_and, Bool.and_true, Bool.false_or, Bool.or_false] at c46
              have hek : k = (t.sys.getD s br0).kids.length := by omega
              refine go_ms (Ms' := [boxR b9 (bc (((t).sys).getD s br0) (VF4 s) (VK4 s)) 69, rowS 8 60 a3 ((t.kids.length + sysBefore s t.sys + (t.sys.getD s br0).kids.length)) (spFlat qs3), boxR b1 (tc t vr_t vk_t vs_t) 31]) (by rw [hek]) ?_
              refine go_exit rfl ?_
              refine go_inBlock ?_
              refine go_region ⟨_, Try.func65⟩ rfl ?_
              refine q0 rfl (o_add ?_)
              refine q0 rfl (o_move ?_)
              refine rg_nil ?_
              refine go_state (fun w hs => ?_) (next1 (s + 1, a3, qs3) _ (⟨by omega, by rw [hq3, hek, sysBefore_succ s t.sys (by omega), Nat.add_assoc]⟩) (by (try simp only); omega) ⟨rfl, (by (conv => lhs; whnf); rw [hek, Nat.add_assoc, ← sysBefore_succ s t.sys (by omega)]; rfl), rfl, rfl, rfl, trivial⟩)
              have e9 : t.kids.length + sysBefore s t.sys + (t.sys.getD s br0).kids.length = t.kids.length + sysBefore (s + 1) t.sys := by rw [Nat.add_assoc, ← sysBefore_succ s t.sys (by omega)]
              rw [← e9]; exact ((((hs.less (by simp +contextual)).perm perm2).perm perm2).dropR (A := [_, _]))
        · have c39 : (decide ((s : Int) < ((t).sys.length : Int))) = false := h39
          try simp only [decide_eq_true_eq, decide_eq_false_iff_not, Bool.and_eq_true, Bool.or_eq_true, Bool.not_eq_true', Bool.and_eq_false_iff, Bool.or_eq_false_iff, Bool.not_eq_false', bne_iff_ne, beq_iff_eq, ne_eq, not_and, Decidable.not_not, Bool.true_and, Bool.and_true, Bool.false_or, Bool.or_false] at c39
          refine go_exit rfl ?_
          refine go_seq ?_
          refine go_region ⟨_, Try.func65⟩ rfl ?_
          refine q0 rfl (o_move ?_)
          refine q0 rfl (o_assign ?_)
          refine rg_nil ?_
          -- leaf 0: sl a2 ((t.kids.length + sysBefore s t.sys))
          have hes : s = t.sys.length := by omega
          have hnn : t.kids.length + sysBefore s t.sys = (parts t).length := by rw [parts_length, hes]
          have hfull : qs2.map qer = parts t := by rw [hq2, hnn, List.take_length]
          have hln : t.kids.length + sysBefore s t.sys = qs2.length := by rw [hnn, ← hfull, List.length_map]
          refine ret1 Try.func65 Try.results65 (by first | ((conv => lhs; whnf); done) | rfl) ⟨(a2, qs2), hfull⟩ (by (conv => lhs; whnf); rw [hln]; rfl) (fun w hs => by have h := ((hs.less (Γ' := [AllF qE qs2]) (by simp)).dropR (A := [_])); rw [hln] at h; exact h)
end Go.Hy
namespace Go.Hy
set_option linter.unusedVariables false
set_option linter.unusedSimpArgs false
set_option linter.unusedSectionVars false
open Go.Proofs
set_option linter.unusedVariables false
set_option linter.unusedSimpArgs false
set_option maxRecDepth 100000
theorem cloneI (l : List Int) (a_l : SH)  : Spec Try.prog 79 #[sl a_l (l.length)] [IL l a_l] [] (fun x : SH => sl x l.length) (fun x : SH => [IL l x]) (fun x : SH => []) := by
  refine spec_go (args := [sl a_l (l.length)]) Try.func79 Try.ntmps79 rfl (by exact Nat.le_of_ble_eq_true rfl) fun B hB => ?_
  refine go_openIL (l := l) (a := a_l) (fun hl1 hA1 hU1 => ?_)
  refine go_seq ?_
  refine go_region ⟨_, Try.func79⟩ rfl ?_
  refine q0 rfl (o_assign ?_)
  refine rg_nil ?_
  refine go_seq ?_
  refine go_seq ?_
  refine go_region ⟨_, Try.func79⟩ rfl ?_
  refine q0 rfl (o_move ?_)
  refine q0 rfl (o_eqNil ?_)
  refine rg_nil ?_
  refine go_condI (fun h4 => ?_) (fun h4 => ?_)
  · refine go_seq ?_
    refine go_region ⟨_, Try.func79⟩ rfl ?_
    refine q0 rfl (o_assign ?_)
    refine rg_nil ?_
    -- leaf 0: sl (none, 0) (0)
    have hl : l = [] := by (rcases Nat.eq_zero_or_pos l.length with h | h; exact List.eq_nil_of_length_eq_zero h; obtain ⟨bk, o, hav⟩ := hA1 h; rw [hav] at h4; cases h4)
    subst hl
    refine ret1 Try.func79 Try.results79 (by first | ((conv => lhs; whnf); done) | rfl) (none, 0) rfl (fun w hs => (hs.bare.nilIL 0).less (by simp))
  · refine go_skip ?_
    refine go_seq ?_
    refine go_region ⟨_, Try.func79⟩ rfl ?_
    refine q0 rfl (o_lit0 fun b5 => ?_)
    refine q0 rfl (o_move ?_)
    refine rg_state (fun w hs => hs.boxRow (sz := 1) (m := 0) rfl (by decide)) ?_
    refine q0 rfl (o_appIL (fun a7 => ?_) (by simp) (a := (some ⟨b5, 0, none⟩, 0)) (n' := 0) (b := a_l) (ls := l))
    refine rg_state (fun w hs => hs.appFlatI (l := []) (m := l)) ?_
    refine q0 rfl (o_assign ?_)
    refine rg_nil ?_
    -- leaf 1: sl a7 (0 + l.length)
    refine ret1 Try.func79 Try.results79 (by first | ((conv => lhs; whnf); done) | rfl) a7 (by (conv => lhs; whnf); simp [sl]) (fun w hs => ((hs.settleIL (l := l) hB (by simp) (by simp) (by unfold reach at *; omega) hU1).bare.less (by simp)))
abbrev AllO (t : T) : Prop := ∀ (ps : List IP) (a_o : SH) (l : List Int) (a_l : SH) (vr vk vs : SH), ps.length + size t ≤ 1000000000 → l.length + size t ≤ 1000000000 → Spec Try.prog 63 #[sl a_o ps.length, sl a_l l.length, .agg (tc t vr vk vs).toArray] [AllF ipE ps, IL l a_l, RT t vr vk vs] [rowS 1 54 a_o ps.length (ipFlat ps)] (fun x : {x : SH × List IP // x.2.map (·.1) = ps.map (·.1) ++ (everyP t).map (l ++ ·)} => sl x.1.1 x.1.2.length) (fun x => [AllF ipE x.1.2]) (fun x => [rowS 1 54 x.1.1 x.1.2.length (ipFlat x.1.2)])
theorem pathAll_walk (ps : List IP) (a_o : SH) (l : List Int) (a_l : SH) (t : T) (vr_t vk_t vs_t : SH) (ih : ∀ p, p ∈ parts t → AllO p.1) (hz : ps.length + size t ≤ 1000000000) (hzl : l.length + size t ≤ 1000000000) : Spec Try.prog 63 #[sl a_o (ps.length), sl a_l (l.length), .agg (tc t vr_t vk_t vs_t).toArray] [AllF ipE ps, IL l a_l, RT t vr_t vk_t vs_t] [rowS 1 54 a_o (ps.length) (ipFlat ps)] (fun x : {x : SH × List IP // x.2.map (·.1) = ps.map (·.1) ++ (everyP t).map (l ++ ·)} => sl x.1.1 x.1.2.length) (fun x : {x : SH × List IP // x.2.map (·.1) = ps.map (·.1) ++ (everyP t).map (l ++ ·)} => [AllF ipE x.1.2]) (fun x : {x : SH × List IP // x.2.map (·.1) = ps.map (·.1) ++ (everyP t).map (l ++ ·)} => [rowS 1 54 x.1.1 x.1.2.length (ipFlat x.1.2)]) := by
  refine spec_go (args := [sl a_o (ps.length), sl a_l (l.length), .agg (tc t vr_t vk_t vs_t).toArray]) Try.func63 Try.ntmps63 rfl (by exact Nat.le_of_ble_eq_true rfl) fun B hB => ?_
  refine go_openIL (l := l) (a := a_l) (fun hl1 hA1 hU1 => ?_)
  refine go_open (t := t) (vr := vr_t) (vk := vk_t) (vs := vs_t) (fun hk2 hn2 hm2 => ?_)
  refine go_openCL (l := (t).r) (a := vr_t) (fun hl3 hA3 hU3 => ?_)
  refine go_openTL (ts := (t).kids) (a := vk_t) (fun VR4 VK4 VS4 hl4 hA4 => ?_)
  refine go_openBL (bs := (t).sys) (a := vs_t) (fun VF5 VK5 hl5 hA5 => ?_)
  have hsp := size_pos' t
  have hpn := parts_len t
  refine go_know (p := l.length ≤ a_l.2) (fun w hs => (hs.facts (IL l a_l) (by simp)).1.1) (fun hcap => ?_)
  refine go_seq ?_
  refine go_region ⟨_, Try.func63⟩ rfl ?_
  refine q0 rfl (o_box fun b5 => ?_)
  refine q0 rfl (o_assign ?_)
  refine rg_nil ?_
  refine go_seq ?_
  refine go_region ⟨_, Try.func63⟩ rfl ?_
  refine q0 rfl (o_move ?_)
  refine q0 rfl (o_move ?_)
  refine q0 rfl (o_call Try.call79 (cloneI l a_l ) (fun x11 => ?_))
  refine q0 rfl (o_lit1 fun b12 => ?_)
  refine q0 rfl (o_appS (fun a13 => ?_) (a := a_o) (n' := ps.length))
  refine rg_state (fun w hs => ((hs.perm perm1).drop).snocII (q := (l, x11)) rfl) ?_
  refine q0 rfl (o_assign ?_)
  refine rg_nil ?_
  refine go_state (fun w hs => (hs.allAdd (E := ipE) (l := ps) (x := (l, x11)) (by first | ((repeat (first | exact List.mem_cons_self | apply List.mem_cons_of_mem)); done) | (simp only [List.nil_append, List.cons_append]; (repeat (first | exact List.mem_cons_self | apply List.mem_cons_of_mem)))) (by first | ((repeat (first | exact List.mem_cons_self | apply List.mem_cons_of_mem)); done) | (simp only [List.nil_append, List.cons_append]; (repeat (first | exact List.mem_cons_self | apply List.mem_cons_of_mem)))))) ?_
  refine go_ms (Ms' := [rowS 1 54 a13 ((ps ++ [(l, x11)]).length) (ipFlat (ps ++ [(l, x11)])), boxR b5 (tc t vr_t vk_t vs_t) 31]) (by simp only [List.length_append, List.length_cons, List.length_nil]) ?_
  refine go_seq ?_
  refine go_seq ?_
  refine go_region ⟨_, Try.func63⟩ rfl ?_
  refine q0 rfl (o_lds ?_)
  refine q0 rfl (o_call Try.call65 (parts_walk t vr_t vk_t vs_t (by first | assumption | omega | (unfold in64 at *; omega) | (unfold reach at *; omega) | (simp_all; done))) (fun x15 => ?_))
  refine q0 rfl (o_len ?_)
  refine q0 rfl (o_move ?_)
  refine rg_nil ?_
  refine go_state (fun w hs => ((((hs.perm perm2).perm perm2).perm perm2).settleRow (F := spCells) (E := qE) (d := qp0) (bt := 120) (l := x15.1.2) (fun _ => rfl) hB (by first | ((repeat (first | exact List.mem_cons_self | apply List.mem_cons_of_mem)); done) | (simp only [List.nil_append, List.cons_append]; (repeat (first | exact List.mem_cons_self | apply List.mem_cons_of_mem)))) rfl rfl (by have := congrArg List.length x15.2; rw [List.length_map] at this; unfold reach; omega))) ?_
  have hxl := congrArg List.length x15.2
  rw [List.length_map] at hxl
  refine go_block ?_
  refine go_loopE (X := Nat × SH × List IP) (fun s_ => s_.1 ≤ x15.1.2.length ∧ s_.2.2.map (·.1) = ps.map (·.1) ++ (everyTo t s_.1).map (l ++ ·)) (fun s_ => [(0, sl s_.2.1 (s_.2.2.length)), (1, sl a_l (l.length)), (15, sl x15.1.1 (x15.1.2.length)), (16, .int .i64 ((x15.1.2.length : Int))), (17, .int .i64 ((s_.1 : Int)))]) (fun s_ G_ => AllF ipE s_.2.2 :: G_) (fun s_ => [rowS 1 54 s_.2.1 (s_.2.2.length) (ipFlat s_.2.2), boxR b5 (tc t vr_t vk_t vs_t) 31]) (fun s_ => x15.1.2.length - s_.1) (0, a13, ps ++ [(l, x11)]) (⟨by omega, by simp [everyTo, idxCat]⟩) (by exact ⟨(by (conv => lhs; whnf); simp [sl]), rfl, rfl, rfl, rfl, trivial⟩) ?_ ?_
  · exact fun w hs => (hs.less (by simp +contextual))
  · intro ⟨m, a, qs⟩ base0 ⟨hi, hqs⟩ next0
    dsimp only at  hi  hqs  next0 ⊢
    refine go_seq ?_
    refine go_region ⟨_, Try.func63⟩ rfl ?_
    refine q0 rfl (o_lss ?_)
    refine rg_nil ?_
    refine go_seq ?_
    refine go_condI (fun h18 => ?_) (fun h18 => ?_)
    · have c18 : (decide ((m : Int) < (x15.1.2.length : Int))) = true := h18
      try simp only [decide_eq_true_eq, decide_eq_false_iff_not, Bool.and_eq_true, Bool.or_eq_true, Bool.not_eq_true', Bool.and_eq_false_iff, Bool.or_eq_false_iff, Bool.not_eq_false', bne_iff_ne, beq_iff_eq, ne_eq, not_and, Decidable.not_not, Bool.true_and, Bool.and_true, Bool.false_or, Bool.or_false] at c18
      have hqm := qer_at x15.2 (show m < x15.1.2.length by omega)
      have hzp := size_part hqm
      have hqll := congrArg List.length hqs
      simp only [List.length_map, List.length_append] at hqll
      rw [everyTo_len (by omega)] at hqll
      simp only [qer] at hzp
      have hzq := size_part_lt (List.mem_of_getElem? hqm)
      simp only [qer] at hzq
      refine go_skip ?_
      refine go_seq ?_
      refine go_block ?_
      refine go_seq ?_
      refine go_openRow (l := x15.1.2) (a := x15.1.1) (bt := 120) (F := spCells) (E := qE) (d := qp0) (by repeat (first | exact List.mem_cons_self | apply List.mem_cons_of_mem)) (fun hl6 hA6 => ?_)
      refine go_elem (l := x15.1.2) (a := x15.1.1) (bt := 120) (F := spCells) (E := qE) (d := qp0) (by repeat (first | exact List.mem_cons_self | apply List.mem_cons_of_mem)) m (by omega) ?_
      refine go_region ⟨_, Try.func63⟩ rfl ?_
      refine q0 rfl (o_move ?_)
      obtain ⟨bk7, o7, hav7⟩ := hA6 (by omega)
      refine q0 rfl (o_ixN ?_ (j := m))
      refine q0 rfl (o_ldQ ?_)
      refine q0 rfl (o_new fun b8 => ?_)
      refine q0 rfl (o_assign ?_)
      refine q0 rfl (o_st ?_)
      refine rg_nil ?_
      refine go_state (fun w hs => ((((hs.perm perm2).perm perm2).perm perm2).settleBox hB)) ?_
      refine go_draw (tn := true) (A := [0, 0, 0, 4, 0, 16, 62, 0, 128, 510, 0, 1024, 4095, 8191]) (l := [0, 1, 2, 3, 4, 5, 6, 7, 10, 11, 8, 9]) (fin := [12, 13]) Tab.mixed ⟨_, Try.func63⟩ (by rfl) ?_
      refine n0 rfl (v_move ?_)
      refine n0 rfl (v_move ?_)
      refine n0 rfl (v_move ?_)
      refine n0 rfl (v_len ?_)
      refine n0 rfl (v_move ?_)
      refine n0 rfl (v_len ?_)
      refine n0 rfl (v_slice3 ?_ (k := l.length))
      refine n0 rfl (v_move ?_)
      refine n0 rfl (v_fa ?_)
      refine n0 rfl (f_ldgs ?_)
      refine n0 rfl (v_lit1 fun b30 => ?_)
      refine n0 rfl (t_appFull (fun a31 => ?_) (by simp) (ls := l) (a := a_l))
      refine nv_conv [_] [_] (fun _ _ _ hs => hs.snocI) ?_
      refine NV.done ?_
      refine rg_state (fun w hs => (((((hs.perm perm3).perm perm3).perm perm3).perm perm3).settleIL (l := l ++ [(m : Int)]) hB rfl (by simp) (by unfold reach; omega) (fun c hc => by rcases List.mem_append.mp hc with h | h; exact hU1 c h; rw [List.mem_singleton] at h; subst h; unfold in64; omega))) ?_
      have hih0 : AllO (x15.1.2.getD m qp0).1.1 := ih _ (List.mem_of_getElem? hqm)
      have hih := hih0 qs a (l ++ [(m : Int)]) a31 (x15.1.2.getD m qp0).1.2.1 (x15.1.2.getD m qp0).1.2.2.1 (x15.1.2.getD m qp0).1.2.2.2 (by show qs.length + size (x15.1.2.getD m qp0).1.1 ≤ _; omega) (by show (l ++ [(m : Int)]).length + size (x15.1.2.getD m qp0).1.1 ≤ _; rw [List.length_append, List.length_singleton]; omega)
      rw [show (l ++ [(m : Int)]).length = l.length + 1 by simp] at hih
      refine rg_state (fun w hs => (((hs.perm perm2).perm perm1).perm perm2)) ?_
      refine q0 rfl (o_call Try.call63 (hih) (fun x34 => ?_))
      refine q0 rfl (o_assign ?_)
      refine rg_nil ?_
      refine go_inBlock ?_
      refine go_region ⟨_, Try.func63⟩ rfl ?_
      refine q0 rfl (o_add ?_)
      refine q0 rfl (o_move ?_)
      refine rg_nil ?_
      have hnx : qs.map (fun z : IP => z.1) ++ (everyP (x15.1.2.getD m qp0).1.1).map (fun z => l ++ [(m : Int)] ++ z) = ps.map (fun z : IP => z.1) ++ (everyTo t (m + 1)).map (fun z => l ++ z) := by rw [hqs, everyTo_succ hqm]; simp [qer, Function.comp_def]
      refine go_state (fun w hs => ?_) (next0 (m + 1, x34.1.1, x34.1.2) _ (⟨by omega, x34.2.trans hnx⟩) (by (try simp only); omega) ⟨rfl, rfl, rfl, rfl, rfl, trivial⟩)
      exact ((((hs.less (by simp +contextual)).perm perm2).perm perm1).dropR (A := [_, _]))
    · have c18 : (decide ((m : Int) < (x15.1.2.length : Int))) = false := h18
      try simp only [decide_eq_true_eq, decide_eq_false_iff_not, Bool.and_eq_true, Bool.or_eq_true, Bool.not_eq_true', Bool.and_eq_false_iff, Bool.or_eq_false_iff, Bool.not_eq_false', bne_iff_ne, beq_iff_eq, ne_eq, not_and, Decidable.not_not, Bool.true_and, Bool.and_true, Bool.false_or, Bool.or_false] at c18
      refine go_exit rfl ?_
      refine go_seq ?_
      refine go_region ⟨_, Try.func63⟩ rfl ?_
      refine q0 rfl (o_move ?_)
      refine q0 rfl (o_assign ?_)
      refine rg_nil ?_
      -- leaf 0: sl a (qs.length)
      have hme : m = (parts t).length := by omega
      have hfull : qs.map (·.1) = ps.map (·.1) ++ (everyP t).map (l ++ ·) := by rw [hqs, hme, everyTo_all]
      refine ret1 Try.func63 Try.results63 (by first | ((conv => lhs; whnf); done) | rfl) ⟨(a, qs), hfull⟩ rfl (fun w hs => ((hs.less (by simp)).dropR (A := [_])))
theorem allO : ∀ t : T, AllO t := T.ind fun t ih ps a_o l a_l vr vk vs hz hzl => pathAll_walk ps a_o l a_l t vr vk vs ih hz hzl
end Go.Hy
namespace Go.Hy
set_option linter.unusedVariables false
set_option linter.unusedSimpArgs false
set_option linter.unusedSectionVars false
open Go.Proofs
set_option linter.unusedVariables false
set_option linter.unusedSimpArgs false
set_option maxRecDepth 100000
def FRight : Prop := ∀ (l : List Cl) (a : SH), Spec Try.prog 86 #[sl a l.length] [CL l a] [] (fun _ : Unit => .bool (fRight l)) (fun _ => []) (fun _ => [])
def FaceRight : Prop := ∀ (l : List Cl) (a : SH), Spec Try.prog 88 #[sl a l.length] [CL l a] [] (fun _ : Unit => .bool (faceRight l)) (fun _ => []) (fun _ => [])
def FDims : Prop := ∀ (l : List Cl) (a : SH), Spec Try.prog 59 #[sl a l.length] [CL l a] [] (fun _ : Unit => .int .u32 (fDims l : Int)) (fun _ => []) (fun _ => [])
def FORM : Prop := FRight ∧ FaceRight ∧ FDims
end Go.Hy
namespace Go.Hy
set_option linter.unusedVariables false
set_option linter.unusedSimpArgs false
set_option linter.unusedSectionVars false
open Go.Proofs
set_option linter.unusedVariables false
set_option linter.unusedSimpArgs false
set_option maxRecDepth 100000
theorem small_spec (t : T) (vr vk vs : SH) (most : Int) (h0 : 0 ≤ most) (hl : in64 most) : Spec Try.prog 68 #[.agg (tc t vr vk vs).toArray, .int .i64 most] [RT t vr vk vs] [] (fun _ : Unit => .bool (decide ((size t : Int) ≤ most))) (fun _ => []) (fun _ => []) := by
  refine spec_go (args := [.agg (tc t vr vk vs).toArray, .int .i64 most]) Try.func68 Try.ntmps68 rfl (by exact Nat.le_of_ble_eq_true rfl) fun B hB => ?_
  refine go_seq ?_
  refine go_region ⟨_, Try.func68⟩ rfl ?_
  refine q0 rfl (o_box fun b2 => ?_)
  refine q0 rfl (o_box fun b3 => ?_)
  refine q0 rfl (o_assign ?_)
  refine rg_nil ?_
  refine go_seq ?_
  refine go_region ⟨_, Try.func68⟩ rfl ?_
  refine q0 rfl (o_new fun b5 => ?_)
  refine rg_nil ?_
  refine go_seq ?_
  refine go_region ⟨_, Try.func68⟩ rfl ?_
  refine q0 rfl (o_func ?_)
  refine q0 rfl (o_st ?_)
  refine rg_nil ?_
  refine go_seq ?_
  refine go_region ⟨_, Try.func68⟩ rfl ?_
  refine q0 rfl (o_ld ?_)
  refine q0 rfl (o_lds ?_)
  refine q0 rfl (o_callC Try.call83 (count_spec t most b3 b5 vr vk vs h0 hl) (cap := CountCap b3 b5) (fun x9 => ?_))
  refine q0 rfl (o_assign ?_)
  refine rg_nil ?_
  refine ret1 Try.func68 Try.results68 (by first | ((conv => lhs; whnf); done) | rfl) () rfl (fun w hs => hs.none)
theorem sized_spec (t : T) (vr vk vs : SH) : Spec Try.prog 54 #[.agg (tc t vr vk vs).toArray] [RT t vr vk vs] [] (fun _ : Unit => .int .i64 (sized t)) (fun _ => []) (fun _ => []) := by
  refine spec_go (args := [.agg (tc t vr vk vs).toArray]) Try.func54 Try.ntmps54 rfl (by exact Nat.le_of_ble_eq_true rfl) fun B hB => ?_
  refine go_seq ?_
  refine go_region ⟨_, Try.func54⟩ rfl ?_
  refine q0 rfl (o_box fun b1 => ?_)
  refine q0 rfl (o_assign ?_)
  refine rg_nil ?_
  refine go_seq ?_
  refine go_block ?_
  refine go_seq ?_
  refine go_region ⟨_, Try.func54⟩ rfl ?_
  refine q0 rfl (o_lds ?_)
  refine q0 rfl (o_call Try.call67 (shallow_spec t 200 vr vk vs (by unfold in64; omega)) (fun x5 => ?_))
  refine q0 rfl (o_not ?_)
  refine q0 rfl (o_assign ?_)
  refine rg_nil ?_
  refine go_condI (fun h3 => ?_) (fun h3 => ?_)
  · refine go_seq ?_
    refine go_region ⟨_, Try.func54⟩ rfl ?_
    refine q0 rfl (o_assign ?_)
    refine rg_nil ?_
    have h : 200 < depth t := by simp at h3; omega
    refine ret1 Try.func54 Try.results54 (by first | ((conv => lhs; whnf); done) | rfl) () (by rw [sized, if_pos h]) (fun w hs => hs.none)
  · refine go_seq ?_
    refine go_region ⟨_, Try.func54⟩ rfl ?_
    refine q0 rfl (o_lds ?_)
    refine q0 rfl (o_call Try.call68 (small_spec t vr vk vs 20000 (by omega) (by unfold in64; omega)) (fun x9 => ?_))
    refine q0 rfl (o_not ?_)
    refine q0 rfl (o_assign ?_)
    refine rg_nil ?_
    refine go_condI (fun h7 => ?_) (fun h7 => ?_)
    · refine go_seq ?_
      refine go_region ⟨_, Try.func54⟩ rfl ?_
      refine q0 rfl (o_assign ?_)
      refine rg_nil ?_
      have h : ¬ 200 < depth t := by simp at h3; omega
      have h2 : 20000 < size t := by simp at h7; omega
      refine ret1 Try.func54 Try.results54 (by first | ((conv => lhs; whnf); done) | rfl) () (by rw [sized, if_neg h, if_pos h2]) (fun w hs => hs.none)
    · refine go_skip ?_
      refine go_inBlock ?_
      refine go_seq ?_
      refine go_region ⟨_, Try.func54⟩ rfl ?_
      refine q0 rfl (o_assign ?_)
      refine rg_nil ?_
      have h : ¬ 200 < depth t := by simp at h3; omega
      have h2 : ¬ 20000 < size t := by simp at h7; omega
      refine ret1 Try.func54 Try.results54 (by first | ((conv => lhs; whnf); done) | rfl) () (by rw [sized, if_neg h, if_neg h2]) (fun w hs => hs.none)
theorem name_spec (s : ByteArray) (hs : s.size ≤ cap47) : Spec Try.prog 85 #[.string s] [] [] (fun _ : Unit => .bool (nameOK s)) (fun _ => []) (fun _ => []) := by
  refine spec_go (args := [.string s]) Try.func85 Try.ntmps85 rfl (by exact Nat.le_of_ble_eq_true rfl) fun B hB => ?_
  refine go_seq ?_
  refine go_region ⟨_, Try.func85⟩ rfl ?_
  refine q0 rfl (o_assign ?_)
  refine rg_nil ?_
  refine go_seq ?_
  refine go_seq ?_
  refine go_region ⟨_, Try.func85⟩ rfl ?_
  refine q0 rfl (o_move ?_)
  refine q0 rfl (o_lenStr ?_)
  refine q0 rfl (o_move ?_)
  refine rg_nil ?_
  refine go_block ?_
  refine go_loopI (X := Nat) (fun i => i ≤ s.size ∧ ∀ j, j < i → okAt s j = true) (fun i => [(0, .string s), (7, .int .i64 (s.size : Int)), (8, .int .i64 (i : Int))]) (fun i => []) (fun i => []) (fun i => s.size - i) (0) (⟨Nat.zero_le _, fun j hj => by omega⟩) (by exact ⟨rfl, rfl, rfl, trivial⟩) ?_ ?_
  · exact fun w hs => hs.none
  · intro i base0 ⟨hi, hok⟩ next0
    refine go_seq ?_
    refine go_region ⟨_, Try.func85⟩ rfl ?_
    refine q0 rfl (o_lss ?_)
    refine rg_nil ?_
    refine go_seq ?_
    refine go_condI (fun h9 => ?_) (fun h9 => ?_)
    · have hlt : i < s.size := by have := of_decide_eq_true h9; omega
      obtain ⟨c, hc, hca⟩ := byte_at hlt
      refine go_skip ?_
      refine go_seq ?_
      refine go_block ?_
      refine go_seq ?_
      refine go_region ⟨_, Try.func85⟩ rfl ?_
      refine q0 rfl (o_move ?_)
      refine q0 rfl (o_assign ?_)
      refine rg_nil ?_
      refine go_seq ?_
      refine go_region ⟨_, Try.func85⟩ rfl ?_
      refine q0 rfl (o_move ?_)
      refine q0 rfl (o_move ?_)
      refine q0 rfl (o_ixStr ?_)
      refine q0 rfl (o_assign ?_)
      refine rg_nil ?_
      refine go_seq ?_
      refine go_cutS ([(0, .string s), (3, .int .i64 (i : Int)), (4, .int .u8 c.toNat), (5, .bool (letter c.toNat)), (7, .int .i64 (s.size : Int)), (8, .int .i64 (i : Int))]) (fun hK => ?_) (fun base => ?_)
      · refine go_region ⟨_, Try.func85⟩ rfl ?_
        refine q0 rfl (o_move ?_)
        refine q0 rfl (o_geq ?_)
        refine q0 rfl (o_move ?_)
        refine qI rfl rfl rfl (by conv => lhs; whnf) (fun hg16 => o_move ?_) (fun hg16 => ?_)
        · refine qT rfl rfl rfl (o_leq ?_)
          refine q0 rfl (o_pickT ?_)
          refine q0 rfl (o_move ?_)
          refine qI rfl rfl rfl (by conv => lhs; whnf) (fun hg20 => o_move ?_) (fun hg20 => ?_)
          · refine qT rfl rfl rfl (o_geq ?_)
            refine qT rfl rfl rfl (o_move ?_)
            refine qI rfl rfl rfl (by conv => lhs; whnf) (fun hg23 => o_move ?_) (fun hg23 => ?_)
            · refine qT rfl rfl rfl (o_leq ?_)
              refine qT rfl rfl rfl (o_pickT ?_)
              refine q0 rfl (o_pickF ?_)
              refine q0 rfl (o_move ?_)
              refine qI rfl rfl rfl (by conv => lhs; whnf) (fun hg28 => o_move ?_) (fun hg28 => ?_)
              · refine qT rfl rfl rfl (o_eqI ?_)
                refine q0 rfl (o_pickF ?_)
                refine q0 rfl (o_assign ?_)
                refine rg_nil ?_
                exact hK _ ⟨rfl, rfl, rfl, (by (conv => lhs; whnf); first | (simp_all [letter]; done) | (simp_all [letter]; omega)), rfl, rfl, trivial⟩
              · refine qF rfl rfl rfl ?_
                refine q0 rfl (o_pickT ?_)
                refine q0 rfl (o_assign ?_)
                refine rg_nil ?_
                exact hK _ ⟨rfl, rfl, rfl, (by (conv => lhs; whnf); first | (simp_all [letter]; done) | (simp_all [letter]; omega)), rfl, rfl, trivial⟩
            · refine qF rfl rfl rfl ?_
              refine qT rfl rfl rfl (o_pickF ?_)
              refine q0 rfl (o_pickF ?_)
              refine q0 rfl (o_move ?_)
              refine qT rfl rfl rfl (o_move ?_)
              refine qT rfl rfl rfl (o_eqI ?_)
              refine q0 rfl (o_pickF ?_)
              refine q0 rfl (o_assign ?_)
              refine rg_nil ?_
              exact hK _ ⟨rfl, rfl, rfl, (by (conv => lhs; whnf); first | (simp_all [letter]; done) | (simp_all [letter]; omega)), rfl, rfl, trivial⟩
          · refine qF rfl rfl rfl ?_
            refine qF rfl rfl rfl ?_
            refine qU rfl rfl rfl ?_
            refine qU rfl rfl rfl ?_
            refine qF rfl rfl rfl ?_
            refine q0 rfl (o_pickT ?_)
            refine q0 rfl (o_move ?_)
            refine qF rfl rfl rfl ?_
            refine qF rfl rfl rfl ?_
            refine q0 rfl (o_pickT ?_)
            refine q0 rfl (o_assign ?_)
            refine rg_nil ?_
            exact hK _ ⟨rfl, rfl, rfl, (by (conv => lhs; whnf); first | (simp_all [letter]; done) | (simp_all [letter]; omega)), rfl, rfl, trivial⟩
        · refine qF rfl rfl rfl ?_
          refine q0 rfl (o_pickF ?_)
          refine q0 rfl (o_move ?_)
          refine qT rfl rfl rfl (o_move ?_)
          refine qT rfl rfl rfl (o_geq ?_)
          refine qT rfl rfl rfl (o_move ?_)
          refine qI rfl rfl rfl (by conv => lhs; whnf) (fun hg23 => o_move ?_) (fun hg23 => ?_)
          · refine qT rfl rfl rfl (o_leq ?_)
            refine qT rfl rfl rfl (o_pickT ?_)
            refine q0 rfl (o_pickF ?_)
            refine q0 rfl (o_move ?_)
            refine qI rfl rfl rfl (by conv => lhs; whnf) (fun hg28 => o_move ?_) (fun hg28 => ?_)
            · refine qT rfl rfl rfl (o_eqI ?_)
              refine q0 rfl (o_pickF ?_)
              refine q0 rfl (o_assign ?_)
              refine rg_nil ?_
              exact hK _ ⟨rfl, rfl, rfl, (by (conv => lhs; whnf); first | (simp_all [letter]; done) | (simp_all [letter]; omega)), rfl, rfl, trivial⟩
            · refine qF rfl rfl rfl ?_
              refine q0 rfl (o_pickT ?_)
              refine q0 rfl (o_assign ?_)
              refine rg_nil ?_
              exact hK _ ⟨rfl, rfl, rfl, (by (conv => lhs; whnf); first | (simp_all [letter]; done) | (simp_all [letter]; omega)), rfl, rfl, trivial⟩
          · refine qF rfl rfl rfl ?_
            refine qT rfl rfl rfl (o_pickF ?_)
            refine q0 rfl (o_pickF ?_)
            refine q0 rfl (o_move ?_)
            refine qT rfl rfl rfl (o_move ?_)
            refine qT rfl rfl rfl (o_eqI ?_)
            refine q0 rfl (o_pickF ?_)
            refine q0 rfl (o_assign ?_)
            refine rg_nil ?_
            exact hK _ ⟨rfl, rfl, rfl, (by (conv => lhs; whnf); first | (simp_all [letter]; done) | (simp_all [letter]; omega)), rfl, rfl, trivial⟩
      · refine go_seq ?_
        refine go_cutS ([(0, .string s), (7, .int .i64 (s.size : Int)), (8, .int .i64 (i : Int)), (45, .bool (!(okAt s i)))]) (fun hK => ?_) (fun base => ?_)
        · refine go_region ⟨_, Try.func85⟩ rfl ?_
          refine q0 rfl (o_move ?_)
          refine q0 rfl (o_not ?_)
          refine q0 rfl (o_move ?_)
          refine qI rfl rfl rfl (by conv => lhs; whnf) (fun hg34 => o_move ?_) (fun hg34 => ?_)
          · refine qT rfl rfl rfl (o_eqI ?_)
            refine qT rfl rfl rfl (o_move ?_)
            refine qI rfl rfl rfl (by conv => lhs; whnf) (fun hg37 => o_move ?_) (fun hg37 => ?_)
            · refine qT rfl rfl rfl (o_lss ?_)
              refine qT rfl rfl rfl (o_pickF ?_)
              refine qT rfl rfl rfl (o_move ?_)
              refine qI rfl rfl rfl (by conv => lhs; whnf) (fun hg41 => o_move ?_) (fun hg41 => ?_)
              · refine qT rfl rfl rfl (o_gtr ?_)
                refine qT rfl rfl rfl (o_pickF ?_)
                refine q0 rfl (o_pickT ?_)
                refine rg_nil ?_
                exact hK _ ⟨rfl, rfl, rfl, (by (conv => lhs; whnf); rw [hca]; first | (simp_all [digit]; done) | (simp_all [digit]; omega) | (simp_all [digit]; rw [← decide_not]; congr 1; apply propext; omega)), trivial⟩
              · refine qF rfl rfl rfl ?_
                refine qT rfl rfl rfl (o_pickT ?_)
                refine q0 rfl (o_pickT ?_)
                refine rg_nil ?_
                exact hK _ ⟨rfl, rfl, rfl, (by (conv => lhs; whnf); rw [hca]; first | (simp_all [digit]; done) | (simp_all [digit]; omega) | (simp_all [digit]; rw [← decide_not]; congr 1; apply propext; omega)), trivial⟩
            · refine qF rfl rfl rfl ?_
              refine qT rfl rfl rfl (o_pickT ?_)
              refine qT rfl rfl rfl (o_move ?_)
              refine qF rfl rfl rfl ?_
              refine qF rfl rfl rfl ?_
              refine qT rfl rfl rfl (o_pickT ?_)
              refine q0 rfl (o_pickT ?_)
              refine rg_nil ?_
              exact hK _ ⟨rfl, rfl, rfl, (by (conv => lhs; whnf); rw [hca]; first | (simp_all [digit]; done) | (simp_all [digit]; omega) | (simp_all [digit]; rw [← decide_not]; congr 1; apply propext; omega)), trivial⟩
          · refine qF rfl rfl rfl ?_
            refine qF rfl rfl rfl ?_
            refine qU rfl rfl rfl ?_
            refine qU rfl rfl rfl ?_
            refine qF rfl rfl rfl ?_
            refine qF rfl rfl rfl ?_
            refine qU rfl rfl rfl ?_
            refine qU rfl rfl rfl ?_
            refine qF rfl rfl rfl ?_
            refine q0 rfl (o_pickF ?_)
            refine rg_nil ?_
            exact hK _ ⟨rfl, rfl, rfl, (by (conv => lhs; whnf); rw [hca]; first | (simp_all [digit]; done) | (simp_all [digit]; omega) | (simp_all [digit]; rw [← decide_not]; congr 1; apply propext; omega)), trivial⟩
        · refine go_condI (fun h45 => ?_) (fun h45 => ?_)
          · refine go_seq ?_
            refine go_region ⟨_, Try.func85⟩ rfl ?_
            refine q0 rfl (o_assign ?_)
            refine rg_nil ?_
            refine ret1 Try.func85 Try.results85 (by first | ((conv => lhs; whnf); done) | rfl) () (by rw [nameOK_not hlt (by simpa using h45)]) (fun w hs => hs.none)
          · refine go_skip ?_
            refine go_inBlock ?_
            refine go_region ⟨_, Try.func85⟩ rfl ?_
            refine q0 rfl (o_add ?_)
            refine q0 rfl (o_move ?_)
            refine rg_nil ?_
            have hb : okAt s i = true := by simpa using h45
            refine go_state (fun w hs => hs) (next0 (i + 1) _ ⟨hlt, fun j hj => (by rcases Nat.lt_succ_iff_lt_or_eq.mp hj with h | h; exact hok j h; subst h; exact hb)⟩ (by omega) ⟨rfl, rfl, rfl, trivial⟩)
    · have hge : i = s.size := by have := of_decide_eq_false h9; omega
      refine go_exit rfl ?_
      refine go_seq ?_
      refine go_region ⟨_, Try.func85⟩ rfl ?_
      refine q0 rfl (o_move ?_)
      refine q0 rfl (o_neS ?_)
      refine q0 rfl (o_assign ?_)
      refine rg_nil ?_
      refine ret1 Try.func85 Try.results85 (by first | ((conv => lhs; whnf); done) | rfl) () (by rw [nameOK_all (by rw [← hge]; exact hok), empty_eq]; rfl) (fun w hs => hs.none)
theorem within_spec (hF : FDims) (l : List Cl) (a : SH) (dims : Int) (h0 : 0 ≤ dims) (hl : in64 dims) : Spec Try.prog 87 #[sl a l.length, .int .i64 dims] [CL l a] [] (fun _ : Unit => .bool (within l dims)) (fun _ => []) (fun _ => []) := by
  refine spec_go (args := [sl a l.length, .int .i64 dims]) Try.func87 Try.ntmps87 rfl (by exact Nat.le_of_ble_eq_true rfl) fun B hB => ?_
  refine go_seq ?_
  refine go_region ⟨_, Try.func87⟩ rfl ?_
  refine q0 rfl (o_assign ?_)
  refine rg_nil ?_
  refine go_seq ?_
  refine go_region ⟨_, Try.func87⟩ rfl ?_
  refine q0 rfl (o_move ?_)
  refine q0 rfl (o_geq ?_)
  refine q0 rfl (o_move ?_)
  refine qI rfl rfl rfl (by conv => lhs; whnf) (fun hg7 => o_move ?_) (fun hg7 => ?_)
  · refine qT rfl rfl rfl (o_call Try.call59 (hF l a) (fun x9 => ?_))
    refine qT rfl rfl rfl (o_move ?_)
    refine qT rfl rfl rfl (o_conv ?_)
    refine qT rfl rfl rfl (o_shrU32 ?_ (m := dims.toNat) (hy := congrArg (Value.int .u64) (toNat_u64 h0 hl)))
    refine qT rfl rfl rfl (o_eqI ?_)
    refine q0 rfl (o_pickF ?_)
    refine q0 rfl (o_assign ?_)
    refine rg_nil ?_
    refine ret1 Try.func87 Try.results87 (by first | ((conv => lhs; whnf); done) | rfl) () (by first | (simp_all [within]; done) | (simp_all [within]; intros; omega)) (fun w hs => hs.none)
  · refine qF rfl rfl rfl ?_
    refine qF rfl rfl rfl ?_
    refine qF rfl rfl rfl ?_
    refine qF rfl rfl rfl ?_
    refine qF rfl rfl rfl ?_
    refine q0 rfl (o_pickT ?_)
    refine q0 rfl (o_assign ?_)
    refine rg_nil ?_
    refine ret1 Try.func87 Try.results87 (by first | ((conv => lhs; whnf); done) | rfl) () (by first | (simp_all [within]; done) | (simp_all [within]; intros; omega)) (fun w hs => hs.none)
end Go.Hy
namespace Go.Hy
set_option linter.unusedVariables false
set_option linter.unusedSimpArgs false
set_option linter.unusedSectionVars false
open Go.Proofs
set_option linter.unusedVariables false
set_option linter.unusedSimpArgs false
set_option maxRecDepth 100000
theorem equal_spec (l m : List Cl) (a b : SH) : Spec Try.prog 48 #[sl a l.length, sl b m.length] [CL l a, CL m b] [] (fun _ : Unit => .bool (decide (l = m))) (fun _ => []) (fun _ => []) := by
  refine spec_go (args := [sl a l.length, sl b m.length]) Try.func48 Try.ntmps48 rfl (by exact Nat.le_of_ble_eq_true rfl) fun B hB => ?_
  refine go_openCL (l := l) (a := a) (fun hl1 hA1 hU1 => ?_)
  refine go_openCL (l := m) (a := b) (fun hl2 hA2 hU2 => ?_)
  refine go_seq ?_
  refine go_region ⟨_, Try.func48⟩ rfl ?_
  refine q0 rfl (o_assign ?_)
  refine rg_nil ?_
  refine go_seq ?_
  refine go_seq ?_
  refine go_region ⟨_, Try.func48⟩ rfl ?_
  refine q0 rfl (o_move ?_)
  refine q0 rfl (o_len ?_)
  refine q0 rfl (o_move ?_)
  refine q0 rfl (o_len ?_)
  refine q0 rfl (o_neI ?_)
  refine rg_nil ?_
  refine go_condI (fun h10 => ?_) (fun h10 => ?_)
  · have hne : ¬ l = m := fun e => by subst e; simp at h10
    refine go_seq ?_
    refine go_region ⟨_, Try.func48⟩ rfl ?_
    refine q0 rfl (o_assign ?_)
    refine rg_nil ?_
    refine ret1 Try.func48 Try.results48 (by first | ((conv => lhs; whnf); done) | rfl) () (by rw [decide_eq_false hne]) (fun w hs => hs.none)
  · have hlen : l.length = m.length := by simp at h10; omega
    refine go_skip ?_
    refine go_seq ?_
    refine go_seq ?_
    refine go_region ⟨_, Try.func48⟩ rfl ?_
    refine q0 rfl (o_move ?_)
    refine q0 rfl (o_len ?_)
    refine q0 rfl (o_move ?_)
    refine rg_nil ?_
    refine go_block ?_
    refine go_loopI (X := Nat) (fun i => i ≤ l.length ∧ ∀ j, j < i → l.getD j cl0 = m.getD j cl0) (fun i => [(0, sl a l.length), (1, sl b m.length), (12, .int .i64 (l.length : Int)), (13, .int .i64 (i : Int))]) (fun i => [CL l a, CL m b]) (fun i => []) (fun i => l.length - i) (0) (⟨Nat.zero_le _, fun j hj => by omega⟩) (by exact ⟨rfl, rfl, rfl, rfl, trivial⟩) ?_ ?_
    · exact fun w hs => hs.less (by simp +contextual)
    · intro i base0 ⟨hi, hok⟩ next0
      refine go_seq ?_
      refine go_region ⟨_, Try.func48⟩ rfl ?_
      refine q0 rfl (o_lss ?_)
      refine rg_nil ?_
      refine go_seq ?_
      refine go_condI (fun h14 => ?_) (fun h14 => ?_)
      · have hlt : i < l.length := by have := of_decide_eq_true h14; omega
        have hlt2 : i < m.length := by omega
        obtain ⟨bk, o, hav⟩ := hA1 (by omega)
        obtain ⟨bk2, o2, hav2⟩ := hA2 (by omega)
        refine go_skip ?_
        refine go_seq ?_
        refine go_block ?_
        refine go_seq ?_
        refine go_region ⟨_, Try.func48⟩ rfl ?_
        refine q0 rfl (o_move ?_)
        refine q0 rfl (o_assign ?_)
        refine rg_nil ?_
        refine go_seq ?_
        refine go_draw (tn := false) (A := [0, 0, 3, 7, 0, 0, 48, 112, 255]) (l := [0, 1, 2, 3, 4, 5, 6, 7, 8]) (fin := []) Tab.mixed ⟨_, Try.func48⟩ (by rfl) ?_
        refine n0 rfl (v_move ?_)
        refine n0 rfl (v_move ?_)
        refine n0 rfl (v_ixN ?_)
        refine n0 rfl (v_ldC ?_)
        refine n0 rfl (v_move ?_)
        refine n0 rfl (v_move ?_)
        refine n0 rfl (v_ixN ?_)
        refine n0 rfl (v_ldC ?_)
        refine n0 rfl (v_neC ?_)
        refine NV.done ?_
        refine rg_nil ?_
        refine go_condI (fun h24 => ?_) (fun h24 => ?_)
        · refine go_seq ?_
          refine go_region ⟨_, Try.func48⟩ rfl ?_
          refine q0 rfl (o_assign ?_)
          refine rg_nil ?_
          refine ret1 Try.func48 Try.results48 (by first | ((conv => lhs; whnf); done) | rfl) () (by rw [decide_eq_false (fun e => by subst e; simp at h24)]) (fun w hs => hs.none)
        · refine go_skip ?_
          refine go_inBlock ?_
          refine go_region ⟨_, Try.func48⟩ rfl ?_
          refine q0 rfl (o_add ?_)
          refine q0 rfl (o_move ?_)
          refine rg_nil ?_
          have hb : l.getD i cl0 = m.getD i cl0 := by simpa using h24
          refine go_state (fun w hs => ?_) (next0 (i + 1) _ ⟨hlt, fun j hj => (by rcases Nat.lt_succ_iff_lt_or_eq.mp hj with h | h; exact hok j h; subst h; exact hb)⟩ (by omega) ⟨rfl, rfl, rfl, rfl, trivial⟩)
          exact hs
      · have hge : i = l.length := by have := of_decide_eq_false h14; omega
        refine go_exit rfl ?_
        refine go_seq ?_
        refine go_region ⟨_, Try.func48⟩ rfl ?_
        refine q0 rfl (o_assign ?_)
        refine rg_nil ?_
        refine ret1 Try.func48 Try.results48 (by first | ((conv => lhs; whnf); done) | rfl) () (by rw [decide_eq_true (list_eq_of hlen (by rw [← hge]; exact hok))]) (fun w hs => hs.none)
end Go.Hy
namespace Go.Hy
set_option linter.unusedVariables false
set_option linter.unusedSimpArgs false
set_option linter.unusedSectionVars false
open Go.Proofs
set_option linter.unusedVariables false
set_option linter.unusedSimpArgs false
set_option maxRecDepth 100000
theorem clone_spec (l : List Cl) (a : SH) : Spec Try.prog 43 #[sl a l.length] [CL l a] [] (fun x : SH => sl x l.length) (fun x => [CL l x]) (fun _ => []) := by
  refine spec_go (args := [sl a l.length]) Try.func43 Try.ntmps43 rfl (by exact Nat.le_of_ble_eq_true rfl) fun B hB => ?_
  refine go_openCL (l := l) (a := a) (fun hl1 hA1 hU1 => ?_)
  refine go_seq ?_
  refine go_region ⟨_, Try.func43⟩ rfl ?_
  refine q0 rfl (o_assign ?_)
  refine rg_nil ?_
  refine go_seq ?_
  refine go_seq ?_
  refine go_region ⟨_, Try.func43⟩ rfl ?_
  refine q0 rfl (o_move ?_)
  refine q0 rfl (o_eqNil ?_)
  refine rg_nil ?_
  refine go_condI (fun h4 => ?_) (fun h4 => ?_)
  · refine go_seq ?_
    refine go_region ⟨_, Try.func43⟩ rfl ?_
    refine q0 rfl (o_assign ?_)
    refine rg_nil ?_
    have hl : l = [] := by (rcases Nat.eq_zero_or_pos l.length with h | h; exact List.eq_nil_of_length_eq_zero h; obtain ⟨bk, o, hav⟩ := hA1 h; rw [hav] at h4; cases h4)
    subst hl
    refine ret1 Try.func43 Try.results43 (by first | ((conv => lhs; whnf); done) | rfl) (none, 0) rfl (fun w hs => (hs.nilCL 0).less (by simp))
  · refine go_skip ?_
    refine go_seq ?_
    refine go_region ⟨_, Try.func43⟩ rfl ?_
    refine q0 rfl (o_lit0 fun b5 => ?_)
    refine q0 rfl (o_move ?_)
    refine rg_state (fun w hs => hs.boxRow (sz := 2) (m := 0) rfl (by decide)) ?_
    refine q0 rfl (o_appCL (fun a7 => ?_) (by exact List.mem_cons_self))
    refine q0 rfl (o_assign ?_)
    refine rg_nil ?_
    have e0 : 0 + l.length = l.length := by omega
    rw [e0]
    refine ret1 Try.func43 Try.results43 (by first | ((conv => lhs; whnf); done) | rfl) a7 rfl (fun w hs => ((hs.settleCL hB (by simp) (by omega) (by unfold reach at *; omega) hU1).less (by simp)))
abbrev CopyAt (t : T) : Prop := ∀ vr vk vs, Spec Try.prog 20 #[.agg (tc t vr vk vs).toArray] [RT t vr vk vs] [] (fun x : SH × SH × SH => .agg (tc t x.1 x.2.1 x.2.2).toArray) (fun x => [RT t x.1 x.2.1 x.2.2]) (fun _ => [])
theorem copied_walk (ts : List T) (a : SH) (ih : ∀ t, t ∈ ts → CopyAt t) : Spec Try.prog 44 #[sl a ts.length] [TL ts a] [] (fun x : SH => sl x ts.length) (fun x => [TL ts x]) (fun _ => []) := by
  refine spec_go (args := [sl a ts.length]) Try.func44 Try.ntmps44 rfl (by exact Nat.le_of_ble_eq_true rfl) fun B hB => ?_
  refine go_openTL (ts := ts) (a := a) (fun VR VK VS hl1 hA1 => ?_)
  refine go_seq ?_
  refine go_region ⟨_, Try.func44⟩ rfl ?_
  refine q0 rfl (o_assign ?_)
  refine rg_nil ?_
  refine go_seq ?_
  refine go_region ⟨_, Try.func44⟩ rfl ?_
  refine q0 rfl (o_assign ?_)
  refine rg_nil ?_
  refine go_seq ?_
  refine go_seq ?_
  refine go_region ⟨_, Try.func44⟩ rfl ?_
  refine q0 rfl (o_move ?_)
  refine q0 rfl (o_len ?_)
  refine q0 rfl (o_move ?_)
  refine rg_nil ?_
  refine go_block ?_
  refine go_loopI (X := Nat × SH × List TP) (fun s => s.1 ≤ ts.length ∧ s.2.2.length = s.1 ∧ s.2.2.map (·.1) = ts.take s.1) (fun s => [(3, sl s.2.1 s.1), (6, sl a ts.length), (7, .int .i64 (ts.length : Int)), (8, .int .i64 (s.1 : Int))]) (fun s => [AP s.2.2, TLx ts a VR VK VS]) (fun s => [rowS 6 31 s.2.1 s.1 (tpFlat s.2.2)]) (fun s => ts.length - s.1) ((0, (none, 0), [])) (⟨Nat.zero_le _, rfl, rfl⟩) (by exact ⟨rfl, rfl, rfl, rfl, trivial⟩) ?_ ?_
  · exact fun w hs => ((hs.rowS0 6 31).apNil).less (by simp +contextual)
  · intro ⟨i, a3, ps⟩ base0 ⟨hi, hpl, hpm⟩ next0
    dsimp only at hi hpl hpm next0 ⊢
    refine go_seq ?_
    refine go_region ⟨_, Try.func44⟩ rfl ?_
    refine q0 rfl (o_lss ?_)
    refine rg_nil ?_
    refine go_seq ?_
    refine go_condI (fun h9 => ?_) (fun h9 => ?_)
    · have hlt : i < ts.length := by have := of_decide_eq_true h9; omega
      obtain ⟨bk, o, hav⟩ := hA1 (by omega)
      refine go_kid (ts := ts) (a := a) (VR := VR) (VK := VK) (VS := VS) i hlt ?_
      refine go_skip ?_
      refine go_seq ?_
      refine go_block ?_
      refine go_seq ?_
      refine go_region ⟨_, Try.func44⟩ rfl ?_
      refine q0 rfl (o_ixN ?_)
      refine q0 rfl (o_ldT ?_)
      refine q0 rfl (o_new fun b5 => ?_)
      refine q0 rfl (o_st ?_)
      refine rg_nil ?_
      refine go_region ⟨_, Try.func44⟩ rfl ?_
      refine q0 rfl (o_move ?_)
      refine q0 rfl (o_lds ?_)
      refine q0 rfl (o_call Try.call20 (ih _ (getD_mem hlt) (VR i) (VK i) (VS i)) (fun x14 => ?_))
      refine q0 rfl (o_lit1 fun b15 => ?_)
      refine q0 rfl (o_appS (fun a16 => ?_)  )
      refine q0 rfl (o_assign ?_)
      refine rg_nil ?_
      refine go_inBlock ?_
      refine go_region ⟨_, Try.func44⟩ rfl ?_
      refine q0 rfl (o_add ?_)
      refine q0 rfl (o_move ?_)
      refine rg_nil ?_
      refine go_state (fun w hs => ?_) (next0 (i + 1, a16, ps ++ [(ts.getD i t0, x14)]) _ ⟨hlt, by simp [hpl], by simp only [List.map_append, List.map_cons, List.map_nil, hpm]; exact (take_succ_getD hlt).symm⟩ (by simp only; omega) ⟨rfl, rfl, rfl, rfl, trivial⟩)
      have h1 := hs.apAdd (ps := ps) (t := ts.getD i t0) (vr := x14.1) (vk := x14.2.1) (vs := x14.2.2) (by simp) (by simp)
      have e1 : tpFlat (ps ++ [(ts.getD i t0, x14)]) = tpFlat ps ++ tc (ts.getD i t0) x14.1 x14.2.1 x14.2.2 := by simp [tpFlat, tpCells]
      rw [e1]
      exact (h1.less (by simp +contextual)).dropR (A := [_])
    · have hge : i = ts.length := by have := of_decide_eq_false h9; omega
      refine go_exit rfl ?_
      refine go_seq ?_
      refine go_region ⟨_, Try.func44⟩ rfl ?_
      refine q0 rfl (o_move ?_)
      refine q0 rfl (o_assign ?_)
      refine rg_nil ?_
      have hm2 : ps.map (·.1) = ts := by rw [hpm, hge, List.take_length]
      rw [hge]
      refine ret1 Try.func44 Try.results44 (by first | ((conv => lhs; whnf); done) | rfl) a3 rfl (fun w hs => (hs.settleTL hB (by simp) rfl hm2 (by omega) (by unfold reach at *; omega)).less (by simp))
theorem copy_walk (t : T) (ih : ∀ p, p ∈ parts t → CopyAt p.1) (vr vk vs : SH) : Spec Try.prog 20 #[.agg (tc t vr vk vs).toArray] [RT t vr vk vs] [] (fun x : SH × SH × SH => .agg (tc t x.1 x.2.1 x.2.2).toArray) (fun x => [RT t x.1 x.2.1 x.2.2]) (fun _ => []) := by
  refine spec_go (args := [.agg (tc t vr vk vs).toArray]) Try.func20 Try.ntmps20 rfl (by exact Nat.le_of_ble_eq_true rfl) fun B hB => ?_
  refine go_open (t := t) (vr := vr) (vk := vk) (vs := vs) (fun hk hn hnm => ?_)
  refine go_openBL (bs := t.sys) (a := vs) (fun VF VK hl1 hA1 => ?_)
  refine go_seq ?_
  refine go_region ⟨_, Try.func20⟩ rfl ?_
  refine q0 rfl (o_box fun b1 => ?_)
  refine q0 rfl (o_new fun b2 => ?_)
  refine rg_nil ?_
  refine go_seq ?_
  refine go_draw (tn := false) (A := [0, 1, 0, 4, 0, 16, 0, 64, 192, 0, 512, 1984, 4095, 0, 16383]) (l := [0, 1, 2, 3, 4, 5, 6, 7, 9, 10, 8, 11, 12, 13]) (fin := [14]) Tab.mixed ⟨_, Try.func20⟩ (by rfl) ?_
  refine n0 rfl (v_fa ?_)
  refine n0 rfl (v_ld ?_)
  refine n0 rfl (v_fa ?_)
  refine n0 rfl (v_ld ?_)
  refine n0 rfl (v_fa ?_)
  refine n0 rfl (v_ld ?_)
  refine n0 rfl (v_fa ?_)
  refine n0 rfl (v_ld ?_)
  refine n0 rfl (v_fa ?_)
  refine n0 rfl (v_ld ?_)
  refine n0 rfl (v_call Try.call43 (clone_spec t.r vr) (fun x14 => ?_))
  refine n0 rfl (v_call Try.call44 (copied_walk t.kids vk (fun k hk => (by obtain ⟨p, hp, e⟩ := kid_mem_parts hk; exact e ▸ ih p hp))) (fun x17 => ?_))
  refine n0 rfl (v_build (cs := [.int .i64 t.kind, .int .i64 t.n, .string t.name, sl x14 t.r.length, sl x17 t.kids.length, .slice none 0 0]) ?_)
  refine n0 rfl (v_new fun b3 => ?_)
  refine NV.done ?_
  refine q0 rfl (o_st ?_)
  refine rg_nil ?_
  refine go_seq ?_
  refine go_seq ?_
  refine go_region ⟨_, Try.func20⟩ rfl ?_
  refine q0 rfl (o_fa ?_)
  refine q0 rfl (o_ld ?_)
  refine q0 rfl (o_len ?_)
  refine q0 rfl (o_move ?_)
  refine rg_nil ?_
  refine go_block ?_
  refine go_loopI (X := Nat × SH × List BP) (fun s => s.1 ≤ t.sys.length ∧ s.2.2.length = s.1 ∧ s.2.2.map (·.1) = t.sys.take s.1) (fun s => [(2, .pointer (some ⟨b2, 0, none⟩)), (3, .pointer (some ⟨b3, 0, none⟩)), (20, sl vs t.sys.length), (21, .int .i64 (t.sys.length : Int)), (22, .int .i64 (s.1 : Int))]) (fun s => [BPs s.2.2, BLx t.sys vs VF VK, CL t.r x14, TL t.kids x17]) (fun s => [boxR b3 [.int .i64 t.kind, .int .i64 t.n, .string t.name, sl x14 t.r.length, sl x17 t.kids.length, sl s.2.1 s.1] 31, rowS 2 69 s.2.1 s.1 (bpFlat s.2.2), boxR b2 [.int .i64 0, .int .i64 0, .string ⟨#[]⟩, .slice none 0 0, .slice none 0 0, .slice none 0 0] 31]) (fun s => t.sys.length - s.1) ((0, (none, 0), [])) (⟨Nat.zero_le _, rfl, rfl⟩) (by exact ⟨rfl, rfl, rfl, rfl, rfl, trivial⟩) ?_ ?_
  · exact fun w hs => (((hs.rowS0 2 69).bpNil).less (by simp +contextual)).perm perm1 |>.dropR (A := [_, _, _])
  · intro ⟨i, a3, ps⟩ base0 ⟨hi, hpl, hpm⟩ next0
    dsimp only at hi hpl hpm next0 ⊢
    refine go_seq ?_
    refine go_region ⟨_, Try.func20⟩ rfl ?_
    refine q0 rfl (o_lss ?_)
    refine rg_nil ?_
    refine go_seq ?_
    refine go_condI (fun h23 => ?_) (fun h23 => ?_)
    · have hlt : i < t.sys.length := by have := of_decide_eq_true h23; omega
      obtain ⟨bk, o, hav⟩ := hA1 (by omega)
      refine go_skip ?_
      refine go_seq ?_
      refine go_block ?_
      refine go_seq ?_
      refine go_region ⟨_, Try.func20⟩ rfl ?_
      refine q0 rfl (o_ixN ?_)
      refine q0 rfl (o_ldB ?_)
      refine q0 rfl (o_new fun b5 => ?_)
      refine q0 rfl (o_st ?_)
      refine rg_nil ?_
      refine go_branch (bs := t.sys) (a := vs) (VF := VF) (VK := VK) i hlt ?_
      refine go_draw (tn := false) (A := [0, 1, 0, 4, 12, 0, 32, 124, 252, 508, 1023, 2047, 4095]) (l := [0, 1, 2, 3, 5, 6, 4, 7, 8, 9]) (fin := [10, 11, 12]) Tab.mixed ⟨_, Try.func20⟩ (by rfl) ?_
      refine n0 rfl (v_fa ?_)
      refine n0 rfl (v_ld ?_)
      refine n0 rfl (v_fa ?_)
      refine n0 rfl (v_ld ?_)
      refine n0 rfl (v_fa ?_)
      refine n0 rfl (v_ld ?_)
      refine n0 rfl (v_call Try.call43 (clone_spec (t.sys.getD i br0).face (VF i)) (fun x30 => ?_))
      refine n0 rfl (v_call Try.call44 (copied_walk (t.sys.getD i br0).kids (VK i) (fun k hk => (by obtain ⟨p, hp, e⟩ := sys_mem_parts (getD_mem hlt) hk; exact e ▸ ih p hp))) (fun x33 => ?_))
      refine n0 rfl (v_build (cs := bc (t.sys.getD i br0) x30 x33) ?_)
      refine n0 rfl (v_lit1 fun b35 => ?_)
      refine NV.done ?_
      refine q0 rfl (o_appS (fun a36 => ?_)  )
      refine q0 rfl (o_fa ?_)
      refine q0 rfl (o_stc ?_)
      refine rg_nil ?_
      refine go_inBlock ?_
      refine go_region ⟨_, Try.func20⟩ rfl ?_
      refine q0 rfl (o_add ?_)
      refine q0 rfl (o_move ?_)
      refine rg_nil ?_
      refine go_state (fun w hs => ?_) (next0 (i + 1, a36, ps ++ [(t.sys.getD i br0, x30, x33)]) _ ⟨hlt, by simp [hpl], by simp only [List.map_append, List.map_cons, List.map_nil, hpm]; exact (take_succ_getD hlt).symm⟩ (by simp only; omega) ⟨rfl, rfl, rfl, rfl, rfl, trivial⟩)
      have h1 := hs.bpAdd (ps := ps) (f := (t.sys.getD i br0).face) (ks := (t.sys.getD i br0).kids) (vf := x30) (vk := x33) (by simp) (by simp) (by simp)
      rw [Br.eta] at h1
      have e1 : bpFlat (ps ++ [(t.sys.getD i br0, x30, x33)]) = bpFlat ps ++ bc (t.sys.getD i br0) x30 x33 := by simp [bpFlat, bpCells]
      rw [e1]
      have h2 := h1.less (Γ' := [BPs (ps ++ [(t.sys.getD i br0, x30, x33)]), BLx t.sys vs VF VK, CL t.r x14, TL t.kids x17]) (by simp +contextual)
      exact ((h2.perm (perm4.trans (perm2.trans perm2))).dropR (A := [_, _, _]))
    · have hge : i = t.sys.length := by have := of_decide_eq_false h23; omega
      refine go_exit rfl ?_
      refine go_seq ?_
      refine go_region ⟨_, Try.func20⟩ rfl ?_
      refine q0 rfl (o_lds ?_)
      refine q0 rfl (o_st ?_)
      refine rg_nil ?_
      have hm2 : ps.map (·.1) = t.sys := by rw [hpm, hge, List.take_length]
      refine retC Try.func20 Try.results20 (x14, x17, a3) rfl (by repeat (first | exact List.mem_cons_self | apply List.mem_cons_of_mem)) rfl rfl rfl (by simp only [tc, hge]; rfl) (fun w hs => ?_)
      have h2 := (hs.perm perm2).settleBL hB (by simp) rfl hm2 (by omega) (by unfold reach at *; omega)
      have h3 := h2.mkRT hk hn hnm (r := t.r) (vr := x14) (ks := t.kids) (vk := x17) (ss := t.sys) (vs := a3) (by simp) (by simp) (by simp)
      rw [T.eta] at h3
      exact (h3.bare).less (by simp)
theorem copy_spec : ∀ t : T, CopyAt t := T.ind fun t ih vr vk vs => copy_walk t ih vr vk vs
end Go.Hy
