/- Contracts of functions of this program, one theorem each (printed by a program of this repository). -/
import Derived.Test.YtcofpfnnlageaaaHyAuto
import Derived.Test.YtcofpfnnlageaaaHyTab
import Derived.Test.YtcofpfnnlageaaaHyTerm
import Derived.Test.YtcofpfnnlageaaaS1
namespace Go.Hy
set_option linter.unusedVariables false
set_option linter.unusedSimpArgs false
set_option linter.unusedSectionVars false
open Go.Proofs
set_option linter.unusedVariables false
set_option linter.unusedSimpArgs false
set_option maxRecDepth 100000
theorem kids_spec (k : Int) : Spec Try.prog 13 #[.int .i64 k] [] [] (fun _ : Unit => .int .i64 (kidsN k)) (fun _ => []) (fun _ => []) := by
  refine spec_go (args := [.int .i64 k]) Try.func13 Try.ntmps13 rfl (by exact Nat.le_of_ble_eq_true rfl) fun B hB => ?_
  refine go_seq ?_
  refine go_region ⟨_, Try.func13⟩ rfl ?_
  refine q0 rfl (o_assign ?_)
  refine rg_nil ?_
  refine go_seq ?_
  refine go_seq ?_
  refine go_region ⟨_, Try.func13⟩ rfl ?_
  refine q0 rfl (o_move ?_)
  refine rg_nil ?_
  refine go_block ?_
  refine go_seq ?_
  refine go_seq ?_
  refine go_region ⟨_, Try.func13⟩ rfl ?_
  refine q0 rfl (o_eqI ?_)
  refine q0 rfl (o_assign ?_)
  refine rg_nil ?_
  refine go_condI (fun h4 => ?_) (fun h4 => ?_)
  · refine go_skip ?_
    refine go_condT ?_
    refine go_seq ?_
    refine go_region ⟨_, Try.func13⟩ rfl ?_
    refine q0 rfl (o_assign ?_)
    refine rg_nil ?_
    refine ret1 Try.func13 Try.results13 (by first | ((conv => lhs; whnf); done) | rfl) () (by simp_all [kidsN]) (fun w hs => hs.none)
  · refine go_seq ?_
    refine go_region ⟨_, Try.func13⟩ rfl ?_
    refine q0 rfl (o_eqI ?_)
    refine q0 rfl (o_assign ?_)
    refine rg_nil ?_
    refine go_condI (fun h4 => ?_) (fun h4 => ?_)
    · refine go_skip ?_
      refine go_condT ?_
      refine go_seq ?_
      refine go_region ⟨_, Try.func13⟩ rfl ?_
      refine q0 rfl (o_assign ?_)
      refine rg_nil ?_
      refine ret1 Try.func13 Try.results13 (by first | ((conv => lhs; whnf); done) | rfl) () (by simp_all [kidsN]) (fun w hs => hs.none)
    · refine go_seq ?_
      refine go_region ⟨_, Try.func13⟩ rfl ?_
      refine q0 rfl (o_eqI ?_)
      refine q0 rfl (o_assign ?_)
      refine rg_nil ?_
      refine go_condI (fun h4 => ?_) (fun h4 => ?_)
      · refine go_skip ?_
        refine go_condT ?_
        refine go_seq ?_
        refine go_region ⟨_, Try.func13⟩ rfl ?_
        refine q0 rfl (o_assign ?_)
        refine rg_nil ?_
        refine ret1 Try.func13 Try.results13 (by first | ((conv => lhs; whnf); done) | rfl) () (by simp_all [kidsN]) (fun w hs => hs.none)
      · refine go_seq ?_
        refine go_region ⟨_, Try.func13⟩ rfl ?_
        refine q0 rfl (o_eqI ?_)
        refine q0 rfl (o_assign ?_)
        refine rg_nil ?_
        refine go_condI (fun h4 => ?_) (fun h4 => ?_)
        · refine go_skip ?_
          refine go_condT ?_
          refine go_seq ?_
          refine go_region ⟨_, Try.func13⟩ rfl ?_
          refine q0 rfl (o_assign ?_)
          refine rg_nil ?_
          refine ret1 Try.func13 Try.results13 (by first | ((conv => lhs; whnf); done) | rfl) () (by simp_all [kidsN]) (fun w hs => hs.none)
        · refine go_seq ?_
          refine go_region ⟨_, Try.func13⟩ rfl ?_
          refine q0 rfl (o_eqI ?_)
          refine q0 rfl (o_assign ?_)
          refine rg_nil ?_
          refine go_condI (fun h4 => ?_) (fun h4 => ?_)
          · refine go_skip ?_
            refine go_condT ?_
            refine go_seq ?_
            refine go_region ⟨_, Try.func13⟩ rfl ?_
            refine q0 rfl (o_assign ?_)
            refine rg_nil ?_
            refine ret1 Try.func13 Try.results13 (by first | ((conv => lhs; whnf); done) | rfl) () (by simp_all [kidsN]) (fun w hs => hs.none)
          · refine go_seq ?_
            refine go_region ⟨_, Try.func13⟩ rfl ?_
            refine q0 rfl (o_eqI ?_)
            refine q0 rfl (o_assign ?_)
            refine rg_nil ?_
            refine go_condI (fun h4 => ?_) (fun h4 => ?_)
            · refine go_skip ?_
              refine go_condT ?_
              refine go_seq ?_
              refine go_region ⟨_, Try.func13⟩ rfl ?_
              refine q0 rfl (o_assign ?_)
              refine rg_nil ?_
              refine ret1 Try.func13 Try.results13 (by first | ((conv => lhs; whnf); done) | rfl) () (by simp_all [kidsN]) (fun w hs => hs.none)
            · refine go_seq ?_
              refine go_region ⟨_, Try.func13⟩ rfl ?_
              refine q0 rfl (o_eqI ?_)
              refine q0 rfl (o_assign ?_)
              refine rg_nil ?_
              refine go_condI (fun h4 => ?_) (fun h4 => ?_)
              · refine go_skip ?_
                refine go_condT ?_
                refine go_seq ?_
                refine go_region ⟨_, Try.func13⟩ rfl ?_
                refine q0 rfl (o_assign ?_)
                refine rg_nil ?_
                refine ret1 Try.func13 Try.results13 (by first | ((conv => lhs; whnf); done) | rfl) () (by simp_all [kidsN]) (fun w hs => hs.none)
              · refine go_region ⟨_, Try.func13⟩ rfl ?_
                refine q0 rfl (o_eqI ?_)
                refine q0 rfl (o_assign ?_)
                refine rg_nil ?_
                refine go_condI (fun h4 => ?_) (fun h4 => ?_)
                · refine go_seq ?_
                  refine go_region ⟨_, Try.func13⟩ rfl ?_
                  refine q0 rfl (o_assign ?_)
                  refine rg_nil ?_
                  refine ret1 Try.func13 Try.results13 (by first | ((conv => lhs; whnf); done) | rfl) () (by simp_all [kidsN]) (fun w hs => hs.none)
                · refine go_seq ?_
                  refine go_seq ?_
                  refine go_region ⟨_, Try.func13⟩ rfl ?_
                  refine q0 rfl (o_eqI ?_)
                  refine q0 rfl (o_assign ?_)
                  refine rg_nil ?_
                  refine go_condI (fun h13 => ?_) (fun h13 => ?_)
                  · refine go_skip ?_
                    refine go_condT ?_
                    refine go_seq ?_
                    refine go_region ⟨_, Try.func13⟩ rfl ?_
                    refine q0 rfl (o_assign ?_)
                    refine rg_nil ?_
                    refine ret1 Try.func13 Try.results13 (by first | ((conv => lhs; whnf); done) | rfl) () (by simp_all [kidsN]) (fun w hs => hs.none)
                  · refine go_seq ?_
                    refine go_region ⟨_, Try.func13⟩ rfl ?_
                    refine q0 rfl (o_eqI ?_)
                    refine q0 rfl (o_assign ?_)
                    refine rg_nil ?_
                    refine go_condI (fun h13 => ?_) (fun h13 => ?_)
                    · refine go_skip ?_
                      refine go_condT ?_
                      refine go_seq ?_
                      refine go_region ⟨_, Try.func13⟩ rfl ?_
                      refine q0 rfl (o_assign ?_)
                      refine rg_nil ?_
                      refine ret1 Try.func13 Try.results13 (by first | ((conv => lhs; whnf); done) | rfl) () (by simp_all [kidsN]) (fun w hs => hs.none)
                    · refine go_seq ?_
                      refine go_region ⟨_, Try.func13⟩ rfl ?_
                      refine q0 rfl (o_eqI ?_)
                      refine q0 rfl (o_assign ?_)
                      refine rg_nil ?_
                      refine go_condI (fun h13 => ?_) (fun h13 => ?_)
                      · refine go_skip ?_
                        refine go_condT ?_
                        refine go_seq ?_
                        refine go_region ⟨_, Try.func13⟩ rfl ?_
                        refine q0 rfl (o_assign ?_)
                        refine rg_nil ?_
                        refine ret1 Try.func13 Try.results13 (by first | ((conv => lhs; whnf); done) | rfl) () (by simp_all [kidsN]) (fun w hs => hs.none)
                      · refine go_seq ?_
                        refine go_region ⟨_, Try.func13⟩ rfl ?_
                        refine q0 rfl (o_eqI ?_)
                        refine q0 rfl (o_assign ?_)
                        refine rg_nil ?_
                        refine go_condI (fun h13 => ?_) (fun h13 => ?_)
                        · refine go_skip ?_
                          refine go_condT ?_
                          refine go_seq ?_
                          refine go_region ⟨_, Try.func13⟩ rfl ?_
                          refine q0 rfl (o_assign ?_)
                          refine rg_nil ?_
                          refine ret1 Try.func13 Try.results13 (by first | ((conv => lhs; whnf); done) | rfl) () (by simp_all [kidsN]) (fun w hs => hs.none)
                        · refine go_seq ?_
                          refine go_region ⟨_, Try.func13⟩ rfl ?_
                          refine q0 rfl (o_eqI ?_)
                          refine q0 rfl (o_assign ?_)
                          refine rg_nil ?_
                          refine go_condI (fun h13 => ?_) (fun h13 => ?_)
                          · refine go_skip ?_
                            refine go_condT ?_
                            refine go_seq ?_
                            refine go_region ⟨_, Try.func13⟩ rfl ?_
                            refine q0 rfl (o_assign ?_)
                            refine rg_nil ?_
                            refine ret1 Try.func13 Try.results13 (by first | ((conv => lhs; whnf); done) | rfl) () (by simp_all [kidsN]) (fun w hs => hs.none)
                          · refine go_seq ?_
                            refine go_region ⟨_, Try.func13⟩ rfl ?_
                            refine q0 rfl (o_eqI ?_)
                            refine q0 rfl (o_assign ?_)
                            refine rg_nil ?_
                            refine go_condI (fun h13 => ?_) (fun h13 => ?_)
                            · refine go_skip ?_
                              refine go_condT ?_
                              refine go_seq ?_
                              refine go_region ⟨_, Try.func13⟩ rfl ?_
                              refine q0 rfl (o_assign ?_)
                              refine rg_nil ?_
                              refine ret1 Try.func13 Try.results13 (by first | ((conv => lhs; whnf); done) | rfl) () (by simp_all [kidsN]) (fun w hs => hs.none)
                            · refine go_seq ?_
                              refine go_region ⟨_, Try.func13⟩ rfl ?_
                              refine q0 rfl (o_eqI ?_)
                              refine q0 rfl (o_assign ?_)
                              refine rg_nil ?_
                              refine go_condI (fun h13 => ?_) (fun h13 => ?_)
                              · refine go_skip ?_
                                refine go_condT ?_
                                refine go_seq ?_
                                refine go_region ⟨_, Try.func13⟩ rfl ?_
                                refine q0 rfl (o_assign ?_)
                                refine rg_nil ?_
                                refine ret1 Try.func13 Try.results13 (by first | ((conv => lhs; whnf); done) | rfl) () (by simp_all [kidsN]) (fun w hs => hs.none)
                              · refine go_seq ?_
                                refine go_region ⟨_, Try.func13⟩ rfl ?_
                                refine q0 rfl (o_eqI ?_)
                                refine q0 rfl (o_assign ?_)
                                refine rg_nil ?_
                                refine go_condI (fun h13 => ?_) (fun h13 => ?_)
                                · refine go_skip ?_
                                  refine go_condT ?_
                                  refine go_seq ?_
                                  refine go_region ⟨_, Try.func13⟩ rfl ?_
                                  refine q0 rfl (o_assign ?_)
                                  refine rg_nil ?_
                                  refine ret1 Try.func13 Try.results13 (by first | ((conv => lhs; whnf); done) | rfl) () (by simp_all [kidsN]) (fun w hs => hs.none)
                                · refine go_region ⟨_, Try.func13⟩ rfl ?_
                                  refine q0 rfl (o_eqI ?_)
                                  refine q0 rfl (o_assign ?_)
                                  refine rg_nil ?_
                                  refine go_condI (fun h13 => ?_) (fun h13 => ?_)
                                  · refine go_seq ?_
                                    refine go_region ⟨_, Try.func13⟩ rfl ?_
                                    refine q0 rfl (o_assign ?_)
                                    refine rg_nil ?_
                                    refine ret1 Try.func13 Try.results13 (by first | ((conv => lhs; whnf); done) | rfl) () (by simp_all [kidsN]) (fun w hs => hs.none)
                                  · refine go_seq ?_
                                    refine go_seq ?_
                                    refine go_region ⟨_, Try.func13⟩ rfl ?_
                                    refine q0 rfl (o_eqI ?_)
                                    refine q0 rfl (o_assign ?_)
                                    refine rg_nil ?_
                                    refine go_condI (fun h23 => ?_) (fun h23 => ?_)
                                    · refine go_skip ?_
                                      refine go_condT ?_
                                      refine go_seq ?_
                                      refine go_region ⟨_, Try.func13⟩ rfl ?_
                                      refine q0 rfl (o_assign ?_)
                                      refine rg_nil ?_
                                      refine ret1 Try.func13 Try.results13 (by first | ((conv => lhs; whnf); done) | rfl) () (by simp_all [kidsN]) (fun w hs => hs.none)
                                    · refine go_seq ?_
                                      refine go_region ⟨_, Try.func13⟩ rfl ?_
                                      refine q0 rfl (o_eqI ?_)
                                      refine q0 rfl (o_assign ?_)
                                      refine rg_nil ?_
                                      refine go_condI (fun h23 => ?_) (fun h23 => ?_)
                                      · refine go_skip ?_
                                        refine go_condT ?_
                                        refine go_seq ?_
                                        refine go_region ⟨_, Try.func13⟩ rfl ?_
                                        refine q0 rfl (o_assign ?_)
                                        refine rg_nil ?_
                                        refine ret1 Try.func13 Try.results13 (by first | ((conv => lhs; whnf); done) | rfl) () (by simp_all [kidsN]) (fun w hs => hs.none)
                                      · refine go_seq ?_
                                        refine go_region ⟨_, Try.func13⟩ rfl ?_
                                        refine q0 rfl (o_eqI ?_)
                                        refine q0 rfl (o_assign ?_)
                                        refine rg_nil ?_
                                        refine go_condI (fun h23 => ?_) (fun h23 => ?_)
                                        · refine go_skip ?_
                                          refine go_condT ?_
                                          refine go_seq ?_
                                          refine go_region ⟨_, Try.func13⟩ rfl ?_
                                          refine q0 rfl (o_assign ?_)
                                          refine rg_nil ?_
                                          refine ret1 Try.func13 Try.results13 (by first | ((conv => lhs; whnf); done) | rfl) () (by simp_all [kidsN]) (fun w hs => hs.none)
                                        · refine go_seq ?_
                                          refine go_region ⟨_, Try.func13⟩ rfl ?_
                                          refine q0 rfl (o_eqI ?_)
                                          refine q0 rfl (o_assign ?_)
                                          refine rg_nil ?_
                                          refine go_condI (fun h23 => ?_) (fun h23 => ?_)
                                          · refine go_skip ?_
                                            refine go_condT ?_
                                            refine go_seq ?_
                                            refine go_region ⟨_, Try.func13⟩ rfl ?_
                                            refine q0 rfl (o_assign ?_)
                                            refine rg_nil ?_
                                            refine ret1 Try.func13 Try.results13 (by first | ((conv => lhs; whnf); done) | rfl) () (by simp_all [kidsN]) (fun w hs => hs.none)
                                          · refine go_seq ?_
                                            refine go_region ⟨_, Try.func13⟩ rfl ?_
                                            refine q0 rfl (o_eqI ?_)
                                            refine q0 rfl (o_assign ?_)
                                            refine rg_nil ?_
                                            refine go_condI (fun h23 => ?_) (fun h23 => ?_)
                                            · refine go_skip ?_
                                              refine go_condT ?_
                                              refine go_seq ?_
                                              refine go_region ⟨_, Try.func13⟩ rfl ?_
                                              refine q0 rfl (o_assign ?_)
                                              refine rg_nil ?_
                                              refine ret1 Try.func13 Try.results13 (by first | ((conv => lhs; whnf); done) | rfl) () (by simp_all [kidsN]) (fun w hs => hs.none)
                                            · refine go_seq ?_
                                              refine go_region ⟨_, Try.func13⟩ rfl ?_
                                              refine q0 rfl (o_eqI ?_)
                                              refine q0 rfl (o_assign ?_)
                                              refine rg_nil ?_
                                              refine go_condI (fun h23 => ?_) (fun h23 => ?_)
                                              · refine go_skip ?_
                                                refine go_condT ?_
                                                refine go_seq ?_
                                                refine go_region ⟨_, Try.func13⟩ rfl ?_
                                                refine q0 rfl (o_assign ?_)
                                                refine rg_nil ?_
                                                refine ret1 Try.func13 Try.results13 (by first | ((conv => lhs; whnf); done) | rfl) () (by simp_all [kidsN]) (fun w hs => hs.none)
                                              · refine go_region ⟨_, Try.func13⟩ rfl ?_
                                                refine q0 rfl (o_eqI ?_)
                                                refine q0 rfl (o_assign ?_)
                                                refine rg_nil ?_
                                                refine go_condI (fun h23 => ?_) (fun h23 => ?_)
                                                · refine go_seq ?_
                                                  refine go_region ⟨_, Try.func13⟩ rfl ?_
                                                  refine q0 rfl (o_assign ?_)
                                                  refine rg_nil ?_
                                                  refine ret1 Try.func13 Try.results13 (by first | ((conv => lhs; whnf); done) | rfl) () (by simp_all [kidsN]) (fun w hs => hs.none)
                                                · refine go_seq ?_
                                                  refine go_seq ?_
                                                  refine go_region ⟨_, Try.func13⟩ rfl ?_
                                                  refine q0 rfl (o_eqI ?_)
                                                  refine q0 rfl (o_assign ?_)
                                                  refine rg_nil ?_
                                                  refine go_condI (fun h31 => ?_) (fun h31 => ?_)
                                                  · refine go_skip ?_
                                                    refine go_condT ?_
                                                    refine go_seq ?_
                                                    refine go_region ⟨_, Try.func13⟩ rfl ?_
                                                    refine q0 rfl (o_assign ?_)
                                                    refine rg_nil ?_
                                                    refine ret1 Try.func13 Try.results13 (by first | ((conv => lhs; whnf); done) | rfl) () (by simp_all [kidsN]) (fun w hs => hs.none)
                                                  · refine go_region ⟨_, Try.func13⟩ rfl ?_
                                                    refine q0 rfl (o_eqI ?_)
                                                    refine q0 rfl (o_assign ?_)
                                                    refine rg_nil ?_
                                                    refine go_condI (fun h31 => ?_) (fun h31 => ?_)
                                                    · refine go_seq ?_
                                                      refine go_region ⟨_, Try.func13⟩ rfl ?_
                                                      refine q0 rfl (o_assign ?_)
                                                      refine rg_nil ?_
                                                      refine ret1 Try.func13 Try.results13 (by first | ((conv => lhs; whnf); done) | rfl) () (by simp_all [kidsN]) (fun w hs => hs.none)
                                                    · refine go_seq ?_
                                                      refine go_region ⟨_, Try.func13⟩ rfl ?_
                                                      refine q0 rfl (o_eqI ?_)
                                                      refine q0 rfl (o_assign ?_)
                                                      refine rg_nil ?_
                                                      refine go_condI (fun h34 => ?_) (fun h34 => ?_)
                                                      · refine go_seq ?_
                                                        refine go_region ⟨_, Try.func13⟩ rfl ?_
                                                        refine q0 rfl (o_assign ?_)
                                                        refine rg_nil ?_
                                                        refine ret1 Try.func13 Try.results13 (by first | ((conv => lhs; whnf); done) | rfl) () (by simp_all [kidsN]) (fun w hs => hs.none)
                                                      · refine go_seq ?_
                                                        refine go_region ⟨_, Try.func13⟩ rfl ?_
                                                        refine q0 rfl (o_eqI ?_)
                                                        refine q0 rfl (o_assign ?_)
                                                        refine rg_nil ?_
                                                        refine go_condI (fun h36 => ?_) (fun h36 => ?_)
                                                        · refine go_seq ?_
                                                          refine go_region ⟨_, Try.func13⟩ rfl ?_
                                                          refine q0 rfl (o_assign ?_)
                                                          refine rg_nil ?_
                                                          refine ret1 Try.func13 Try.results13 (by first | ((conv => lhs; whnf); done) | rfl) () (by simp_all [kidsN]) (fun w hs => hs.none)
                                                        · refine go_skip ?_
                                                          refine go_inBlock ?_
                                                          refine go_seq ?_
                                                          refine go_region ⟨_, Try.func13⟩ rfl ?_
                                                          refine q0 rfl (o_assign ?_)
                                                          refine rg_nil ?_
                                                          refine ret1 Try.func13 Try.results13 (by first | ((conv => lhs; whnf); done) | rfl) () (by simp_all [kidsN]) (fun w hs => hs.none)

theorem parts_spec (k : Int) : Spec Try.prog 15 #[.int .i64 k] [] [] (fun _ : Unit => .int .i64 (partsN k)) (fun _ => []) (fun _ => []) := by
  refine spec_go (args := [.int .i64 k]) Try.func15 Try.ntmps15 rfl (by exact Nat.le_of_ble_eq_true rfl) fun B hB => ?_
  refine go_seq ?_
  refine go_region ⟨_, Try.func15⟩ rfl ?_
  refine q0 rfl (o_assign ?_)
  refine rg_nil ?_
  refine go_seq ?_
  refine go_seq ?_
  refine go_region ⟨_, Try.func15⟩ rfl ?_
  refine q0 rfl (o_move ?_)
  refine rg_nil ?_
  refine go_block ?_
  refine go_seq ?_
  refine go_seq ?_
  refine go_region ⟨_, Try.func15⟩ rfl ?_
  refine q0 rfl (o_eqI ?_)
  refine q0 rfl (o_assign ?_)
  refine rg_nil ?_
  refine go_condI (fun h4 => ?_) (fun h4 => ?_)
  · refine go_skip ?_
    refine go_condT ?_
    refine go_seq ?_
    refine go_region ⟨_, Try.func15⟩ rfl ?_
    refine q0 rfl (o_assign ?_)
    refine rg_nil ?_
    refine ret1 Try.func15 Try.results15 (by first | ((conv => lhs; whnf); done) | rfl) () (by simp_all [partsN]) (fun w hs => hs.none)
  · refine go_seq ?_
    refine go_region ⟨_, Try.func15⟩ rfl ?_
    refine q0 rfl (o_eqI ?_)
    refine q0 rfl (o_assign ?_)
    refine rg_nil ?_
    refine go_condI (fun h4 => ?_) (fun h4 => ?_)
    · refine go_skip ?_
      refine go_condT ?_
      refine go_seq ?_
      refine go_region ⟨_, Try.func15⟩ rfl ?_
      refine q0 rfl (o_assign ?_)
      refine rg_nil ?_
      refine ret1 Try.func15 Try.results15 (by first | ((conv => lhs; whnf); done) | rfl) () (by simp_all [partsN]) (fun w hs => hs.none)
    · refine go_region ⟨_, Try.func15⟩ rfl ?_
      refine q0 rfl (o_eqI ?_)
      refine q0 rfl (o_assign ?_)
      refine rg_nil ?_
      refine go_condI (fun h4 => ?_) (fun h4 => ?_)
      · refine go_seq ?_
        refine go_region ⟨_, Try.func15⟩ rfl ?_
        refine q0 rfl (o_assign ?_)
        refine rg_nil ?_
        refine ret1 Try.func15 Try.results15 (by first | ((conv => lhs; whnf); done) | rfl) () (by simp_all [partsN]) (fun w hs => hs.none)
      · refine go_seq ?_
        refine go_region ⟨_, Try.func15⟩ rfl ?_
        refine q0 rfl (o_eqI ?_)
        refine q0 rfl (o_assign ?_)
        refine rg_nil ?_
        refine go_condI (fun h8 => ?_) (fun h8 => ?_)
        · refine go_seq ?_
          refine go_region ⟨_, Try.func15⟩ rfl ?_
          refine q0 rfl (o_assign ?_)
          refine rg_nil ?_
          refine ret1 Try.func15 Try.results15 (by first | ((conv => lhs; whnf); done) | rfl) () (by simp_all [partsN]) (fun w hs => hs.none)
        · refine go_skip ?_
          refine go_inBlock ?_
          refine go_seq ?_
          refine go_region ⟨_, Try.func15⟩ rfl ?_
          refine q0 rfl (o_assign ?_)
          refine rg_nil ?_
          refine ret1 Try.func15 Try.results15 (by first | ((conv => lhs; whnf); done) | rfl) () (by simp_all [partsN]) (fun w hs => hs.none)

theorem rparts_spec (k : Int) : Spec Try.prog 16 #[.int .i64 k] [] [] (fun _ : Unit => .int .i64 (partsN k)) (fun _ => []) (fun _ => []) := by
  refine spec_go (args := [.int .i64 k]) Try.func16 Try.ntmps16 rfl (by exact Nat.le_of_ble_eq_true rfl) fun B hB => ?_
  refine go_seq ?_
  refine go_region ⟨_, Try.func16⟩ rfl ?_
  refine q0 rfl (o_assign ?_)
  refine rg_nil ?_
  refine go_seq ?_
  refine go_seq ?_
  refine go_region ⟨_, Try.func16⟩ rfl ?_
  refine q0 rfl (o_move ?_)
  refine q0 rfl (o_eqI ?_)
  refine rg_nil ?_
  refine go_condI (fun h4 => ?_) (fun h4 => ?_)
  · refine go_seq ?_
    refine go_region ⟨_, Try.func16⟩ rfl ?_
    refine q0 rfl (o_assign ?_)
    refine rg_nil ?_
    refine ret1 Try.func16 Try.results16 (by first | ((conv => lhs; whnf); done) | rfl) () (by simp_all [partsN]) (fun w hs => hs.none)
  · refine go_skip ?_
    refine go_seq ?_
    refine go_seq ?_
    refine go_region ⟨_, Try.func16⟩ rfl ?_
    refine q0 rfl (o_move ?_)
    refine q0 rfl (o_eqI ?_)
    refine q0 rfl (o_move ?_)
    refine qI rfl rfl rfl (by conv => lhs; whnf) (fun hg7 => o_move ?_) (fun hg7 => ?_)
    · refine qT rfl rfl rfl (o_eqI ?_)
      refine q0 rfl (o_pickF ?_)
      refine q0 rfl (o_move ?_)
      refine qI rfl rfl rfl (by conv => lhs; whnf) (fun hg11 => o_move ?_) (fun hg11 => ?_)
      · refine qT rfl rfl rfl (o_eqI ?_)
        refine q0 rfl (o_pickF ?_)
        refine rg_nil ?_
        refine go_condI (fun h14 => ?_) (fun h14 => ?_)
        · refine go_seq ?_
          refine go_region ⟨_, Try.func16⟩ rfl ?_
          refine q0 rfl (o_assign ?_)
          refine rg_nil ?_
          refine ret1 Try.func16 Try.results16 (by first | ((conv => lhs; whnf); done) | rfl) () (by simp_all [partsN]) (fun w hs => hs.none)
        · refine go_skip ?_
          refine go_seq ?_
          refine go_region ⟨_, Try.func16⟩ rfl ?_
          refine q0 rfl (o_assign ?_)
          refine rg_nil ?_
          refine ret1 Try.func16 Try.results16 (by first | ((conv => lhs; whnf); done) | rfl) () (by simp_all [partsN]) (fun w hs => hs.none)
      · refine qF rfl rfl rfl ?_
        refine q0 rfl (o_pickT ?_)
        refine rg_nil ?_
        refine go_condT ?_
        refine go_seq ?_
        refine go_region ⟨_, Try.func16⟩ rfl ?_
        refine q0 rfl (o_assign ?_)
        refine rg_nil ?_
        refine ret1 Try.func16 Try.results16 (by first | ((conv => lhs; whnf); done) | rfl) () (by simp_all [partsN]) (fun w hs => hs.none)
    · refine qF rfl rfl rfl ?_
      refine q0 rfl (o_pickT ?_)
      refine q0 rfl (o_move ?_)
      refine qF rfl rfl rfl ?_
      refine qF rfl rfl rfl ?_
      refine q0 rfl (o_pickT ?_)
      refine rg_nil ?_
      refine go_condT ?_
      refine go_seq ?_
      refine go_region ⟨_, Try.func16⟩ rfl ?_
      refine q0 rfl (o_assign ?_)
      refine rg_nil ?_
      refine ret1 Try.func16 Try.results16 (by first | ((conv => lhs; whnf); done) | rfl) () (by simp_all [partsN]) (fun w hs => hs.none)

theorem rmore_spec (k : Int) : Spec Try.prog 75 #[.int .i64 k] [] [] (fun _ : Unit => .int .i64 (more k)) (fun _ => []) (fun _ => []) := by
  refine spec_go (args := [.int .i64 k]) Try.func75 Try.ntmps75 rfl (by exact Nat.le_of_ble_eq_true rfl) fun B hB => ?_
  refine go_seq ?_
  refine go_region ⟨_, Try.func75⟩ rfl ?_
  refine q0 rfl (o_assign ?_)
  refine rg_nil ?_
  refine go_seq ?_
  refine go_seq ?_
  refine go_region ⟨_, Try.func75⟩ rfl ?_
  refine q0 rfl (o_move ?_)
  refine q0 rfl (o_eqI ?_)
  refine rg_nil ?_
  refine go_condI (fun h4 => ?_) (fun h4 => ?_)
  · refine go_seq ?_
    refine go_region ⟨_, Try.func75⟩ rfl ?_
    refine q0 rfl (o_assign ?_)
    refine rg_nil ?_
    refine ret1 Try.func75 Try.results75 (by first | ((conv => lhs; whnf); done) | rfl) () (by simp_all [more]) (fun w hs => hs.none)
  · refine go_skip ?_
    refine go_seq ?_
    refine go_region ⟨_, Try.func75⟩ rfl ?_
    refine q0 rfl (o_assign ?_)
    refine rg_nil ?_
    refine ret1 Try.func75 Try.results75 (by first | ((conv => lhs; whnf); done) | rfl) () (by simp_all [more]) (fun w hs => hs.none)

theorem rbinds_spec (k i : Int) : Spec Try.prog 12 #[.int .i64 k, .int .i64 i] [] [] (fun _ : Unit => .tuple #[.int .i64 (binds k i).1, .int .i64 (binds k i).2]) (fun _ => []) (fun _ => []) := by
  refine spec_go (args := [.int .i64 k, .int .i64 i]) Try.func12 Try.ntmps12 rfl (by exact Nat.le_of_ble_eq_true rfl) fun B hB => ?_
  refine go_seq ?_
  refine go_region ⟨_, Try.func12⟩ rfl ?_
  refine q0 rfl (o_assign ?_)
  refine q0 rfl (o_assign ?_)
  refine rg_nil ?_
  refine go_seq ?_
  refine go_seq ?_
  refine go_region ⟨_, Try.func12⟩ rfl ?_
  refine q0 rfl (o_move ?_)
  refine q0 rfl (o_eqI ?_)
  refine q0 rfl (o_move ?_)
  refine qI rfl rfl rfl (by conv => lhs; whnf) (fun hg8 => o_move ?_) (fun hg8 => ?_)
  · refine qT rfl rfl rfl (o_eqI ?_)
    refine qT rfl rfl rfl (o_move ?_)
    refine qI rfl rfl rfl (by conv => lhs; whnf) (fun hg11 => o_move ?_) (fun hg11 => ?_)
    · refine qT rfl rfl rfl (o_eqI ?_)
      refine qT rfl rfl rfl (o_pickF ?_)
      refine q0 rfl (o_pickT ?_)
      refine rg_nil ?_
      refine go_condI (fun h15 => ?_) (fun h15 => ?_)
      · refine go_seq ?_
        refine go_region ⟨_, Try.func12⟩ rfl ?_
        refine q0 rfl (o_assign ?_)
        refine q0 rfl (o_assign ?_)
        refine rg_nil ?_
        refine ret2 Try.func12 Try.results12 (by first | ((conv => lhs; whnf); done) | rfl) (by first | ((conv => lhs; whnf); done) | rfl) () (by simp_all [binds]) (fun w hs => hs.none)
      · refine go_skip ?_
        refine go_seq ?_
        refine go_seq ?_
        refine go_region ⟨_, Try.func12⟩ rfl ?_
        refine q0 rfl (o_move ?_)
        refine q0 rfl (o_eqI ?_)
        refine q0 rfl (o_move ?_)
        refine qI rfl rfl rfl (by conv => lhs; whnf) (fun hg18 => o_move ?_) (fun hg18 => ?_)
        · refine qT rfl rfl rfl (o_eqI ?_)
          refine qT rfl rfl rfl (o_move ?_)
          refine qI rfl rfl rfl (by conv => lhs; whnf) (fun hg21 => o_move ?_) (fun hg21 => ?_)
          · refine qT rfl rfl rfl (o_eqI ?_)
            refine qT rfl rfl rfl (o_pickF ?_)
            refine qT rfl rfl rfl (o_move ?_)
            refine qI rfl rfl rfl (by conv => lhs; whnf) (fun hg25 => o_move ?_) (fun hg25 => ?_)
            · refine qT rfl rfl rfl (o_eqI ?_)
              refine qT rfl rfl rfl (o_pickF ?_)
              refine q0 rfl (o_pickT ?_)
              refine rg_nil ?_
              refine go_condI (fun h29 => ?_) (fun h29 => ?_)
              · refine go_seq ?_
                refine go_region ⟨_, Try.func12⟩ rfl ?_
                refine q0 rfl (o_assign ?_)
                refine q0 rfl (o_assign ?_)
                refine rg_nil ?_
                refine ret2 Try.func12 Try.results12 (by first | ((conv => lhs; whnf); done) | rfl) (by first | ((conv => lhs; whnf); done) | rfl) () (by simp_all [binds]) (fun w hs => hs.none)
              · refine go_skip ?_
                refine go_seq ?_
                refine go_seq ?_
                refine go_region ⟨_, Try.func12⟩ rfl ?_
                refine q0 rfl (o_move ?_)
                refine q0 rfl (o_eqI ?_)
                refine q0 rfl (o_move ?_)
                refine qI rfl rfl rfl (by conv => lhs; whnf) (fun hg32 => o_move ?_) (fun hg32 => ?_)
                · refine qT rfl rfl rfl (o_eqI ?_)
                  refine qT rfl rfl rfl (o_move ?_)
                  refine qI rfl rfl rfl (by conv => lhs; whnf) (fun hg35 => o_move ?_) (fun hg35 => ?_)
                  · refine qT rfl rfl rfl (o_eqI ?_)
                    refine qT rfl rfl rfl (o_pickF ?_)
                    refine qT rfl rfl rfl (o_move ?_)
                    refine qI rfl rfl rfl (by conv => lhs; whnf) (fun hg39 => o_move ?_) (fun hg39 => ?_)
                    · refine qT rfl rfl rfl (o_eqI ?_)
                      refine qT rfl rfl rfl (o_pickF ?_)
                      refine q0 rfl (o_pickT ?_)
                      refine rg_nil ?_
                      refine go_condI (fun h43 => ?_) (fun h43 => ?_)
                      · refine go_seq ?_
                        refine go_region ⟨_, Try.func12⟩ rfl ?_
                        refine q0 rfl (o_assign ?_)
                        refine q0 rfl (o_assign ?_)
                        refine rg_nil ?_
                        refine ret2 Try.func12 Try.results12 (by first | ((conv => lhs; whnf); done) | rfl) (by first | ((conv => lhs; whnf); done) | rfl) () (by simp_all [binds]) (fun w hs => hs.none)
                      · refine go_skip ?_
                        refine go_seq ?_
                        refine go_region ⟨_, Try.func12⟩ rfl ?_
                        refine q0 rfl (o_assign ?_)
                        refine q0 rfl (o_assign ?_)
                        refine rg_nil ?_
                        refine ret2 Try.func12 Try.results12 (by first | ((conv => lhs; whnf); done) | rfl) (by first | ((conv => lhs; whnf); done) | rfl) () (by simp_all [binds]) (fun w hs => hs.none)
                    · refine qF rfl rfl rfl ?_
                      refine qT rfl rfl rfl (o_pickT ?_)
                      refine q0 rfl (o_pickT ?_)
                      refine rg_nil ?_
                      refine go_condT ?_
                      refine go_seq ?_
                      refine go_region ⟨_, Try.func12⟩ rfl ?_
                      refine q0 rfl (o_assign ?_)
                      refine q0 rfl (o_assign ?_)
                      refine rg_nil ?_
                      refine ret2 Try.func12 Try.results12 (by first | ((conv => lhs; whnf); done) | rfl) (by first | ((conv => lhs; whnf); done) | rfl) () (by simp_all [binds]) (fun w hs => hs.none)
                  · refine qF rfl rfl rfl ?_
                    refine qT rfl rfl rfl (o_pickT ?_)
                    refine qT rfl rfl rfl (o_move ?_)
                    refine qF rfl rfl rfl ?_
                    refine qF rfl rfl rfl ?_
                    refine qT rfl rfl rfl (o_pickT ?_)
                    refine q0 rfl (o_pickT ?_)
                    refine rg_nil ?_
                    refine go_condT ?_
                    refine go_seq ?_
                    refine go_region ⟨_, Try.func12⟩ rfl ?_
                    refine q0 rfl (o_assign ?_)
                    refine q0 rfl (o_assign ?_)
                    refine rg_nil ?_
                    refine ret2 Try.func12 Try.results12 (by first | ((conv => lhs; whnf); done) | rfl) (by first | ((conv => lhs; whnf); done) | rfl) () (by simp_all [binds]) (fun w hs => hs.none)
                · refine qF rfl rfl rfl ?_
                  refine qF rfl rfl rfl ?_
                  refine qU rfl rfl rfl ?_
                  refine qU rfl rfl rfl ?_
                  refine qF rfl rfl rfl ?_
                  refine qF rfl rfl rfl ?_
                  refine qU rfl rfl rfl ?_
                  refine qU rfl rfl rfl ?_
                  refine qF rfl rfl rfl ?_
                  refine q0 rfl (o_pickF ?_)
                  refine rg_nil ?_
                  refine go_condF ?_
                  refine go_skip ?_
                  refine go_seq ?_
                  refine go_region ⟨_, Try.func12⟩ rfl ?_
                  refine q0 rfl (o_assign ?_)
                  refine q0 rfl (o_assign ?_)
                  refine rg_nil ?_
                  refine ret2 Try.func12 Try.results12 (by first | ((conv => lhs; whnf); done) | rfl) (by first | ((conv => lhs; whnf); done) | rfl) () (by simp_all [binds]) (fun w hs => hs.none)
            · refine qF rfl rfl rfl ?_
              refine qT rfl rfl rfl (o_pickT ?_)
              refine q0 rfl (o_pickT ?_)
              refine rg_nil ?_
              refine go_condT ?_
              refine go_seq ?_
              refine go_region ⟨_, Try.func12⟩ rfl ?_
              refine q0 rfl (o_assign ?_)
              refine q0 rfl (o_assign ?_)
              refine rg_nil ?_
              refine ret2 Try.func12 Try.results12 (by first | ((conv => lhs; whnf); done) | rfl) (by first | ((conv => lhs; whnf); done) | rfl) () (by simp_all [binds]) (fun w hs => hs.none)
          · refine qF rfl rfl rfl ?_
            refine qT rfl rfl rfl (o_pickT ?_)
            refine qT rfl rfl rfl (o_move ?_)
            refine qF rfl rfl rfl ?_
            refine qF rfl rfl rfl ?_
            refine qT rfl rfl rfl (o_pickT ?_)
            refine q0 rfl (o_pickT ?_)
            refine rg_nil ?_
            refine go_condT ?_
            refine go_seq ?_
            refine go_region ⟨_, Try.func12⟩ rfl ?_
            refine q0 rfl (o_assign ?_)
            refine q0 rfl (o_assign ?_)
            refine rg_nil ?_
            refine ret2 Try.func12 Try.results12 (by first | ((conv => lhs; whnf); done) | rfl) (by first | ((conv => lhs; whnf); done) | rfl) () (by simp_all [binds]) (fun w hs => hs.none)
        · refine qF rfl rfl rfl ?_
          refine qF rfl rfl rfl ?_
          refine qU rfl rfl rfl ?_
          refine qU rfl rfl rfl ?_
          refine qF rfl rfl rfl ?_
          refine qF rfl rfl rfl ?_
          refine qU rfl rfl rfl ?_
          refine qU rfl rfl rfl ?_
          refine qF rfl rfl rfl ?_
          refine q0 rfl (o_pickF ?_)
          refine rg_nil ?_
          refine go_condF ?_
          refine go_skip ?_
          refine go_seq ?_
          refine go_seq ?_
          refine go_region ⟨_, Try.func12⟩ rfl ?_
          refine q0 rfl (o_move ?_)
          refine q0 rfl (o_eqI ?_)
          refine q0 rfl (o_move ?_)
          refine qI rfl rfl rfl (by conv => lhs; whnf) (fun hg32 => o_move ?_) (fun hg32 => ?_)
          · refine qT rfl rfl rfl (o_eqI ?_)
            refine qT rfl rfl rfl (o_move ?_)
            refine qI rfl rfl rfl (by conv => lhs; whnf) (fun hg35 => o_move ?_) (fun hg35 => ?_)
            · refine qT rfl rfl rfl (o_eqI ?_)
              refine qT rfl rfl rfl (o_pickF ?_)
              refine qT rfl rfl rfl (o_move ?_)
              refine qI rfl rfl rfl (by conv => lhs; whnf) (fun hg39 => o_move ?_) (fun hg39 => ?_)
              · refine qT rfl rfl rfl (o_eqI ?_)
                refine qT rfl rfl rfl (o_pickF ?_)
                refine q0 rfl (o_pickT ?_)
                refine rg_nil ?_
                refine go_condI (fun h43 => ?_) (fun h43 => ?_)
                · refine go_seq ?_
                  refine go_region ⟨_, Try.func12⟩ rfl ?_
                  refine q0 rfl (o_assign ?_)
                  refine q0 rfl (o_assign ?_)
                  refine rg_nil ?_
                  refine ret2 Try.func12 Try.results12 (by first | ((conv => lhs; whnf); done) | rfl) (by first | ((conv => lhs; whnf); done) | rfl) () (by simp_all [binds]) (fun w hs => hs.none)
                · refine go_skip ?_
                  refine go_seq ?_
                  refine go_region ⟨_, Try.func12⟩ rfl ?_
                  refine q0 rfl (o_assign ?_)
                  refine q0 rfl (o_assign ?_)
                  refine rg_nil ?_
                  refine ret2 Try.func12 Try.results12 (by first | ((conv => lhs; whnf); done) | rfl) (by first | ((conv => lhs; whnf); done) | rfl) () (by simp_all [binds]) (fun w hs => hs.none)
              · refine qF rfl rfl rfl ?_
                refine qT rfl rfl rfl (o_pickT ?_)
                refine q0 rfl (o_pickT ?_)
                refine rg_nil ?_
                refine go_condT ?_
                refine go_seq ?_
                refine go_region ⟨_, Try.func12⟩ rfl ?_
                refine q0 rfl (o_assign ?_)
                refine q0 rfl (o_assign ?_)
                refine rg_nil ?_
                refine ret2 Try.func12 Try.results12 (by first | ((conv => lhs; whnf); done) | rfl) (by first | ((conv => lhs; whnf); done) | rfl) () (by simp_all [binds]) (fun w hs => hs.none)
            · refine qF rfl rfl rfl ?_
              refine qT rfl rfl rfl (o_pickT ?_)
              refine qT rfl rfl rfl (o_move ?_)
              refine qF rfl rfl rfl ?_
              refine qF rfl rfl rfl ?_
              refine qT rfl rfl rfl (o_pickT ?_)
              refine q0 rfl (o_pickT ?_)
              refine rg_nil ?_
              refine go_condT ?_
              refine go_seq ?_
              refine go_region ⟨_, Try.func12⟩ rfl ?_
              refine q0 rfl (o_assign ?_)
              refine q0 rfl (o_assign ?_)
              refine rg_nil ?_
              refine ret2 Try.func12 Try.results12 (by first | ((conv => lhs; whnf); done) | rfl) (by first | ((conv => lhs; whnf); done) | rfl) () (by simp_all [binds]) (fun w hs => hs.none)
          · refine qF rfl rfl rfl ?_
            refine qF rfl rfl rfl ?_
            refine qU rfl rfl rfl ?_
            refine qU rfl rfl rfl ?_
            refine qF rfl rfl rfl ?_
            refine qF rfl rfl rfl ?_
            refine qU rfl rfl rfl ?_
            refine qU rfl rfl rfl ?_
            refine qF rfl rfl rfl ?_
            refine q0 rfl (o_pickF ?_)
            refine rg_nil ?_
            refine go_condF ?_
            refine go_skip ?_
            refine go_seq ?_
            refine go_region ⟨_, Try.func12⟩ rfl ?_
            refine q0 rfl (o_assign ?_)
            refine q0 rfl (o_assign ?_)
            refine rg_nil ?_
            refine ret2 Try.func12 Try.results12 (by first | ((conv => lhs; whnf); done) | rfl) (by first | ((conv => lhs; whnf); done) | rfl) () (by simp_all [binds]) (fun w hs => hs.none)
    · refine qF rfl rfl rfl ?_
      refine qT rfl rfl rfl (o_pickT ?_)
      refine q0 rfl (o_pickT ?_)
      refine rg_nil ?_
      refine go_condT ?_
      refine go_seq ?_
      refine go_region ⟨_, Try.func12⟩ rfl ?_
      refine q0 rfl (o_assign ?_)
      refine q0 rfl (o_assign ?_)
      refine rg_nil ?_
      refine ret2 Try.func12 Try.results12 (by first | ((conv => lhs; whnf); done) | rfl) (by first | ((conv => lhs; whnf); done) | rfl) () (by simp_all [binds]) (fun w hs => hs.none)
  · refine qF rfl rfl rfl ?_
    refine qF rfl rfl rfl ?_
    refine qU rfl rfl rfl ?_
    refine qU rfl rfl rfl ?_
    refine qF rfl rfl rfl ?_
    refine q0 rfl (o_pickF ?_)
    refine rg_nil ?_
    refine go_condF ?_
    refine go_skip ?_
    refine go_seq ?_
    refine go_seq ?_
    refine go_region ⟨_, Try.func12⟩ rfl ?_
    refine q0 rfl (o_move ?_)
    refine q0 rfl (o_eqI ?_)
    refine q0 rfl (o_move ?_)
    refine qI rfl rfl rfl (by conv => lhs; whnf) (fun hg18 => o_move ?_) (fun hg18 => ?_)
    · refine qT rfl rfl rfl (o_eqI ?_)
      refine qT rfl rfl rfl (o_move ?_)
      refine qI rfl rfl rfl (by conv => lhs; whnf) (fun hg21 => o_move ?_) (fun hg21 => ?_)
      · refine qT rfl rfl rfl (o_eqI ?_)
        refine qT rfl rfl rfl (o_pickF ?_)
        refine qT rfl rfl rfl (o_move ?_)
        refine qI rfl rfl rfl (by conv => lhs; whnf) (fun hg25 => o_move ?_) (fun hg25 => ?_)
        · refine qT rfl rfl rfl (o_eqI ?_)
          refine qT rfl rfl rfl (o_pickF ?_)
          refine q0 rfl (o_pickT ?_)
          refine rg_nil ?_
          refine go_condI (fun h29 => ?_) (fun h29 => ?_)
          · refine go_seq ?_
            refine go_region ⟨_, Try.func12⟩ rfl ?_
            refine q0 rfl (o_assign ?_)
            refine q0 rfl (o_assign ?_)
            refine rg_nil ?_
            refine ret2 Try.func12 Try.results12 (by first | ((conv => lhs; whnf); done) | rfl) (by first | ((conv => lhs; whnf); done) | rfl) () (by simp_all [binds]) (fun w hs => hs.none)
          · refine go_skip ?_
            refine go_seq ?_
            refine go_seq ?_
            refine go_region ⟨_, Try.func12⟩ rfl ?_
            refine q0 rfl (o_move ?_)
            refine q0 rfl (o_eqI ?_)
            refine q0 rfl (o_move ?_)
            refine qI rfl rfl rfl (by conv => lhs; whnf) (fun hg32 => o_move ?_) (fun hg32 => ?_)
            · refine qT rfl rfl rfl (o_eqI ?_)
              refine qT rfl rfl rfl (o_move ?_)
              refine qI rfl rfl rfl (by conv => lhs; whnf) (fun hg35 => o_move ?_) (fun hg35 => ?_)
              · refine qT rfl rfl rfl (o_eqI ?_)
                refine qT rfl rfl rfl (o_pickF ?_)
                refine qT rfl rfl rfl (o_move ?_)
                refine qI rfl rfl rfl (by conv => lhs; whnf) (fun hg39 => o_move ?_) (fun hg39 => ?_)
                · refine qT rfl rfl rfl (o_eqI ?_)
                  refine qT rfl rfl rfl (o_pickF ?_)
                  refine q0 rfl (o_pickT ?_)
                  refine rg_nil ?_
                  refine go_condI (fun h43 => ?_) (fun h43 => ?_)
                  · refine go_seq ?_
                    refine go_region ⟨_, Try.func12⟩ rfl ?_
                    refine q0 rfl (o_assign ?_)
                    refine q0 rfl (o_assign ?_)
                    refine rg_nil ?_
                    refine ret2 Try.func12 Try.results12 (by first | ((conv => lhs; whnf); done) | rfl) (by first | ((conv => lhs; whnf); done) | rfl) () (by simp_all [binds]) (fun w hs => hs.none)
                  · refine go_skip ?_
                    refine go_seq ?_
                    refine go_region ⟨_, Try.func12⟩ rfl ?_
                    refine q0 rfl (o_assign ?_)
                    refine q0 rfl (o_assign ?_)
                    refine rg_nil ?_
                    refine ret2 Try.func12 Try.results12 (by first | ((conv => lhs; whnf); done) | rfl) (by first | ((conv => lhs; whnf); done) | rfl) () (by simp_all [binds]) (fun w hs => hs.none)
                · refine qF rfl rfl rfl ?_
                  refine qT rfl rfl rfl (o_pickT ?_)
                  refine q0 rfl (o_pickT ?_)
                  refine rg_nil ?_
                  refine go_condT ?_
                  refine go_seq ?_
                  refine go_region ⟨_, Try.func12⟩ rfl ?_
                  refine q0 rfl (o_assign ?_)
                  refine q0 rfl (o_assign ?_)
                  refine rg_nil ?_
                  refine ret2 Try.func12 Try.results12 (by first | ((conv => lhs; whnf); done) | rfl) (by first | ((conv => lhs; whnf); done) | rfl) () (by simp_all [binds]) (fun w hs => hs.none)
              · refine qF rfl rfl rfl ?_
                refine qT rfl rfl rfl (o_pickT ?_)
                refine qT rfl rfl rfl (o_move ?_)
                refine qF rfl rfl rfl ?_
                refine qF rfl rfl rfl ?_
                refine qT rfl rfl rfl (o_pickT ?_)
                refine q0 rfl (o_pickT ?_)
                refine rg_nil ?_
                refine go_condT ?_
                refine go_seq ?_
                refine go_region ⟨_, Try.func12⟩ rfl ?_
                refine q0 rfl (o_assign ?_)
                refine q0 rfl (o_assign ?_)
                refine rg_nil ?_
                refine ret2 Try.func12 Try.results12 (by first | ((conv => lhs; whnf); done) | rfl) (by first | ((conv => lhs; whnf); done) | rfl) () (by simp_all [binds]) (fun w hs => hs.none)
            · refine qF rfl rfl rfl ?_
              refine qF rfl rfl rfl ?_
              refine qU rfl rfl rfl ?_
              refine qU rfl rfl rfl ?_
              refine qF rfl rfl rfl ?_
              refine qF rfl rfl rfl ?_
              refine qU rfl rfl rfl ?_
              refine qU rfl rfl rfl ?_
              refine qF rfl rfl rfl ?_
              refine q0 rfl (o_pickF ?_)
              refine rg_nil ?_
              refine go_condF ?_
              refine go_skip ?_
              refine go_seq ?_
              refine go_region ⟨_, Try.func12⟩ rfl ?_
              refine q0 rfl (o_assign ?_)
              refine q0 rfl (o_assign ?_)
              refine rg_nil ?_
              refine ret2 Try.func12 Try.results12 (by first | ((conv => lhs; whnf); done) | rfl) (by first | ((conv => lhs; whnf); done) | rfl) () (by simp_all [binds]) (fun w hs => hs.none)
        · refine qF rfl rfl rfl ?_
          refine qT rfl rfl rfl (o_pickT ?_)
          refine q0 rfl (o_pickT ?_)
          refine rg_nil ?_
          refine go_condT ?_
          refine go_seq ?_
          refine go_region ⟨_, Try.func12⟩ rfl ?_
          refine q0 rfl (o_assign ?_)
          refine q0 rfl (o_assign ?_)
          refine rg_nil ?_
          refine ret2 Try.func12 Try.results12 (by first | ((conv => lhs; whnf); done) | rfl) (by first | ((conv => lhs; whnf); done) | rfl) () (by simp_all [binds]) (fun w hs => hs.none)
      · refine qF rfl rfl rfl ?_
        refine qT rfl rfl rfl (o_pickT ?_)
        refine qT rfl rfl rfl (o_move ?_)
        refine qF rfl rfl rfl ?_
        refine qF rfl rfl rfl ?_
        refine qT rfl rfl rfl (o_pickT ?_)
        refine q0 rfl (o_pickT ?_)
        refine rg_nil ?_
        refine go_condT ?_
        refine go_seq ?_
        refine go_region ⟨_, Try.func12⟩ rfl ?_
        refine q0 rfl (o_assign ?_)
        refine q0 rfl (o_assign ?_)
        refine rg_nil ?_
        refine ret2 Try.func12 Try.results12 (by first | ((conv => lhs; whnf); done) | rfl) (by first | ((conv => lhs; whnf); done) | rfl) () (by simp_all [binds]) (fun w hs => hs.none)
    · refine qF rfl rfl rfl ?_
      refine qF rfl rfl rfl ?_
      refine qU rfl rfl rfl ?_
      refine qU rfl rfl rfl ?_
      refine qF rfl rfl rfl ?_
      refine qF rfl rfl rfl ?_
      refine qU rfl rfl rfl ?_
      refine qU rfl rfl rfl ?_
      refine qF rfl rfl rfl ?_
      refine q0 rfl (o_pickF ?_)
      refine rg_nil ?_
      refine go_condF ?_
      refine go_skip ?_
      refine go_seq ?_
      refine go_seq ?_
      refine go_region ⟨_, Try.func12⟩ rfl ?_
      refine q0 rfl (o_move ?_)
      refine q0 rfl (o_eqI ?_)
      refine q0 rfl (o_move ?_)
      refine qI rfl rfl rfl (by conv => lhs; whnf) (fun hg32 => o_move ?_) (fun hg32 => ?_)
      · refine qT rfl rfl rfl (o_eqI ?_)
        refine qT rfl rfl rfl (o_move ?_)
        refine qI rfl rfl rfl (by conv => lhs; whnf) (fun hg35 => o_move ?_) (fun hg35 => ?_)
        · refine qT rfl rfl rfl (o_eqI ?_)
          refine qT rfl rfl rfl (o_pickF ?_)
          refine qT rfl rfl rfl (o_move ?_)
          refine qI rfl rfl rfl (by conv => lhs; whnf) (fun hg39 => o_move ?_) (fun hg39 => ?_)
          · refine qT rfl rfl rfl (o_eqI ?_)
            refine qT rfl rfl rfl (o_pickF ?_)
            refine q0 rfl (o_pickT ?_)
            refine rg_nil ?_
            refine go_condI (fun h43 => ?_) (fun h43 => ?_)
            · refine go_seq ?_
              refine go_region ⟨_, Try.func12⟩ rfl ?_
              refine q0 rfl (o_assign ?_)
              refine q0 rfl (o_assign ?_)
              refine rg_nil ?_
              refine ret2 Try.func12 Try.results12 (by first | ((conv => lhs; whnf); done) | rfl) (by first | ((conv => lhs; whnf); done) | rfl) () (by simp_all [binds]) (fun w hs => hs.none)
            · refine go_skip ?_
              refine go_seq ?_
              refine go_region ⟨_, Try.func12⟩ rfl ?_
              refine q0 rfl (o_assign ?_)
              refine q0 rfl (o_assign ?_)
              refine rg_nil ?_
              refine ret2 Try.func12 Try.results12 (by first | ((conv => lhs; whnf); done) | rfl) (by first | ((conv => lhs; whnf); done) | rfl) () (by simp_all [binds]) (fun w hs => hs.none)
          · refine qF rfl rfl rfl ?_
            refine qT rfl rfl rfl (o_pickT ?_)
            refine q0 rfl (o_pickT ?_)
            refine rg_nil ?_
            refine go_condT ?_
            refine go_seq ?_
            refine go_region ⟨_, Try.func12⟩ rfl ?_
            refine q0 rfl (o_assign ?_)
            refine q0 rfl (o_assign ?_)
            refine rg_nil ?_
            refine ret2 Try.func12 Try.results12 (by first | ((conv => lhs; whnf); done) | rfl) (by first | ((conv => lhs; whnf); done) | rfl) () (by simp_all [binds]) (fun w hs => hs.none)
        · refine qF rfl rfl rfl ?_
          refine qT rfl rfl rfl (o_pickT ?_)
          refine qT rfl rfl rfl (o_move ?_)
          refine qF rfl rfl rfl ?_
          refine qF rfl rfl rfl ?_
          refine qT rfl rfl rfl (o_pickT ?_)
          refine q0 rfl (o_pickT ?_)
          refine rg_nil ?_
          refine go_condT ?_
          refine go_seq ?_
          refine go_region ⟨_, Try.func12⟩ rfl ?_
          refine q0 rfl (o_assign ?_)
          refine q0 rfl (o_assign ?_)
          refine rg_nil ?_
          refine ret2 Try.func12 Try.results12 (by first | ((conv => lhs; whnf); done) | rfl) (by first | ((conv => lhs; whnf); done) | rfl) () (by simp_all [binds]) (fun w hs => hs.none)
      · refine qF rfl rfl rfl ?_
        refine qF rfl rfl rfl ?_
        refine qU rfl rfl rfl ?_
        refine qU rfl rfl rfl ?_
        refine qF rfl rfl rfl ?_
        refine qF rfl rfl rfl ?_
        refine qU rfl rfl rfl ?_
        refine qU rfl rfl rfl ?_
        refine qF rfl rfl rfl ?_
        refine q0 rfl (o_pickF ?_)
        refine rg_nil ?_
        refine go_condF ?_
        refine go_skip ?_
        refine go_seq ?_
        refine go_region ⟨_, Try.func12⟩ rfl ?_
        refine q0 rfl (o_assign ?_)
        refine q0 rfl (o_assign ?_)
        refine rg_nil ?_
        refine ret2 Try.func12 Try.results12 (by first | ((conv => lhs; whnf); done) | rfl) (by first | ((conv => lhs; whnf); done) | rfl) () (by simp_all [binds]) (fun w hs => hs.none)

end Go.Hy
