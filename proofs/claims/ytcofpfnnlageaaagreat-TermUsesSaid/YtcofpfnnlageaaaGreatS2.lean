/- Contracts of functions of this program, one theorem each (printed by a program of this repository). -/
import Derived.Test.YtcofpfnnlageaaaGreatHyAuto
import Derived.Test.YtcofpfnnlageaaaGreatHyTab
import Derived.Test.YtcofpfnnlageaaaGreatHyTerm
import Derived.Test.YtcofpfnnlageaaaGreatS1
namespace Go.Hy
set_option linter.unusedVariables false
set_option linter.unusedSimpArgs false
set_option linter.unusedSectionVars false
open Go.Proofs
set_option linter.unusedVariables false
set_option linter.unusedSimpArgs false
set_option maxRecDepth 100000
theorem kids_spec (k : Int) : Spec Tryz.prog 95 #[.int .i64 k] [] [] (fun _ : Unit => .int .i64 (kidsN k)) (fun _ => []) (fun _ => []) := by
  refine spec_go (args := [.int .i64 k]) Tryz.func95 Tryz.ntmps95 rfl (by exact Nat.le_of_ble_eq_true rfl) fun B hB => ?_
  refine go_seq ?_
  refine go_region ⟨_, Tryz.func95⟩ rfl ?_
  refine q0 rfl (o_assign ?_)
  refine rg_nil ?_
  refine go_seq ?_
  refine go_seq ?_
  refine go_region ⟨_, Tryz.func95⟩ rfl ?_
  refine q0 rfl (o_move ?_)
  refine rg_nil ?_
  refine go_block ?_
  refine go_seq ?_
  refine go_seq ?_
  refine go_region ⟨_, Tryz.func95⟩ rfl ?_
  refine q0 rfl (o_eqI ?_)
  refine q0 rfl (o_assign ?_)
  refine rg_nil ?_
  refine go_condI (fun h4 => ?_) (fun h4 => ?_)
  · refine go_skip ?_
    refine go_condT ?_
    refine go_seq ?_
    refine go_region ⟨_, Tryz.func95⟩ rfl ?_
    refine q0 rfl (o_assign ?_)
    refine rg_nil ?_
    refine ret1 Tryz.func95 Tryz.results95 (by first | ((conv => lhs; whnf); done) | rfl) () (by simp_all [kidsN]) (fun w hs => hs.none)
  · refine go_seq ?_
    refine go_region ⟨_, Tryz.func95⟩ rfl ?_
    refine q0 rfl (o_eqI ?_)
    refine q0 rfl (o_assign ?_)
    refine rg_nil ?_
    refine go_condI (fun h4 => ?_) (fun h4 => ?_)
    · refine go_skip ?_
      refine go_condT ?_
      refine go_seq ?_
      refine go_region ⟨_, Tryz.func95⟩ rfl ?_
      refine q0 rfl (o_assign ?_)
      refine rg_nil ?_
      refine ret1 Tryz.func95 Tryz.results95 (by first | ((conv => lhs; whnf); done) | rfl) () (by simp_all [kidsN]) (fun w hs => hs.none)
    · refine go_seq ?_
      refine go_region ⟨_, Tryz.func95⟩ rfl ?_
      refine q0 rfl (o_eqI ?_)
      refine q0 rfl (o_assign ?_)
      refine rg_nil ?_
      refine go_condI (fun h4 => ?_) (fun h4 => ?_)
      · refine go_skip ?_
        refine go_condT ?_
        refine go_seq ?_
        refine go_region ⟨_, Tryz.func95⟩ rfl ?_
        refine q0 rfl (o_assign ?_)
        refine rg_nil ?_
        refine ret1 Tryz.func95 Tryz.results95 (by first | ((conv => lhs; whnf); done) | rfl) () (by simp_all [kidsN]) (fun w hs => hs.none)
      · refine go_seq ?_
        refine go_region ⟨_, Tryz.func95⟩ rfl ?_
        refine q0 rfl (o_eqI ?_)
        refine q0 rfl (o_assign ?_)
        refine rg_nil ?_
        refine go_condI (fun h4 => ?_) (fun h4 => ?_)
        · refine go_skip ?_
          refine go_condT ?_
          refine go_seq ?_
          refine go_region ⟨_, Tryz.func95⟩ rfl ?_
          refine q0 rfl (o_assign ?_)
          refine rg_nil ?_
          refine ret1 Tryz.func95 Tryz.results95 (by first | ((conv => lhs; whnf); done) | rfl) () (by simp_all [kidsN]) (fun w hs => hs.none)
        · refine go_seq ?_
          refine go_region ⟨_, Tryz.func95⟩ rfl ?_
          refine q0 rfl (o_eqI ?_)
          refine q0 rfl (o_assign ?_)
          refine rg_nil ?_
          refine go_condI (fun h4 => ?_) (fun h4 => ?_)
          · refine go_skip ?_
            refine go_condT ?_
            refine go_seq ?_
            refine go_region ⟨_, Tryz.func95⟩ rfl ?_
            refine q0 rfl (o_assign ?_)
            refine rg_nil ?_
            refine ret1 Tryz.func95 Tryz.results95 (by first | ((conv => lhs; whnf); done) | rfl) () (by simp_all [kidsN]) (fun w hs => hs.none)
          · refine go_seq ?_
            refine go_region ⟨_, Tryz.func95⟩ rfl ?_
            refine q0 rfl (o_eqI ?_)
            refine q0 rfl (o_assign ?_)
            refine rg_nil ?_
            refine go_condI (fun h4 => ?_) (fun h4 => ?_)
            · refine go_skip ?_
              refine go_condT ?_
              refine go_seq ?_
              refine go_region ⟨_, Tryz.func95⟩ rfl ?_
              refine q0 rfl (o_assign ?_)
              refine rg_nil ?_
              refine ret1 Tryz.func95 Tryz.results95 (by first | ((conv => lhs; whnf); done) | rfl) () (by simp_all [kidsN]) (fun w hs => hs.none)
            · refine go_seq ?_
              refine go_region ⟨_, Tryz.func95⟩ rfl ?_
              refine q0 rfl (o_eqI ?_)
              refine q0 rfl (o_assign ?_)
              refine rg_nil ?_
              refine go_condI (fun h4 => ?_) (fun h4 => ?_)
              · refine go_skip ?_
                refine go_condT ?_
                refine go_seq ?_
                refine go_region ⟨_, Tryz.func95⟩ rfl ?_
                refine q0 rfl (o_assign ?_)
                refine rg_nil ?_
                refine ret1 Tryz.func95 Tryz.results95 (by first | ((conv => lhs; whnf); done) | rfl) () (by simp_all [kidsN]) (fun w hs => hs.none)
              · refine go_region ⟨_, Tryz.func95⟩ rfl ?_
                refine q0 rfl (o_eqI ?_)
                refine q0 rfl (o_assign ?_)
                refine rg_nil ?_
                refine go_condI (fun h4 => ?_) (fun h4 => ?_)
                · refine go_seq ?_
                  refine go_region ⟨_, Tryz.func95⟩ rfl ?_
                  refine q0 rfl (o_assign ?_)
                  refine rg_nil ?_
                  refine ret1 Tryz.func95 Tryz.results95 (by first | ((conv => lhs; whnf); done) | rfl) () (by simp_all [kidsN]) (fun w hs => hs.none)
                · refine go_seq ?_
                  refine go_seq ?_
                  refine go_region ⟨_, Tryz.func95⟩ rfl ?_
                  refine q0 rfl (o_eqI ?_)
                  refine q0 rfl (o_assign ?_)
                  refine rg_nil ?_
                  refine go_condI (fun h13 => ?_) (fun h13 => ?_)
                  · refine go_skip ?_
                    refine go_condT ?_
                    refine go_seq ?_
                    refine go_region ⟨_, Tryz.func95⟩ rfl ?_
                    refine q0 rfl (o_assign ?_)
                    refine rg_nil ?_
                    refine ret1 Tryz.func95 Tryz.results95 (by first | ((conv => lhs; whnf); done) | rfl) () (by simp_all [kidsN]) (fun w hs => hs.none)
                  · refine go_seq ?_
                    refine go_region ⟨_, Tryz.func95⟩ rfl ?_
                    refine q0 rfl (o_eqI ?_)
                    refine q0 rfl (o_assign ?_)
                    refine rg_nil ?_
                    refine go_condI (fun h13 => ?_) (fun h13 => ?_)
                    · refine go_skip ?_
                      refine go_condT ?_
                      refine go_seq ?_
                      refine go_region ⟨_, Tryz.func95⟩ rfl ?_
                      refine q0 rfl (o_assign ?_)
                      refine rg_nil ?_
                      refine ret1 Tryz.func95 Tryz.results95 (by first | ((conv => lhs; whnf); done) | rfl) () (by simp_all [kidsN]) (fun w hs => hs.none)
                    · refine go_seq ?_
                      refine go_region ⟨_, Tryz.func95⟩ rfl ?_
                      refine q0 rfl (o_eqI ?_)
                      refine q0 rfl (o_assign ?_)
                      refine rg_nil ?_
                      refine go_condI (fun h13 => ?_) (fun h13 => ?_)
                      · refine go_skip ?_
                        refine go_condT ?_
                        refine go_seq ?_
                        refine go_region ⟨_, Tryz.func95⟩ rfl ?_
                        refine q0 rfl (o_assign ?_)
                        refine rg_nil ?_
                        refine ret1 Tryz.func95 Tryz.results95 (by first | ((conv => lhs; whnf); done) | rfl) () (by simp_all [kidsN]) (fun w hs => hs.none)
                      · refine go_seq ?_
                        refine go_region ⟨_, Tryz.func95⟩ rfl ?_
                        refine q0 rfl (o_eqI ?_)
                        refine q0 rfl (o_assign ?_)
                        refine rg_nil ?_
                        refine go_condI (fun h13 => ?_) (fun h13 => ?_)
                        · refine go_skip ?_
                          refine go_condT ?_
                          refine go_seq ?_
                          refine go_region ⟨_, Tryz.func95⟩ rfl ?_
                          refine q0 rfl (o_assign ?_)
                          refine rg_nil ?_
                          refine ret1 Tryz.func95 Tryz.results95 (by first | ((conv => lhs; whnf); done) | rfl) () (by simp_all [kidsN]) (fun w hs => hs.none)
                        · refine go_seq ?_
                          refine go_region ⟨_, Tryz.func95⟩ rfl ?_
                          refine q0 rfl (o_eqI ?_)
                          refine q0 rfl (o_assign ?_)
                          refine rg_nil ?_
                          refine go_condI (fun h13 => ?_) (fun h13 => ?_)
                          · refine go_skip ?_
                            refine go_condT ?_
                            refine go_seq ?_
                            refine go_region ⟨_, Tryz.func95⟩ rfl ?_
                            refine q0 rfl (o_assign ?_)
                            refine rg_nil ?_
                            refine ret1 Tryz.func95 Tryz.results95 (by first | ((conv => lhs; whnf); done) | rfl) () (by simp_all [kidsN]) (fun w hs => hs.none)
                          · refine go_seq ?_
                            refine go_region ⟨_, Tryz.func95⟩ rfl ?_
                            refine q0 rfl (o_eqI ?_)
                            refine q0 rfl (o_assign ?_)
                            refine rg_nil ?_
                            refine go_condI (fun h13 => ?_) (fun h13 => ?_)
                            · refine go_skip ?_
                              refine go_condT ?_
                              refine go_seq ?_
                              refine go_region ⟨_, Tryz.func95⟩ rfl ?_
                              refine q0 rfl (o_assign ?_)
                              refine rg_nil ?_
                              refine ret1 Tryz.func95 Tryz.results95 (by first | ((conv => lhs; whnf); done) | rfl) () (by simp_all [kidsN]) (fun w hs => hs.none)
                            · refine go_seq ?_
                              refine go_region ⟨_, Tryz.func95⟩ rfl ?_
                              refine q0 rfl (o_eqI ?_)
                              refine q0 rfl (o_assign ?_)
                              refine rg_nil ?_
                              refine go_condI (fun h13 => ?_) (fun h13 => ?_)
                              · refine go_skip ?_
                                refine go_condT ?_
                                refine go_seq ?_
                                refine go_region ⟨_, Tryz.func95⟩ rfl ?_
                                refine q0 rfl (o_assign ?_)
                                refine rg_nil ?_
                                refine ret1 Tryz.func95 Tryz.results95 (by first | ((conv => lhs; whnf); done) | rfl) () (by simp_all [kidsN]) (fun w hs => hs.none)
                              · refine go_seq ?_
                                refine go_region ⟨_, Tryz.func95⟩ rfl ?_
                                refine q0 rfl (o_eqI ?_)
                                refine q0 rfl (o_assign ?_)
                                refine rg_nil ?_
                                refine go_condI (fun h13 => ?_) (fun h13 => ?_)
                                · refine go_skip ?_
                                  refine go_condT ?_
                                  refine go_seq ?_
                                  refine go_region ⟨_, Tryz.func95⟩ rfl ?_
                                  refine q0 rfl (o_assign ?_)
                                  refine rg_nil ?_
                                  refine ret1 Tryz.func95 Tryz.results95 (by first | ((conv => lhs; whnf); done) | rfl) () (by simp_all [kidsN]) (fun w hs => hs.none)
                                · refine go_region ⟨_, Tryz.func95⟩ rfl ?_
                                  refine q0 rfl (o_eqI ?_)
                                  refine q0 rfl (o_assign ?_)
                                  refine rg_nil ?_
                                  refine go_condI (fun h13 => ?_) (fun h13 => ?_)
                                  · refine go_seq ?_
                                    refine go_region ⟨_, Tryz.func95⟩ rfl ?_
                                    refine q0 rfl (o_assign ?_)
                                    refine rg_nil ?_
                                    refine ret1 Tryz.func95 Tryz.results95 (by first | ((conv => lhs; whnf); done) | rfl) () (by simp_all [kidsN]) (fun w hs => hs.none)
                                  · refine go_seq ?_
                                    refine go_seq ?_
                                    refine go_region ⟨_, Tryz.func95⟩ rfl ?_
                                    refine q0 rfl (o_eqI ?_)
                                    refine q0 rfl (o_assign ?_)
                                    refine rg_nil ?_
                                    refine go_condI (fun h23 => ?_) (fun h23 => ?_)
                                    · refine go_skip ?_
                                      refine go_condT ?_
                                      refine go_seq ?_
                                      refine go_region ⟨_, Tryz.func95⟩ rfl ?_
                                      refine q0 rfl (o_assign ?_)
                                      refine rg_nil ?_
                                      refine ret1 Tryz.func95 Tryz.results95 (by first | ((conv => lhs; whnf); done) | rfl) () (by simp_all [kidsN]) (fun w hs => hs.none)
                                    · refine go_seq ?_
                                      refine go_region ⟨_, Tryz.func95⟩ rfl ?_
                                      refine q0 rfl (o_eqI ?_)
                                      refine q0 rfl (o_assign ?_)
                                      refine rg_nil ?_
                                      refine go_condI (fun h23 => ?_) (fun h23 => ?_)
                                      · refine go_skip ?_
                                        refine go_condT ?_
                                        refine go_seq ?_
                                        refine go_region ⟨_, Tryz.func95⟩ rfl ?_
                                        refine q0 rfl (o_assign ?_)
                                        refine rg_nil ?_
                                        refine ret1 Tryz.func95 Tryz.results95 (by first | ((conv => lhs; whnf); done) | rfl) () (by simp_all [kidsN]) (fun w hs => hs.none)
                                      · refine go_seq ?_
                                        refine go_region ⟨_, Tryz.func95⟩ rfl ?_
                                        refine q0 rfl (o_eqI ?_)
                                        refine q0 rfl (o_assign ?_)
                                        refine rg_nil ?_
                                        refine go_condI (fun h23 => ?_) (fun h23 => ?_)
                                        · refine go_skip ?_
                                          refine go_condT ?_
                                          refine go_seq ?_
                                          refine go_region ⟨_, Tryz.func95⟩ rfl ?_
                                          refine q0 rfl (o_assign ?_)
                                          refine rg_nil ?_
                                          refine ret1 Tryz.func95 Tryz.results95 (by first | ((conv => lhs; whnf); done) | rfl) () (by simp_all [kidsN]) (fun w hs => hs.none)
                                        · refine go_seq ?_
                                          refine go_region ⟨_, Tryz.func95⟩ rfl ?_
                                          refine q0 rfl (o_eqI ?_)
                                          refine q0 rfl (o_assign ?_)
                                          refine rg_nil ?_
                                          refine go_condI (fun h23 => ?_) (fun h23 => ?_)
                                          · refine go_skip ?_
                                            refine go_condT ?_
                                            refine go_seq ?_
                                            refine go_region ⟨_, Tryz.func95⟩ rfl ?_
                                            refine q0 rfl (o_assign ?_)
                                            refine rg_nil ?_
                                            refine ret1 Tryz.func95 Tryz.results95 (by first | ((conv => lhs; whnf); done) | rfl) () (by simp_all [kidsN]) (fun w hs => hs.none)
                                          · refine go_seq ?_
                                            refine go_region ⟨_, Tryz.func95⟩ rfl ?_
                                            refine q0 rfl (o_eqI ?_)
                                            refine q0 rfl (o_assign ?_)
                                            refine rg_nil ?_
                                            refine go_condI (fun h23 => ?_) (fun h23 => ?_)
                                            · refine go_skip ?_
                                              refine go_condT ?_
                                              refine go_seq ?_
                                              refine go_region ⟨_, Tryz.func95⟩ rfl ?_
                                              refine q0 rfl (o_assign ?_)
                                              refine rg_nil ?_
                                              refine ret1 Tryz.func95 Tryz.results95 (by first | ((conv => lhs; whnf); done) | rfl) () (by simp_all [kidsN]) (fun w hs => hs.none)
                                            · refine go_seq ?_
                                              refine go_region ⟨_, Tryz.func95⟩ rfl ?_
                                              refine q0 rfl (o_eqI ?_)
                                              refine q0 rfl (o_assign ?_)
                                              refine rg_nil ?_
                                              refine go_condI (fun h23 => ?_) (fun h23 => ?_)
                                              · refine go_skip ?_
                                                refine go_condT ?_
                                                refine go_seq ?_
                                                refine go_region ⟨_, Tryz.func95⟩ rfl ?_
                                                refine q0 rfl (o_assign ?_)
                                                refine rg_nil ?_
                                                refine ret1 Tryz.func95 Tryz.results95 (by first | ((conv => lhs; whnf); done) | rfl) () (by simp_all [kidsN]) (fun w hs => hs.none)
                                              · refine go_region ⟨_, Tryz.func95⟩ rfl ?_
                                                refine q0 rfl (o_eqI ?_)
                                                refine q0 rfl (o_assign ?_)
                                                refine rg_nil ?_
                                                refine go_condI (fun h23 => ?_) (fun h23 => ?_)
                                                · refine go_seq ?_
                                                  refine go_region ⟨_, Tryz.func95⟩ rfl ?_
                                                  refine q0 rfl (o_assign ?_)
                                                  refine rg_nil ?_
                                                  refine ret1 Tryz.func95 Tryz.results95 (by first | ((conv => lhs; whnf); done) | rfl) () (by simp_all [kidsN]) (fun w hs => hs.none)
                                                · refine go_seq ?_
                                                  refine go_seq ?_
                                                  refine go_region ⟨_, Tryz.func95⟩ rfl ?_
                                                  refine q0 rfl (o_eqI ?_)
                                                  refine q0 rfl (o_assign ?_)
                                                  refine rg_nil ?_
                                                  refine go_condI (fun h31 => ?_) (fun h31 => ?_)
                                                  · refine go_skip ?_
                                                    refine go_condT ?_
                                                    refine go_seq ?_
                                                    refine go_region ⟨_, Tryz.func95⟩ rfl ?_
                                                    refine q0 rfl (o_assign ?_)
                                                    refine rg_nil ?_
                                                    refine ret1 Tryz.func95 Tryz.results95 (by first | ((conv => lhs; whnf); done) | rfl) () (by simp_all [kidsN]) (fun w hs => hs.none)
                                                  · refine go_region ⟨_, Tryz.func95⟩ rfl ?_
                                                    refine q0 rfl (o_eqI ?_)
                                                    refine q0 rfl (o_assign ?_)
                                                    refine rg_nil ?_
                                                    refine go_condI (fun h31 => ?_) (fun h31 => ?_)
                                                    · refine go_seq ?_
                                                      refine go_region ⟨_, Tryz.func95⟩ rfl ?_
                                                      refine q0 rfl (o_assign ?_)
                                                      refine rg_nil ?_
                                                      refine ret1 Tryz.func95 Tryz.results95 (by first | ((conv => lhs; whnf); done) | rfl) () (by simp_all [kidsN]) (fun w hs => hs.none)
                                                    · refine go_seq ?_
                                                      refine go_region ⟨_, Tryz.func95⟩ rfl ?_
                                                      refine q0 rfl (o_eqI ?_)
                                                      refine q0 rfl (o_assign ?_)
                                                      refine rg_nil ?_
                                                      refine go_condI (fun h34 => ?_) (fun h34 => ?_)
                                                      · refine go_seq ?_
                                                        refine go_region ⟨_, Tryz.func95⟩ rfl ?_
                                                        refine q0 rfl (o_assign ?_)
                                                        refine rg_nil ?_
                                                        refine ret1 Tryz.func95 Tryz.results95 (by first | ((conv => lhs; whnf); done) | rfl) () (by simp_all [kidsN]) (fun w hs => hs.none)
                                                      · refine go_seq ?_
                                                        refine go_region ⟨_, Tryz.func95⟩ rfl ?_
                                                        refine q0 rfl (o_eqI ?_)
                                                        refine q0 rfl (o_assign ?_)
                                                        refine rg_nil ?_
                                                        refine go_condI (fun h36 => ?_) (fun h36 => ?_)
                                                        · refine go_seq ?_
                                                          refine go_region ⟨_, Tryz.func95⟩ rfl ?_
                                                          refine q0 rfl (o_assign ?_)
                                                          refine rg_nil ?_
                                                          refine ret1 Tryz.func95 Tryz.results95 (by first | ((conv => lhs; whnf); done) | rfl) () (by simp_all [kidsN]) (fun w hs => hs.none)
                                                        · refine go_skip ?_
                                                          refine go_inBlock ?_
                                                          refine go_seq ?_
                                                          refine go_region ⟨_, Tryz.func95⟩ rfl ?_
                                                          refine q0 rfl (o_assign ?_)
                                                          refine rg_nil ?_
                                                          refine ret1 Tryz.func95 Tryz.results95 (by first | ((conv => lhs; whnf); done) | rfl) () (by simp_all [kidsN]) (fun w hs => hs.none)

theorem parts_spec (k : Int) : Spec Tryz.prog 96 #[.int .i64 k] [] [] (fun _ : Unit => .int .i64 (partsN k)) (fun _ => []) (fun _ => []) := by
  refine spec_go (args := [.int .i64 k]) Tryz.func96 Tryz.ntmps96 rfl (by exact Nat.le_of_ble_eq_true rfl) fun B hB => ?_
  refine go_seq ?_
  refine go_region ⟨_, Tryz.func96⟩ rfl ?_
  refine q0 rfl (o_assign ?_)
  refine rg_nil ?_
  refine go_seq ?_
  refine go_seq ?_
  refine go_region ⟨_, Tryz.func96⟩ rfl ?_
  refine q0 rfl (o_move ?_)
  refine rg_nil ?_
  refine go_block ?_
  refine go_seq ?_
  refine go_seq ?_
  refine go_region ⟨_, Tryz.func96⟩ rfl ?_
  refine q0 rfl (o_eqI ?_)
  refine q0 rfl (o_assign ?_)
  refine rg_nil ?_
  refine go_condI (fun h4 => ?_) (fun h4 => ?_)
  · refine go_skip ?_
    refine go_condT ?_
    refine go_seq ?_
    refine go_region ⟨_, Tryz.func96⟩ rfl ?_
    refine q0 rfl (o_assign ?_)
    refine rg_nil ?_
    refine ret1 Tryz.func96 Tryz.results96 (by first | ((conv => lhs; whnf); done) | rfl) () (by simp_all [partsN]) (fun w hs => hs.none)
  · refine go_seq ?_
    refine go_region ⟨_, Tryz.func96⟩ rfl ?_
    refine q0 rfl (o_eqI ?_)
    refine q0 rfl (o_assign ?_)
    refine rg_nil ?_
    refine go_condI (fun h4 => ?_) (fun h4 => ?_)
    · refine go_skip ?_
      refine go_condT ?_
      refine go_seq ?_
      refine go_region ⟨_, Tryz.func96⟩ rfl ?_
      refine q0 rfl (o_assign ?_)
      refine rg_nil ?_
      refine ret1 Tryz.func96 Tryz.results96 (by first | ((conv => lhs; whnf); done) | rfl) () (by simp_all [partsN]) (fun w hs => hs.none)
    · refine go_region ⟨_, Tryz.func96⟩ rfl ?_
      refine q0 rfl (o_eqI ?_)
      refine q0 rfl (o_assign ?_)
      refine rg_nil ?_
      refine go_condI (fun h4 => ?_) (fun h4 => ?_)
      · refine go_seq ?_
        refine go_region ⟨_, Tryz.func96⟩ rfl ?_
        refine q0 rfl (o_assign ?_)
        refine rg_nil ?_
        refine ret1 Tryz.func96 Tryz.results96 (by first | ((conv => lhs; whnf); done) | rfl) () (by simp_all [partsN]) (fun w hs => hs.none)
      · refine go_seq ?_
        refine go_region ⟨_, Tryz.func96⟩ rfl ?_
        refine q0 rfl (o_eqI ?_)
        refine q0 rfl (o_assign ?_)
        refine rg_nil ?_
        refine go_condI (fun h8 => ?_) (fun h8 => ?_)
        · refine go_seq ?_
          refine go_region ⟨_, Tryz.func96⟩ rfl ?_
          refine q0 rfl (o_assign ?_)
          refine rg_nil ?_
          refine ret1 Tryz.func96 Tryz.results96 (by first | ((conv => lhs; whnf); done) | rfl) () (by simp_all [partsN]) (fun w hs => hs.none)
        · refine go_skip ?_
          refine go_inBlock ?_
          refine go_seq ?_
          refine go_region ⟨_, Tryz.func96⟩ rfl ?_
          refine q0 rfl (o_assign ?_)
          refine rg_nil ?_
          refine ret1 Tryz.func96 Tryz.results96 (by first | ((conv => lhs; whnf); done) | rfl) () (by simp_all [partsN]) (fun w hs => hs.none)

theorem rparts_spec (k : Int) : Spec Tryz.prog 58 #[.int .i64 k] [] [] (fun _ : Unit => .int .i64 (partsN k)) (fun _ => []) (fun _ => []) := by
  refine spec_go (args := [.int .i64 k]) Tryz.func58 Tryz.ntmps58 rfl (by exact Nat.le_of_ble_eq_true rfl) fun B hB => ?_
  refine go_seq ?_
  refine go_region ⟨_, Tryz.func58⟩ rfl ?_
  refine q0 rfl (o_assign ?_)
  refine rg_nil ?_
  refine go_seq ?_
  refine go_seq ?_
  refine go_region ⟨_, Tryz.func58⟩ rfl ?_
  refine q0 rfl (o_move ?_)
  refine q0 rfl (o_eqI ?_)
  refine rg_nil ?_
  refine go_condI (fun h4 => ?_) (fun h4 => ?_)
  · refine go_seq ?_
    refine go_region ⟨_, Tryz.func58⟩ rfl ?_
    refine q0 rfl (o_assign ?_)
    refine rg_nil ?_
    refine ret1 Tryz.func58 Tryz.results58 (by first | ((conv => lhs; whnf); done) | rfl) () (by simp_all [partsN]) (fun w hs => hs.none)
  · refine go_skip ?_
    refine go_seq ?_
    refine go_seq ?_
    refine go_region ⟨_, Tryz.func58⟩ rfl ?_
    refine q0 rfl (o_move ?_)
    refine q0 rfl (o_eqI ?_)
    refine q0 rfl (o_move ?_)
    refine qI rfl rfl rfl (by conv => lhs; whnf) (fun hg7 => o_move ?_) (fun hg7 => ?_)
    · refine qT rfl rfl rfl (o_eqI ?_)
      refine q0 rfl (o_pickF ?_)
      refine q0 rfl (o_move ?_)
      refine qI rfl rfl rfl (by conv => lhs; whnf) (fun hg11 => o_move ?_) (fun hg11 => ?_)
      · refine qT rfl rfl rfl (o_eqI ?_)
        refine q0 rfl (o_pickF ?_)
        refine rg_nil ?_
        refine go_condI (fun h14 => ?_) (fun h14 => ?_)
        · refine go_seq ?_
          refine go_region ⟨_, Tryz.func58⟩ rfl ?_
          refine q0 rfl (o_assign ?_)
          refine rg_nil ?_
          refine ret1 Tryz.func58 Tryz.results58 (by first | ((conv => lhs; whnf); done) | rfl) () (by simp_all [partsN]) (fun w hs => hs.none)
        · refine go_skip ?_
          refine go_seq ?_
          refine go_region ⟨_, Tryz.func58⟩ rfl ?_
          refine q0 rfl (o_assign ?_)
          refine rg_nil ?_
          refine ret1 Tryz.func58 Tryz.results58 (by first | ((conv => lhs; whnf); done) | rfl) () (by simp_all [partsN]) (fun w hs => hs.none)
      · refine qF rfl rfl rfl ?_
        refine q0 rfl (o_pickT ?_)
        refine rg_nil ?_
        refine go_condT ?_
        refine go_seq ?_
        refine go_region ⟨_, Tryz.func58⟩ rfl ?_
        refine q0 rfl (o_assign ?_)
        refine rg_nil ?_
        refine ret1 Tryz.func58 Tryz.results58 (by first | ((conv => lhs; whnf); done) | rfl) () (by simp_all [partsN]) (fun w hs => hs.none)
    · refine qF rfl rfl rfl ?_
      refine q0 rfl (o_pickT ?_)
      refine q0 rfl (o_move ?_)
      refine qF rfl rfl rfl ?_
      refine qF rfl rfl rfl ?_
      refine q0 rfl (o_pickT ?_)
      refine rg_nil ?_
      refine go_condT ?_
      refine go_seq ?_
      refine go_region ⟨_, Tryz.func58⟩ rfl ?_
      refine q0 rfl (o_assign ?_)
      refine rg_nil ?_
      refine ret1 Tryz.func58 Tryz.results58 (by first | ((conv => lhs; whnf); done) | rfl) () (by simp_all [partsN]) (fun w hs => hs.none)

theorem rmore_spec (k : Int) : Spec Tryz.prog 51 #[.int .i64 k] [] [] (fun _ : Unit => .int .i64 (more k)) (fun _ => []) (fun _ => []) := by
  refine spec_go (args := [.int .i64 k]) Tryz.func51 Tryz.ntmps51 rfl (by exact Nat.le_of_ble_eq_true rfl) fun B hB => ?_
  refine go_seq ?_
  refine go_region ⟨_, Tryz.func51⟩ rfl ?_
  refine q0 rfl (o_assign ?_)
  refine rg_nil ?_
  refine go_seq ?_
  refine go_seq ?_
  refine go_region ⟨_, Tryz.func51⟩ rfl ?_
  refine q0 rfl (o_move ?_)
  refine q0 rfl (o_eqI ?_)
  refine rg_nil ?_
  refine go_condI (fun h4 => ?_) (fun h4 => ?_)
  · refine go_seq ?_
    refine go_region ⟨_, Tryz.func51⟩ rfl ?_
    refine q0 rfl (o_assign ?_)
    refine rg_nil ?_
    refine ret1 Tryz.func51 Tryz.results51 (by first | ((conv => lhs; whnf); done) | rfl) () (by simp_all [more]) (fun w hs => hs.none)
  · refine go_skip ?_
    refine go_seq ?_
    refine go_region ⟨_, Tryz.func51⟩ rfl ?_
    refine q0 rfl (o_assign ?_)
    refine rg_nil ?_
    refine ret1 Tryz.func51 Tryz.results51 (by first | ((conv => lhs; whnf); done) | rfl) () (by simp_all [more]) (fun w hs => hs.none)

theorem rbinds_spec (k i : Int) : Spec Tryz.prog 39 #[.int .i64 k, .int .i64 i] [] [] (fun _ : Unit => .tuple #[.int .i64 (binds k i).1, .int .i64 (binds k i).2]) (fun _ => []) (fun _ => []) := by
  refine spec_go (args := [.int .i64 k, .int .i64 i]) Tryz.func39 Tryz.ntmps39 rfl (by exact Nat.le_of_ble_eq_true rfl) fun B hB => ?_
  refine go_seq ?_
  refine go_region ⟨_, Tryz.func39⟩ rfl ?_
  refine q0 rfl (o_assign ?_)
  refine q0 rfl (o_assign ?_)
  refine rg_nil ?_
  refine go_seq ?_
  refine go_seq ?_
  refine go_region ⟨_, Tryz.func39⟩ rfl ?_
  refine q0 rfl (o_move ?_)
  refine q0 rfl (o_eqI ?_)
  refine q0 rfl (o_move ?_)
  refine qI rfl rfl rfl (by conv => lhs; whnf) (fun hg8 => o_move ?_) (fun hg8 => ?_)
  · refine qT rfl rfl rfl (o_eqI ?_)
    refine qT rfl rfl rfl (o_move ?_)
    refine qI rfl rfl rfl (by conv => lhs; whnf) (fun hg11 => o_move ?_) (fun hg11 => ?_)
    · refine qT rfl rfl rfl (o_eqI ?_)
      refine qT rfl rfl rfl (o_pickF ?_)
      refine q0 rfl (o_pickT ?_)
      refine rg_nil ?_
      refine go_condI (fun h15 => ?_) (fun h15 => ?_)
      · refine go_seq ?_
        refine go_region ⟨_, Tryz.func39⟩ rfl ?_
        refine q0 rfl (o_assign ?_)
        refine q0 rfl (o_assign ?_)
        refine rg_nil ?_
        refine ret2 Tryz.func39 Tryz.results39 (by first | ((conv => lhs; whnf); done) | rfl) (by first | ((conv => lhs; whnf); done) | rfl) () (by simp_all [binds]) (fun w hs => hs.none)
      · refine go_skip ?_
        refine go_seq ?_
        refine go_seq ?_
        refine go_region ⟨_, Tryz.func39⟩ rfl ?_
        refine q0 rfl (o_move ?_)
        refine q0 rfl (o_eqI ?_)
        refine q0 rfl (o_move ?_)
        refine qI rfl rfl rfl (by conv => lhs; whnf) (fun hg18 => o_move ?_) (fun hg18 => ?_)
        · refine qT rfl rfl rfl (o_eqI ?_)
          refine qT rfl rfl rfl (o_move ?_)
          refine qI rfl rfl rfl (by conv => lhs; whnf) (fun hg21 => o_move ?_) (fun hg21 => ?_)
          · refine qT rfl rfl rfl (o_eqI ?_)
            refine qT rfl rfl rfl (o_pickF ?_)
            refine qT rfl rfl rfl (o_move ?_)
            refine qI rfl rfl rfl (by conv => lhs; whnf) (fun hg25 => o_move ?_) (fun hg25 => ?_)
            · refine qT rfl rfl rfl (o_eqI ?_)
              refine qT rfl rfl rfl (o_pickF ?_)
              refine q0 rfl (o_pickT ?_)
              refine rg_nil ?_
              refine go_condI (fun h29 => ?_) (fun h29 => ?_)
              · refine go_seq ?_
                refine go_region ⟨_, Tryz.func39⟩ rfl ?_
                refine q0 rfl (o_assign ?_)
                refine q0 rfl (o_assign ?_)
                refine rg_nil ?_
                refine ret2 Tryz.func39 Tryz.results39 (by first | ((conv => lhs; whnf); done) | rfl) (by first | ((conv => lhs; whnf); done) | rfl) () (by simp_all [binds]) (fun w hs => hs.none)
              · refine go_skip ?_
                refine go_seq ?_
                refine go_seq ?_
                refine go_region ⟨_, Tryz.func39⟩ rfl ?_
                refine q0 rfl (o_move ?_)
                refine q0 rfl (o_eqI ?_)
                refine q0 rfl (o_move ?_)
                refine qI rfl rfl rfl (by conv => lhs; whnf) (fun hg32 => o_move ?_) (fun hg32 => ?_)
                · refine qT rfl rfl rfl (o_eqI ?_)
                  refine qT rfl rfl rfl (o_move ?_)
                  refine qI rfl rfl rfl (by conv => lhs; whnf) (fun hg35 => o_move ?_) (fun hg35 => ?_)
                  · refine qT rfl rfl rfl (o_eqI ?_)
                    refine qT rfl rfl rfl (o_pickF ?_)
                    refine qT rfl rfl rfl (o_move ?_)
                    refine qI rfl rfl rfl (by conv => lhs; whnf) (fun hg39 => o_move ?_) (fun hg39 => ?_)
                    · refine qT rfl rfl rfl (o_eqI ?_)
                      refine qT rfl rfl rfl (o_pickF ?_)
                      refine q0 rfl (o_pickT ?_)
                      refine rg_nil ?_
                      refine go_condI (fun h43 => ?_) (fun h43 => ?_)
                      · refine go_seq ?_
                        refine go_region ⟨_, Tryz.func39⟩ rfl ?_
                        refine q0 rfl (o_assign ?_)
                        refine q0 rfl (o_assign ?_)
                        refine rg_nil ?_
                        refine ret2 Tryz.func39 Tryz.results39 (by first | ((conv => lhs; whnf); done) | rfl) (by first | ((conv => lhs; whnf); done) | rfl) () (by simp_all [binds]) (fun w hs => hs.none)
                      · refine go_skip ?_
                        refine go_seq ?_
                        refine go_region ⟨_, Tryz.func39⟩ rfl ?_
                        refine q0 rfl (o_assign ?_)
                        refine q0 rfl (o_assign ?_)
                        refine rg_nil ?_
                        refine ret2 Tryz.func39 Tryz.results39 (by first | ((conv => lhs; whnf); done) | rfl) (by first | ((conv => lhs; whnf); done) | rfl) () (by simp_all [binds]) (fun w hs => hs.none)
                    · refine qF rfl rfl rfl ?_
                      refine qT rfl rfl rfl (o_pickT ?_)
                      refine q0 rfl (o_pickT ?_)
                      refine rg_nil ?_
                      refine go_condT ?_
                      refine go_seq ?_
                      refine go_region ⟨_, Tryz.func39⟩ rfl ?_
                      refine q0 rfl (o_assign ?_)
                      refine q0 rfl (o_assign ?_)
                      refine rg_nil ?_
                      refine ret2 Tryz.func39 Tryz.results39 (by first | ((conv => lhs; whnf); done) | rfl) (by first | ((conv => lhs; whnf); done) | rfl) () (by simp_all [binds]) (fun w hs => hs.none)
                  · refine qF rfl rfl rfl ?_
                    refine qT rfl rfl rfl (o_pickT ?_)
                    refine qT rfl rfl rfl (o_move ?_)
                    refine qF rfl rfl rfl ?_
                    refine qF rfl rfl rfl ?_
                    refine qT rfl rfl rfl (o_pickT ?_)
                    refine q0 rfl (o_pickT ?_)
                    refine rg_nil ?_
                    refine go_condT ?_
                    refine go_seq ?_
                    refine go_region ⟨_, Tryz.func39⟩ rfl ?_
                    refine q0 rfl (o_assign ?_)
                    refine q0 rfl (o_assign ?_)
                    refine rg_nil ?_
                    refine ret2 Tryz.func39 Tryz.results39 (by first | ((conv => lhs; whnf); done) | rfl) (by first | ((conv => lhs; whnf); done) | rfl) () (by simp_all [binds]) (fun w hs => hs.none)
                · refine qF rfl rfl rfl ?_
                  refine qF rfl rfl rfl ?_
                  refine qU rfl rfl rfl ?_
                  refine qU rfl rfl rfl ?_
                  refine qF rfl rfl rfl ?_
                  refine qF rfl rfl rfl ?_
                  refine qU rfl rfl rfl ?_
                  refine qU rfl rfl rfl ?_
                  refine qF rfl rfl rfl ?_
                  refine q0 rfl (o_pickF ?_)
                  refine rg_nil ?_
                  refine go_condF ?_
                  refine go_skip ?_
                  refine go_seq ?_
                  refine go_region ⟨_, Tryz.func39⟩ rfl ?_
                  refine q0 rfl (o_assign ?_)
                  refine q0 rfl (o_assign ?_)
                  refine rg_nil ?_
                  refine ret2 Tryz.func39 Tryz.results39 (by first | ((conv => lhs; whnf); done) | rfl) (by first | ((conv => lhs; whnf); done) | rfl) () (by simp_all [binds]) (fun w hs => hs.none)
            · refine qF rfl rfl rfl ?_
              refine qT rfl rfl rfl (o_pickT ?_)
              refine q0 rfl (o_pickT ?_)
              refine rg_nil ?_
              refine go_condT ?_
              refine go_seq ?_
              refine go_region ⟨_, Tryz.func39⟩ rfl ?_
              refine q0 rfl (o_assign ?_)
              refine q0 rfl (o_assign ?_)
              refine rg_nil ?_
              refine ret2 Tryz.func39 Tryz.results39 (by first | ((conv => lhs; whnf); done) | rfl) (by first | ((conv => lhs; whnf); done) | rfl) () (by simp_all [binds]) (fun w hs => hs.none)
          · refine qF rfl rfl rfl ?_
            refine qT rfl rfl rfl (o_pickT ?_)
            refine qT rfl rfl rfl (o_move ?_)
            refine qF rfl rfl rfl ?_
            refine qF rfl rfl rfl ?_
            refine qT rfl rfl rfl (o_pickT ?_)
            refine q0 rfl (o_pickT ?_)
            refine rg_nil ?_
            refine go_condT ?_
            refine go_seq ?_
            refine go_region ⟨_, Tryz.func39⟩ rfl ?_
            refine q0 rfl (o_assign ?_)
            refine q0 rfl (o_assign ?_)
            refine rg_nil ?_
            refine ret2 Tryz.func39 Tryz.results39 (by first | ((conv => lhs; whnf); done) | rfl) (by first | ((conv => lhs; whnf); done) | rfl) () (by simp_all [binds]) (fun w hs => hs.none)
        · refine qF rfl rfl rfl ?_
          refine qF rfl rfl rfl ?_
          refine qU rfl rfl rfl ?_
          refine qU rfl rfl rfl ?_
          refine qF rfl rfl rfl ?_
          refine qF rfl rfl rfl ?_
          refine qU rfl rfl rfl ?_
          refine qU rfl rfl rfl ?_
          refine qF rfl rfl rfl ?_
          refine q0 rfl (o_pickF ?_)
          refine rg_nil ?_
          refine go_condF ?_
          refine go_skip ?_
          refine go_seq ?_
          refine go_seq ?_
          refine go_region ⟨_, Tryz.func39⟩ rfl ?_
          refine q0 rfl (o_move ?_)
          refine q0 rfl (o_eqI ?_)
          refine q0 rfl (o_move ?_)
          refine qI rfl rfl rfl (by conv => lhs; whnf) (fun hg32 => o_move ?_) (fun hg32 => ?_)
          · refine qT rfl rfl rfl (o_eqI ?_)
            refine qT rfl rfl rfl (o_move ?_)
            refine qI rfl rfl rfl (by conv => lhs; whnf) (fun hg35 => o_move ?_) (fun hg35 => ?_)
            · refine qT rfl rfl rfl (o_eqI ?_)
              refine qT rfl rfl rfl (o_pickF ?_)
              refine qT rfl rfl rfl (o_move ?_)
              refine qI rfl rfl rfl (by conv => lhs; whnf) (fun hg39 => o_move ?_) (fun hg39 => ?_)
              · refine qT rfl rfl rfl (o_eqI ?_)
                refine qT rfl rfl rfl (o_pickF ?_)
                refine q0 rfl (o_pickT ?_)
                refine rg_nil ?_
                refine go_condI (fun h43 => ?_) (fun h43 => ?_)
                · refine go_seq ?_
                  refine go_region ⟨_, Tryz.func39⟩ rfl ?_
                  refine q0 rfl (o_assign ?_)
                  refine q0 rfl (o_assign ?_)
                  refine rg_nil ?_
                  refine ret2 Tryz.func39 Tryz.results39 (by first | ((conv => lhs; whnf); done) | rfl) (by first | ((conv => lhs; whnf); done) | rfl) () (by simp_all [binds]) (fun w hs => hs.none)
                · refine go_skip ?_
                  refine go_seq ?_
                  refine go_region ⟨_, Tryz.func39⟩ rfl ?_
                  refine q0 rfl (o_assign ?_)
                  refine q0 rfl (o_assign ?_)
                  refine rg_nil ?_
                  refine ret2 Tryz.func39 Tryz.results39 (by first | ((conv => lhs; whnf); done) | rfl) (by first | ((conv => lhs; whnf); done) | rfl) () (by simp_all [binds]) (fun w hs => hs.none)
              · refine qF rfl rfl rfl ?_
                refine qT rfl rfl rfl (o_pickT ?_)
                refine q0 rfl (o_pickT ?_)
                refine rg_nil ?_
                refine go_condT ?_
                refine go_seq ?_
                refine go_region ⟨_, Tryz.func39⟩ rfl ?_
                refine q0 rfl (o_assign ?_)
                refine q0 rfl (o_assign ?_)
                refine rg_nil ?_
                refine ret2 Tryz.func39 Tryz.results39 (by first | ((conv => lhs; whnf); done) | rfl) (by first | ((conv => lhs; whnf); done) | rfl) () (by simp_all [binds]) (fun w hs => hs.none)
            · refine qF rfl rfl rfl ?_
              refine qT rfl rfl rfl (o_pickT ?_)
              refine qT rfl rfl rfl (o_move ?_)
              refine qF rfl rfl rfl ?_
              refine qF rfl rfl rfl ?_
              refine qT rfl rfl rfl (o_pickT ?_)
              refine q0 rfl (o_pickT ?_)
              refine rg_nil ?_
              refine go_condT ?_
              refine go_seq ?_
              refine go_region ⟨_, Tryz.func39⟩ rfl ?_
              refine q0 rfl (o_assign ?_)
              refine q0 rfl (o_assign ?_)
              refine rg_nil ?_
              refine ret2 Tryz.func39 Tryz.results39 (by first | ((conv => lhs; whnf); done) | rfl) (by first | ((conv => lhs; whnf); done) | rfl) () (by simp_all [binds]) (fun w hs => hs.none)
          · refine qF rfl rfl rfl ?_
            refine qF rfl rfl rfl ?_
            refine qU rfl rfl rfl ?_
            refine qU rfl rfl rfl ?_
            refine qF rfl rfl rfl ?_
            refine qF rfl rfl rfl ?_
            refine qU rfl rfl rfl ?_
            refine qU rfl rfl rfl ?_
            refine qF rfl rfl rfl ?_
            refine q0 rfl (o_pickF ?_)
            refine rg_nil ?_
            refine go_condF ?_
            refine go_skip ?_
            refine go_seq ?_
            refine go_region ⟨_, Tryz.func39⟩ rfl ?_
            refine q0 rfl (o_assign ?_)
            refine q0 rfl (o_assign ?_)
            refine rg_nil ?_
            refine ret2 Tryz.func39 Tryz.results39 (by first | ((conv => lhs; whnf); done) | rfl) (by first | ((conv => lhs; whnf); done) | rfl) () (by simp_all [binds]) (fun w hs => hs.none)
    · refine qF rfl rfl rfl ?_
      refine qT rfl rfl rfl (o_pickT ?_)
      refine q0 rfl (o_pickT ?_)
      refine rg_nil ?_
      refine go_condT ?_
      refine go_seq ?_
      refine go_region ⟨_, Tryz.func39⟩ rfl ?_
      refine q0 rfl (o_assign ?_)
      refine q0 rfl (o_assign ?_)
      refine rg_nil ?_
      refine ret2 Tryz.func39 Tryz.results39 (by first | ((conv => lhs; whnf); done) | rfl) (by first | ((conv => lhs; whnf); done) | rfl) () (by simp_all [binds]) (fun w hs => hs.none)
  · refine qF rfl rfl rfl ?_
    refine qF rfl rfl rfl ?_
    refine qU rfl rfl rfl ?_
    refine qU rfl rfl rfl ?_
    refine qF rfl rfl rfl ?_
    refine q0 rfl (o_pickF ?_)
    refine rg_nil ?_
    refine go_condF ?_
    refine go_skip ?_
    refine go_seq ?_
    refine go_seq ?_
    refine go_region ⟨_, Tryz.func39⟩ rfl ?_
    refine q0 rfl (o_move ?_)
    refine q0 rfl (o_eqI ?_)
    refine q0 rfl (o_move ?_)
    refine qI rfl rfl rfl (by conv => lhs; whnf) (fun hg18 => o_move ?_) (fun hg18 => ?_)
    · refine qT rfl rfl rfl (o_eqI ?_)
      refine qT rfl rfl rfl (o_move ?_)
      refine qI rfl rfl rfl (by conv => lhs; whnf) (fun hg21 => o_move ?_) (fun hg21 => ?_)
      · refine qT rfl rfl rfl (o_eqI ?_)
        refine qT rfl rfl rfl (o_pickF ?_)
        refine qT rfl rfl rfl (o_move ?_)
        refine qI rfl rfl rfl (by conv => lhs; whnf) (fun hg25 => o_move ?_) (fun hg25 => ?_)
        · refine qT rfl rfl rfl (o_eqI ?_)
          refine qT rfl rfl rfl (o_pickF ?_)
          refine q0 rfl (o_pickT ?_)
          refine rg_nil ?_
          refine go_condI (fun h29 => ?_) (fun h29 => ?_)
          · refine go_seq ?_
            refine go_region ⟨_, Tryz.func39⟩ rfl ?_
            refine q0 rfl (o_assign ?_)
            refine q0 rfl (o_assign ?_)
            refine rg_nil ?_
            refine ret2 Tryz.func39 Tryz.results39 (by first | ((conv => lhs; whnf); done) | rfl) (by first | ((conv => lhs; whnf); done) | rfl) () (by simp_all [binds]) (fun w hs => hs.none)
          · refine go_skip ?_
            refine go_seq ?_
            refine go_seq ?_
            refine go_region ⟨_, Tryz.func39⟩ rfl ?_
            refine q0 rfl (o_move ?_)
            refine q0 rfl (o_eqI ?_)
            refine q0 rfl (o_move ?_)
            refine qI rfl rfl rfl (by conv => lhs; whnf) (fun hg32 => o_move ?_) (fun hg32 => ?_)
            · refine qT rfl rfl rfl (o_eqI ?_)
              refine qT rfl rfl rfl (o_move ?_)
              refine qI rfl rfl rfl (by conv => lhs; whnf) (fun hg35 => o_move ?_) (fun hg35 => ?_)
              · refine qT rfl rfl rfl (o_eqI ?_)
                refine qT rfl rfl rfl (o_pickF ?_)
                refine qT rfl rfl rfl (o_move ?_)
                refine qI rfl rfl rfl (by conv => lhs; whnf) (fun hg39 => o_move ?_) (fun hg39 => ?_)
                · refine qT rfl rfl rfl (o_eqI ?_)
                  refine qT rfl rfl rfl (o_pickF ?_)
                  refine q0 rfl (o_pickT ?_)
                  refine rg_nil ?_
                  refine go_condI (fun h43 => ?_) (fun h43 => ?_)
                  · refine go_seq ?_
                    refine go_region ⟨_, Tryz.func39⟩ rfl ?_
                    refine q0 rfl (o_assign ?_)
                    refine q0 rfl (o_assign ?_)
                    refine rg_nil ?_
                    refine ret2 Tryz.func39 Tryz.results39 (by first | ((conv => lhs; whnf); done) | rfl) (by first | ((conv => lhs; whnf); done) | rfl) () (by simp_all [binds]) (fun w hs => hs.none)
                  · refine go_skip ?_
                    refine go_seq ?_
                    refine go_region ⟨_, Tryz.func39⟩ rfl ?_
                    refine q0 rfl (o_assign ?_)
                    refine q0 rfl (o_assign ?_)
                    refine rg_nil ?_
                    refine ret2 Tryz.func39 Tryz.results39 (by first | ((conv => lhs; whnf); done) | rfl) (by first | ((conv => lhs; whnf); done) | rfl) () (by simp_all [binds]) (fun w hs => hs.none)
                · refine qF rfl rfl rfl ?_
                  refine qT rfl rfl rfl (o_pickT ?_)
                  refine q0 rfl (o_pickT ?_)
                  refine rg_nil ?_
                  refine go_condT ?_
                  refine go_seq ?_
                  refine go_region ⟨_, Tryz.func39⟩ rfl ?_
                  refine q0 rfl (o_assign ?_)
                  refine q0 rfl (o_assign ?_)
                  refine rg_nil ?_
                  refine ret2 Tryz.func39 Tryz.results39 (by first | ((conv => lhs; whnf); done) | rfl) (by first | ((conv => lhs; whnf); done) | rfl) () (by simp_all [binds]) (fun w hs => hs.none)
              · refine qF rfl rfl rfl ?_
                refine qT rfl rfl rfl (o_pickT ?_)
                refine qT rfl rfl rfl (o_move ?_)
                refine qF rfl rfl rfl ?_
                refine qF rfl rfl rfl ?_
                refine qT rfl rfl rfl (o_pickT ?_)
                refine q0 rfl (o_pickT ?_)
                refine rg_nil ?_
                refine go_condT ?_
                refine go_seq ?_
                refine go_region ⟨_, Tryz.func39⟩ rfl ?_
                refine q0 rfl (o_assign ?_)
                refine q0 rfl (o_assign ?_)
                refine rg_nil ?_
                refine ret2 Tryz.func39 Tryz.results39 (by first | ((conv => lhs; whnf); done) | rfl) (by first | ((conv => lhs; whnf); done) | rfl) () (by simp_all [binds]) (fun w hs => hs.none)
            · refine qF rfl rfl rfl ?_
              refine qF rfl rfl rfl ?_
              refine qU rfl rfl rfl ?_
              refine qU rfl rfl rfl ?_
              refine qF rfl rfl rfl ?_
              refine qF rfl rfl rfl ?_
              refine qU rfl rfl rfl ?_
              refine qU rfl rfl rfl ?_
              refine qF rfl rfl rfl ?_
              refine q0 rfl (o_pickF ?_)
              refine rg_nil ?_
              refine go_condF ?_
              refine go_skip ?_
              refine go_seq ?_
              refine go_region ⟨_, Tryz.func39⟩ rfl ?_
              refine q0 rfl (o_assign ?_)
              refine q0 rfl (o_assign ?_)
              refine rg_nil ?_
              refine ret2 Tryz.func39 Tryz.results39 (by first | ((conv => lhs; whnf); done) | rfl) (by first | ((conv => lhs; whnf); done) | rfl) () (by simp_all [binds]) (fun w hs => hs.none)
        · refine qF rfl rfl rfl ?_
          refine qT rfl rfl rfl (o_pickT ?_)
          refine q0 rfl (o_pickT ?_)
          refine rg_nil ?_
          refine go_condT ?_
          refine go_seq ?_
          refine go_region ⟨_, Tryz.func39⟩ rfl ?_
          refine q0 rfl (o_assign ?_)
          refine q0 rfl (o_assign ?_)
          refine rg_nil ?_
          refine ret2 Tryz.func39 Tryz.results39 (by first | ((conv => lhs; whnf); done) | rfl) (by first | ((conv => lhs; whnf); done) | rfl) () (by simp_all [binds]) (fun w hs => hs.none)
      · refine qF rfl rfl rfl ?_
        refine qT rfl rfl rfl (o_pickT ?_)
        refine qT rfl rfl rfl (o_move ?_)
        refine qF rfl rfl rfl ?_
        refine qF rfl rfl rfl ?_
        refine qT rfl rfl rfl (o_pickT ?_)
        refine q0 rfl (o_pickT ?_)
        refine rg_nil ?_
        refine go_condT ?_
        refine go_seq ?_
        refine go_region ⟨_, Tryz.func39⟩ rfl ?_
        refine q0 rfl (o_assign ?_)
        refine q0 rfl (o_assign ?_)
        refine rg_nil ?_
        refine ret2 Tryz.func39 Tryz.results39 (by first | ((conv => lhs; whnf); done) | rfl) (by first | ((conv => lhs; whnf); done) | rfl) () (by simp_all [binds]) (fun w hs => hs.none)
    · refine qF rfl rfl rfl ?_
      refine qF rfl rfl rfl ?_
      refine qU rfl rfl rfl ?_
      refine qU rfl rfl rfl ?_
      refine qF rfl rfl rfl ?_
      refine qF rfl rfl rfl ?_
      refine qU rfl rfl rfl ?_
      refine qU rfl rfl rfl ?_
      refine qF rfl rfl rfl ?_
      refine q0 rfl (o_pickF ?_)
      refine rg_nil ?_
      refine go_condF ?_
      refine go_skip ?_
      refine go_seq ?_
      refine go_seq ?_
      refine go_region ⟨_, Tryz.func39⟩ rfl ?_
      refine q0 rfl (o_move ?_)
      refine q0 rfl (o_eqI ?_)
      refine q0 rfl (o_move ?_)
      refine qI rfl rfl rfl (by conv => lhs; whnf) (fun hg32 => o_move ?_) (fun hg32 => ?_)
      · refine qT rfl rfl rfl (o_eqI ?_)
        refine qT rfl rfl rfl (o_move ?_)
        refine qI rfl rfl rfl (by conv => lhs; whnf) (fun hg35 => o_move ?_) (fun hg35 => ?_)
        · refine qT rfl rfl rfl (o_eqI ?_)
          refine qT rfl rfl rfl (o_pickF ?_)
          refine qT rfl rfl rfl (o_move ?_)
          refine qI rfl rfl rfl (by conv => lhs; whnf) (fun hg39 => o_move ?_) (fun hg39 => ?_)
          · refine qT rfl rfl rfl (o_eqI ?_)
            refine qT rfl rfl rfl (o_pickF ?_)
            refine q0 rfl (o_pickT ?_)
            refine rg_nil ?_
            refine go_condI (fun h43 => ?_) (fun h43 => ?_)
            · refine go_seq ?_
              refine go_region ⟨_, Tryz.func39⟩ rfl ?_
              refine q0 rfl (o_assign ?_)
              refine q0 rfl (o_assign ?_)
              refine rg_nil ?_
              refine ret2 Tryz.func39 Tryz.results39 (by first | ((conv => lhs; whnf); done) | rfl) (by first | ((conv => lhs; whnf); done) | rfl) () (by simp_all [binds]) (fun w hs => hs.none)
            · refine go_skip ?_
              refine go_seq ?_
              refine go_region ⟨_, Tryz.func39⟩ rfl ?_
              refine q0 rfl (o_assign ?_)
              refine q0 rfl (o_assign ?_)
              refine rg_nil ?_
              refine ret2 Tryz.func39 Tryz.results39 (by first | ((conv => lhs; whnf); done) | rfl) (by first | ((conv => lhs; whnf); done) | rfl) () (by simp_all [binds]) (fun w hs => hs.none)
          · refine qF rfl rfl rfl ?_
            refine qT rfl rfl rfl (o_pickT ?_)
            refine q0 rfl (o_pickT ?_)
            refine rg_nil ?_
            refine go_condT ?_
            refine go_seq ?_
            refine go_region ⟨_, Tryz.func39⟩ rfl ?_
            refine q0 rfl (o_assign ?_)
            refine q0 rfl (o_assign ?_)
            refine rg_nil ?_
            refine ret2 Tryz.func39 Tryz.results39 (by first | ((conv => lhs; whnf); done) | rfl) (by first | ((conv => lhs; whnf); done) | rfl) () (by simp_all [binds]) (fun w hs => hs.none)
        · refine qF rfl rfl rfl ?_
          refine qT rfl rfl rfl (o_pickT ?_)
          refine qT rfl rfl rfl (o_move ?_)
          refine qF rfl rfl rfl ?_
          refine qF rfl rfl rfl ?_
          refine qT rfl rfl rfl (o_pickT ?_)
          refine q0 rfl (o_pickT ?_)
          refine rg_nil ?_
          refine go_condT ?_
          refine go_seq ?_
          refine go_region ⟨_, Tryz.func39⟩ rfl ?_
          refine q0 rfl (o_assign ?_)
          refine q0 rfl (o_assign ?_)
          refine rg_nil ?_
          refine ret2 Tryz.func39 Tryz.results39 (by first | ((conv => lhs; whnf); done) | rfl) (by first | ((conv => lhs; whnf); done) | rfl) () (by simp_all [binds]) (fun w hs => hs.none)
      · refine qF rfl rfl rfl ?_
        refine qF rfl rfl rfl ?_
        refine qU rfl rfl rfl ?_
        refine qU rfl rfl rfl ?_
        refine qF rfl rfl rfl ?_
        refine qF rfl rfl rfl ?_
        refine qU rfl rfl rfl ?_
        refine qU rfl rfl rfl ?_
        refine qF rfl rfl rfl ?_
        refine q0 rfl (o_pickF ?_)
        refine rg_nil ?_
        refine go_condF ?_
        refine go_skip ?_
        refine go_seq ?_
        refine go_region ⟨_, Tryz.func39⟩ rfl ?_
        refine q0 rfl (o_assign ?_)
        refine q0 rfl (o_assign ?_)
        refine rg_nil ?_
        refine ret2 Tryz.func39 Tryz.results39 (by first | ((conv => lhs; whnf); done) | rfl) (by first | ((conv => lhs; whnf); done) | rfl) () (by simp_all [binds]) (fun w hs => hs.none)

end Go.Hy
