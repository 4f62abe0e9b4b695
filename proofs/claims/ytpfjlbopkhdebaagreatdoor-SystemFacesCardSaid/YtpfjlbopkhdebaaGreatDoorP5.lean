/- Contracts of this program's functions and the laws that they need: a separation logic over the machine's rules, one theorem each (partly printed by a program of this repository). -/
import Derived.Lib.TrailingZeros
import Derived.Test.YtpfjlbopkhdebaaGreatDoorP2
import Derived.Test.YtpfjlbopkhdebaaGreatDoorP3
import Derived.Test.YtpfjlbopkhdebaaGreatDoorP4
set_option linter.unusedVariables false
set_option linter.unusedSimpArgs false
set_option linter.unusedSectionVars false
namespace Go.Hy
open Go.Proofs
set_option maxRecDepth 100000
theorem kids_spec (k : Int) : Spec Tryz.prog 173 #[.int .i64 k] [] [] (fun _ : Unit => .int .i64 (kidsN k)) (fun _ => []) (fun _ => []) := by
  refine spec_go (args := [.int .i64 k]) Tryz.func173 Tryz.ntmps173 rfl (by exact Nat.le_of_ble_eq_true rfl) fun B hB => ?_
  refine go_seq ?_; refine go_region ⟨_, Tryz.func173⟩ rfl ?_; refine q0 rfl (o_assign ?_); refine rg_nil ?_; refine go_seq ?_; refine go_seq ?_; refine go_region ⟨_, Tryz.func173⟩ rfl ?_; refine q0 rfl (o_move ?_); refine rg_nil ?_; refine go_block ?_; refine go_seq ?_; refine go_seq ?_; refine go_region ⟨_, Tryz.func173⟩ rfl ?_; refine q0 rfl (o_eqI ?_); refine q0 rfl (o_assign ?_); refine rg_nil ?_; refine go_condI (fun h4 => ?_) (fun h4 => ?_)
  · refine go_skip ?_; refine go_condT ?_; refine go_seq ?_; refine go_region ⟨_, Tryz.func173⟩ rfl ?_; refine q0 rfl (o_assign ?_); refine rg_nil ?_; refine ret1 Tryz.func173 Tryz.results173 wn_ () (by simp_all [kidsN]) (fun w hs => hs.none)
  · refine go_seq ?_; refine go_region ⟨_, Tryz.func173⟩ rfl ?_; refine q0 rfl (o_eqI ?_); refine q0 rfl (o_assign ?_); refine rg_nil ?_; refine go_condI (fun h4 => ?_) (fun h4 => ?_)
    · refine go_skip ?_; refine go_condT ?_; refine go_seq ?_; refine go_region ⟨_, Tryz.func173⟩ rfl ?_; refine q0 rfl (o_assign ?_); refine rg_nil ?_; refine ret1 Tryz.func173 Tryz.results173 wn_ () (by simp_all [kidsN]) (fun w hs => hs.none)
    · refine go_seq ?_; refine go_region ⟨_, Tryz.func173⟩ rfl ?_; refine q0 rfl (o_eqI ?_); refine q0 rfl (o_assign ?_); refine rg_nil ?_; refine go_condI (fun h4 => ?_) (fun h4 => ?_)
      · refine go_skip ?_; refine go_condT ?_; refine go_seq ?_; refine go_region ⟨_, Tryz.func173⟩ rfl ?_; refine q0 rfl (o_assign ?_); refine rg_nil ?_; refine ret1 Tryz.func173 Tryz.results173 wn_ () (by simp_all [kidsN]) (fun w hs => hs.none)
      · refine go_seq ?_; refine go_region ⟨_, Tryz.func173⟩ rfl ?_; refine q0 rfl (o_eqI ?_); refine q0 rfl (o_assign ?_); refine rg_nil ?_; refine go_condI (fun h4 => ?_) (fun h4 => ?_)
        · refine go_skip ?_; refine go_condT ?_; refine go_seq ?_; refine go_region ⟨_, Tryz.func173⟩ rfl ?_; refine q0 rfl (o_assign ?_); refine rg_nil ?_; refine ret1 Tryz.func173 Tryz.results173 wn_ () (by simp_all [kidsN]) (fun w hs => hs.none)
        · refine go_seq ?_; refine go_region ⟨_, Tryz.func173⟩ rfl ?_; refine q0 rfl (o_eqI ?_); refine q0 rfl (o_assign ?_); refine rg_nil ?_; refine go_condI (fun h4 => ?_) (fun h4 => ?_)
          · refine go_skip ?_; refine go_condT ?_; refine go_seq ?_; refine go_region ⟨_, Tryz.func173⟩ rfl ?_; refine q0 rfl (o_assign ?_); refine rg_nil ?_; refine ret1 Tryz.func173 Tryz.results173 wn_ () (by simp_all [kidsN]) (fun w hs => hs.none)
          · refine go_seq ?_; refine go_region ⟨_, Tryz.func173⟩ rfl ?_; refine q0 rfl (o_eqI ?_); refine q0 rfl (o_assign ?_); refine rg_nil ?_; refine go_condI (fun h4 => ?_) (fun h4 => ?_)
            · refine go_skip ?_; refine go_condT ?_; refine go_seq ?_; refine go_region ⟨_, Tryz.func173⟩ rfl ?_; refine q0 rfl (o_assign ?_); refine rg_nil ?_; refine ret1 Tryz.func173 Tryz.results173 wn_ () (by simp_all [kidsN]) (fun w hs => hs.none)
            · refine go_seq ?_; refine go_region ⟨_, Tryz.func173⟩ rfl ?_; refine q0 rfl (o_eqI ?_); refine q0 rfl (o_assign ?_); refine rg_nil ?_; refine go_condI (fun h4 => ?_) (fun h4 => ?_)
              · refine go_skip ?_; refine go_condT ?_; refine go_seq ?_; refine go_region ⟨_, Tryz.func173⟩ rfl ?_; refine q0 rfl (o_assign ?_); refine rg_nil ?_; refine ret1 Tryz.func173 Tryz.results173 wn_ () (by simp_all [kidsN]) (fun w hs => hs.none)
              · refine go_region ⟨_, Tryz.func173⟩ rfl ?_; refine q0 rfl (o_eqI ?_); refine q0 rfl (o_assign ?_); refine rg_nil ?_; refine go_condI (fun h4 => ?_) (fun h4 => ?_)
                · refine go_seq ?_; refine go_region ⟨_, Tryz.func173⟩ rfl ?_; refine q0 rfl (o_assign ?_); refine rg_nil ?_; refine ret1 Tryz.func173 Tryz.results173 wn_ () (by simp_all [kidsN]) (fun w hs => hs.none)
                · refine go_seq ?_; refine go_seq ?_; refine go_region ⟨_, Tryz.func173⟩ rfl ?_; refine q0 rfl (o_eqI ?_); refine q0 rfl (o_assign ?_); refine rg_nil ?_; refine go_condI (fun h13 => ?_) (fun h13 => ?_)
                  · refine go_skip ?_; refine go_condT ?_; refine go_seq ?_; refine go_region ⟨_, Tryz.func173⟩ rfl ?_; refine q0 rfl (o_assign ?_); refine rg_nil ?_; refine ret1 Tryz.func173 Tryz.results173 wn_ () (by simp_all [kidsN]) (fun w hs => hs.none)
                  · refine go_seq ?_; refine go_region ⟨_, Tryz.func173⟩ rfl ?_; refine q0 rfl (o_eqI ?_); refine q0 rfl (o_assign ?_); refine rg_nil ?_; refine go_condI (fun h13 => ?_) (fun h13 => ?_)
                    · refine go_skip ?_; refine go_condT ?_; refine go_seq ?_; refine go_region ⟨_, Tryz.func173⟩ rfl ?_; refine q0 rfl (o_assign ?_); refine rg_nil ?_; refine ret1 Tryz.func173 Tryz.results173 wn_ () (by simp_all [kidsN]) (fun w hs => hs.none)
                    · refine go_seq ?_; refine go_region ⟨_, Tryz.func173⟩ rfl ?_; refine q0 rfl (o_eqI ?_); refine q0 rfl (o_assign ?_); refine rg_nil ?_; refine go_condI (fun h13 => ?_) (fun h13 => ?_)
                      · refine go_skip ?_; refine go_condT ?_; refine go_seq ?_; refine go_region ⟨_, Tryz.func173⟩ rfl ?_; refine q0 rfl (o_assign ?_); refine rg_nil ?_; refine ret1 Tryz.func173 Tryz.results173 wn_ () (by simp_all [kidsN]) (fun w hs => hs.none)
                      · refine go_seq ?_; refine go_region ⟨_, Tryz.func173⟩ rfl ?_; refine q0 rfl (o_eqI ?_); refine q0 rfl (o_assign ?_); refine rg_nil ?_; refine go_condI (fun h13 => ?_) (fun h13 => ?_)
                        · refine go_skip ?_; refine go_condT ?_; refine go_seq ?_; refine go_region ⟨_, Tryz.func173⟩ rfl ?_; refine q0 rfl (o_assign ?_); refine rg_nil ?_; refine ret1 Tryz.func173 Tryz.results173 wn_ () (by simp_all [kidsN]) (fun w hs => hs.none)
                        · refine go_seq ?_; refine go_region ⟨_, Tryz.func173⟩ rfl ?_; refine q0 rfl (o_eqI ?_); refine q0 rfl (o_assign ?_); refine rg_nil ?_; refine go_condI (fun h13 => ?_) (fun h13 => ?_)
                          · refine go_skip ?_; refine go_condT ?_; refine go_seq ?_; refine go_region ⟨_, Tryz.func173⟩ rfl ?_; refine q0 rfl (o_assign ?_); refine rg_nil ?_; refine ret1 Tryz.func173 Tryz.results173 wn_ () (by simp_all [kidsN]) (fun w hs => hs.none)
                          · refine go_seq ?_; refine go_region ⟨_, Tryz.func173⟩ rfl ?_; refine q0 rfl (o_eqI ?_); refine q0 rfl (o_assign ?_); refine rg_nil ?_; refine go_condI (fun h13 => ?_) (fun h13 => ?_)
                            · refine go_skip ?_; refine go_condT ?_; refine go_seq ?_; refine go_region ⟨_, Tryz.func173⟩ rfl ?_; refine q0 rfl (o_assign ?_); refine rg_nil ?_; refine ret1 Tryz.func173 Tryz.results173 wn_ () (by simp_all [kidsN]) (fun w hs => hs.none)
                            · refine go_seq ?_; refine go_region ⟨_, Tryz.func173⟩ rfl ?_; refine q0 rfl (o_eqI ?_); refine q0 rfl (o_assign ?_); refine rg_nil ?_; refine go_condI (fun h13 => ?_) (fun h13 => ?_)
                              · refine go_skip ?_; refine go_condT ?_; refine go_seq ?_; refine go_region ⟨_, Tryz.func173⟩ rfl ?_; refine q0 rfl (o_assign ?_); refine rg_nil ?_; refine ret1 Tryz.func173 Tryz.results173 wn_ () (by simp_all [kidsN]) (fun w hs => hs.none)
                              · refine go_seq ?_; refine go_region ⟨_, Tryz.func173⟩ rfl ?_; refine q0 rfl (o_eqI ?_); refine q0 rfl (o_assign ?_); refine rg_nil ?_; refine go_condI (fun h13 => ?_) (fun h13 => ?_)
                                · refine go_skip ?_; refine go_condT ?_; refine go_seq ?_; refine go_region ⟨_, Tryz.func173⟩ rfl ?_; refine q0 rfl (o_assign ?_); refine rg_nil ?_; refine ret1 Tryz.func173 Tryz.results173 wn_ () (by simp_all [kidsN]) (fun w hs => hs.none)
                                · refine go_region ⟨_, Tryz.func173⟩ rfl ?_; refine q0 rfl (o_eqI ?_); refine q0 rfl (o_assign ?_); refine rg_nil ?_; refine go_condI (fun h13 => ?_) (fun h13 => ?_)
                                  · refine go_seq ?_; refine go_region ⟨_, Tryz.func173⟩ rfl ?_; refine q0 rfl (o_assign ?_); refine rg_nil ?_; refine ret1 Tryz.func173 Tryz.results173 wn_ () (by simp_all [kidsN]) (fun w hs => hs.none)
                                  · refine go_seq ?_; refine go_seq ?_; refine go_region ⟨_, Tryz.func173⟩ rfl ?_; refine q0 rfl (o_eqI ?_); refine q0 rfl (o_assign ?_); refine rg_nil ?_; refine go_condI (fun h23 => ?_) (fun h23 => ?_)
                                    · refine go_skip ?_; refine go_condT ?_; refine go_seq ?_; refine go_region ⟨_, Tryz.func173⟩ rfl ?_; refine q0 rfl (o_assign ?_); refine rg_nil ?_; refine ret1 Tryz.func173 Tryz.results173 wn_ () (by simp_all [kidsN]) (fun w hs => hs.none)
                                    · refine go_seq ?_; refine go_region ⟨_, Tryz.func173⟩ rfl ?_; refine q0 rfl (o_eqI ?_); refine q0 rfl (o_assign ?_); refine rg_nil ?_; refine go_condI (fun h23 => ?_) (fun h23 => ?_)
                                      · refine go_skip ?_; refine go_condT ?_; refine go_seq ?_; refine go_region ⟨_, Tryz.func173⟩ rfl ?_; refine q0 rfl (o_assign ?_); refine rg_nil ?_; refine ret1 Tryz.func173 Tryz.results173 wn_ () (by simp_all [kidsN]) (fun w hs => hs.none)
                                      · refine go_seq ?_; refine go_region ⟨_, Tryz.func173⟩ rfl ?_; refine q0 rfl (o_eqI ?_); refine q0 rfl (o_assign ?_); refine rg_nil ?_; refine go_condI (fun h23 => ?_) (fun h23 => ?_)
                                        · refine go_skip ?_; refine go_condT ?_; refine go_seq ?_; refine go_region ⟨_, Tryz.func173⟩ rfl ?_; refine q0 rfl (o_assign ?_); refine rg_nil ?_; refine ret1 Tryz.func173 Tryz.results173 wn_ () (by simp_all [kidsN]) (fun w hs => hs.none)
                                        · refine go_seq ?_; refine go_region ⟨_, Tryz.func173⟩ rfl ?_; refine q0 rfl (o_eqI ?_); refine q0 rfl (o_assign ?_); refine rg_nil ?_; refine go_condI (fun h23 => ?_) (fun h23 => ?_)
                                          · refine go_skip ?_; refine go_condT ?_; refine go_seq ?_; refine go_region ⟨_, Tryz.func173⟩ rfl ?_; refine q0 rfl (o_assign ?_); refine rg_nil ?_; refine ret1 Tryz.func173 Tryz.results173 wn_ () (by simp_all [kidsN]) (fun w hs => hs.none)
                                          · refine go_seq ?_; refine go_region ⟨_, Tryz.func173⟩ rfl ?_; refine q0 rfl (o_eqI ?_); refine q0 rfl (o_assign ?_); refine rg_nil ?_; refine go_condI (fun h23 => ?_) (fun h23 => ?_)
                                            · refine go_skip ?_; refine go_condT ?_; refine go_seq ?_; refine go_region ⟨_, Tryz.func173⟩ rfl ?_; refine q0 rfl (o_assign ?_); refine rg_nil ?_; refine ret1 Tryz.func173 Tryz.results173 wn_ () (by simp_all [kidsN]) (fun w hs => hs.none)
                                            · refine go_seq ?_; refine go_region ⟨_, Tryz.func173⟩ rfl ?_; refine q0 rfl (o_eqI ?_); refine q0 rfl (o_assign ?_); refine rg_nil ?_; refine go_condI (fun h23 => ?_) (fun h23 => ?_)
                                              · refine go_skip ?_; refine go_condT ?_; refine go_seq ?_; refine go_region ⟨_, Tryz.func173⟩ rfl ?_; refine q0 rfl (o_assign ?_); refine rg_nil ?_; refine ret1 Tryz.func173 Tryz.results173 wn_ () (by simp_all [kidsN]) (fun w hs => hs.none)
                                              · refine go_region ⟨_, Tryz.func173⟩ rfl ?_; refine q0 rfl (o_eqI ?_); refine q0 rfl (o_assign ?_); refine rg_nil ?_; refine go_condI (fun h23 => ?_) (fun h23 => ?_)
                                                · refine go_seq ?_; refine go_region ⟨_, Tryz.func173⟩ rfl ?_; refine q0 rfl (o_assign ?_); refine rg_nil ?_; refine ret1 Tryz.func173 Tryz.results173 wn_ () (by simp_all [kidsN]) (fun w hs => hs.none)
                                                · refine go_seq ?_; refine go_seq ?_; refine go_region ⟨_, Tryz.func173⟩ rfl ?_; refine q0 rfl (o_eqI ?_); refine q0 rfl (o_assign ?_); refine rg_nil ?_; refine go_condI (fun h31 => ?_) (fun h31 => ?_)
                                                  · refine go_skip ?_; refine go_condT ?_; refine go_seq ?_; refine go_region ⟨_, Tryz.func173⟩ rfl ?_; refine q0 rfl (o_assign ?_); refine rg_nil ?_; refine ret1 Tryz.func173 Tryz.results173 wn_ () (by simp_all [kidsN]) (fun w hs => hs.none)
                                                  · refine go_region ⟨_, Tryz.func173⟩ rfl ?_; refine q0 rfl (o_eqI ?_); refine q0 rfl (o_assign ?_); refine rg_nil ?_; refine go_condI (fun h31 => ?_) (fun h31 => ?_)
                                                    · refine go_seq ?_; refine go_region ⟨_, Tryz.func173⟩ rfl ?_; refine q0 rfl (o_assign ?_); refine rg_nil ?_; refine ret1 Tryz.func173 Tryz.results173 wn_ () (by simp_all [kidsN]) (fun w hs => hs.none)
                                                    · refine go_seq ?_; refine go_region ⟨_, Tryz.func173⟩ rfl ?_; refine q0 rfl (o_eqI ?_); refine q0 rfl (o_assign ?_); refine rg_nil ?_; refine go_condI (fun h34 => ?_) (fun h34 => ?_)
                                                      · refine go_seq ?_; refine go_region ⟨_, Tryz.func173⟩ rfl ?_; refine q0 rfl (o_assign ?_); refine rg_nil ?_; refine ret1 Tryz.func173 Tryz.results173 wn_ () (by simp_all [kidsN]) (fun w hs => hs.none)
                                                      · refine go_seq ?_; refine go_region ⟨_, Tryz.func173⟩ rfl ?_; refine q0 rfl (o_eqI ?_); refine q0 rfl (o_assign ?_); refine rg_nil ?_; refine go_condI (fun h36 => ?_) (fun h36 => ?_)
                                                        · refine go_seq ?_; refine go_region ⟨_, Tryz.func173⟩ rfl ?_; refine q0 rfl (o_assign ?_); refine rg_nil ?_; refine ret1 Tryz.func173 Tryz.results173 wn_ () (by simp_all [kidsN]) (fun w hs => hs.none)
                                                        · refine go_skip ?_; refine go_inBlock ?_; refine go_seq ?_; refine go_region ⟨_, Tryz.func173⟩ rfl ?_; refine q0 rfl (o_assign ?_); refine rg_nil ?_; refine ret1 Tryz.func173 Tryz.results173 wn_ () (by simp_all [kidsN]) (fun w hs => hs.none)
theorem parts_spec (k : Int) : Spec Tryz.prog 172 #[.int .i64 k] [] [] (fun _ : Unit => .int .i64 (partsN k)) (fun _ => []) (fun _ => []) := by
  refine spec_go (args := [.int .i64 k]) Tryz.func172 Tryz.ntmps172 rfl (by exact Nat.le_of_ble_eq_true rfl) fun B hB => ?_
  refine go_seq ?_; refine go_region ⟨_, Tryz.func172⟩ rfl ?_; refine q0 rfl (o_assign ?_); refine rg_nil ?_; refine go_seq ?_; refine go_seq ?_; refine go_region ⟨_, Tryz.func172⟩ rfl ?_; refine q0 rfl (o_move ?_); refine rg_nil ?_; refine go_block ?_; refine go_seq ?_; refine go_seq ?_; refine go_region ⟨_, Tryz.func172⟩ rfl ?_; refine q0 rfl (o_eqI ?_); refine q0 rfl (o_assign ?_); refine rg_nil ?_; refine go_condI (fun h4 => ?_) (fun h4 => ?_)
  · refine go_skip ?_; refine go_condT ?_; refine go_seq ?_; refine go_region ⟨_, Tryz.func172⟩ rfl ?_; refine q0 rfl (o_assign ?_); refine rg_nil ?_; refine ret1 Tryz.func172 Tryz.results172 wn_ () (by simp_all [partsN]) (fun w hs => hs.none)
  · refine go_seq ?_; refine go_region ⟨_, Tryz.func172⟩ rfl ?_; refine q0 rfl (o_eqI ?_); refine q0 rfl (o_assign ?_); refine rg_nil ?_; refine go_condI (fun h4 => ?_) (fun h4 => ?_)
    · refine go_skip ?_; refine go_condT ?_; refine go_seq ?_; refine go_region ⟨_, Tryz.func172⟩ rfl ?_; refine q0 rfl (o_assign ?_); refine rg_nil ?_; refine ret1 Tryz.func172 Tryz.results172 wn_ () (by simp_all [partsN]) (fun w hs => hs.none)
    · refine go_region ⟨_, Tryz.func172⟩ rfl ?_; refine q0 rfl (o_eqI ?_); refine q0 rfl (o_assign ?_); refine rg_nil ?_; refine go_condI (fun h4 => ?_) (fun h4 => ?_)
      · refine go_seq ?_; refine go_region ⟨_, Tryz.func172⟩ rfl ?_; refine q0 rfl (o_assign ?_); refine rg_nil ?_; refine ret1 Tryz.func172 Tryz.results172 wn_ () (by simp_all [partsN]) (fun w hs => hs.none)
      · refine go_seq ?_; refine go_region ⟨_, Tryz.func172⟩ rfl ?_; refine q0 rfl (o_eqI ?_); refine q0 rfl (o_assign ?_); refine rg_nil ?_; refine go_condI (fun h8 => ?_) (fun h8 => ?_)
        · refine go_seq ?_; refine go_region ⟨_, Tryz.func172⟩ rfl ?_; refine q0 rfl (o_assign ?_); refine rg_nil ?_; refine ret1 Tryz.func172 Tryz.results172 wn_ () (by simp_all [partsN]) (fun w hs => hs.none)
        · refine go_skip ?_; refine go_inBlock ?_; refine go_seq ?_; refine go_region ⟨_, Tryz.func172⟩ rfl ?_; refine q0 rfl (o_assign ?_); refine rg_nil ?_; refine ret1 Tryz.func172 Tryz.results172 wn_ () (by simp_all [partsN]) (fun w hs => hs.none)
end Go.Hy
namespace Go.Hy
open Go.Proofs
set_option maxRecDepth 100000
/-- A test of all parts. -/
theorem each_bool (t : T) (vr vk vs : SH) (c : FuncId) (cap : List Value) (FΓ : List Fact) (M : List Res) (g : Part → Bool)
    (hc : ∀ (args : Array Value) (w : World), (callFunc c args).run Tryz.prog w = .ok (.enter c args) w)
    (hcl : ∀ k v d, (k, v, d) ∈ parts t → ∀ vr vk vs, Spec Tryz.prog c (.agg (tc k vr vk vs).toArray :: .int .i64 v :: .int .i64 d :: cap).toArray (RT k vr vk vs :: FΓ) M (fun _ : Unit => .bool (g (k, v, d))) (fun _ => []) (fun _ => M)) :
    Spec Tryz.prog 98 #[.agg (tc t vr vk vs).toArray, .func (.func c) #[] cap.toArray] (RT t vr vk vs :: FΓ) M (fun _ : Unit => .bool ((parts t).all g)) (fun _ => []) (fun _ => M) := by
  have h := each_spec t vr vk vs c cap FΓ (fun _ => M) (fun _ => M) (atPart t g) hc (fun m k v d hm _ vr vk vs => by simpa [atPart_some hm] using hcl k v d (parts_mem hm) vr vk vs); rw [ff_parts] at h; simpa using h
abbrev ShallowAt (t : T) : Prop := ∀ (left : Int) vr vk vs, in64 left → Spec Tryz.prog 162 #[.agg (tc t vr vk vs).toArray, .int .i64 left] [RT t vr vk vs] [] (fun _ : Unit => .bool (decide ((depth t : Int) ≤ left))) (fun _ => []) (fun _ => [])
theorem shallow1_walk (k : T) (vr vk vs : SH) (b : Nat) (left v d : Int) (h0 : 0 < left) (hl : in64 left) (ih : ShallowAt k) : Spec Tryz.prog 215 #[.agg (tc k vr vk vs).toArray, .int .i64 v, .int .i64 d, .pointer (some ⟨b, 0, none⟩)] [RT k vr vk vs] [boxR b [.int .i64 left] 3] (fun _ : Unit => .bool (decide ((depth k : Int) ≤ left - 1))) (fun _ => []) (fun _ => [boxR b [.int .i64 left] 3]) := by
  refine spec_go (args := [.agg (tc k vr vk vs).toArray, .int .i64 v, .int .i64 d, .pointer (some ⟨b, 0, none⟩)]) Tryz.func215 Tryz.ntmps215 rfl (by exact Nat.le_of_ble_eq_true rfl) fun B hB => ?_
  refine go_seq ?_; refine go_region ⟨_, Tryz.func215⟩ rfl ?_; refine q0 rfl (o_box fun b4 => ?_); refine q0 rfl (o_assign ?_); refine rg_nil ?_; refine go_seq ?_; refine go_region ⟨_, Tryz.func215⟩ rfl ?_; refine q0 rfl (o_lds ?_); refine q0 rfl (o_ld ?_); refine q0 rfl (o_sub ?_); refine q0 rfl (o_call Tryz.call162 (ih (left - 1) vr vk vs (by unfold in64 at *; omega)) (fun x11 => ?_)); refine q0 rfl (o_assign ?_); refine rg_nil ?_; refine ret1 Tryz.func215 Tryz.results215 wn_ () rfl (fun w hs => (hs.less (by simp)).drop)
theorem shallow_walk (t : T) (ih : ∀ p, p ∈ parts t → ShallowAt p.1) (left : Int) (vr vk vs : SH) (hl : in64 left) : Spec Tryz.prog 162 #[.agg (tc t vr vk vs).toArray, .int .i64 left] [RT t vr vk vs] [] (fun _ : Unit => .bool (decide ((depth t : Int) ≤ left))) (fun _ => []) (fun _ => []) := by
  refine spec_go (args := [.agg (tc t vr vk vs).toArray, .int .i64 left]) Tryz.func162 Tryz.ntmps162 rfl (by exact Nat.le_of_ble_eq_true rfl) fun B hB => ?_
  refine go_seq ?_; refine go_region ⟨_, Tryz.func162⟩ rfl ?_; refine q0 rfl (o_box fun b2 => ?_); refine q0 rfl (o_box fun b3 => ?_); refine q0 rfl (o_assign ?_); refine rg_nil ?_; refine go_seq ?_; refine go_region ⟨_, Tryz.func162⟩ rfl ?_; refine q0 rfl (o_ld ?_); refine q0 rfl (o_gtr ?_); refine q0 rfl (o_move ?_); refine qI rfl rfl rfl wl_ (fun hg7 => o_lds ?_) (fun hg7 => ?_)
  · refine qT rfl rfl rfl (o_func ?_); have h0 : 0 < left := of_decide_eq_true hg7; have hE := each_bool t vr vk vs 215 [.pointer (some ⟨b3, 0, none⟩)] [] [boxR b3 [.int .i64 left] 3] (fun p => decide ((depth p.1 : Int) ≤ left - 1)) Tryz.call215 (fun k v d hm vr vk vs => shallow1_walk k vr vk vs b3 left v d h0 hl (ih _ hm)); rw [← depth_int t left h0] at hE; refine qT rfl rfl rfl (o_call Tryz.call98 (hE) (fun x10 => ?_)); refine q0 rfl (o_pickT ?_); refine q0 rfl (o_assign ?_); refine rg_nil ?_; refine ret1 Tryz.func162 Tryz.results162 wn_ () rfl (fun w hs => hs.none)
  · refine qF rfl rfl rfl ?_; refine qF rfl rfl rfl ?_; refine q0 rfl (o_pickF ?_); refine q0 rfl (o_assign ?_); refine rg_nil ?_; have h0 : ¬ 0 < left := of_decide_eq_false hg7; have hp := depth_pos t; refine ret1 Tryz.func162 Tryz.results162 wn_ () (by rw [decide_eq_false (by omega)]) (fun w hs => hs.none)
theorem shallow_spec : ∀ t : T, ShallowAt t := T.ind fun t ih left vr vk vs hl => shallow_walk t ih left vr vk vs hl
/-- What is left of a number of nodes. -/
def leftOf (t : T) (m : Int) : Int := if (size t : Int) ≤ m then m - size t else -1
abbrev CountCap (b bc : Nat) : List Value := [.pointer (some ⟨b, 0, none⟩), .pointer (some ⟨bc, 0, none⟩)]
abbrev CountM (b bc : Nat) (m : Int) : List Res := [boxR b [.int .i64 m] 3, boxR bc [.func (.func 216) #[] (CountCap b bc).toArray] 63]
abbrev CountAt (t : T) : Prop := ∀ (m : Int) b bc vr vk vs, 0 ≤ m → in64 m → Spec Tryz.prog 216 #[.agg (tc t vr vk vs).toArray, .pointer (some ⟨b, 0, none⟩), .pointer (some ⟨bc, 0, none⟩)] [RT t vr vk vs] (CountM b bc m) (fun _ : Unit => .bool (decide ((size t : Int) ≤ m))) (fun _ => []) (fun _ => CountM b bc (leftOf t m))
theorem small11_walk (k : T) (vr vk vs : SH) (b bc : Nat) (m v d : Int) (h0 : 0 ≤ m) (hl : in64 m) (ih : CountAt k) : Spec Tryz.prog 217 #[.agg (tc k vr vk vs).toArray, .int .i64 v, .int .i64 d, .pointer (some ⟨bc, 0, none⟩)] [RT k vr vk vs] (CountM b bc m) (fun _ : Unit => .bool (decide ((size k : Int) ≤ m))) (fun _ => []) (fun _ => CountM b bc (leftOf k m)) := by
  refine spec_go (args := [.agg (tc k vr vk vs).toArray, .int .i64 v, .int .i64 d, .pointer (some ⟨bc, 0, none⟩)]) Tryz.func217 Tryz.ntmps217 rfl (by exact Nat.le_of_ble_eq_true rfl) fun B hB => ?_
  refine go_seq ?_; refine go_region ⟨_, Tryz.func217⟩ rfl ?_; refine q0 rfl (o_box fun b4 => ?_); refine q0 rfl (o_assign ?_); refine rg_nil ?_; refine go_seq ?_; refine go_region ⟨_, Tryz.func217⟩ rfl ?_; refine q0 rfl (o_ld ?_); refine q0 rfl (o_lds ?_); refine q0 rfl (o_callC Tryz.call216 (ih m b bc vr vk vs h0 hl) (cap := CountCap b bc) (fun x10 => ?_)); refine q0 rfl (o_assign ?_); refine rg_nil ?_; refine ret1 Tryz.func217 Tryz.results217 wn_ () rfl (fun w hs => (hs.less (by simp)).dropR (A := CountM b bc (leftOf k m)))
theorem count_each (t : T) (ih : ∀ p, p ∈ parts t → CountAt p.1) (m : Int) (b bc : Nat) (vr vk vs : SH) (h0 : 0 < m) (hl : in64 m) :
    Spec Tryz.prog 98 #[.agg (tc t vr vk vs).toArray, .func (.func 217) #[] #[.pointer (some ⟨bc, 0, none⟩)]] [RT t vr vk vs] (CountM b bc (m - 1)) (fun _ : Unit => .bool (decide ((size t : Int) ≤ m))) (fun _ => []) (fun _ => CountM b bc (leftOf t m)) := by
  have h := each_spec t vr vk vs 217 [.pointer (some ⟨bc, 0, none⟩)] [] (fun j => CountM b bc (if (sizeUpto t j : Int) ≤ m then m - sizeUpto t j else -1)) (fun _ => CountM b bc (-1)) (fun j => decide ((sizeUpto t (j + 1) : Int) ≤ m)) Tryz.call217 ?_
  · have hall : (ff (fun j => decide ((sizeUpto t (j + 1) : Int) ≤ m)) (parts t).length == (parts t).length) = decide ((size t : Int) ≤ m) := by
      rw [Bool.eq_iff_iff, beq_iff_eq, ff_eq_iff, decide_eq_true_iff]; constructor
      · intro h; cases hn : (parts t).length with
        | zero => have := sizeUpto_all t; rw [hn, sizeUpto_zero] at this; omega
        | succ n =>
          have := h n (by omega); rw [← hn, sizeUpto_all] at this; exact of_decide_eq_true this
      · intro h j hj; have := sizeUpto_le t (j + 1); exact decide_eq_true (by omega)
    simp only [hall, sizeUpto_zero, sizeUpto_all, beq_iff_eq] at h; rw [if_pos (by omega)] at h; by_cases hs : (size t : Int) ≤ m
    · have e : ff (fun j => decide ((sizeUpto t (j + 1) : Int) ≤ m)) (parts t).length = (parts t).length := by rw [← beq_iff_eq, hall]; exact decide_eq_true hs
      simp only [e, if_true, if_pos hs] at h; unfold leftOf; rw [if_pos hs]; exact h
    · have e : ¬ ff (fun j => decide ((sizeUpto t (j + 1) : Int) ≤ m)) (parts t).length = (parts t).length := by rw [← beq_iff_eq, hall]; simpa using hs
      simp only [if_neg e] at h; unfold leftOf; rw [if_neg hs]; exact h
  · intro j k v d hm hβ vr vk vs; have hs := sizeUpto_succ hm; simp only at hs; have hp := size_pos k
    have hj : (sizeUpto t j : Int) ≤ m := by
      cases j with
      | zero => rw [sizeUpto_zero]; omega
      | succ j => exact of_decide_eq_true (hβ j (by omega))
    have := small11_walk k vr vk vs b bc (m - sizeUpto t j) v d (by omega) (by unfold in64 at *; omega) (ih _ (parts_mem hm)); rw [if_pos hj]; have e1 : decide ((size k : Int) ≤ m - sizeUpto t j) = decide ((sizeUpto t (j + 1) : Int) ≤ m) := by rw [hs]; congr 1; apply propext; omega
    rw [e1] at this
    have e2 : CountM b bc (leftOf k (m - sizeUpto t j)) = if decide ((sizeUpto t (j + 1) : Int) ≤ m) = true then CountM b bc (if (sizeUpto t (j + 1) : Int) ≤ m then m - sizeUpto t (j + 1) else -1) else CountM b bc (-1) := by
      unfold leftOf; by_cases hk : (sizeUpto t (j + 1) : Int) ≤ m
      · rw [if_pos (by omega), if_pos (decide_eq_true hk), if_pos hk, hs]; congr 1; omega
      · rw [if_neg (by omega), if_neg (by simpa using hk)]
    rw [e2] at this; exact this
theorem small1_walk (t : T) (ih : ∀ p, p ∈ parts t → CountAt p.1) (m : Int) (b bc : Nat) (vr vk vs : SH) (h0 : 0 ≤ m) (hl : in64 m) : Spec Tryz.prog 216 #[.agg (tc t vr vk vs).toArray, .pointer (some ⟨b, 0, none⟩), .pointer (some ⟨bc, 0, none⟩)] [RT t vr vk vs] (CountM b bc m) (fun _ : Unit => .bool (decide ((size t : Int) ≤ m))) (fun _ => []) (fun _ => CountM b bc (leftOf t m)) := by
  refine spec_go (args := [.agg (tc t vr vk vs).toArray, .pointer (some ⟨b, 0, none⟩), .pointer (some ⟨bc, 0, none⟩)]) Tryz.func216 Tryz.ntmps216 rfl (by exact Nat.le_of_ble_eq_true rfl) fun B hB => ?_
  refine go_seq ?_; refine go_region ⟨_, Tryz.func216⟩ rfl ?_; refine q0 rfl (o_box fun b3 => ?_); refine q0 rfl (o_assign ?_); refine rg_nil ?_; refine go_seq ?_; refine go_region ⟨_, Tryz.func216⟩ rfl ?_; refine q0 rfl (o_ld ?_); refine q0 rfl (o_sub ?_); refine q0 rfl (o_stc ?_); refine rg_nil ?_; refine go_seq ?_; refine go_region ⟨_, Tryz.func216⟩ rfl ?_; refine q0 rfl (o_ld ?_); refine q0 rfl (o_geq ?_); refine q0 rfl (o_move ?_); refine qI rfl rfl rfl wl_ (fun hg9 => o_lds ?_) (fun hg9 => ?_)
  · refine qT rfl rfl rfl (o_func ?_); have h1 : 0 ≤ m - 1 := of_decide_eq_true hg9; have hE := count_each t ih m b bc vr vk vs (by omega) hl; refine qT rfl rfl rfl (o_call Tryz.call98 (hE) (fun x12 => ?_) (hm := (List.Perm.swap _ _ _).cons _)); refine q0 rfl (o_pickT ?_); refine q0 rfl (o_assign ?_); refine rg_nil ?_; refine ret1 Tryz.func216 Tryz.results216 wn_ () rfl (fun w hs => (hs.less (by simp)).dropR (A := CountM b bc (leftOf t m)))
  · refine qF rfl rfl rfl ?_; refine qF rfl rfl rfl ?_; refine q0 rfl (o_pickF ?_); refine q0 rfl (o_assign ?_); refine rg_nil ?_; have h1 : ¬ 0 ≤ m - 1 := of_decide_eq_false hg9; have hp := size_pos t; refine ret1 Tryz.func216 Tryz.results216 wn_ () (by rw [decide_eq_false (by omega)]) (fun w hs => by rw [leftOf, if_neg (by omega), show (-1 : Int) = m - 1 by omega]; exact ((hs.less (Γ' := []) (by simp)).perm ((List.Perm.swap _ _ _).cons _)).dropR (A := CountM b bc (m - 1)))
theorem count_spec : ∀ t : T, CountAt t := T.ind fun t ih m b bc vr vk vs h0 hl => small1_walk t ih m b bc vr vk vs h0 hl
end Go.Hy
namespace Go.Hy
open Go.Proofs
set_option maxRecDepth 100000
def FRight : Prop := ∀ (l : List Cl) (a : SH), Spec Tryz.prog 137 #[sl a l.length] [CL l a] [] (fun _ : Unit => .bool (fRight l)) (fun _ => []) (fun _ => [])
def FaceRight : Prop := ∀ (l : List Cl) (a : SH), Spec Tryz.prog 88 #[sl a l.length] [CL l a] [] (fun _ : Unit => .bool (faceRight l)) (fun _ => []) (fun _ => [])
def FDims : Prop := ∀ (l : List Cl) (a : SH), Spec Tryz.prog 97 #[sl a l.length] [CL l a] [] (fun _ : Unit => .int .u32 (fDims l : Int)) (fun _ => []) (fun _ => [])
def FORM : Prop := FRight ∧ FaceRight ∧ FDims
end Go.Hy
namespace Go.Hy
open Go.Proofs
set_option maxRecDepth 100000
theorem small_spec (t : T) (vr vk vs : SH) (most : Int) (h0 : 0 ≤ most) (hl : in64 most) : Spec Tryz.prog 163 #[.agg (tc t vr vk vs).toArray, .int .i64 most] [RT t vr vk vs] [] (fun _ : Unit => .bool (decide ((size t : Int) ≤ most))) (fun _ => []) (fun _ => []) := by
  refine spec_go (args := [.agg (tc t vr vk vs).toArray, .int .i64 most]) Tryz.func163 Tryz.ntmps163 rfl (by exact Nat.le_of_ble_eq_true rfl) fun B hB => ?_
  refine go_seq ?_; refine go_region ⟨_, Tryz.func163⟩ rfl ?_; refine q0 rfl (o_box fun b2 => ?_); refine q0 rfl (o_box fun b3 => ?_); refine q0 rfl (o_assign ?_); refine rg_nil ?_; refine go_seq ?_; refine go_region ⟨_, Tryz.func163⟩ rfl ?_; refine q0 rfl (o_new fun b5 => ?_); refine rg_nil ?_; refine go_seq ?_; refine go_region ⟨_, Tryz.func163⟩ rfl ?_; refine q0 rfl (o_func ?_); refine q0 rfl (o_st ?_); refine rg_nil ?_; refine go_seq ?_; refine go_region ⟨_, Tryz.func163⟩ rfl ?_; refine q0 rfl (o_ld ?_); refine q0 rfl (o_lds ?_); refine q0 rfl (o_callC Tryz.call216 (count_spec t most b3 b5 vr vk vs h0 hl) (cap := CountCap b3 b5) (fun x9 => ?_)); refine q0 rfl (o_assign ?_); refine rg_nil ?_; refine ret1 Tryz.func163 Tryz.results163 wn_ () rfl (fun w hs => hs.none)
theorem sized_spec (t : T) (vr vk vs : SH) : Spec Tryz.prog 85 #[.agg (tc t vr vk vs).toArray] [RT t vr vk vs] [] (fun _ : Unit => .int .i64 (sized t)) (fun _ => []) (fun _ => []) := by
  refine spec_go (args := [.agg (tc t vr vk vs).toArray]) Tryz.func85 Tryz.ntmps85 rfl (by exact Nat.le_of_ble_eq_true rfl) fun B hB => ?_
  refine go_seq ?_; refine go_region ⟨_, Tryz.func85⟩ rfl ?_; refine q0 rfl (o_box fun b1 => ?_); refine q0 rfl (o_assign ?_); refine rg_nil ?_; refine go_seq ?_; refine go_block ?_; refine go_seq ?_; refine go_region ⟨_, Tryz.func85⟩ rfl ?_; refine q0 rfl (o_lds ?_); refine q0 rfl (o_call Tryz.call162 (shallow_spec t 200 vr vk vs (by unfold in64; omega)) (fun x5 => ?_)); refine q0 rfl (o_not ?_); refine q0 rfl (o_assign ?_); refine rg_nil ?_; refine go_condI (fun h3 => ?_) (fun h3 => ?_)
  · refine go_seq ?_; refine go_region ⟨_, Tryz.func85⟩ rfl ?_; refine q0 rfl (o_assign ?_); refine rg_nil ?_; have h : 200 < depth t := by simp at h3; omega
    refine ret1 Tryz.func85 Tryz.results85 wn_ () (by rw [sized, if_pos h]) (fun w hs => hs.none)
  · refine go_seq ?_; refine go_region ⟨_, Tryz.func85⟩ rfl ?_; refine q0 rfl (o_lds ?_); refine q0 rfl (o_call Tryz.call163 (small_spec t vr vk vs 20000 (by omega) (by unfold in64; omega)) (fun x9 => ?_)); refine q0 rfl (o_not ?_); refine q0 rfl (o_assign ?_); refine rg_nil ?_; refine go_condI (fun h7 => ?_) (fun h7 => ?_)
    · refine go_seq ?_; refine go_region ⟨_, Tryz.func85⟩ rfl ?_; refine q0 rfl (o_assign ?_); refine rg_nil ?_; have h : ¬ 200 < depth t := by simp at h3; omega
      have h2 : 20000 < size t := by simp at h7; omega
      refine ret1 Tryz.func85 Tryz.results85 wn_ () (by rw [sized, if_neg h, if_pos h2]) (fun w hs => hs.none)
    · refine go_skip ?_; refine go_inBlock ?_; refine go_seq ?_; refine go_region ⟨_, Tryz.func85⟩ rfl ?_; refine q0 rfl (o_assign ?_); refine rg_nil ?_; have h : ¬ 200 < depth t := by simp at h3; omega
      have h2 : ¬ 20000 < size t := by simp at h7; omega
      refine ret1 Tryz.func85 Tryz.results85 wn_ () (by rw [sized, if_neg h, if_neg h2]) (fun w hs => hs.none)
theorem name_spec (s : ByteArray) (hs : s.size ≤ cap47) : Spec Tryz.prog 218 #[.string s] [] [] (fun _ : Unit => .bool (nameOK s)) (fun _ => []) (fun _ => []) := by
  refine spec_go (args := [.string s]) Tryz.func218 Tryz.ntmps218 rfl (by exact Nat.le_of_ble_eq_true rfl) fun B hB => ?_
  refine go_seq ?_; refine go_region ⟨_, Tryz.func218⟩ rfl ?_; refine q0 rfl (o_assign ?_); refine rg_nil ?_; refine go_seq ?_; refine go_seq ?_; refine go_region ⟨_, Tryz.func218⟩ rfl ?_; refine q0 rfl (o_move ?_); refine q0 rfl (o_lenStr ?_); refine q0 rfl (o_move ?_); refine rg_nil ?_; refine go_block ?_; refine go_loopI (X := Nat) (fun i => i ≤ s.size ∧ ∀ j, j < i → okAt s j = true) (fun i => [(0, .string s), (7, .int .i64 (s.size : Int)), (8, .int .i64 (i : Int))]) (fun i => []) (fun i => []) (fun i => s.size - i) (0) (⟨Nat.zero_le _, fun j hj => by omega⟩) (by exact ⟨rfl, rfl, rfl, trivial⟩) ?_ ?_
  · exact fun w hs => hs.none
  · intro i base0 ⟨hi, hok⟩ next0; refine go_seq ?_; refine go_region ⟨_, Tryz.func218⟩ rfl ?_; refine q0 rfl (o_lss ?_); refine rg_nil ?_; refine go_seq ?_; refine go_condI (fun h9 => ?_) (fun h9 => ?_)
    · have hlt : i < s.size := by have := of_decide_eq_true h9; omega
      obtain ⟨c, hc, hca⟩ := byte_at hlt; refine go_skip ?_; refine go_seq ?_; refine go_block ?_; refine go_seq ?_; refine go_region ⟨_, Tryz.func218⟩ rfl ?_; refine q0 rfl (o_move ?_); refine q0 rfl (o_assign ?_); refine rg_nil ?_; refine go_seq ?_; refine go_region ⟨_, Tryz.func218⟩ rfl ?_; refine q0 rfl (o_move ?_); refine q0 rfl (o_move ?_); refine q0 rfl (o_ixStr ?_); refine q0 rfl (o_assign ?_); refine rg_nil ?_; refine go_seq ?_; refine go_cutS ([(0, .string s), (3, .int .i64 (i : Int)), (4, .int .u8 c.toNat), (5, .bool (letter c.toNat)), (7, .int .i64 (s.size : Int)), (8, .int .i64 (i : Int))]) (fun hK => ?_) (fun base => ?_)
      · refine go_region ⟨_, Tryz.func218⟩ rfl ?_; refine q0 rfl (o_move ?_); refine q0 rfl (o_geq ?_); refine q0 rfl (o_move ?_); refine qI rfl rfl rfl wl_ (fun hg16 => o_move ?_) (fun hg16 => ?_)
        · refine qT rfl rfl rfl (o_leq ?_); refine q0 rfl (o_pickT ?_); refine q0 rfl (o_move ?_); refine qI rfl rfl rfl wl_ (fun hg20 => o_move ?_) (fun hg20 => ?_)
          · refine qT rfl rfl rfl (o_geq ?_); refine qT rfl rfl rfl (o_move ?_); refine qI rfl rfl rfl wl_ (fun hg23 => o_move ?_) (fun hg23 => ?_)
            · refine qT rfl rfl rfl (o_leq ?_); refine qT rfl rfl rfl (o_pickT ?_); refine q0 rfl (o_pickF ?_); refine q0 rfl (o_move ?_); refine qI rfl rfl rfl wl_ (fun hg28 => o_move ?_) (fun hg28 => ?_)
              · refine qT rfl rfl rfl (o_eqI ?_); refine q0 rfl (o_pickF ?_); refine q0 rfl (o_assign ?_); refine rg_nil ?_; exact hK _ ⟨rfl, rfl, rfl, (by (conv => lhs; whnf); first | (simp_all [letter]; done) | (simp_all [letter]; omega)), rfl, rfl, trivial⟩
              · refine qF rfl rfl rfl ?_; refine q0 rfl (o_pickT ?_); refine q0 rfl (o_assign ?_); refine rg_nil ?_; exact hK _ ⟨rfl, rfl, rfl, (by (conv => lhs; whnf); first | (simp_all [letter]; done) | (simp_all [letter]; omega)), rfl, rfl, trivial⟩
            · refine qF rfl rfl rfl ?_; refine qT rfl rfl rfl (o_pickF ?_); refine q0 rfl (o_pickF ?_); refine q0 rfl (o_move ?_); refine qT rfl rfl rfl (o_move ?_); refine qT rfl rfl rfl (o_eqI ?_); refine q0 rfl (o_pickF ?_); refine q0 rfl (o_assign ?_); refine rg_nil ?_; exact hK _ ⟨rfl, rfl, rfl, (by (conv => lhs; whnf); first | (simp_all [letter]; done) | (simp_all [letter]; omega)), rfl, rfl, trivial⟩
          · refine qF rfl rfl rfl ?_; refine qF rfl rfl rfl ?_; refine qU rfl rfl rfl ?_; refine qU rfl rfl rfl ?_; refine qF rfl rfl rfl ?_; refine q0 rfl (o_pickT ?_); refine q0 rfl (o_move ?_); refine qF rfl rfl rfl ?_; refine qF rfl rfl rfl ?_; refine q0 rfl (o_pickT ?_); refine q0 rfl (o_assign ?_); refine rg_nil ?_; exact hK _ ⟨rfl, rfl, rfl, (by (conv => lhs; whnf); first | (simp_all [letter]; done) | (simp_all [letter]; omega)), rfl, rfl, trivial⟩
        · refine qF rfl rfl rfl ?_; refine q0 rfl (o_pickF ?_); refine q0 rfl (o_move ?_); refine qT rfl rfl rfl (o_move ?_); refine qT rfl rfl rfl (o_geq ?_); refine qT rfl rfl rfl (o_move ?_); refine qI rfl rfl rfl wl_ (fun hg23 => o_move ?_) (fun hg23 => ?_)
          · refine qT rfl rfl rfl (o_leq ?_); refine qT rfl rfl rfl (o_pickT ?_); refine q0 rfl (o_pickF ?_); refine q0 rfl (o_move ?_); refine qI rfl rfl rfl wl_ (fun hg28 => o_move ?_) (fun hg28 => ?_)
            · refine qT rfl rfl rfl (o_eqI ?_); refine q0 rfl (o_pickF ?_); refine q0 rfl (o_assign ?_); refine rg_nil ?_; exact hK _ ⟨rfl, rfl, rfl, (by (conv => lhs; whnf); first | (simp_all [letter]; done) | (simp_all [letter]; omega)), rfl, rfl, trivial⟩
            · refine qF rfl rfl rfl ?_; refine q0 rfl (o_pickT ?_); refine q0 rfl (o_assign ?_); refine rg_nil ?_; exact hK _ ⟨rfl, rfl, rfl, (by (conv => lhs; whnf); first | (simp_all [letter]; done) | (simp_all [letter]; omega)), rfl, rfl, trivial⟩
          · refine qF rfl rfl rfl ?_; refine qT rfl rfl rfl (o_pickF ?_); refine q0 rfl (o_pickF ?_); refine q0 rfl (o_move ?_); refine qT rfl rfl rfl (o_move ?_); refine qT rfl rfl rfl (o_eqI ?_); refine q0 rfl (o_pickF ?_); refine q0 rfl (o_assign ?_); refine rg_nil ?_; exact hK _ ⟨rfl, rfl, rfl, (by (conv => lhs; whnf); first | (simp_all [letter]; done) | (simp_all [letter]; omega)), rfl, rfl, trivial⟩
      · refine go_seq ?_; refine go_cutS ([(0, .string s), (7, .int .i64 (s.size : Int)), (8, .int .i64 (i : Int)), (45, .bool (!(okAt s i)))]) (fun hK => ?_) (fun base => ?_)
        · refine go_region ⟨_, Tryz.func218⟩ rfl ?_; refine q0 rfl (o_move ?_); refine q0 rfl (o_not ?_); refine q0 rfl (o_move ?_); refine qI rfl rfl rfl wl_ (fun hg34 => o_move ?_) (fun hg34 => ?_)
          · refine qT rfl rfl rfl (o_eqI ?_); refine qT rfl rfl rfl (o_move ?_); refine qI rfl rfl rfl wl_ (fun hg37 => o_move ?_) (fun hg37 => ?_)
            · refine qT rfl rfl rfl (o_lss ?_); refine qT rfl rfl rfl (o_pickF ?_); refine qT rfl rfl rfl (o_move ?_); refine qI rfl rfl rfl wl_ (fun hg41 => o_move ?_) (fun hg41 => ?_)
              · refine qT rfl rfl rfl (o_gtr ?_); refine qT rfl rfl rfl (o_pickF ?_); refine q0 rfl (o_pickT ?_); refine rg_nil ?_; exact hK _ ⟨rfl, rfl, rfl, (by (conv => lhs; whnf); rw [hca]; first | (simp_all [digit]; done) | (simp_all [digit]; omega) | (simp_all [digit]; rw [← decide_not]; congr 1; apply propext; omega)), trivial⟩
              · refine qF rfl rfl rfl ?_; refine qT rfl rfl rfl (o_pickT ?_); refine q0 rfl (o_pickT ?_); refine rg_nil ?_; exact hK _ ⟨rfl, rfl, rfl, (by (conv => lhs; whnf); rw [hca]; first | (simp_all [digit]; done) | (simp_all [digit]; omega) | (simp_all [digit]; rw [← decide_not]; congr 1; apply propext; omega)), trivial⟩
            · refine qF rfl rfl rfl ?_; refine qT rfl rfl rfl (o_pickT ?_); refine qT rfl rfl rfl (o_move ?_); refine qF rfl rfl rfl ?_; refine qF rfl rfl rfl ?_; refine qT rfl rfl rfl (o_pickT ?_); refine q0 rfl (o_pickT ?_); refine rg_nil ?_; exact hK _ ⟨rfl, rfl, rfl, (by (conv => lhs; whnf); rw [hca]; first | (simp_all [digit]; done) | (simp_all [digit]; omega) | (simp_all [digit]; rw [← decide_not]; congr 1; apply propext; omega)), trivial⟩
          · refine qF rfl rfl rfl ?_; refine qF rfl rfl rfl ?_; refine qU rfl rfl rfl ?_; refine qU rfl rfl rfl ?_; refine qF rfl rfl rfl ?_; refine qF rfl rfl rfl ?_; refine qU rfl rfl rfl ?_; refine qU rfl rfl rfl ?_; refine qF rfl rfl rfl ?_; refine q0 rfl (o_pickF ?_); refine rg_nil ?_; exact hK _ ⟨rfl, rfl, rfl, (by (conv => lhs; whnf); rw [hca]; first | (simp_all [digit]; done) | (simp_all [digit]; omega) | (simp_all [digit]; rw [← decide_not]; congr 1; apply propext; omega)), trivial⟩
        · refine go_condI (fun h45 => ?_) (fun h45 => ?_)
          · refine go_seq ?_; refine go_region ⟨_, Tryz.func218⟩ rfl ?_; refine q0 rfl (o_assign ?_); refine rg_nil ?_; refine ret1 Tryz.func218 Tryz.results218 wn_ () (by rw [nameOK_not hlt (by simpa using h45)]) (fun w hs => hs.none)
          · refine go_skip ?_; refine go_inBlock ?_; refine go_region ⟨_, Tryz.func218⟩ rfl ?_; refine q0 rfl (o_add ?_); refine q0 rfl (o_move ?_); refine rg_nil ?_; have hb : okAt s i = true := by simpa using h45
            refine go_state (fun w hs => hs) (next0 (i + 1) _ ⟨hlt, fun j hj => (by rcases Nat.lt_succ_iff_lt_or_eq.mp hj with h | h; exact hok j h; subst h; exact hb)⟩ (by omega) ⟨rfl, rfl, rfl, trivial⟩)
    · have hge : i = s.size := by have := of_decide_eq_false h9; omega
      refine go_exit rfl ?_; refine go_seq ?_; refine go_region ⟨_, Tryz.func218⟩ rfl ?_; refine q0 rfl (o_move ?_); refine q0 rfl (o_neS ?_); refine q0 rfl (o_assign ?_); refine rg_nil ?_; refine ret1 Tryz.func218 Tryz.results218 wn_ () (by rw [nameOK_all (by rw [← hge]; exact hok), empty_eq]; rfl) (fun w hs => hs.none)
theorem within_spec (hF : FDims) (l : List Cl) (a : SH) (dims : Int) (h0 : 0 ≤ dims) (hl : in64 dims) : Spec Tryz.prog 219 #[sl a l.length, .int .i64 dims] [CL l a] [] (fun _ : Unit => .bool (within l dims)) (fun _ => []) (fun _ => []) := by
  refine spec_go (args := [sl a l.length, .int .i64 dims]) Tryz.func219 Tryz.ntmps219 rfl (by exact Nat.le_of_ble_eq_true rfl) fun B hB => ?_
  refine go_seq ?_; refine go_region ⟨_, Tryz.func219⟩ rfl ?_; refine q0 rfl (o_assign ?_); refine rg_nil ?_; refine go_seq ?_; refine go_region ⟨_, Tryz.func219⟩ rfl ?_; refine q0 rfl (o_move ?_); refine q0 rfl (o_geq ?_); refine q0 rfl (o_move ?_); refine qI rfl rfl rfl wl_ (fun hg7 => o_move ?_) (fun hg7 => ?_)
  · refine qT rfl rfl rfl (o_call Tryz.call97 (hF l a) (fun x9 => ?_)); refine qT rfl rfl rfl (o_move ?_); refine qT rfl rfl rfl (o_conv ?_); refine qT rfl rfl rfl (o_shrU32 ?_ (m := dims.toNat) (hy := congrArg (Value.int .u64) (toNat_u64 h0 hl))); refine qT rfl rfl rfl (o_eqI ?_); refine q0 rfl (o_pickF ?_); refine q0 rfl (o_assign ?_); refine rg_nil ?_; refine ret1 Tryz.func219 Tryz.results219 wn_ () (by first | (simp_all [within]; done) | (simp_all [within]; intros; omega)) (fun w hs => hs.none)
  · refine qF rfl rfl rfl ?_; refine qF rfl rfl rfl ?_; refine qF rfl rfl rfl ?_; refine qF rfl rfl rfl ?_; refine qF rfl rfl rfl ?_; refine q0 rfl (o_pickT ?_); refine q0 rfl (o_assign ?_); refine rg_nil ?_; refine ret1 Tryz.func219 Tryz.results219 wn_ () (by first | (simp_all [within]; done) | (simp_all [within]; intros; omega)) (fun w hs => hs.none)
end Go.Hy
namespace Go.Hy
open Go.Proofs
set_option maxRecDepth 100000
theorem own_spec (t : T) (hf : plain1 t = true ∨ FORM) (vr vk vs : SH) (vars dims : Int) (hd : 0 ≤ dims) (hl : in64 dims) : Spec Tryz.prog 164 #[.agg (tc t vr vk vs).toArray, .int .i64 vars, .int .i64 dims] [RT t vr vk vs] [] (fun _ : Unit => .bool (ownP t vars dims)) (fun _ => []) (fun _ => []) := by
  refine spec_go (args := [.agg (tc t vr vk vs).toArray, .int .i64 vars, .int .i64 dims]) Tryz.func164 Tryz.ntmps164 rfl (by exact Nat.le_of_ble_eq_true rfl) fun B hB => ?_
  refine go_open (fun hk hn hnm => ?_); refine go_openTL (ts := t.kids) (fun VR VK VS hl1 hA1 => ?_); refine go_openBL (bs := t.sys) (fun VF VK2 hl2 hA2 => ?_); refine go_seq ?_; refine go_region ⟨_, Tryz.func164⟩ rfl ?_; refine q0 rfl (o_box fun b3 => ?_); refine q0 rfl (o_assign ?_); refine rg_nil ?_; refine go_seq ?_; refine go_seq ?_; refine go_cutS ([(1, .int .i64 vars), (2, .int .i64 dims), (3, .pointer (some ⟨b3, 0, none⟩)), (47, .bool (own1 t))]) (fun hK => ?_) (fun base => ?_)
  · refine go_draw (pn := 1000000) (tn := false) (A := [0, 1, 3, 0, 8, 24, 63, 127, 255, 511, 1023, 2047, 4095, 8191, 16383, 32767, 65535, 131071, 262143, 524287, 1048575, 2097151, 4194303, 8388607, 16777215, 33554431, 67108863, 134217727, 268435455, 536870911, 1073741823, 2147483647, 4294967295, 8589934591, 17179869183, 34359738367, 68719476735, 137438953471, 274877906943]) (l := [0, 1, 3, 4, 5, 2, 6, 7, 8, 9, 10, 11, 12, 13, 14, 15, 16, 17, 18, 19, 20, 21, 22, 23, 24, 25, 26, 27, 28, 29, 30, 31, 32, 33, 34, 35, 36, 37, 38]) (fin := []) Tab.mixed ⟨_, Tryz.func164⟩ (by rfl) ?_; refine n0 rfl (v_fa ?_); refine n0 rfl (v_ld ?_); refine n0 rfl (v_fa ?_); refine n0 rfl (v_ld ?_); refine n0 rfl (v_len ?_); refine n0 rfl (v_call Tryz.call173 (kids_spec t.kind) (fun x11 => ?_)); refine n0 rfl (v_neI ?_); refine n0 rfl (v_move ?_); refine nI rfl rfl rfl wl_ (fun hg16 => v_fa ?_) (fun hg16 => ?_)
    · refine nT rfl rfl rfl (v_ld ?_); refine nT rfl rfl rfl (v_neI ?_); refine nT rfl rfl rfl (v_move ?_); refine nI rfl rfl rfl wl_ (fun hg20 => v_fa ?_) (fun hg20 => ?_)
      · refine nT rfl rfl rfl (v_ld ?_); refine nT rfl rfl rfl (v_neI ?_); refine nT rfl rfl rfl (v_pickT ?_); refine n0 rfl (v_pickF ?_); refine n0 rfl (v_move ?_); refine nI rfl rfl rfl wl_ (fun hg26 => v_fa ?_) (fun hg26 => ?_)
        · refine nT rfl rfl rfl (v_ld ?_); refine nT rfl rfl rfl (v_neI ?_); refine nT rfl rfl rfl (v_move ?_); refine nI rfl rfl rfl wl_ (fun hg30 => v_fa ?_) (fun hg30 => ?_)
          · refine nT rfl rfl rfl (v_ld ?_); refine nT rfl rfl rfl (v_neS ?_); refine nT rfl rfl rfl (v_pickT ?_); refine n0 rfl (v_pickF ?_); refine n0 rfl (v_move ?_); refine nI rfl rfl rfl wl_ (fun hg36 => v_fa ?_) (fun hg36 => ?_)
            · refine nT rfl rfl rfl (v_ld ?_); refine nT rfl rfl rfl (v_call Tryz.call172 (parts_spec t.kind) (fun x39 => ?_)); refine nT rfl rfl rfl (v_eqI ?_); refine nT rfl rfl rfl (v_move ?_); refine nI rfl rfl rfl wl_ (fun hg41 => v_fa ?_) (fun hg41 => ?_)
              · refine nT rfl rfl rfl (v_ld ?_); refine nT rfl rfl rfl (v_len ?_); refine nT rfl rfl rfl (v_gtr ?_); refine nT rfl rfl rfl (v_pickT ?_); refine n0 rfl (v_pickF ?_); refine NV.done ?_; refine rg_nil ?_; exact hK _ ⟨rfl, rfl, rfl, (by (conv => lhs; whnf); first | (simp_all [own1]; done) | (simp_all [own1]; omega)), trivial⟩
              · refine nF rfl rfl rfl ?_; refine nF rfl rfl rfl ?_; refine nF rfl rfl rfl ?_; refine nT rfl rfl rfl (v_pickF ?_); refine n0 rfl (v_pickF ?_); refine NV.done ?_; refine rg_nil ?_; exact hK _ ⟨rfl, rfl, rfl, (by (conv => lhs; whnf); first | (simp_all [own1]; done) | (simp_all [own1]; omega)), trivial⟩
            · refine nF rfl rfl rfl ?_; refine nF rfl rfl rfl ?_; refine nF rfl rfl rfl ?_; refine nF rfl rfl rfl ?_; refine nU rfl rfl rfl ?_; refine nU rfl rfl rfl ?_; refine nU rfl rfl rfl ?_; refine nU rfl rfl rfl ?_; refine nF rfl rfl rfl ?_; refine n0 rfl (v_pickT ?_); refine NV.done ?_; refine rg_nil ?_; exact hK _ ⟨rfl, rfl, rfl, (by (conv => lhs; whnf); first | (simp_all [own1]; done) | (simp_all [own1]; omega)), trivial⟩
          · refine nF rfl rfl rfl ?_; refine nF rfl rfl rfl ?_; refine nT rfl rfl rfl (v_pickF ?_); refine n0 rfl (v_pickF ?_); refine n0 rfl (v_move ?_); refine nT rfl rfl rfl (v_fa ?_); refine nT rfl rfl rfl (v_ld ?_); refine nT rfl rfl rfl (v_call Tryz.call172 (parts_spec t.kind) (fun x39 => ?_)); refine nT rfl rfl rfl (v_eqI ?_); refine nT rfl rfl rfl (v_move ?_); refine nI rfl rfl rfl wl_ (fun hg41 => v_fa ?_) (fun hg41 => ?_)
            · refine nT rfl rfl rfl (v_ld ?_); refine nT rfl rfl rfl (v_len ?_); refine nT rfl rfl rfl (v_gtr ?_); refine nT rfl rfl rfl (v_pickT ?_); refine n0 rfl (v_pickF ?_); refine NV.done ?_; refine rg_nil ?_; exact hK _ ⟨rfl, rfl, rfl, (by (conv => lhs; whnf); first | (simp_all [own1]; done) | (simp_all [own1]; omega)), trivial⟩
            · refine nF rfl rfl rfl ?_; refine nF rfl rfl rfl ?_; refine nF rfl rfl rfl ?_; refine nT rfl rfl rfl (v_pickF ?_); refine n0 rfl (v_pickF ?_); refine NV.done ?_; refine rg_nil ?_; exact hK _ ⟨rfl, rfl, rfl, (by (conv => lhs; whnf); first | (simp_all [own1]; done) | (simp_all [own1]; omega)), trivial⟩
        · refine nF rfl rfl rfl ?_; refine nF rfl rfl rfl ?_; refine nF rfl rfl rfl ?_; refine nU rfl rfl rfl ?_; refine nU rfl rfl rfl ?_; refine nU rfl rfl rfl ?_; refine nF rfl rfl rfl ?_; refine n0 rfl (v_pickT ?_); refine n0 rfl (v_move ?_); refine nF rfl rfl rfl ?_; refine nF rfl rfl rfl ?_; refine nF rfl rfl rfl ?_; refine nF rfl rfl rfl ?_; refine nF rfl rfl rfl ?_; refine nU rfl rfl rfl ?_; refine nU rfl rfl rfl ?_; refine nU rfl rfl rfl ?_; refine nU rfl rfl rfl ?_; refine nF rfl rfl rfl ?_; refine n0 rfl (v_pickT ?_); refine NV.done ?_; refine rg_nil ?_; exact hK _ ⟨rfl, rfl, rfl, (by (conv => lhs; whnf); first | (simp_all [own1]; done) | (simp_all [own1]; omega)), trivial⟩
      · refine nF rfl rfl rfl ?_; refine nF rfl rfl rfl ?_; refine nT rfl rfl rfl (v_pickF ?_); refine n0 rfl (v_pickF ?_); refine n0 rfl (v_move ?_); refine nT rfl rfl rfl (v_fa ?_); refine nT rfl rfl rfl (v_ld ?_); refine nT rfl rfl rfl (v_neI ?_); refine nT rfl rfl rfl (v_move ?_); refine nI rfl rfl rfl wl_ (fun hg30 => v_fa ?_) (fun hg30 => ?_)
        · refine nT rfl rfl rfl (v_ld ?_); refine nT rfl rfl rfl (v_neS ?_); refine nT rfl rfl rfl (v_pickT ?_); refine n0 rfl (v_pickF ?_); refine n0 rfl (v_move ?_); refine nI rfl rfl rfl wl_ (fun hg36 => v_fa ?_) (fun hg36 => ?_)
          · refine nT rfl rfl rfl (v_ld ?_); refine nT rfl rfl rfl (v_call Tryz.call172 (parts_spec t.kind) (fun x39 => ?_)); refine nT rfl rfl rfl (v_eqI ?_); refine nT rfl rfl rfl (v_move ?_); refine nI rfl rfl rfl wl_ (fun hg41 => v_fa ?_) (fun hg41 => ?_)
            · refine nT rfl rfl rfl (v_ld ?_); refine nT rfl rfl rfl (v_len ?_); refine nT rfl rfl rfl (v_gtr ?_); refine nT rfl rfl rfl (v_pickT ?_); refine n0 rfl (v_pickF ?_); refine NV.done ?_; refine rg_nil ?_; exact hK _ ⟨rfl, rfl, rfl, (by (conv => lhs; whnf); first | (simp_all [own1]; done) | (simp_all [own1]; omega)), trivial⟩
            · refine nF rfl rfl rfl ?_; refine nF rfl rfl rfl ?_; refine nF rfl rfl rfl ?_; refine nT rfl rfl rfl (v_pickF ?_); refine n0 rfl (v_pickF ?_); refine NV.done ?_; refine rg_nil ?_; exact hK _ ⟨rfl, rfl, rfl, (by (conv => lhs; whnf); first | (simp_all [own1]; done) | (simp_all [own1]; omega)), trivial⟩
          · refine nF rfl rfl rfl ?_; refine nF rfl rfl rfl ?_; refine nF rfl rfl rfl ?_; refine nF rfl rfl rfl ?_; refine nU rfl rfl rfl ?_; refine nU rfl rfl rfl ?_; refine nU rfl rfl rfl ?_; refine nU rfl rfl rfl ?_; refine nF rfl rfl rfl ?_; refine n0 rfl (v_pickT ?_); refine NV.done ?_; refine rg_nil ?_; exact hK _ ⟨rfl, rfl, rfl, (by (conv => lhs; whnf); first | (simp_all [own1]; done) | (simp_all [own1]; omega)), trivial⟩
        · refine nF rfl rfl rfl ?_; refine nF rfl rfl rfl ?_; refine nT rfl rfl rfl (v_pickF ?_); refine n0 rfl (v_pickF ?_); refine n0 rfl (v_move ?_); refine nT rfl rfl rfl (v_fa ?_); refine nT rfl rfl rfl (v_ld ?_); refine nT rfl rfl rfl (v_call Tryz.call172 (parts_spec t.kind) (fun x39 => ?_)); refine nT rfl rfl rfl (v_eqI ?_); refine nT rfl rfl rfl (v_move ?_); refine nI rfl rfl rfl wl_ (fun hg41 => v_fa ?_) (fun hg41 => ?_)
          · refine nT rfl rfl rfl (v_ld ?_); refine nT rfl rfl rfl (v_len ?_); refine nT rfl rfl rfl (v_gtr ?_); refine nT rfl rfl rfl (v_pickT ?_); refine n0 rfl (v_pickF ?_); refine NV.done ?_; refine rg_nil ?_; exact hK _ ⟨rfl, rfl, rfl, (by (conv => lhs; whnf); first | (simp_all [own1]; done) | (simp_all [own1]; omega)), trivial⟩
          · refine nF rfl rfl rfl ?_; refine nF rfl rfl rfl ?_; refine nF rfl rfl rfl ?_; refine nT rfl rfl rfl (v_pickF ?_); refine n0 rfl (v_pickF ?_); refine NV.done ?_; refine rg_nil ?_; exact hK _ ⟨rfl, rfl, rfl, (by (conv => lhs; whnf); first | (simp_all [own1]; done) | (simp_all [own1]; omega)), trivial⟩
    · refine nF rfl rfl rfl ?_; refine nF rfl rfl rfl ?_; refine nF rfl rfl rfl ?_; refine nU rfl rfl rfl ?_; refine nU rfl rfl rfl ?_; refine nU rfl rfl rfl ?_; refine nF rfl rfl rfl ?_; refine n0 rfl (v_pickT ?_); refine n0 rfl (v_move ?_); refine nF rfl rfl rfl ?_; refine nF rfl rfl rfl ?_; refine nF rfl rfl rfl ?_; refine nF rfl rfl rfl ?_; refine nU rfl rfl rfl ?_; refine nU rfl rfl rfl ?_; refine nU rfl rfl rfl ?_; refine nF rfl rfl rfl ?_; refine n0 rfl (v_pickT ?_); refine n0 rfl (v_move ?_); refine nF rfl rfl rfl ?_; refine nF rfl rfl rfl ?_; refine nF rfl rfl rfl ?_; refine nF rfl rfl rfl ?_; refine nF rfl rfl rfl ?_; refine nU rfl rfl rfl ?_; refine nU rfl rfl rfl ?_; refine nU rfl rfl rfl ?_; refine nU rfl rfl rfl ?_; refine nF rfl rfl rfl ?_; refine n0 rfl (v_pickT ?_); refine NV.done ?_; refine rg_nil ?_; exact hK _ ⟨rfl, rfl, rfl, (by (conv => lhs; whnf); first | (simp_all [own1]; done) | (simp_all [own1]; omega)), trivial⟩
  · refine go_condI (fun h47 => ?_) (fun h47 => ?_)
    · refine go_seq ?_; refine go_region ⟨_, Tryz.func164⟩ rfl ?_; refine q0 rfl (o_assign ?_); refine rg_nil ?_; refine ret1 Tryz.func164 Tryz.results164 wn_ () (by simp [ownP, h47]) (fun w hs => hs.none)
    · refine go_skip ?_; refine go_seq ?_; refine go_seq ?_; refine go_region ⟨_, Tryz.func164⟩ rfl ?_; refine q0 rfl (o_fa ?_); refine q0 rfl (o_ld ?_); refine rg_nil ?_; refine go_block ?_; refine go_seq ?_; refine go_region ⟨_, Tryz.func164⟩ rfl ?_; refine q0 rfl (o_eqI ?_); refine q0 rfl (o_assign ?_); refine rg_nil ?_; refine go_condI (fun h50 => ?_) (fun h50 => ?_)
      · refine go_seq ?_; refine go_cutS ([(6, .bool (decide ((t.r.length : Int) = 0) && decide (0 ≤ t.n) && (decide (vars < 0) || decide (t.n < vars))))]) (fun hK => ?_) (fun base => ?_)
        · refine go_region ⟨_, Tryz.func164⟩ rfl ?_; refine q0 rfl (o_fa ?_); refine q0 rfl (o_ld ?_); refine q0 rfl (o_len ?_); refine q0 rfl (o_eqI ?_); refine q0 rfl (o_move ?_); refine qI rfl rfl rfl wl_ (fun hg56 => o_fa ?_) (fun hg56 => ?_)
          · refine qT rfl rfl rfl (o_ld ?_); refine qT rfl rfl rfl (o_geq ?_); refine q0 rfl (o_pickT ?_); refine q0 rfl (o_move ?_); refine qI rfl rfl rfl wl_ (fun hg61 => o_move ?_) (fun hg61 => ?_)
            · refine qT rfl rfl rfl (o_lss ?_); refine qT rfl rfl rfl (o_move ?_); refine qI rfl rfl rfl wl_ (fun hg64 => o_fa ?_) (fun hg64 => ?_)
              · refine qT rfl rfl rfl (o_ld ?_); refine qT rfl rfl rfl (o_move ?_); refine qT rfl rfl rfl (o_lss ?_); refine qT rfl rfl rfl (o_pickF ?_); refine q0 rfl (o_pickT ?_); refine q0 rfl (o_assign ?_); refine rg_nil ?_; exact hK _ ⟨(by (conv => lhs; whnf); first | (simp_all [Bool.and_assoc]; done) | (simp_all [Bool.and_assoc]; omega)), trivial⟩
              · refine qF rfl rfl rfl ?_; refine qF rfl rfl rfl ?_; refine qF rfl rfl rfl ?_; refine qT rfl rfl rfl (o_pickT ?_); refine q0 rfl (o_pickT ?_); refine q0 rfl (o_assign ?_); refine rg_nil ?_; exact hK _ ⟨(by (conv => lhs; whnf); first | (simp_all [Bool.and_assoc]; done) | (simp_all [Bool.and_assoc]; omega)), trivial⟩
            · refine qF rfl rfl rfl ?_; refine qF rfl rfl rfl ?_; refine qU rfl rfl rfl ?_; refine qU rfl rfl rfl ?_; refine qU rfl rfl rfl ?_; refine qU rfl rfl rfl ?_; refine qF rfl rfl rfl ?_; refine q0 rfl (o_pickF ?_); refine q0 rfl (o_assign ?_); refine rg_nil ?_; exact hK _ ⟨(by (conv => lhs; whnf); first | (simp_all [Bool.and_assoc]; done) | (simp_all [Bool.and_assoc]; omega)), trivial⟩
          · refine qF rfl rfl rfl ?_; refine qF rfl rfl rfl ?_; refine q0 rfl (o_pickF ?_); refine q0 rfl (o_move ?_); refine qF rfl rfl rfl ?_; refine qF rfl rfl rfl ?_; refine qF rfl rfl rfl ?_; refine qU rfl rfl rfl ?_; refine qU rfl rfl rfl ?_; refine qU rfl rfl rfl ?_; refine qU rfl rfl rfl ?_; refine qF rfl rfl rfl ?_; refine q0 rfl (o_pickF ?_); refine q0 rfl (o_assign ?_); refine rg_nil ?_; exact hK _ ⟨(by (conv => lhs; whnf); first | (simp_all [Bool.and_assoc]; done) | (simp_all [Bool.and_assoc]; omega)), trivial⟩
        · refine ret1 Tryz.func164 Tryz.results164 wn_ () (by simp_all [ownP, Bool.and_assoc]) (fun w hs => hs.none)
      · refine go_seq ?_; refine go_region ⟨_, Tryz.func164⟩ rfl ?_; refine q0 rfl (o_eqI ?_); refine q0 rfl (o_assign ?_); refine rg_nil ?_; refine go_condI (fun h71 => ?_) (fun h71 => ?_)
        · refine go_seq ?_; refine go_cutS ([(6, .bool (decide ((t.r.length : Int) = 0) && nameOK t.name))]) (fun hK => ?_) (fun base => ?_)
          · refine go_region ⟨_, Tryz.func164⟩ rfl ?_; refine q0 rfl (o_fa ?_); refine q0 rfl (o_ld ?_); refine q0 rfl (o_len ?_); refine q0 rfl (o_eqI ?_); refine q0 rfl (o_move ?_); refine qI rfl rfl rfl wl_ (fun hg77 => o_fa ?_) (fun hg77 => ?_)
            · refine qT rfl rfl rfl (o_ld ?_); refine qT rfl rfl rfl (o_call Tryz.call218 (name_spec t.name hnm) (fun x80 => ?_)); refine q0 rfl (o_pickT ?_); refine q0 rfl (o_assign ?_); refine rg_nil ?_; exact hK _ ⟨(by (conv => lhs; whnf); first | (simp_all [Bool.and_assoc]; done) | (simp_all [Bool.and_assoc]; omega)), trivial⟩
            · refine qF rfl rfl rfl ?_; refine qF rfl rfl rfl ?_; refine q0 rfl (o_pickF ?_); refine q0 rfl (o_assign ?_); refine rg_nil ?_; exact hK _ ⟨(by (conv => lhs; whnf); first | (simp_all [Bool.and_assoc]; done) | (simp_all [Bool.and_assoc]; omega)), trivial⟩
          · refine ret1 Tryz.func164 Tryz.results164 wn_ () (by simp_all [ownP, Bool.and_assoc]) (fun w hs => hs.none)
        · refine go_seq ?_; refine go_seq ?_; refine go_region ⟨_, Tryz.func164⟩ rfl ?_; refine q0 rfl (o_eqI ?_); refine q0 rfl (o_assign ?_); refine rg_nil ?_; refine go_condI (fun h82 => ?_) (fun h82 => ?_)
          · refine go_skip ?_; refine go_condT ?_; refine go_seq ?_; refine go_cutS ([(6, .bool (fRight t.r && within t.r dims))]) (fun hK => ?_) (fun base => ?_)
            · refine go_region ⟨_, Tryz.func164⟩ rfl ?_; refine q0 rfl (o_fa ?_); refine q0 rfl (o_ld ?_); refine q0 rfl (o_call Tryz.call137 ((form_kind hf (by simp_all)).1 t.r vr) (fun x88 => ?_)); refine q0 rfl (o_move ?_); refine qI rfl rfl rfl wl_ (fun hg89 => o_fa ?_) (fun hg89 => ?_)
              · refine qT rfl rfl rfl (o_ld ?_); refine qT rfl rfl rfl (o_move ?_); refine qT rfl rfl rfl (o_call Tryz.call219 (within_spec (form_kind hf (by simp_all)).2.2 t.r vr dims hd hl) (fun x93 => ?_)); refine q0 rfl (o_pickT ?_); refine q0 rfl (o_assign ?_); refine rg_nil ?_; exact hK _ ⟨(by (conv => lhs; whnf); first | (simp_all [Bool.and_assoc]; done) | (simp_all [Bool.and_assoc]; omega)), trivial⟩
              · refine qF rfl rfl rfl ?_; refine qF rfl rfl rfl ?_; refine qF rfl rfl rfl ?_; refine q0 rfl (o_pickF ?_); refine q0 rfl (o_assign ?_); refine rg_nil ?_; exact hK _ ⟨(by (conv => lhs; whnf); first | (simp_all [Bool.and_assoc]; done) | (simp_all [Bool.and_assoc]; omega)), trivial⟩
            · refine ret1 Tryz.func164 Tryz.results164 wn_ () (by simp_all [ownP, Bool.and_assoc]) (fun w hs => hs.none)
          · refine go_seq ?_; refine go_region ⟨_, Tryz.func164⟩ rfl ?_; refine q0 rfl (o_eqI ?_); refine q0 rfl (o_assign ?_); refine rg_nil ?_; refine go_condI (fun h82 => ?_) (fun h82 => ?_)
            · refine go_skip ?_; refine go_condT ?_; refine go_seq ?_; refine go_cutS ([(6, .bool (fRight t.r && within t.r dims))]) (fun hK => ?_) (fun base => ?_)
              · refine go_region ⟨_, Tryz.func164⟩ rfl ?_; refine q0 rfl (o_fa ?_); refine q0 rfl (o_ld ?_); refine q0 rfl (o_call Tryz.call137 ((form_kind hf (by simp_all)).1 t.r vr) (fun x88 => ?_)); refine q0 rfl (o_move ?_); refine qI rfl rfl rfl wl_ (fun hg89 => o_fa ?_) (fun hg89 => ?_)
                · refine qT rfl rfl rfl (o_ld ?_); refine qT rfl rfl rfl (o_move ?_); refine qT rfl rfl rfl (o_call Tryz.call219 (within_spec (form_kind hf (by simp_all)).2.2 t.r vr dims hd hl) (fun x93 => ?_)); refine q0 rfl (o_pickT ?_); refine q0 rfl (o_assign ?_); refine rg_nil ?_; exact hK _ ⟨(by (conv => lhs; whnf); first | (simp_all [Bool.and_assoc]; done) | (simp_all [Bool.and_assoc]; omega)), trivial⟩
                · refine qF rfl rfl rfl ?_; refine qF rfl rfl rfl ?_; refine qF rfl rfl rfl ?_; refine q0 rfl (o_pickF ?_); refine q0 rfl (o_assign ?_); refine rg_nil ?_; exact hK _ ⟨(by (conv => lhs; whnf); first | (simp_all [Bool.and_assoc]; done) | (simp_all [Bool.and_assoc]; omega)), trivial⟩
              · refine ret1 Tryz.func164 Tryz.results164 wn_ () (by simp_all [ownP, Bool.and_assoc]) (fun w hs => hs.none)
            · refine go_region ⟨_, Tryz.func164⟩ rfl ?_; refine q0 rfl (o_eqI ?_); refine q0 rfl (o_assign ?_); refine rg_nil ?_; refine go_condI (fun h82 => ?_) (fun h82 => ?_)
              · refine go_seq ?_; refine go_cutS ([(6, .bool (fRight t.r && within t.r dims))]) (fun hK => ?_) (fun base => ?_)
                · refine go_region ⟨_, Tryz.func164⟩ rfl ?_; refine q0 rfl (o_fa ?_); refine q0 rfl (o_ld ?_); refine q0 rfl (o_call Tryz.call137 ((form_kind hf (by simp_all)).1 t.r vr) (fun x88 => ?_)); refine q0 rfl (o_move ?_); refine qI rfl rfl rfl wl_ (fun hg89 => o_fa ?_) (fun hg89 => ?_)
                  · refine qT rfl rfl rfl (o_ld ?_); refine qT rfl rfl rfl (o_move ?_); refine qT rfl rfl rfl (o_call Tryz.call219 (within_spec (form_kind hf (by simp_all)).2.2 t.r vr dims hd hl) (fun x93 => ?_)); refine q0 rfl (o_pickT ?_); refine q0 rfl (o_assign ?_); refine rg_nil ?_; exact hK _ ⟨(by (conv => lhs; whnf); first | (simp_all [Bool.and_assoc]; done) | (simp_all [Bool.and_assoc]; omega)), trivial⟩
                  · refine qF rfl rfl rfl ?_; refine qF rfl rfl rfl ?_; refine qF rfl rfl rfl ?_; refine q0 rfl (o_pickF ?_); refine q0 rfl (o_assign ?_); refine rg_nil ?_; exact hK _ ⟨(by (conv => lhs; whnf); first | (simp_all [Bool.and_assoc]; done) | (simp_all [Bool.and_assoc]; omega)), trivial⟩
                · refine ret1 Tryz.func164 Tryz.results164 wn_ () (by simp_all [ownP, Bool.and_assoc]) (fun w hs => hs.none)
              · refine go_seq ?_; refine go_region ⟨_, Tryz.func164⟩ rfl ?_; refine q0 rfl (o_eqI ?_); refine q0 rfl (o_assign ?_); refine rg_nil ?_; refine go_condI (fun h95 => ?_) (fun h95 => ?_)
                · refine go_seq ?_; refine go_cutS ([(6, .bool (faceRight t.r && within t.r dims))]) (fun hK => ?_) (fun base => ?_)
                  · refine go_region ⟨_, Tryz.func164⟩ rfl ?_; refine q0 rfl (o_fa ?_); refine q0 rfl (o_ld ?_); refine q0 rfl (o_call Tryz.call88 ((form_kind hf (by simp_all)).2.1 t.r vr) (fun x99 => ?_)); refine q0 rfl (o_move ?_); refine qI rfl rfl rfl wl_ (fun hg100 => o_fa ?_) (fun hg100 => ?_)
                    · refine qT rfl rfl rfl (o_ld ?_); refine qT rfl rfl rfl (o_move ?_); refine qT rfl rfl rfl (o_call Tryz.call219 (within_spec (form_kind hf (by simp_all)).2.2 t.r vr dims hd hl) (fun x104 => ?_)); refine q0 rfl (o_pickT ?_); refine q0 rfl (o_assign ?_); refine rg_nil ?_; exact hK _ ⟨(by (conv => lhs; whnf); first | (simp_all [Bool.and_assoc]; done) | (simp_all [Bool.and_assoc]; omega)), trivial⟩
                    · refine qF rfl rfl rfl ?_; refine qF rfl rfl rfl ?_; refine qF rfl rfl rfl ?_; refine q0 rfl (o_pickF ?_); refine q0 rfl (o_assign ?_); refine rg_nil ?_; exact hK _ ⟨(by (conv => lhs; whnf); first | (simp_all [Bool.and_assoc]; done) | (simp_all [Bool.and_assoc]; omega)), trivial⟩
                  · refine ret1 Tryz.func164 Tryz.results164 wn_ () (by simp_all [ownP, Bool.and_assoc]) (fun w hs => hs.none)
                · refine go_skip ?_; refine go_inBlock ?_; refine go_seq ?_; refine go_seq ?_; refine go_region ⟨_, Tryz.func164⟩ rfl ?_; refine q0 rfl (o_fa ?_); refine q0 rfl (o_ld ?_); refine q0 rfl (o_len ?_); refine q0 rfl (o_move ?_); refine rg_nil ?_; refine go_block ?_; refine go_loopI (X := Nat) (fun i => i ≤ t.sys.length ∧ ∀ j, j < i → ownB t dims (t.sys.getD j br0) = true) (fun i => [(2, .int .i64 dims), (3, .pointer (some ⟨b3, 0, none⟩)), (107, sl vs t.sys.length), (108, .int .i64 (t.sys.length : Int)), (109, .int .i64 (i : Int))]) (fun i => BLx t.sys vs VF VK2 :: RT t vr vk vs :: []) (fun i => [boxR b3 (tc t vr vk vs) 35]) (fun i => t.sys.length - i) (0) (⟨Nat.zero_le _, fun j hj => by omega⟩) (by exact ⟨rfl, rfl, rfl, rfl, rfl, trivial⟩) ?_ ?_
                  · exact fun w hs => hs.less (by simp +contextual)
                  · intro i base0 ⟨hi, hok⟩ next0; refine go_seq ?_; refine go_region ⟨_, Tryz.func164⟩ rfl ?_; refine q0 rfl (o_lss ?_); refine rg_nil ?_; refine go_seq ?_; refine go_condI (fun h110 => ?_) (fun h110 => ?_)
                    · have hlt : i < t.sys.length := by have := of_decide_eq_true h110; omega
                      obtain ⟨bk, o, hav⟩ := hA2 (by omega); refine go_skip ?_; refine go_seq ?_; refine go_block ?_; refine go_seq ?_; refine go_region ⟨_, Tryz.func164⟩ rfl ?_; refine q0 rfl (o_ixN ?_); refine q0 rfl (o_ldB ?_); refine q0 rfl (o_new fun b8 => ?_); refine q0 rfl (o_st ?_); refine rg_nil ?_; refine go_seq ?_; refine go_branch i hlt ?_; refine go_cutS ([(2, .int .i64 dims), (3, .pointer (some ⟨b3, 0, none⟩)), (107, sl vs t.sys.length), (108, .int .i64 (t.sys.length : Int)), (109, .int .i64 (i : Int)), (132, .bool (!(ownB t dims (t.sys.getD i br0))))]) (fun hK => ?_) (fun base => ?_)
                      · refine go_draw (pn := 1000000) (tn := false) (A := [0, 1, 3, 0, 8, 24, 63, 127, 255, 511, 1023, 2047, 4095, 8191, 16383, 32767, 16383, 131071, 262143, 524287]) (l := [0, 1, 2, 3, 4, 5, 6, 7, 8, 9, 10, 11, 12, 13, 14, 15, 16, 17, 18, 19]) (fin := []) Tab.mixed ⟨_, Tryz.func164⟩ (by rfl) ?_; refine n0 rfl (v_fa ?_); refine n0 rfl (v_ld ?_); refine n0 rfl (v_len ?_); refine n0 rfl (v_fa ?_); refine n0 rfl (v_ld ?_); refine n0 rfl (v_call Tryz.call172 (parts_spec t.kind) (fun x118 => ?_)); refine n0 rfl (v_neI ?_); refine n0 rfl (v_move ?_); refine nI rfl rfl rfl wl_ (fun hg120 => v_fa ?_) (fun hg120 => ?_)
                        · refine nT rfl rfl rfl (v_ld ?_); refine nT rfl rfl rfl (v_call Tryz.call88 ((form_sys hf hlt).2.1 _ (VF i)) (fun x123 => ?_)); refine nT rfl rfl rfl (v_not ?_); refine n0 rfl (v_pickF ?_); refine n0 rfl (v_move ?_); refine nI rfl rfl rfl wl_ (fun hg126 => v_fa ?_) (fun hg126 => ?_)
                          · refine nT rfl rfl rfl (v_ld ?_); refine nT rfl rfl rfl (v_move ?_); refine nT rfl rfl rfl (v_call Tryz.call219 (within_spec (form_sys hf hlt).2.2 _ (VF i) dims hd hl) (fun x130 => ?_)); refine nT rfl rfl rfl (v_not ?_); refine n0 rfl (v_pickF ?_); refine NV.done ?_; refine rg_nil ?_; exact hK _ ⟨rfl, rfl, rfl, rfl, rfl, (by (conv => lhs; whnf); first | (simp_all [ownB]; done) | (simp_all [ownB]; omega)), trivial⟩
                          · refine nF rfl rfl rfl ?_; refine nF rfl rfl rfl ?_; refine nF rfl rfl rfl ?_; refine nF rfl rfl rfl ?_; refine n0 rfl (v_pickT ?_); refine NV.done ?_; refine rg_nil ?_; exact hK _ ⟨rfl, rfl, rfl, rfl, rfl, (by (conv => lhs; whnf); first | (simp_all [ownB]; done) | (simp_all [ownB]; omega)), trivial⟩
                        · refine nF rfl rfl rfl ?_; refine nF rfl rfl rfl ?_; refine nF rfl rfl rfl ?_; refine n0 rfl (v_pickT ?_); refine n0 rfl (v_move ?_); refine nF rfl rfl rfl ?_; refine nF rfl rfl rfl ?_; refine nF rfl rfl rfl ?_; refine nF rfl rfl rfl ?_; refine nF rfl rfl rfl ?_; refine n0 rfl (v_pickT ?_); refine NV.done ?_; refine rg_nil ?_; exact hK _ ⟨rfl, rfl, rfl, rfl, rfl, (by (conv => lhs; whnf); first | (simp_all [ownB]; done) | (simp_all [ownB]; omega)), trivial⟩
                      · refine go_condI (fun h132 => ?_) (fun h132 => ?_)
                        · refine go_seq ?_; refine go_region ⟨_, Tryz.func164⟩ rfl ?_; refine q0 rfl (o_assign ?_); refine rg_nil ?_; have ha := all_getD_not hlt (by simpa using h132); refine ret1 Tryz.func164 Tryz.results164 wn_ () (by rw [ownP, ha]; clear hok ha h132; simp_all [Bool.and_assoc]) (fun w hs => hs.none)
                        · refine go_skip ?_; refine go_inBlock ?_; refine go_region ⟨_, Tryz.func164⟩ rfl ?_; refine q0 rfl (o_add ?_); refine q0 rfl (o_move ?_); refine rg_nil ?_; have hb : ownB t dims (t.sys.getD i br0) = true := by simpa using h132
                          refine go_state (fun w hs => ?_) (next0 (i + 1) _ ⟨hlt, fun j hj => (by rcases Nat.lt_succ_iff_lt_or_eq.mp hj with h | h; exact hok j h; subst h; exact hb)⟩ (by omega) ⟨rfl, rfl, rfl, rfl, rfl, trivial⟩); exact (hs.less (by simp +contextual)).drop
                    · have hge : i = t.sys.length := by have := of_decide_eq_false h110; omega
                      refine go_exit rfl ?_; refine go_seq ?_; refine go_region ⟨_, Tryz.func164⟩ rfl ?_; refine q0 rfl (o_fa ?_); refine q0 rfl (o_ld ?_); refine q0 rfl (o_len ?_); refine q0 rfl (o_eqI ?_); refine q0 rfl (o_assign ?_); refine rg_nil ?_; have ha := all_getD (t := t) (g := ownB t dims) (by rw [← hge]; exact hok); refine ret1 Tryz.func164 Tryz.results164 wn_ () (by rw [ownP, ha]; clear hok ha; simp_all [Bool.and_assoc]) (fun w hs => hs.none)
abbrev AllAt (t : T) : Prop := (plainT t = true ∨ FORM) → ∀ (vars dims : Int) (bound : Bool) vr vk vs, in64 vars → 0 ≤ dims → dims + depth t ≤ 1152921504606846976 → Spec Tryz.prog 86 #[.agg (tc t vr vk vs).toArray, .int .i64 vars, .int .i64 dims, .bool bound] [RT t vr vk vs] [] (fun _ : Unit => .bool (allP t vars dims bound)) (fun _ => []) (fun _ => [])
abbrev AllCap (b1 b2 b3 : Nat) : List Value := [.pointer (some ⟨b1, 0, none⟩), .pointer (some ⟨b2, 0, none⟩), .pointer (some ⟨b3, 0, none⟩)]
abbrev AllM (b1 b2 b3 : Nat) (vars dims : Int) (bound : Bool) : List Res := [boxR b1 [.int .i64 vars] 3, boxR b2 [.int .i64 dims] 3, boxR b3 [.bool bound] 4]
def bindsIn (v d : Int) : Prop := 0 ≤ v ∧ v ≤ 1 ∧ 0 ≤ d ∧ d ≤ 1
theorem binds_in (k i : Int) : bindsIn (binds k i).1 (binds k i).2 := by
  unfold binds bindsIn; repeat (split; (simp))
  simp
theorem parts_in {t : T} {k : T} {v d : Int} (h : (k, v, d) ∈ parts t) : bindsIn v d := by
  have hk : ∀ (kind : Int) (i : Nat) (ks : List T), (k, v, d) ∈ kidParts kind i ks → bindsIn v d := by
    intro kind i ks
    induction ks generalizing i with
    | nil => intro h; simp [kidParts] at h
    | cons a ks ih =>
      intro h; simp only [kidParts, List.mem_cons] at h; rcases h with h | h
      · have e : (v, d) = binds kind i := (Prod.mk.inj h).2; have := binds_in kind i; rw [← e] at this; exact this
      · exact ih _ h
  have hs : ∀ (kind : Int) (bs : List Br), (k, v, d) ∈ sysParts kind bs → bindsIn v d := by
    intro kind bs
    induction bs with
    | nil => intro h; simp [sysParts] at h
    | cons b bs ih =>
      intro h; simp only [sysParts, List.mem_append, List.mem_map] at h; rcases h with ⟨a, ha, e⟩ | h
      · have e2 := (Prod.mk.inj e).2; have e3 := (Prod.mk.inj e2); rw [← e3.1, ← e3.2]; unfold bindsIn more; split <;> simp
      · exact ih h
  unfold parts at h; rcases List.mem_append.mp h with h | h
  · exact hk _ _ _ h
  · exact hs _ _ h
theorem depth_mem {t : T} {p : Part} (h : p ∈ parts t) : depth p.1 < depth t := by
  obtain ⟨m, hm⟩ := List.mem_iff_getElem?.mp h; exact depth_part hm
theorem all1_walk (k : T) (vr vk vs : SH) (b1 b2 b3 : Nat) (vars dims v d : Int) (bound : Bool) (hv : in64 vars) (h0 : 0 ≤ dims) (hvd : bindsIn v d) (hl : dims + 1 + depth k ≤ 1152921504606846976) (hp : plainT k = true ∨ FORM) (ih : AllAt k) : Spec Tryz.prog 165 #[.agg (tc k vr vk vs).toArray, .int .i64 v, .int .i64 d, .pointer (some ⟨b1, 0, none⟩), .pointer (some ⟨b2, 0, none⟩), .pointer (some ⟨b3, 0, none⟩)] [RT k vr vk vs] (AllM b1 b2 b3 vars dims bound) (fun _ : Unit => .bool (allP k (IntKind.i64.wrap (vars + if vars < 0 then 0 else v)) (dims + d) bound)) (fun _ => []) (fun _ => AllM b1 b2 b3 vars dims bound) := by
  refine spec_go (args := [.agg (tc k vr vk vs).toArray, .int .i64 v, .int .i64 d, .pointer (some ⟨b1, 0, none⟩), .pointer (some ⟨b2, 0, none⟩), .pointer (some ⟨b3, 0, none⟩)]) Tryz.func165 Tryz.ntmps165 rfl (by exact Nat.le_of_ble_eq_true rfl) fun B hB => ?_
  obtain ⟨hv0, hv1, hd0, hd1⟩ := hvd; refine go_seq ?_; refine go_region ⟨_, Tryz.func165⟩ rfl ?_; refine q0 rfl (o_box fun b6 => ?_); refine q0 rfl (o_assign ?_); refine rg_nil ?_; refine go_seq ?_; refine go_seq ?_; refine go_region ⟨_, Tryz.func165⟩ rfl ?_; refine q0 rfl (o_ld ?_); refine q0 rfl (o_lss ?_); refine rg_nil ?_; refine go_cutS ([(1, .int .i64 (if vars < 0 then 0 else v)), (2, .int .i64 d), (3, .pointer (some ⟨b1, 0, none⟩)), (4, .pointer (some ⟨b2, 0, none⟩)), (5, .pointer (some ⟨b3, 0, none⟩)), (6, .pointer (some ⟨b6, 0, none⟩))]) (fun hK => ?_) (fun base => ?_)
  · refine go_condI (fun h11 => ?_) (fun h11 => ?_)
    · refine go_region ⟨_, Tryz.func165⟩ rfl ?_; refine q0 rfl (o_assign ?_); refine rg_nil ?_; exact hK _ ⟨(by first | (rw [if_pos (of_decide_eq_true h11)]; rfl) | (rw [if_neg (of_decide_eq_false h11)]; rfl)), rfl, rfl, rfl, rfl, rfl, trivial⟩
    · refine go_skip ?_; exact hK _ ⟨(by first | (rw [if_pos (of_decide_eq_true h11)]; rfl) | (rw [if_neg (of_decide_eq_false h11)]; rfl)), rfl, rfl, rfl, rfl, rfl, trivial⟩
  · refine go_seq ?_; refine go_region ⟨_, Tryz.func165⟩ rfl ?_; refine q0 rfl (o_lds ?_); refine q0 rfl (o_ld ?_); refine q0 rfl (o_move ?_); refine q0 rfl (o_addW ?_); refine q0 rfl (o_ld ?_); refine q0 rfl (o_move ?_); refine q0 rfl (o_add ?_); refine q0 rfl (o_ld ?_); refine q0 rfl (o_call Tryz.call86 (ih hp (IntKind.i64.wrap (vars + if vars < 0 then 0 else v)) (dims + d) bound vr vk vs (wrap_in _) (by omega) (by omega)) (fun x20 => ?_)); refine q0 rfl (o_assign ?_); refine rg_nil ?_; refine ret1 Tryz.func165 Tryz.results165 wn_ () rfl (fun w hs => (hs.less (by simp)).drop)
theorem all_walk (t : T) (hp : plainT t = true ∨ FORM) (ih : ∀ p, p ∈ parts t → AllAt p.1) (vars dims : Int) (bound : Bool) (vr vk vs : SH) (hv : in64 vars) (h0 : 0 ≤ dims) (hl : dims + depth t ≤ 1152921504606846976) : Spec Tryz.prog 86 #[.agg (tc t vr vk vs).toArray, .int .i64 vars, .int .i64 dims, .bool bound] [RT t vr vk vs] [] (fun _ : Unit => .bool (allP t vars dims bound)) (fun _ => []) (fun _ => []) := by
  refine spec_go (args := [.agg (tc t vr vk vs).toArray, .int .i64 vars, .int .i64 dims, .bool bound]) Tryz.func86 Tryz.ntmps86 rfl (by exact Nat.le_of_ble_eq_true rfl) fun B hB => ?_
  refine go_seq ?_; refine go_region ⟨_, Tryz.func86⟩ rfl ?_; refine q0 rfl (o_box fun b4 => ?_); refine q0 rfl (o_box fun b5 => ?_); refine q0 rfl (o_box fun b6 => ?_); refine q0 rfl (o_box fun b7 => ?_); refine q0 rfl (o_assign ?_); refine rg_nil ?_; refine go_seq ?_; refine go_seq ?_; refine go_cutS ([(4, .pointer (some ⟨b4, 0, none⟩)), (5, .pointer (some ⟨b5, 0, none⟩)), (6, .pointer (some ⟨b6, 0, none⟩)), (7, .pointer (some ⟨b7, 0, none⟩)), (20, .bool ((bound && decide (24 < dims)) || !(ownP t vars dims)))]) (fun hK => ?_) (fun base => ?_)
  · refine go_region ⟨_, Tryz.func86⟩ rfl ?_; refine q0 rfl (o_ld ?_); refine q0 rfl (o_move ?_); refine qI rfl rfl rfl wl_ (fun hg10 => o_ld ?_) (fun hg10 => ?_)
    · refine qT rfl rfl rfl (o_gtr ?_); refine q0 rfl (o_pickT ?_); refine q0 rfl (o_move ?_); refine qI rfl rfl rfl wl_ (fun hg14 => o_lds ?_) (fun hg14 => ?_)
      · refine qT rfl rfl rfl (o_ld ?_); refine qT rfl rfl rfl (o_ld ?_); refine qT rfl rfl rfl (o_call Tryz.call164 (own_spec t (plain_node hp) vr vk vs vars dims h0 (by unfold in64; omega)) (fun x18 => ?_)); refine qT rfl rfl rfl (o_not ?_); refine q0 rfl (o_pickF ?_); refine rg_nil ?_; exact hK _ ⟨rfl, rfl, rfl, rfl, (by (conv => lhs; whnf); first | (simp_all [Bool.and_assoc]; done) | (simp_all [Bool.and_assoc]; omega)), trivial⟩
      · refine qF rfl rfl rfl ?_; refine qF rfl rfl rfl ?_; refine qF rfl rfl rfl ?_; refine qF rfl rfl rfl ?_; refine q0 rfl (o_pickT ?_); refine rg_nil ?_; exact hK _ ⟨rfl, rfl, rfl, rfl, (by (conv => lhs; whnf); first | (simp_all [Bool.and_assoc]; done) | (simp_all [Bool.and_assoc]; omega)), trivial⟩
    · refine qF rfl rfl rfl ?_; refine q0 rfl (o_pickF ?_); refine q0 rfl (o_move ?_); refine qT rfl rfl rfl (o_lds ?_); refine qT rfl rfl rfl (o_ld ?_); refine qT rfl rfl rfl (o_ld ?_); refine qT rfl rfl rfl (o_call Tryz.call164 (own_spec t (plain_node hp) vr vk vs vars dims h0 (by unfold in64; omega)) (fun x18 => ?_)); refine qT rfl rfl rfl (o_not ?_); refine q0 rfl (o_pickF ?_); refine rg_nil ?_; exact hK _ ⟨rfl, rfl, rfl, rfl, (by (conv => lhs; whnf); first | (simp_all [Bool.and_assoc]; done) | (simp_all [Bool.and_assoc]; omega)), trivial⟩
  · refine go_condI (fun h20 => ?_) (fun h20 => ?_)
    · refine go_seq ?_; refine go_region ⟨_, Tryz.func86⟩ rfl ?_; refine q0 rfl (o_assign ?_); refine rg_nil ?_; refine ret1 Tryz.func86 Tryz.results86 wn_ () (by rw [allP_eq, h20]; rfl) (fun w hs => hs.none)
    · refine go_skip ?_; refine go_seq ?_; refine go_region ⟨_, Tryz.func86⟩ rfl ?_; refine q0 rfl (o_lds ?_); refine q0 rfl (o_func ?_); have hE := each_bool t vr vk vs 165 (AllCap b5 b6 b7) [] (AllM b5 b6 b7 vars dims bound) (fun p => allP p.1 (IntKind.i64.wrap (vars + if vars < 0 then 0 else p.2.1)) (dims + p.2.2) bound) Tryz.call165 (fun k v d hm vr vk vs => all1_walk k vr vk vs b5 b6 b7 vars dims v d bound hv h0 (parts_in hm) (by have := depth_mem hm; simp only at this; omega) (plain_part hp hm) (ih _ hm)); refine q0 rfl (o_call Tryz.call98 (hE) (fun x23 => ?_)); refine q0 rfl (o_assign ?_); refine rg_nil ?_; refine ret1 Tryz.func86 Tryz.results86 wn_ () (by rw [allP_eq, h20]; rfl) (fun w hs => hs.none)
theorem all_spec : ∀ t : T, AllAt t := T.ind fun t ih hp vars dims bound vr vk vs hv h0 hl => all_walk t hp ih vars dims bound vr vk vs hv h0 hl
theorem formed_spec (t : T) (hp : plainT t = true ∨ FORM) (vr vk vs : SH) (hsz : size t ≤ 1152921504606846) : Spec Tryz.prog 32 #[.agg (tc t vr vk vs).toArray] [RT t vr vk vs] [] (fun _ : Unit => .int .i64 (formedP t)) (fun _ => []) (fun _ => []) := by
  refine spec_go (args := [.agg (tc t vr vk vs).toArray]) Tryz.func32 Tryz.ntmps32 rfl (by exact Nat.le_of_ble_eq_true rfl) fun B hB => ?_
  have hds := depth_le_size t; refine go_seq ?_; refine go_region ⟨_, Tryz.func32⟩ rfl ?_; refine q0 rfl (o_box fun b1 => ?_); refine q0 rfl (o_assign ?_); refine rg_nil ?_; refine go_seq ?_; refine go_seq ?_; refine go_region ⟨_, Tryz.func32⟩ rfl ?_; refine q0 rfl (o_lds ?_); refine q0 rfl (o_call Tryz.call85 (sized_spec t vr vk vs) (fun x5 => ?_)); refine q0 rfl (o_assign ?_); refine rg_nil ?_; refine go_seq ?_; refine go_region ⟨_, Tryz.func32⟩ rfl ?_; refine q0 rfl (o_move ?_); refine q0 rfl (o_neI ?_); refine rg_nil ?_; refine go_condI (fun h7 => ?_) (fun h7 => ?_)
  · have hs := of_decide_eq_true h7; refine go_seq ?_; refine go_region ⟨_, Tryz.func32⟩ rfl ?_; refine q0 rfl (o_move ?_); refine q0 rfl (o_assign ?_); refine rg_nil ?_; refine ret1 Tryz.func32 Tryz.results32 wn_ () (by rw [formedP, if_pos hs]) (fun w hs => hs.none)
  · have hs := of_decide_eq_false h7; refine go_skip ?_; refine go_seq ?_; refine go_seq ?_; refine go_region ⟨_, Tryz.func32⟩ rfl ?_; refine q0 rfl (o_lds ?_); refine q0 rfl (o_call Tryz.call86 (all_spec t hp (-1) 24 false vr vk vs (by unfold in64; omega) (by omega) (by omega)) (fun x10 => ?_)); refine q0 rfl (o_not ?_); refine rg_nil ?_; refine go_condI (fun h11 => ?_) (fun h11 => ?_)
    · refine go_seq ?_; refine go_region ⟨_, Tryz.func32⟩ rfl ?_; refine q0 rfl (o_assign ?_); refine rg_nil ?_; refine ret1 Tryz.func32 Tryz.results32 wn_ () (by rw [formedP, if_neg hs]; simp_all) (fun w hs => hs.none)
    · refine go_skip ?_; refine go_seq ?_; refine go_region ⟨_, Tryz.func32⟩ rfl ?_; refine q0 rfl (o_assign ?_); refine rg_nil ?_; refine ret1 Tryz.func32 Tryz.results32 wn_ () (by rw [formedP, if_neg hs]; simp_all) (fun w hs => hs.none)
end Go.Hy
namespace Go.Hy
theorem and24_lt (s : Nat) : s &&& 16777215 < 16777216 := by rw [and24]; exact Nat.mod_lt _ (by decide)
theorem fDims_lt (l : List Cl) : fDims l < 16777216 := by rw [fDims_eq]; exact and24_lt _
end Go.Hy
namespace Go.Hy
theorem size_pos' (t : T) : 1 ≤ size t := by
  rw [size_eq]
  have : ∀ (l : List Part) (a : Nat), a ≤ l.foldl (fun a p => a + size p.1) a := by
    intro l
    induction l with
    | nil => intro a; exact Nat.le_refl _
    | cons p l ih => intro a; exact Nat.le_trans (Nat.le_add_right _ _) (ih _)
  exact this _ _
end Go.Hy
namespace Go.Hy
theorem binds_01 (k i : Int) : 0 ≤ (binds k i).1 ∧ (binds k i).1 ≤ 1 ∧ 0 ≤ (binds k i).2 ∧ (binds k i).2 ≤ 1 := by
  unfold binds
  repeat (first | split | (refine ⟨?_, ?_, ?_, ?_⟩ <;> simp))
theorem size_part_lt {t : T} {p : Part} (h : p ∈ parts t) : size p.1 < size t := by
  obtain ⟨m, hm, e⟩ := List.mem_iff_getElem.mp h
  have h1 := size_part (t := t) (m := m) (p := p) (by rw [List.getElem?_eq_getElem hm, e])
  have h2 : 1 ≤ sizeUpto t m := by
    unfold sizeUpto pfold
    have : ∀ (l : List Part) (a : Nat), a ≤ l.foldl (fun a p => a + size p.1) a := by
      intro l
      induction l with
      | nil => intro a; exact Nat.le_refl _
      | cons p l ih => intro a; exact Nat.le_trans (Nat.le_add_right _ _) (ih _)
    exact this _ _
  omega
end Go.Hy
namespace Go.Hy
@[simp] theorem qE_def (q : QP) : qE q = RT q.1.1 q.1.2.1 q.1.2.2.1 q.1.2.2.2 := rfl
@[simp] theorem ipE_def (q : IP) : ipE q = IL q.1 q.2 := rfl
end Go.Hy
namespace Go.Hy
section
variable {α : Type} {B : Base} {Γ : List Fact} {Ms : List Res} {w : World} {E : α → Fact} {l : List α}
end
end Go.Hy
namespace Go.Hy
/-! ### Lifting: masks, clauses, formulas -/
def maskLift (s : Nat) (f b : Int) : Int × Nat :=
  if f < 0 ∨ b < 0 then (2, 0) else
  if andNot32 (s &&& 16777215) (2 ^ (min f.toNat 24) - 1) = 0 then (0, (s &&& 16777215) &&& (2 ^ (min f.toNat 24) - 1)) else
  if 24 ≤ b ∨ 16777215 < andNot32 (s &&& 16777215) (2 ^ (min f.toNat 24) - 1) * 2 ^ b.toNat then (10, 0) else
  (0, ((s &&& 16777215) &&& (2 ^ (min f.toNat 24) - 1)) ||| (andNot32 (s &&& 16777215) (2 ^ (min f.toNat 24) - 1) * 2 ^ b.toNat))
theorem andNot32_bit (a b i : Nat) : (andNot32 a b).testBit i = (decide (i < 32) && a.testBit i && !b.testBit i) := by
  unfold andNot32
  rw [BitVec.testBit_toNat]
  by_cases h : i < 32
  · rw [BitVec.getLsbD_and, BitVec.getLsbD_not, BitVec.getLsbD_ofNat, BitVec.getLsbD_ofNat]
    simp [h]
  · have : (BitVec.ofNat 32 a &&& ~~~BitVec.ofNat 32 b).getLsbD i = false := BitVec.getLsbD_of_ge _ _ (by omega)
    rw [this]; simp [h]
theorem and24_bit (s i : Nat) : (s &&& 16777215).testBit i = (decide (i < 24) && s.testBit i) := by
  rw [and24, Nat.testBit_mod_two_pow]
theorem andNot_lt {q m : Nat} (h : q < 16777216) : andNot32 q m < 16777216 := by
  refine Nat.lt_pow_two_of_testBit (n := 24) _ (fun i hi => ?_)
  rw [andNot32_bit, Nat.testBit_lt_two_pow (x := q) (Nat.lt_of_lt_of_le h (Nat.pow_le_pow_right (n := 2) (by decide) hi))]
  simp
theorem maskLift_lt (s : Nat) (f b : Int) : (maskLift s f b).2 < 16777216 := by
  unfold maskLift
  split
  · decide
  · split
    · exact Nat.lt_of_le_of_lt Nat.and_le_left (and24_lt s)
    · split
      · decide
      · refine Nat.or_lt_two_pow (n := 24) ?_ ?_
        · exact Nat.lt_of_le_of_lt Nat.and_le_left (and24_lt s)
        · rename_i h; simp only [not_or] at h; have := h.2; omega
def clLift (c : Cl) (f b : Int) : Int × Cl :=
  if right24 c = false then (2, cl0) else
  if (maskLift c.pos f b).1 ≠ 0 then ((maskLift c.pos f b).1, cl0) else
  if (maskLift c.neg f b).1 ≠ 0 then ((maskLift c.neg f b).1, cl0) else
  (0, ⟨(maskLift c.pos f b).2, (maskLift c.neg f b).2⟩)
theorem clLift_u32 (c : Cl) (f b : Int) : u32 (clLift c f b).2 := by
  have h1 := maskLift_lt c.pos f b
  have h2 := maskLift_lt c.neg f b
  unfold clLift
  split
  · exact ⟨(by decide : (0 : Nat) < 4294967296), (by decide : (0 : Nat) < 4294967296)⟩
  · split
    · exact ⟨(by decide : (0 : Nat) < 4294967296), (by decide : (0 : Nat) < 4294967296)⟩
    · split
      · exact ⟨(by decide : (0 : Nat) < 4294967296), (by decide : (0 : Nat) < 4294967296)⟩
      · exact ⟨by show (maskLift c.pos f b).2 < _; omega, by show (maskLift c.neg f b).2 < _; omega⟩
/-! Formulas, clause by clause. -/
def foldC (g : Cl → Int × Cl) (l : List Cl) : Int × List Cl := match l.find? (fun c => (g c).1 ≠ 0) with
  | some c => ((g c).1, [])
  | none => (0, l.map fun c => (g c).2)
theorem foldC_bad {g : Cl → Int × Cl} {l : List Cl} {i : Nat} (hi : i < l.length) (h0 : ∀ j, j < i → (g (l.getD j cl0)).1 = 0) (h : (g (l.getD i cl0)).1 ≠ 0) : foldC g l = ((g (l.getD i cl0)).1, []) := by
  have : l.find? (fun c => (g c).1 ≠ 0) = some (l.getD i cl0) := by
    rw [List.find?_eq_some_iff_getElem]
    rw [getD_get (d := cl0) hi] at h ⊢
    refine ⟨by simpa using h, i, hi, rfl, fun j hj => ?_⟩
    have := h0 j hj
    rw [getD_get (d := cl0) (by omega)] at this
    simp [this]
  rw [foldC, this]
theorem foldC_ok {g : Cl → Int × Cl} {l : List Cl} (h0 : ∀ j, j < l.length → (g (l.getD j cl0)).1 = 0) : foldC g l = (0, l.map fun c => (g c).2) := by
  have : l.find? (fun c => (g c).1 ≠ 0) = none := by
    rw [List.find?_eq_none]
    intro x hx
    obtain ⟨j, hj, e⟩ := List.mem_iff_getElem.mp hx
    have := h0 j hj
    rw [getD_get (d := cl0) hj, e] at this
    simp [this]
  rw [foldC, this]
def formLift (l : List Cl) (f b : Int) : Int × List Cl :=
  if fRight l = false then (2, []) else
  if (foldC (fun c => clLift c f b) l).1 ≠ 0 then ((foldC (fun c => clLift c f b) l).1, []) else leastF (foldC (fun c => clLift c f b) l).2
section
variable {C : Type} {A : Tr C} {t : T} {c : C} {e : Int}
theorem trav_own_bad (h : A.own c t.kind t.n t.name t.r = .bad e) : trav A t c = .bad e := by rw [trav_eq, h]; rfl
theorem trav_sys_bad {p : Int × List Cl} {s : Nat} {l : List T} {bs : List Br} (h : A.own c t.kind t.n t.name t.r = .ok (.inr p)) (hl : travL A t.kind 0 t.kids c = .ok l) (hs : s < t.sys.length) (hb : travB A t.kind (t.sys.take s) c = .ok bs) (hf : A.face c (t.sys.getD s br0).face = .bad e ∨ ∃ f', A.face c (t.sys.getD s br0).face = .ok (some f') ∧ travS A t.kind (t.sys.getD s br0).kids c = .bad e) : trav A t c = .bad e := by
  have h1 : travB A t.kind (t.sys.take (s + 1)) c = .bad e := by
    rw [take_succ_getD (d := br0) hs, travB_snoc, hb]
    simp only [Res1.bind]
    rcases hf with hf | ⟨f', hf, h2⟩
    · rw [hf]
    · rw [hf]; simp only; rw [h2]
  have h2 := travB_bad (m := t.sys.drop (s + 1)) h1
  rw [List.take_append_drop] at h2
  rw [trav_eq, h]; simp only [Res1.bind]; rw [hl]; simp only; rw [h2]
theorem travB_at_ok {k : Int} {ss : List Br} {s : Nat} {bs : List Br} {f' : List Cl} {ks : List T} (hs : s < ss.length) (hb : travB A k (ss.take s) c = .ok bs) (hf : A.face c (ss.getD s br0).face = .ok (some f')) (hk : travS A k (ss.getD s br0).kids c = .ok ks) : travB A k (ss.take (s + 1)) c = .ok (bs ++ [.mk f' ks]) := by
  rw [take_succ_getD (d := br0) hs, travB_snoc, hb]
  simp only [Res1.bind]
  rw [hf]; simp only; rw [hk]
theorem trav_ok_of {p : Int × List Cl} {l : List T} {bs : List Br} (h : A.own c t.kind t.n t.name t.r = .ok (.inr p)) (hl : travL A t.kind 0 t.kids c = .ok l) (hb : travB A t.kind t.sys c = .ok bs) : trav A t c = .ok (.mk t.kind p.1 t.name p.2 l bs) := by
  rw [trav_eq, h]; simp only [Res1.bind]; rw [hl]; simp only; rw [hb]
end
theorem foldC_u32 {g : Cl → Int × Cl} {l : List Cl} (h : ∀ c, u32 (g c).2) : ∀ c, c ∈ (foldC g l).2 → u32 c := by
  intro c hc
  unfold foldC at hc
  split at hc
  · cases hc
  · obtain ⟨d, _, rfl⟩ := List.mem_map.mp hc; exact h d
theorem foldC_len {g : Cl → Int × Cl} {l : List Cl} : (foldC g l).2.length ≤ l.length := by
  unfold foldC
  split <;> simp
theorem more_01 (k : Int) : 0 ≤ more k ∧ more k ≤ 1 := by unfold more; split <;> omega
/-! ### What is guarded -/
theorem h0_er : h0.er = t0 := by simp [h0, HT.er, HT.erL, HT.erB, t0]
theorem St.h0R {B : Base} {Γ : List Fact} {Ms : List Res} {w : World} (y : Tys) (hs : St B Γ Ms w) : St B Γ (bigR (treeR y h0) :: Ms) w := by
  have h1 := ((((hs.bigNil).bigNil).rowS0 2 y.b).rowS0 6 y.t).rowS0 2 y.c
  exact St.joinT (y := y) (k := 0) (n := 0) (nm := ByteArray.mk #[]) (r := []) (v := nul) (u := nul) (x := nul) (ks := []) (ss := []) rfl rfl rfl rfl rfl rfl (by simpa [kidsR, brsR] using h1)
/-! ### A tree of the caller's own, known for good -/
theorem Spec.settleT {P : Program} {k : FuncId} {args : Array Value} {pre : List Fact} (y : Tys) {u : T} (g : Value → Value) (h : Spec P k args pre [] (fun x : {h : HT // h.er = u} => g (.agg (tc u x.1.vr x.1.vk x.1.vs).toArray)) (fun _ => []) (fun x => [bigR (treeR y x.1)])) (hok : ∀ ok w, St ⟨ok, domAll [], w⟩ pre [] w → okT u) :
    Spec P k args pre [] (fun x : SH × SH × SH => g (.agg (tc u x.1 x.2.1 x.2.2).toArray)) (fun x => [RT u x.1 x.2.1 x.2.2]) (fun _ => []) := fun ok w hk hs => (h ok w hk hs).mono fun e w' hh => by
  obtain ⟨x, he, hs'⟩ := hh
  have h1 : St ⟨ok, domAll [], w⟩ [] (treeR y x.1 ++ []) w' := hs'.unpack
  have h2 := St.settleT y trivial x.1 (by rw [x.2]; exact hok ok w hs) h1
  rw [x.2] at h2
  exact ⟨(x.1.vr, x.1.vk, x.1.vs), he, h2⟩
theorem SpecR.settleT {P : Program} {Te : TypeId} {k : FuncId} {args : Array Value} {pre : List Fact} (y : Tys) {r : Res1 T} (h : SpecR P Te k args pre r (fun (u : T) => fun x : {h : HT // h.er = u} => .agg (tc u x.1.vr x.1.vk x.1.vs).toArray) (fun _ _ => []) (fun (u : T) => fun x : {h : HT // h.er = u} => [bigR (treeR y x.1)])) (hok : ∀ u, r = .ok u → ∀ ok w, St ⟨ok, domAll [], w⟩ pre [] w → okT u) :
    SpecR P Te k args pre r (fun (u : T) => fun x : SH × SH × SH => .agg (tc u x.1 x.2.1 x.2.2).toArray) (fun u x => [RT u x.1 x.2.1 x.2.2]) (fun _ _ => []) := ⟨fun u hu => Spec.settleT y (fun v => v) (h.1 u hu) (hok u hu), h.2⟩
abbrev rowOk (l : List Cl) : Prop := (∀ c, c ∈ l → u32 c) ∧ l.length * 8 ≤ reach
section
variable {C : Type} {A : Tr C}
mutual
theorem trav_okT (ho : ∀ c k n nm r p, in64 k → in64 n → rowOk r → A.own c k n nm r = .ok (.inr p) → in64 p.1 ∧ rowOk p.2) (hi : ∀ c k n nm r u, A.own c k n nm r = .ok (.inl u) → okT u) (hf : ∀ c f f', rowOk f → A.face c f = .ok (some f') → rowOk f') : ∀ (t : T) (c : C) (u : T), okT t → trav A t c = .ok u → okT u
  | .mk k n nm r ks ss, c, u, h, hu => by
    simp only [okT] at h
    obtain ⟨h1, h2, h3, h4, h5, h6, h7, h8⟩ := h
    rw [trav_eq] at hu
    simp only [T.kind, T.n, T.name, T.r, T.kids, T.sys] at hu
    obtain ⟨o, h9, hu⟩ := Res1.bind_ok hu
    cases o with
    | inl v => injection hu with hu; subst hu; exact hi _ _ _ _ _ _ h9
    | inr p =>
      obtain ⟨ks', h10, hu⟩ := Res1.bind_ok hu
      obtain ⟨ss', h11, hu⟩ := Res1.bind_ok hu
      injection hu with hu
      subst hu
      obtain ⟨p1, p2⟩ := ho _ _ _ _ _ _ h1 h2 h4 h9
      simp only [okT]
      exact ⟨h1, p1, h3, p2, by rw [travL_len h10]; exact h5, Nat.le_trans (Nat.mul_le_mul_right _ (travB_len h11)) h6, travL_okT ho hi hf ks 0 c ks' h7 h10, travB_okT ho hi hf ss c ss' h8 h11⟩
theorem travL_okT (ho : ∀ c k n nm r p, in64 k → in64 n → rowOk r → A.own c k n nm r = .ok (.inr p) → in64 p.1 ∧ rowOk p.2) (hi : ∀ c k n nm r u, A.own c k n nm r = .ok (.inl u) → okT u) (hf : ∀ c f f', rowOk f → A.face c f = .ok (some f') → rowOk f') {kd : Int} : ∀ (ts : List T) (i : Nat) (c : C) (us : List T), okL ts → travL A kd i ts c = .ok us → okL us
  | [], i, c, us, h, hu => by rw [travL_nil] at hu; injection hu with hu; subst hu; simp only [okL]
  | t :: ts, i, c, us, h, hu => by
    simp only [okL] at h
    rw [travL_cons] at hu
    obtain ⟨c', _, hu⟩ := Res1.bind_ok hu
    obtain ⟨t', h2, hu⟩ := Res1.bind_ok hu
    obtain ⟨ts', h3, hu⟩ := Res1.bind_ok hu
    injection hu with hu
    subst hu
    simp only [okL]
    exact ⟨trav_okT ho hi hf t c' t' h.1 h2, travL_okT ho hi hf ts (i + 1) c ts' h.2 h3⟩
theorem travS_okT (ho : ∀ c k n nm r p, in64 k → in64 n → rowOk r → A.own c k n nm r = .ok (.inr p) → in64 p.1 ∧ rowOk p.2) (hi : ∀ c k n nm r u, A.own c k n nm r = .ok (.inl u) → okT u) (hf : ∀ c f f', rowOk f → A.face c f = .ok (some f') → rowOk f') {kd : Int} : ∀ (ts : List T) (c : C) (us : List T), okL ts → travS A kd ts c = .ok us → okL us
  | [], c, us, h, hu => by rw [travS_nil] at hu; injection hu with hu; subst hu; simp only [okL]
  | t :: ts, c, us, h, hu => by
    simp only [okL] at h
    rw [travS_cons] at hu
    obtain ⟨c', _, hu⟩ := Res1.bind_ok hu
    obtain ⟨t', h2, hu⟩ := Res1.bind_ok hu
    obtain ⟨ts', h3, hu⟩ := Res1.bind_ok hu
    injection hu with hu
    subst hu
    simp only [okL]
    exact ⟨trav_okT ho hi hf t c' t' h.1 h2, travS_okT ho hi hf ts c ts' h.2 h3⟩
theorem travB_okT (ho : ∀ c k n nm r p, in64 k → in64 n → rowOk r → A.own c k n nm r = .ok (.inr p) → in64 p.1 ∧ rowOk p.2) (hi : ∀ c k n nm r u, A.own c k n nm r = .ok (.inl u) → okT u) (hf : ∀ c f f', rowOk f → A.face c f = .ok (some f') → rowOk f') {kd : Int} : ∀ (bs : List Br) (c : C) (us : List Br), okB bs → travB A kd bs c = .ok us → okB us
  | [], c, us, h, hu => by rw [travB_nil] at hu; injection hu with hu; subst hu; simp only [okB]
  | .mk f ks :: bs, c, us, h, hu => by
    simp only [okB] at h
    obtain ⟨h1, h2, h3, h4⟩ := h
    rw [travB_cons] at hu
    simp only [Br.face, Br.kids] at hu
    obtain ⟨o, h5, hu⟩ := Res1.bind_ok hu
    cases o with
    | none => exact travB_okT ho hi hf bs c us h4 hu
    | some f' =>
      obtain ⟨ks', h6, hu⟩ := Res1.bind_ok hu
      obtain ⟨bs', h7, hu⟩ := Res1.bind_ok hu
      injection hu with hu
      subst hu
      simp only [okB]
      exact ⟨hf _ _ _ h1 h5, by rw [travS_len h6]; exact h2, travS_okT ho hi hf ks c ks' h3 h6, travB_okT ho hi hf bs c bs' h4 h7⟩
end
end
theorem rowOk_nil : rowOk [] := ⟨fun c hc => (by cases hc), by unfold reach; decide⟩
theorem leastF_ok {l : List Cl} (h : ∀ c, c ∈ l → u32 c) : rowOk (leastF l).2 := by
  unfold leastF
  split
  · exact rowOk_nil
  · split
    · exact rowOk_nil
    · rename_i h64
      exact ⟨fun c hc => h c (refLeast_mem.mp hc).1, by show (refLeast l).length * 8 ≤ reach; unfold reach; omega⟩
theorem formLift_ok (l : List Cl) (f b : Int) : rowOk (formLift l f b).2 := by
  unfold formLift
  split
  · exact rowOk_nil
  · split
    · exact rowOk_nil
    · exact leastF_ok (foldC_u32 (fun c => clLift_u32 c f b))
theorem okT_t0 : okT t0 := by simp [t0, okT, okL, okB, in64, cap47, reach]; decide
def most (b : Int) : Int := IntKind.i64.wrap (1000000 - b)
end Go.Hy
namespace Go.Hy
/-! ### A term of which every node is as it may be -/
def headOK (k n : Int) (nm : ByteArray) (r : List Cl) : Prop :=
  (k ≠ 1 → n = 0) ∧ (k ≠ 2 → nm.toList = (ByteArray.mk #[]).toList) ∧ (k = 1 → r = [] ∧ 0 ≤ n) ∧ (k = 2 → r = [] ∧ nameOK nm = true) ∧ (k = 13 ∨ k = 21 ∨ k = 26 → fRight r = true) ∧ (k = 14 → faceRight r = true) ∧ (k ≠ 13 ∧ k ≠ 21 ∧ k ≠ 26 ∧ k ≠ 14 → r = [])
mutual
def fineT : T → Prop
  | .mk k n nm r ks ss => headOK k n nm r ∧ kidsN k = (ks.length : Int) ∧ (partsN k = 0 → ss = []) ∧ fineL ks ∧ fineB k ss
def fineL : List T → Prop
  | [] => True
  | t :: ts => fineT t ∧ fineL ts
def fineB (k : Int) : List Br → Prop
  | [] => True
  | .mk f ks :: bs => (ks.length : Int) = partsN k ∧ faceRight f = true ∧ fineL ks ∧ fineB k bs
end
/-! ### What a way keeps -/
section
variable {C : Type} {A : Tr C}
end
/-! ### One way, and then another one -/
section
variable {CA CB CC : Type} {A : Tr CA} {B : Tr CB} {D : Tr CC} (R : CA → CB → CC → Prop)
variable {R}
end
/-! ### Where one way is told, another one is -/
section
variable {CA CC : Type} {A : Tr CA} {D : Tr CC} (R : CA → CC → Prop)
structure Told : Prop where
  inl : ∀ ca cc k n nm r u, R ca cc → headOK k n nm r → A.own ca k n nm r = .ok (.inl u) → ∃ w, D.own cc k n nm r = .ok (.inl w)
  inr : ∀ ca cc k n nm r p, R ca cc → headOK k n nm r → A.own ca k n nm r = .ok (.inr p) → ∃ w, D.own cc k n nm r = .ok w
  none : ∀ ca cc f, R ca cc → faceRight f = true → A.face ca f = .ok none → D.face cc f = .ok none
  some : ∀ ca cc f f', R ca cc → faceRight f = true → A.face ca f = .ok (some f') → ∃ w, D.face cc f = .ok w
  kid : ∀ ca cc b ca', R ca cc → A.kid ca b = .ok ca' → ∃ cc', D.kid cc b = .ok cc' ∧ R ca' cc'
variable {R}
theorem Res1.bind_ex {α β : Type} {x : Res1 α} {k : α → Res1 β} (h : ∃ a, x = .ok a) (h2 : ∀ a, x = .ok a → ∃ b, k a = .ok b) : ∃ b, x.bind k = .ok b := by
  obtain ⟨a, ha⟩ := h
  obtain ⟨b, hb⟩ := h2 a ha
  exact ⟨b, by rw [ha]; exact hb⟩
mutual
theorem told (F : Told (A := A) (D := D) R) : ∀ {t u : T} {ca : CA} {cc : CC}, fineT t → R ca cc → trav A t ca = .ok u → ∃ w, trav D t cc = .ok w
  | .mk k n nm r ks ss, u, ca, cc, h, hr, hu => by
    simp only [fineT] at h
    obtain ⟨h1, h2, h3, h4, h5⟩ := h
    rw [trav_eq] at hu
    simp only [T.kind, T.n, T.name, T.r, T.kids, T.sys] at hu
    obtain ⟨o, h9, hu⟩ := Res1.bind_ok hu
    rw [trav_eq]
    simp only [T.kind, T.n, T.name, T.r, T.kids, T.sys]
    cases o with
    | inl v =>
      obtain ⟨w, hw⟩ := F.inl _ _ _ _ _ _ _ hr h1 h9
      exact ⟨w, by rw [hw]; rfl⟩
    | inr p =>
      obtain ⟨ks', h10, hu⟩ := Res1.bind_ok hu
      obtain ⟨ss', h11, hu⟩ := Res1.bind_ok hu
      refine Res1.bind_ex (F.inr _ _ _ _ _ _ _ hr h1 h9) (fun o _ => ?_)
      cases o with
      | inl v => exact ⟨v, rfl⟩
      | inr q =>
        refine Res1.bind_ex (toldL F h4 hr h10) (fun a _ => Res1.bind_ex (toldB F h5 hr h11) (fun b _ => ⟨_, rfl⟩))
theorem toldL (F : Told (A := A) (D := D) R) {kd : Int} : ∀ {ts us : List T} {i : Nat} {ca : CA} {cc : CC}, fineL ts → R ca cc → travL A kd i ts ca = .ok us → ∃ w, travL D kd i ts cc = .ok w
  | [], us, i, ca, cc, h, hr, hu => ⟨[], travL_nil _ _ _⟩
  | t :: ts, us, i, ca, cc, h, hr, hu => by
    simp only [fineL] at h
    rw [travL_cons] at hu
    obtain ⟨c', h1, hu⟩ := Res1.bind_ok hu
    obtain ⟨t', h2, hu⟩ := Res1.bind_ok hu
    obtain ⟨ts', h3, hu⟩ := Res1.bind_ok hu
    obtain ⟨cc', e2, hr'⟩ := F.kid _ _ _ _ hr h1
    rw [travL_cons]
    refine Res1.bind_ex ⟨cc', e2⟩ (fun a9 ha => ?_)
    rw [e2] at ha
    injection ha with ha
    subst ha
    exact Res1.bind_ex (told F h.1 hr' h2) (fun a _ => Res1.bind_ex (toldL F h.2 hr h3) (fun b _ => ⟨_, rfl⟩))
theorem toldS (F : Told (A := A) (D := D) R) {kd : Int} : ∀ {ts us : List T} {ca : CA} {cc : CC}, fineL ts → R ca cc → travS A kd ts ca = .ok us → ∃ w, travS D kd ts cc = .ok w
  | [], us, ca, cc, h, hr, hu => ⟨[], travS_nil _ _⟩
  | t :: ts, us, ca, cc, h, hr, hu => by
    simp only [fineL] at h
    rw [travS_cons] at hu
    obtain ⟨c', h1, hu⟩ := Res1.bind_ok hu
    obtain ⟨t', h2, hu⟩ := Res1.bind_ok hu
    obtain ⟨ts', h3, hu⟩ := Res1.bind_ok hu
    obtain ⟨cc', e2, hr'⟩ := F.kid _ _ _ _ hr h1
    rw [travS_cons]
    refine Res1.bind_ex ⟨cc', e2⟩ (fun a9 ha => ?_)
    rw [e2] at ha
    injection ha with ha
    subst ha
    exact Res1.bind_ex (told F h.1 hr' h2) (fun a _ => Res1.bind_ex (toldS F h.2 hr h3) (fun b _ => ⟨_, rfl⟩))
theorem toldB (F : Told (A := A) (D := D) R) {kd : Int} : ∀ {bs us : List Br} {ca : CA} {cc : CC}, fineB kd bs → R ca cc → travB A kd bs ca = .ok us → ∃ w, travB D kd bs cc = .ok w
  | [], us, ca, cc, h, hr, hu => ⟨[], travB_nil _ _⟩
  | .mk f ks :: bs, us, ca, cc, h, hr, hu => by
    simp only [fineB] at h
    obtain ⟨h1, h2, h3, h4⟩ := h
    rw [travB_cons] at hu
    simp only [Br.face, Br.kids] at hu
    obtain ⟨o, h5, hu⟩ := Res1.bind_ok hu
    rw [travB_cons]
    simp only [Br.face, Br.kids]
    cases o with
    | none =>
      rw [F.none _ _ _ hr h2 h5]
      exact toldB F h4 hr hu
    | some f' =>
      obtain ⟨ks', h6, hu⟩ := Res1.bind_ok hu
      obtain ⟨bs', h7, hu⟩ := Res1.bind_ok hu
      refine Res1.bind_ex (F.some _ _ _ _ hr h2 h5) (fun o _ => ?_)
      cases o with
      | none => exact toldB F h4 hr h7
      | some q => exact Res1.bind_ex (toldS F h3 hr h6) (fun a _ => Res1.bind_ex (toldB F h4 hr h7) (fun b _ => ⟨_, rfl⟩))
end
end
end Go.Hy
namespace Go.Hy
theorem formed_size {t : T} (h : formedP t = 0) : size t ≤ 20000 := by
  unfold formedP at h
  split at h
  · rename_i hs; exact absurd h hs
  · rename_i hs
    simp only [ne_eq, Decidable.not_not, sized] at hs
    split at hs
    · cases hs
    · split at hs
      · cases hs
      · omega
end Go.Hy
namespace Go.Hy
theorem leastF_cases (l : List Cl) : ((leastF l).1 = 0 ∧ l.all right24 = true ∧ (leastF l).2 = refLeast l ∧ (refLeast l).length ≤ 64) ∨ (leastF l).1 = 2 ∨ (leastF l).1 = 3 := by
  unfold leastF
  split
  · exact .inr (.inl rfl)
  · rename_i h1
    split
    · exact .inr (.inr rfl)
    · rename_i h2
      exact .inl ⟨rfl, by simpa using h1, rfl, by omega⟩
theorem leastF_fR {l : List Cl} (h : (leastF l).1 = 0) : fRight (leastF l).2 = true := by
  rcases leastF_cases l with ⟨_, h1, h2, h3⟩ | h1 | h1
  · rw [h2]
    unfold fRight
    rw [Bool.and_eq_true, Bool.and_eq_true, Bool.and_eq_true]
    refine ⟨⟨⟨List.all_eq_true.mpr fun c hc => List.all_eq_true.mp h1 c (refLeast_mem.mp hc).1, sortedC_iff.mpr (refLeast_sorted l)⟩, apart_iff.mpr fun a ha b hb => needless_iff.mp (refLeast_mem.mp ha).2 b (refLeast_mem.mp hb).1⟩, decide_eq_true h3⟩
  · rw [h1] at h; cases h
  · rw [h1] at h; cases h
theorem leastF_sub {l : List Cl} (h : (leastF l).1 = 0) {c : Cl} (hc : c ∈ (leastF l).2) : c ∈ l := by
  rcases leastF_cases l with ⟨_, h1, h2, h3⟩ | h1 | h1
  · rw [h2] at hc; exact (refLeast_mem.mp hc).1
  · rw [h1] at h; cases h
  · rw [h1] at h; cases h
section
variable {C : Type} {A : Tr C}
end
def asRes (r : Res1 T) : Int × T := match r with
  | .ok u => (0, u)
  | .bad e => (e, t0)
end Go.Hy
namespace Go.Hy
/-! ### What a way tells of the parts -/
section
variable {C : Type} {A : Tr C}
theorem mem_getD {α : Type} {d x : α} {l : List α} (h : x ∈ l) : ∃ i, i < l.length ∧ l.getD i d = x := by
  obtain ⟨i, hi, e⟩ := List.mem_iff_getElem.mp h
  exact ⟨i, hi, by rw [getD_get (d := d) hi]; exact e⟩
theorem bind_bad_of {α β : Type} {x : Res1 α} {k : α → Res1 β} {e : Int} (h : x.bind k = .bad e) : x = .bad e ∨ ∃ a, x = .ok a ∧ k a = .bad e := by
  cases x with
  | ok a => exact .inr ⟨a, rfl, h⟩
  | bad e' => injection h with h; subst h; exact .inl rfl
theorem travL_why {k : Int} {c : C} {e : Int} : ∀ {ts : List T} {i : Nat}, travL A k i ts c = .bad e → ∃ j, j < ts.length ∧ (A.kid c (binds k ((i + j : Nat) : Int)) = .bad e ∨ ∃ c', A.kid c (binds k ((i + j : Nat) : Int)) = .ok c' ∧ trav A (ts.getD j t0) c' = .bad e)
  | [], i, h => by rw [travL_nil] at h; cases h
  | t :: ts, i, h => by
    rw [travL_cons] at h
    rcases bind_bad_of h with h | ⟨c', h1, h⟩
    · exact ⟨0, by simp, .inl (by simpa using h)⟩
    · rcases bind_bad_of h with h | ⟨t', h2, h⟩
      · exact ⟨0, by simp, .inr ⟨c', by simpa using h1, by simpa using h⟩⟩
      · rcases bind_bad_of h with h | ⟨ts', h3, h⟩
        · obtain ⟨j, hj, h4⟩ := travL_why h
          refine ⟨j + 1, by simpa using hj, ?_⟩
          rw [List.getD_cons_succ, show i + (j + 1) = i + 1 + j by omega]; exact h4
        · cases h
theorem travS_why {k : Int} {c : C} {e : Int} : ∀ {ts : List T}, travS A k ts c = .bad e → ∃ j, j < ts.length ∧ (A.kid c (0, more k) = .bad e ∨ ∃ c', A.kid c (0, more k) = .ok c' ∧ trav A (ts.getD j t0) c' = .bad e)
  | [], h => by rw [travS_nil] at h; cases h
  | t :: ts, h => by
    rw [travS_cons] at h
    rcases bind_bad_of h with h | ⟨c', h1, h⟩
    · exact ⟨0, by simp, .inl h⟩
    · rcases bind_bad_of h with h | ⟨t', h2, h⟩
      · exact ⟨0, by simp, .inr ⟨c', h1, by simpa using h⟩⟩
      · rcases bind_bad_of h with h | ⟨ts', h3, h⟩
        · obtain ⟨j, hj, h4⟩ := travS_why h
          exact ⟨j + 1, by simpa using hj, by rw [List.getD_cons_succ]; exact h4⟩
        · cases h
theorem travB_why {k : Int} {c : C} {e : Int} : ∀ {bs : List Br}, travB A k bs c = .bad e → ∃ b, b ∈ bs ∧ (A.face c b.face = .bad e ∨ travS A k b.kids c = .bad e)
  | [], h => by rw [travB_nil] at h; cases h
  | b :: bs, h => by
    rw [travB_cons] at h
    rcases bind_bad_of h with h | ⟨o, h1, h⟩
    · exact ⟨b, List.mem_cons_self, .inl h⟩
    · cases o with
      | none => obtain ⟨x, hx, h⟩ := travB_why h; exact ⟨x, List.mem_cons_of_mem _ hx, h⟩
      | some f' =>
        rcases bind_bad_of h with h | ⟨ks, h2, h⟩
        · exact ⟨b, List.mem_cons_self, .inr h⟩
        · rcases bind_bad_of h with h | ⟨us, h3, h⟩
          · obtain ⟨x, hx, h⟩ := travB_why h; exact ⟨x, List.mem_cons_of_mem _ hx, h⟩
          · cases h
theorem trav_why {t : T} {c : C} {e : Int} (h : trav A t c = .bad e) : A.own c t.kind t.n t.name t.r = .bad e ∨ (∃ b, b ∈ t.sys ∧ A.face c b.face = .bad e) ∨ ∃ p, p ∈ parts t ∧ (A.kid c p.2 = .bad e ∨ ∃ c', A.kid c p.2 = .ok c' ∧ trav A p.1 c' = .bad e) := by
  rw [trav_eq] at h
  rcases bind_bad_of h with h | ⟨o, h1, h⟩
  · exact .inl h
  · cases o with
    | inl u => cases h
    | inr p =>
      rcases bind_bad_of h with h | ⟨ks, h2, h⟩
      · obtain ⟨j, hj, h3⟩ := travL_why h
        rw [Nat.zero_add] at h3
        exact .inr (.inr ⟨_, List.mem_of_getElem? (parts_kid t j hj), h3⟩)
      · rcases bind_bad_of h with h | ⟨ss, h3, h⟩
        · obtain ⟨b, hb, h4⟩ := travB_why h
          rcases h4 with h4 | h4
          · exact .inr (.inl ⟨b, hb, h4⟩)
          · obtain ⟨j, hj, h5⟩ := travS_why h4
            obtain ⟨s, hs, e2⟩ := mem_getD (d := br0) hb
            refine .inr (.inr ⟨_, List.mem_of_getElem? (parts_sys t s j hs (by rw [e2]; exact hj)), ?_⟩)
            rw [e2]; exact h5
        · cases h
end
end Go.Hy
namespace Go.Hy
/-! ### Sizes as sums -/
def sizeL : List T → Nat
  | [] => 0
  | t :: ts => size t + sizeL ts
def sizeB : List Br → Nat
  | [] => 0
  | b :: bs => sizeL b.kids + sizeB bs
theorem foldl_add {α : Type} (f : α → Nat) : ∀ (l : List α) (a : Nat), l.foldl (fun a p => a + f p) a = a + l.foldl (fun a p => a + f p) 0
  | [], a => rfl
  | x :: l, a => by rw [List.foldl_cons, List.foldl_cons, foldl_add f l (a + f x), foldl_add f l (0 + f x)]; omega
theorem size_sumLB (t : T) : size t = 1 + sizeL t.kids + sizeB t.sys := by
  have hk : ∀ (k : Int) (ts : List T) (i : Nat), (kidParts k i ts).foldl (fun a p => a + size p.1) 0 = sizeL ts := by
    intro k ts
    induction ts with
    | nil => intro i; rfl
    | cons t ts ih => intro i; rw [kidParts, List.foldl_cons, foldl_add, ih, sizeL]; simp only; omega
  have hm : ∀ (ts : List T) (b : Int × Int), (ts.map fun k => ((k, b.1, b.2) : Part)).foldl (fun a p => a + size p.1) 0 = sizeL ts := by
    intro ts b
    induction ts with
    | nil => rfl
    | cons t ts ih => rw [List.map_cons, List.foldl_cons, foldl_add, ih, sizeL]; simp only; omega
  have hs : ∀ (k : Int) (bs : List Br), (sysParts k bs).foldl (fun a p => a + size p.1) 0 = sizeB bs := by
    intro k bs
    induction bs with
    | nil => rfl
    | cons b bs ih => rw [sysParts, List.foldl_append, foldl_add, ih, hm b.kids (0, more k), sizeB]
  rw [size_eq, parts, List.foldl_append, foldl_add, hs, foldl_add, hk]
section
variable {t u : T} {n : Int}
end
end Go.Hy
namespace Go.Hy
theorem right24_iff {c : Cl} : right24 c = true ↔ c.pos < 16777216 ∧ c.neg < 16777216 := by unfold right24; rw [Bool.and_eq_true, decide_eq_true_eq, decide_eq_true_eq]
/-! ### Two ways and two others -/
section
variable {CA CB CC CD : Type} {A : Tr CA} {B : Tr CB} {C : Tr CC} {D : Tr CD} (R : CA → CB → CC → CD → Prop)
variable {R}
end
end Go.Hy
namespace Go.Hy
/-! ### The document's lift of a mask: its list, number by number -/
theorem sorted_ext : ∀ {l m : List Int}, (l.Pairwise fun a b => a < b) → (m.Pairwise fun a b => a < b) → (∀ x, x ∈ l ↔ x ∈ m) → l = m
  | [], [], _, _, _ => rfl
  | [], b :: m, _, _, h => by have := (h b).mpr List.mem_cons_self; cases this
  | a :: l, [], _, _, h => by have := (h a).mp List.mem_cons_self; cases this
  | a :: l, b :: m, hl, hm, h => by
    obtain ⟨l1, l2⟩ := List.pairwise_cons.mp hl
    obtain ⟨m1, m2⟩ := List.pairwise_cons.mp hm
    have hab : a = b := by
      rcases List.mem_cons.mp ((h a).mp List.mem_cons_self) with h1 | h1
      · exact h1
      · rcases List.mem_cons.mp ((h b).mpr List.mem_cons_self) with h2 | h2
        · exact h2.symm
        · have := l1 b h2; have := m1 a h1; omega
    subst hab
    have : l = m := sorted_ext l2 m2 fun x => by
      constructor
      · intro hx
        rcases List.mem_cons.mp ((h x).mp (List.mem_cons_of_mem _ hx)) with h1 | h1
        · subst h1; have := l1 x hx; omega
        · exact h1
      · intro hx
        rcases List.mem_cons.mp ((h x).mpr (List.mem_cons_of_mem _ hx)) with h1 | h1
        · subst h1; have := m1 x hx; omega
        · exact h1
    rw [this]
end Go.Hy
namespace Go.Hy
/-! ### A mask's least number, and the rest -/
theorem listM_sort (s : Nat) : (listM s).Pairwise fun a b => a < b := by
  unfold listM listTo
  rw [List.pairwise_map]
  refine List.Pairwise.filter _ ?_
  exact List.pairwise_lt_range.imp fun h => by omega
theorem listM_and (s : Nat) : listM (s &&& 16777215) = listM s := by
  refine sorted_ext (listM_sort _) (listM_sort _) fun x => ?_
  rw [listTo_mem, listTo_mem, and24_bit]
  constructor
  · rintro ⟨h1, h2, h3⟩
    rw [Bool.and_eq_true] at h3
    exact ⟨h1, h2, h3.2⟩
  · rintro ⟨h1, h2, h3⟩
    exact ⟨h1, h2, by rw [h3, decide_eq_true (by omega)]; rfl⟩
theorem low_split {r : Nat} (h0 : ¬ r = 0) (h : r < 4294967296) : ∃ m, r = 2 ^ Lib.ctz 32 r * (2 * m + 1) ∧ Lib.ctz 32 r < 32 := by
  obtain ⟨m, h1, h2⟩ := Lib.ctzFrom_spec 32 r (by omega) h
  have e : Lib.ctz 32 r = Lib.ctzFrom 32 r := by unfold Lib.ctz; rw [if_neg h0]
  rw [e]
  exact ⟨m, h1, h2⟩
theorem low_bit {r k m i : Nat} (h : r = 2 ^ k * (2 * m + 1)) : (r &&& (r - 1)).testBit i = (r.testBit i && decide (i ≠ k)) ∧ r.testBit k = true ∧ (i < k → r.testBit i = false) := by
  have hp : 0 < 2 ^ k := Nat.pow_pos (by decide)
  have e1 : r = 2 ^ (k + 1) * m + 2 ^ k := by rw [h, Nat.pow_succ, Nat.mul_add, Nat.mul_assoc]; simp
  have e2 : r - 1 = 2 ^ (k + 1) * m + (2 ^ k - 1) := by omega
  have hb1 : 2 ^ k < 2 ^ (k + 1) := by rw [Nat.pow_succ]; omega
  have hb2 : 2 ^ k - 1 < 2 ^ (k + 1) := by omega
  have t1 : ∀ j, r.testBit j = if j < k + 1 then (2 ^ k).testBit j else m.testBit (j - (k + 1)) := fun j => by rw [e1]; exact Nat.testBit_two_pow_mul_add m hb1 j
  have t2 : ∀ j, (r - 1).testBit j = if j < k + 1 then (2 ^ k - 1).testBit j else m.testBit (j - (k + 1)) := fun j => by rw [e2]; exact Nat.testBit_two_pow_mul_add m hb2 j
  refine ⟨?_, by rw [t1, if_pos (by omega), Nat.testBit_two_pow_self], fun hi => by rw [t1, if_pos (by omega), Nat.testBit_two_pow_of_ne (by omega)]⟩
  rw [Nat.testBit_and, t1, t2]
  by_cases hi : i < k + 1
  · rw [if_pos hi, if_pos hi, Nat.testBit_two_pow, Nat.testBit_two_pow_sub_one]
    by_cases hk : k = i
    · subst hk; simp
    · simp [hk]
  · rw [if_neg hi, if_neg hi]
    have : i ≠ k := by omega
    simp [this]
theorem listM_low {r : Nat} (h0 : ¬ r = 0) (h : r < 16777216) : Lib.ctz 32 r < 24 ∧ listM r = (Lib.ctz 32 r : Int) :: listM (r &&& (r - 1)) := by
  obtain ⟨m, h1, h2⟩ := low_split h0 (by omega)
  have hb := fun i => low_bit (i := i) h1
  have hk : Lib.ctz 32 r < 24 := Decidable.byContradiction fun hn => by
    have h3 := Nat.ge_two_pow_of_testBit (hb 0).2.1
    have h4 : 2 ^ 24 ≤ 2 ^ Lib.ctz 32 r := Nat.pow_le_pow_right (by decide) (by omega)
    omega
  refine ⟨hk, sorted_ext (listM_sort _) (List.pairwise_cons.mpr ⟨fun x hx => ?_, listM_sort _⟩) fun x => ?_⟩
  · obtain ⟨x0, x1, x2⟩ := listTo_mem.mp hx
    rw [(hb x.toNat).1, Bool.and_eq_true, decide_eq_true_eq] at x2
    have : ¬ x.toNat < Lib.ctz 32 r := fun hlt => by have := (hb x.toNat).2.2 hlt; rw [x2.1] at this; cases this
    omega
  · rw [List.mem_cons, listTo_mem, listTo_mem, (hb x.toNat).1, Bool.and_eq_true, decide_eq_true_eq]
    constructor
    · rintro ⟨x0, x1, x2⟩
      by_cases hx : x = (Lib.ctz 32 r : Int)
      · exact .inl hx
      · exact .inr ⟨x0, x1, x2, by omega⟩
    · rintro (rfl | ⟨x0, x1, x2, _⟩)
      · exact ⟨by omega, by omega, by rw [Int.toNat_natCast]; exact (hb 0).2.1⟩
      · exact ⟨x0, x1, x2⟩
theorem low_lt {r : Nat} (h0 : ¬ r = 0) : r &&& (r - 1) < r := Nat.lt_of_le_of_lt Nat.and_le_right (by omega)
end Go.Hy
namespace Go.Hy
/-! Counting bits: the library's table of bytes. -/
def popS : ByteArray := ⟨#[0, 1, 1, 2, 1, 2, 2, 3, 1, 2, 2, 3, 2, 3, 3, 4, 1, 2, 2, 3, 2, 3, 3, 4, 2, 3, 3, 4, 3, 4, 4, 5, 1, 2, 2, 3, 2, 3, 3, 4, 2, 3, 3, 4, 3, 4, 4, 5, 2, 3, 3, 4, 3, 4, 4, 5, 3, 4, 4, 5, 4, 5, 5, 6, 1, 2, 2, 3, 2, 3, 3, 4, 2, 3, 3, 4, 3, 4, 4, 5, 2, 3, 3, 4, 3, 4, 4, 5, 3, 4, 4, 5, 4, 5, 5, 6, 2, 3, 3, 4, 3, 4, 4, 5, 3, 4, 4, 5, 4, 5, 5, 6, 3, 4, 4, 5, 4, 5, 5, 6, 4, 5, 5, 6, 5, 6, 6, 7, 1, 2, 2, 3, 2, 3, 3, 4, 2, 3, 3, 4, 3, 4, 4, 5, 2, 3, 3, 4, 3, 4, 4, 5, 3, 4, 4, 5, 4, 5, 5, 6, 2, 3, 3, 4, 3, 4, 4, 5, 3, 4, 4, 5, 4, 5, 5, 6, 3, 4, 4, 5, 4, 5, 5, 6, 4, 5, 5, 6, 5, 6, 6, 7, 2, 3, 3, 4, 3, 4, 4, 5, 3, 4, 4, 5, 4, 5, 5, 6, 3, 4, 4, 5, 4, 5, 5, 6, 4, 5, 5, 6, 5, 6, 6, 7, 3, 4, 4, 5, 4, 5, 5, 6, 4, 5, 5, 6, 5, 6, 6, 7, 4, 5, 5, 6, 5, 6, 6, 7, 5, 6, 6, 7, 6, 7, 7, 8]⟩
def pop8 (j : Nat) : Nat := j % 2 + j / 2 % 2 + j / 4 % 2 + j / 8 % 2 + j / 16 % 2 + j / 32 % 2 + j / 64 % 2 + j / 128 % 2
theorem popTab : ∀ j, j < 256 → popS[j]? = some (UInt8.ofNat (pop8 j)) ∧ pop8 j ≤ 8 := by decide +kernel
def pop32 (s : Nat) : Nat := pop8 (s / 16777216) + pop8 (s / 65536 &&& 255) + pop8 (s / 256 &&& 255) + pop8 (s &&& 255)
theorem pop32_one : ∀ k, k < 24 → pop32 (2 ^ k) = 1 := by decide +kernel
theorem pop32_zero : pop32 0 = 0 := by decide
theorem and255 (s : Nat) : s &&& 255 < 256 := Nat.lt_of_le_of_lt Nat.and_le_right (by decide)
section
variable {tn : Bool} {pn : Nat} {P : Program} [Tab P] {f : FuncId} {R : Ending → World → Prop} {B : Base} {n : Fz} {K : List Item} {ops : Array Oper} {i : Nat} {l fin : List Nat} {σ : Nat → Value} {Γ : List Fact} {Ms Ms2 : List Res}
variable {dst : Option Tmp} {op : Op} {ty : TypeId} {pos : String} {after : Array Edge} {v : Value} {x y z : Operand}
theorem pe_indexPop {t : TypeId} {s : ByteArray} {j : Nat} (hu : Tab.und P t = some .string) (hx : ev σ x = .string s) (hs : s = popS) (hy : ev σ y = .int .u32 (j : Int)) (hj : j < 256) : PureE P σ (.index t x y) ty (.int .u8 (pop8 j : Nat)) := fun w => by
  subst hs
  have h := (popTab j hj)
  have e : ((UInt8.ofNat (pop8 j)).toNat : Int) = (pop8 j : Nat) := by
    rw [UInt8.toNat_ofNat']
    have := h.2
    omega
  simp [opr, execOp, hx, hy, Instr.index, asIntOf, run_und0 hu, h.1]
  have := h.2
  omega
theorem pe_addU8 {t t' : TypeId} {a b : Nat} (hx : ev σ x = .int .u8 (a : Nat)) (hy : ev σ y = .int .u8 (b : Nat)) (h : a + b < 256) : PureE P σ (.binOp .add t x y t') ty (.int .u8 ((a + b : Nat) : Int)) :=
  run_bin hx hy (fun w => eqGuard_int w) (fun w => by
    have e : IntKind.u8.wrap ((a : Int) + (b : Int)) = ((a + b : Nat) : Int) := by simp [IntKind.wrap, IntKind.signed, IntKind.bits]; omega
    show Result.ok (Value.int .u8 (IntKind.u8.wrap ((a : Int) + (b : Int)))) w = _
    rw [e])
theorem pe_convBI {s d : TypeId} {ds : TypeDesc} {a : Nat} (hs : Tab.und P s = some ds) (hd : Tab.und P d = some (.int .i64)) (hx : ev σ x = .int .u8 (a : Nat)) (ha : a < 256) : PureE P σ (.convert s d x) ty (.int .i64 (a : Int)) := by
  have h := pe_convert hs hd hx (ty := ty)
  rwa [show IntKind.i64.wrap (a : Int) = (a : Int) by rw [IntKind.wrap_i64]; omega] at h
theorem v_ixPop {t : TypeId} {s : ByteArray} {j : Nat} (k_ : NV tn pn P f R B n K ops fin l (putS σ dst (.int .u8 (pop8 j : Nat))) Γ Ms) (hx : ev σ x = .string s := by exact wn_) (hy : ev σ y = .int .u32 (j : Int) := by exact wn_) (hs : s = popS := by rfl) (hu : Tab.und P t = some .string := by rfl) (hj : j < 256 := by first | omega | exact and255 _) (hd : dstOk n dst = true := by rfl) : NvT tn pn P f R B n K ops fin i l dst (.index t x y) ty σ Γ Ms := nv_pure (pe_indexPop hu hx hs hy hj) hd k_
theorem v_addU8 {t t' : TypeId} {a b : Nat} (k_ : NV tn pn P f R B n K ops fin l (putS σ dst (.int .u8 ((a + b : Nat) : Int))) Γ Ms) (hx : ev σ x = .int .u8 (a : Nat) := by exact wn_) (hy : ev σ y = .int .u8 (b : Nat) := by exact wn_) (h : a + b < 256 := by omega) (hd : dstOk n dst = true := by rfl) : NvT tn pn P f R B n K ops fin i l dst (.binOp .add t x y t') ty σ Γ Ms := nv_pure (pe_addU8 hx hy h) hd k_
theorem v_convBI {s d : TypeId} {ds : TypeDesc} {a : Nat} (k_ : NV tn pn P f R B n K ops fin l (putS σ dst (.int .i64 (a : Int))) Γ Ms) (hx : ev σ x = .int .u8 (a : Nat) := by exact wn_) (hs : Tab.und P s = some ds := by rfl) (hd' : Tab.und P d = some (.int .i64) := by rfl) (ha : a < 256 := by omega) (hd : dstOk n dst = true := by rfl) : NvT tn pn P f R B n K ops fin i l dst (.convert s d x) ty σ Γ Ms := nv_pure (pe_convBI hs hd' hx ha) hd k_
end
end Go.Hy
namespace Go.Hy
/-! ### The document's lift against the program's -/
theorem leastF_snd {l : List Cl} (h : (leastF l).1 ≠ 0) : (leastF l).2 = [] := by
  unfold leastF at h ⊢
  split
  · rfl
  · rename_i h1
    rw [if_neg h1] at h
    split
    · rfl
    · rename_i h2
      rw [if_neg h2] at h
      exact absurd rfl h
end Go.Hy
namespace Go.Hy
/-! ### Formulas and faces: what the program makes of them -/
abbrev EL : Type := Int × List Cl
def bitM (i : Int) : Nat := if 0 ≤ i ∧ i < 24 then 2 ^ i.toNat else 0
def withM (s : Nat) (i : Int) : Nat := if 0 ≤ i ∧ i < 24 then (s &&& 16777215) ||| 2 ^ i.toNat else s &&& 16777215
def withoutM (s : Nat) (i : Int) : Nat := if 0 ≤ i ∧ i < 24 then andNot32 (s &&& 16777215) (2 ^ i.toNat) else s &&& 16777215
theorem withM_zero (i : Int) : withM 0 i = bitM i := by unfold withM bitM; split <;> simp
theorem bitM_lt (i : Int) : bitM i < 16777216 := by
  unfold bitM
  split
  · exact Nat.pow_lt_pow_right (n := 24) (a := 2) (by decide) (by omega)
  · decide
theorem withoutM_lt (s : Nat) (i : Int) : withoutM s i < 16777216 := by
  unfold withoutM
  split
  · rw [show (16777216 : Nat) = 2 ^ 24 from rfl]
    exact Nat.lt_pow_two_of_testBit _ fun j hj => by
      rw [andNot32_bit, and24_bit, decide_eq_false (show ¬ j < 24 by omega)]; simp
  · exact and24_lt s
theorem has_bits (s : Nat) (i : Int) : ((decide (0 ≤ i) && decide (i < 24)) && decide (((s / 2 ^ (min i.toNat 32) &&& 1 : Nat) : Int) = 1)) = hasM s i := by
  rw [hasM_eq, Nat.and_one_is_mod]
  by_cases h : 0 ≤ i ∧ i < 24
  · rw [show min i.toNat 32 = i.toNat by omega]
    congr 1
    exact decide_eq_decide.mpr (by omega)
  · have : (decide (0 ≤ i) && decide (i < 24)) = false := by simp; omega
    rw [this]; rfl
def isDim (i : Int) : Bool := decide (0 ≤ i) && decide (i < 24)
theorem pop_bit {i : Int} (h : isDim i = true) : pop32 (bitM i &&& 16777215) = 1 := by
  have h1 : 0 ≤ i ∧ i < 24 := by unfold isDim at h; simpa using h
  have h2 := bitM_lt i
  rw [and24, Nat.mod_eq_of_lt (by omega)]
  unfold bitM
  rw [if_pos h1]
  exact pop32_one _ (by omega)
theorem pop_none {i : Int} (h : isDim i = false) : pop32 (bitM i &&& 16777215) = 0 := by
  have h1 : ¬ (0 ≤ i ∧ i < 24) := by unfold isDim at h; simp at h; omega
  unfold bitM
  rw [if_neg h1]
  exact pop32_zero
theorem pop_dim (i : Int) : decide (((pop32 (bitM i &&& 16777215) : Nat) : Int) = 1) = isDim i := by
  cases h : isDim i
  · rw [pop_none h]; rfl
  · rw [pop_bit h]; rfl
theorem pop_dim0 (i : Int) : decide (((pop32 (bitM i &&& 16777215) : Nat) : Int) = 0) = !isDim i := by
  cases h : isDim i
  · rw [pop_none h]; rfl
  · rw [pop_bit h]; rfl
def bindE (x : EL) (k : List Cl → EL) : EL := if x.1 ≠ 0 then (x.1, []) else k x.2
theorem bindE_bad {x : EL} {k : List Cl → EL} (h : x.1 ≠ 0) : bindE x k = (x.1, []) := if_pos h
theorem bindE_ok {x : EL} {k : List Cl → EL} (h : x.1 = 0) : bindE x k = k x.2 := if_neg (by simp [h])
/-- On from a list, clause by clause. -/
def foldF (g : List Cl → Cl → EL) : List Cl → List Cl → EL
  | h, [] => (0, h)
  | h, c :: cs => bindE (g h c) fun h' => foldF g h' cs
theorem foldF_on {g : List Cl → Cl → EL} : ∀ {l m h h' : List Cl}, foldF g h l = (0, h') → foldF g h (l ++ m) = foldF g h' m
  | [], m, h, h', e => by
    rw [foldF, Prod.mk.injEq] at e
    rw [List.nil_append, e.2]
  | d :: l, m, h, h', e => by
    rw [foldF] at e
    by_cases h0 : (g h d).1 = 0
    · rw [bindE_ok h0] at e
      rw [List.cons_append, foldF, bindE_ok h0]
      exact foldF_on e
    · rw [bindE_bad h0, Prod.mk.injEq] at e
      exact absurd e.1 h0
theorem foldF_ok {g : List Cl → Cl → EL} {l h h' : List Cl} {i : Nat} (hi : i < l.length) (e : foldF g h (l.take i) = (0, h')) (h0 : (g h' (l.getD i cl0)).1 = 0) : foldF g h (l.take (i + 1)) = (0, (g h' (l.getD i cl0)).2) := by
  rw [take_succ_getD (d := cl0) hi, foldF_on e, foldF, bindE_ok h0, foldF]
theorem foldF_bad {g : List Cl → Cl → EL} {l h h' : List Cl} {i : Nat} (hi : i < l.length) (e : foldF g h (l.take i) = (0, h')) (h0 : (g h' (l.getD i cl0)).1 ≠ 0) : foldF g h l = ((g h' (l.getD i cl0)).1, []) := by
  have e2 : l = l.take i ++ l.getD i cl0 :: l.drop (i + 1) := by rw [getD_get (d := cl0) hi, List.getElem_cons_drop, List.take_append_drop]
  rw [e2, foldF_on e, ← e2, foldF, bindE_bad h0]
theorem foldF_all {g : List Cl → Cl → EL} {l h h' : List Cl} {i : Nat} (hi : i = l.length) (e : foldF g h (l.take i) = (0, h')) : foldF g h l = (0, h') := by
  rw [hi, List.take_length] at e
  exact e
/-! Formulas. -/
def joinF (f g : List Cl) : EL := leastF (f ++ g)
def meetL (f g : List Cl) : List Cl := f.flatMap fun a => g.map fun b => meetC a b
def meetF (f g : List Cl) : EL := leastF (meetL f g)
def oppL (c : Cl) : List Cl := ((listM c.pos).map fun i => (⟨0, bitM i⟩ : Cl)) ++ ((listM c.neg).map fun i => (⟨bitM i, 0⟩ : Cl))
def oppF (c : Cl) : EL := leastF (oppL c)
def notStep (h : List Cl) (c : Cl) : EL := bindE (oppF c) fun o => meetF h o
def notF (f : List Cl) : EL := foldF notStep [cl0] f
def notR (f : List Cl) : EL := if fRight f then notF f else (2, [])
def takeC (c : Cl) (i : Int) : Cl := ⟨withoutM c.pos i, withoutM c.neg i⟩
def putPos (i : Int) (r : List Cl) (c : Cl) : EL := if hasM c.pos i then meetF [takeC c i] r else (0, [takeC c i])
def putNeg (i : Int) (r : List Cl) (c : Cl) (g : List Cl) : EL := if hasM c.neg i then bindE (notF r) fun s => meetF g s else (0, g)
def putStep (i : Int) (r h : List Cl) (c : Cl) : EL := bindE (putPos i r c) fun g => bindE (putNeg i r c g) fun g => joinF h g
theorem putStep_bad1 {i : Int} {r h : List Cl} {c : Cl} {P : EL} (hP : putPos i r c = P) (h0 : P.1 ≠ 0) : putStep i r h c = (P.1, []) := by unfold putStep; rw [hP]; exact bindE_bad h0
theorem putStep_bad2 {i : Int} {r h : List Cl} {c : Cl} {P N : EL} (hP : putPos i r c = P) (h0 : P.1 = 0) (hN : putNeg i r c P.2 = N) (h1 : N.1 ≠ 0) : putStep i r h c = (N.1, []) := by unfold putStep; rw [hP, bindE_ok h0, hN]; exact bindE_bad h1
theorem putStep_end {i : Int} {r h : List Cl} {c : Cl} {P N : EL} (hP : putPos i r c = P) (h0 : P.1 = 0) (hN : putNeg i r c P.2 = N) (h1 : N.1 = 0) : putStep i r h c = joinF h N.2 := by unfold putStep; rw [hP, bindE_ok h0, hN]; exact bindE_ok h1
theorem putNeg_bad {i : Int} {r : List Cl} {c : Cl} {g : List Cl} {s : EL} (h : hasM c.neg i = true) (hs : s = notF r) (h0 : s.1 ≠ 0) : putNeg i r c g = (s.1, []) := by unfold putNeg; rw [if_pos h, ← hs]; exact bindE_bad h0
theorem putNeg_yes {i : Int} {r : List Cl} {c : Cl} {g : List Cl} {s m : EL} (h : hasM c.neg i = true) (hs : s = notF r) (h0 : s.1 = 0) (hm : m = meetF g s.2) : putNeg i r c g = m := by unfold putNeg; rw [if_pos h, ← hs, hm]; exact bindE_ok h0
theorem putNeg_no {i : Int} {r : List Cl} {c : Cl} {g : List Cl} (h : hasM c.neg i = false) : putNeg i r c g = (0, g) := by unfold putNeg; rw [if_neg (by simp [h])]
def formPut (f : List Cl) (i : Int) (r : List Cl) : EL := if (fRight f && fRight r) = false then (2, []) else if isDim i = false then (2, []) else foldF (putStep i r) [] f
/-! Faces. -/
def calmL (l : List Cl) : List Cl := l.filter fun c => !clash c
def ofF (f : List Cl) : EL := if fRight f then leastF (calmL f) else (2, [])
def ofZero (r : List Cl) : EL := bindE (notR r) ofF
def meetA (f g : List Cl) : EL := leastF (f.flatMap fun a => calmL (g.map fun b => meetC a b))
def facePart (i : Int) (r : List Cl) (c : Cl) : EL := if hasM c.pos i then bindE (ofF r) fun x => meetA [takeC c i] x else if hasM c.neg i then bindE (ofZero r) fun x => meetA [takeC c i] x else (0, [takeC c i])
def faceStep (i : Int) (r h : List Cl) (c : Cl) : EL := bindE (facePart i r c) fun g => joinF h g
theorem faceStep_ok {i : Int} {r h : List Cl} {c : Cl} {P : EL} (hP : facePart i r c = P) (h0 : P.1 = 0) : faceStep i r h c = joinF h P.2 := by unfold faceStep; rw [hP]; exact bindE_ok h0
theorem faceStep_bad {i : Int} {r h : List Cl} {c : Cl} {P : EL} (hP : facePart i r c = P) (h0 : P.1 ≠ 0) : faceStep i r h c = (P.1, []) := by unfold faceStep; rw [hP]; exact bindE_bad h0
theorem facePart_pos {i : Int} {r : List Cl} {c : Cl} {q m : EL} (h : hasM c.pos i = true) (hq : q = ofF r) (h0 : q.1 = 0) (hm : m = meetA [takeC c i] q.2) : facePart i r c = m := by unfold facePart; rw [if_pos h, ← hq, hm]; exact bindE_ok h0
theorem facePart_pose {i : Int} {r : List Cl} {c : Cl} {q : EL} (h : hasM c.pos i = true) (hq : q = ofF r) (h0 : q.1 ≠ 0) : facePart i r c = (q.1, []) := by unfold facePart; rw [if_pos h, ← hq]; exact bindE_bad h0
theorem facePart_neg {i : Int} {r : List Cl} {c : Cl} {q m : EL} (h1 : hasM c.pos i = false) (h : hasM c.neg i = true) (hq : q = ofZero r) (h0 : q.1 = 0) (hm : m = meetA [takeC c i] q.2) : facePart i r c = m := by unfold facePart; rw [if_neg (by simp [h1]), if_pos h, ← hq, hm]; exact bindE_ok h0
theorem facePart_nege {i : Int} {r : List Cl} {c : Cl} {q : EL} (h1 : hasM c.pos i = false) (h : hasM c.neg i = true) (hq : q = ofZero r) (h0 : q.1 ≠ 0) : facePart i r c = (q.1, []) := by unfold facePart; rw [if_neg (by simp [h1]), if_pos h, ← hq]; exact bindE_bad h0
theorem facePart_no {i : Int} {r : List Cl} {c : Cl} (h1 : hasM c.pos i = false) (h : hasM c.neg i = false) : facePart i r c = (0, [takeC c i]) := by unfold facePart; rw [if_neg (by simp [h1]), if_neg (by simp [h])]
def facePut (f : List Cl) (i : Int) (r : List Cl) : EL := if (faceRight f && isDim i && fRight r) = false then (2, []) else foldF (faceStep i r) [] f
def single (c : Cl) : Bool := right24 c && !clash c
def joinA (f g : List Cl) : EL := if (faceRight f && faceRight g) = false then (2, []) else joinF f g
/-! ### Rows that may lie in memory -/
abbrev okE (x : EL) : Prop := rowOk x.2
theorem rowOk_sub {l m : List Cl} (h : rowOk l) (hs : ∀ c, c ∈ m → c ∈ l) (hl : m.length ≤ l.length) : rowOk m := ⟨fun c hc => h.1 c (hs c hc), by have := h.2; omega⟩
theorem okE_least {l : List Cl} (h : ∀ c, c ∈ l → u32 c) : okE (leastF l) := leastF_ok h
theorem okE_bind {x : EL} {k : List Cl → EL} (h : x.1 = 0 → okE (k x.2)) : okE (bindE x k) := by
  by_cases h0 : x.1 = 0
  · rw [bindE_ok h0]; exact h h0
  · rw [bindE_bad h0]; exact rowOk_nil
theorem okE_fold {g : List Cl → Cl → EL} : ∀ {l h : List Cl}, (∀ h c, c ∈ l → rowOk h → okE (g h c)) → rowOk h → okE (foldF g h l)
  | [], h, _, h2 => h2
  | c :: l, h, h1, h2 => by
    rw [foldF]
    exact okE_bind fun _ => okE_fold (fun h' d hd => h1 h' d (List.mem_cons_of_mem _ hd)) (h1 h c List.mem_cons_self h2)
theorem u32_meet {a b : Cl} (h : u32 a) (h2 : u32 b) : u32 (meetC a b) := ⟨Nat.or_lt_two_pow (n := 32) h.1 h2.1, Nat.or_lt_two_pow (n := 32) h.2 h2.2⟩
theorem u32_join {f g : List Cl} (h : ∀ c, c ∈ f → u32 c) (h2 : ∀ c, c ∈ g → u32 c) : ∀ c, c ∈ f ++ g → u32 c := fun c hc => (List.mem_append.mp hc).elim (h c) (h2 c)
theorem u32_meetL {f g : List Cl} (h : ∀ c, c ∈ f → u32 c) (h2 : ∀ c, c ∈ g → u32 c) : ∀ c, c ∈ meetL f g → u32 c := fun c hc => by
  obtain ⟨a, ha, hc⟩ := List.mem_flatMap.mp hc
  obtain ⟨b, hb, rfl⟩ := List.mem_map.mp hc
  exact u32_meet (h a ha) (h2 b hb)
theorem u32_opp (c : Cl) : ∀ d, d ∈ oppL c → u32 d := fun d hd => by
  rcases List.mem_append.mp hd with hd | hd
  · obtain ⟨i, _, rfl⟩ := List.mem_map.mp hd
    exact ⟨by show (0 : Nat) < _; decide, by have := bitM_lt i; show bitM i < 4294967296; omega⟩
  · obtain ⟨i, _, rfl⟩ := List.mem_map.mp hd
    exact ⟨by have := bitM_lt i; show bitM i < 4294967296; omega, by show (0 : Nat) < _; decide⟩
theorem u32_take (c : Cl) (i : Int) : u32 (takeC c i) := ⟨by have := withoutM_lt c.pos i; show withoutM c.pos i < _; omega, by have := withoutM_lt c.neg i; show withoutM c.neg i < _; omega⟩
theorem rowOk_one {c : Cl} (h : u32 c) : rowOk [c] := ⟨fun d hd => by rw [List.mem_singleton] at hd; subst hd; exact h, by unfold reach; simp⟩
theorem okE_join {f g : List Cl} (h : rowOk f) (h2 : rowOk g) : okE (joinF f g) := okE_least (u32_join h.1 h2.1)
theorem okE_meet {f g : List Cl} (h : rowOk f) (h2 : rowOk g) : okE (meetF f g) := okE_least (u32_meetL h.1 h2.1)
theorem okE_opp (c : Cl) : okE (oppF c) := okE_least (u32_opp c)
theorem okE_notStep {h : List Cl} {c : Cl} (hh : rowOk h) : okE (notStep h c) := okE_bind fun _ => okE_meet hh (okE_opp c)
theorem rowOk_one0 : rowOk [cl0] := rowOk_one ⟨by decide, by decide⟩
theorem okE_not (f : List Cl) : okE (notF f) := okE_fold (fun h c _ hh => okE_notStep hh) rowOk_one0
theorem okE_notR (f : List Cl) : okE (notR f) := by unfold notR; split; exact okE_not f; exact rowOk_nil
theorem okE_putPos {i : Int} {r : List Cl} {c : Cl} (hr : rowOk r) : okE (putPos i r c) := by
  unfold putPos
  split
  · exact okE_meet (rowOk_one (u32_take c i)) hr
  · exact rowOk_one (u32_take c i)
theorem okE_putNeg {i : Int} {r : List Cl} {c : Cl} {g : List Cl} (hg : rowOk g) : okE (putNeg i r c g) := by
  unfold putNeg
  split
  · exact okE_bind fun _ => okE_meet hg (okE_not r)
  · exact hg
theorem okE_putStep {i : Int} {r h : List Cl} {c : Cl} (hr : rowOk r) (hh : rowOk h) : okE (putStep i r h c) := by
  unfold putStep
  refine okE_bind fun _ => okE_bind fun _ => okE_join hh ?_
  have h1 : okE (putPos i r c) := okE_putPos hr
  exact okE_putNeg h1
theorem okE_formPut {f r : List Cl} {i : Int} (hr : rowOk r) : okE (formPut f i r) := by
  unfold formPut
  split
  · exact rowOk_nil
  · split
    · exact rowOk_nil
    · exact okE_fold (fun h c _ hh => okE_putStep hr hh) rowOk_nil
theorem rowOk_calm {l : List Cl} (h : rowOk l) : rowOk (calmL l) := rowOk_sub h (fun c hc => (List.mem_filter.mp hc).1) (List.length_filter_le _ _)
theorem okE_of {f : List Cl} (h : rowOk f) : okE (ofF f) := by unfold ofF; split; exact okE_least (rowOk_calm h).1; exact rowOk_nil
theorem okE_ofZero (r : List Cl) : okE (ofZero r) := okE_bind fun _ => okE_of (okE_notR r)
theorem okE_meetA {f g : List Cl} (h : rowOk f) (h2 : rowOk g) : okE (meetA f g) := okE_least fun c hc => by
  obtain ⟨a, ha, hc⟩ := List.mem_flatMap.mp hc
  obtain ⟨b, hb, rfl⟩ := List.mem_map.mp (List.mem_filter.mp hc).1
  exact u32_meet (h.1 a ha) (h2.1 b hb)
theorem okE_facePart {i : Int} {r : List Cl} {c : Cl} (hr : rowOk r) : okE (facePart i r c) := by
  unfold facePart
  split
  · exact okE_bind fun _ => okE_meetA (rowOk_one (u32_take c i)) (okE_of hr)
  · split
    · exact okE_bind fun _ => okE_meetA (rowOk_one (u32_take c i)) (okE_ofZero r)
    · exact rowOk_one (u32_take c i)
theorem okE_faceStep {i : Int} {r h : List Cl} {c : Cl} (hr : rowOk r) (hh : rowOk h) : okE (faceStep i r h c) := okE_bind fun _ => okE_join hh (okE_facePart hr)
theorem okE_facePut {f r : List Cl} {i : Int} (hr : rowOk r) : okE (facePut f i r) := by
  unfold facePut
  split
  · exact rowOk_nil
  · exact okE_fold (fun h c _ hh => okE_faceStep hr hh) rowOk_nil
/-! No more than 64. -/
abbrev lenE (x : EL) : Prop := x.2.length ≤ 64
theorem len_least (l : List Cl) : lenE (leastF l) := by
  rcases leastF_cases l with ⟨_, _, h, h2⟩ | h | h
  · show (leastF l).2.length ≤ 64; rw [h]; exact h2
  · show (leastF l).2.length ≤ 64; rw [leastF_snd (by omega)]; decide
  · show (leastF l).2.length ≤ 64; rw [leastF_snd (by omega)]; decide
theorem len_bind {x : EL} {k : List Cl → EL} (h : x.1 = 0 → lenE (k x.2)) : lenE (bindE x k) := by
  by_cases h0 : x.1 = 0
  · rw [bindE_ok h0]; exact h h0
  · rw [bindE_bad h0]; show ([] : List Cl).length ≤ 64; decide
theorem len_fold {g : List Cl → Cl → EL} : ∀ {l h : List Cl}, (∀ h c, c ∈ l → h.length ≤ 64 → lenE (g h c)) → h.length ≤ 64 → lenE (foldF g h l)
  | [], h, _, h2 => h2
  | c :: l, h, h1, h2 => by
    rw [foldF]
    exact len_bind fun _ => len_fold (fun h' d hd => h1 h' d (List.mem_cons_of_mem _ hd)) (h1 h c List.mem_cons_self h2)
theorem len_notStep (h : List Cl) (c : Cl) : lenE (notStep h c) := len_bind fun _ => len_least _
theorem len_not (f : List Cl) : lenE (notF f) := len_fold (fun h c _ _ => len_notStep h c) (by decide)
theorem len_putStep (i : Int) (r h : List Cl) (c : Cl) : lenE (putStep i r h c) := len_bind fun _ => len_bind fun _ => len_least _
theorem len_of (f : List Cl) : lenE (ofF f) := by unfold ofF; split; exact len_least _; (show ([] : List Cl).length ≤ 64; decide)
theorem len_ofZero (r : List Cl) : lenE (ofZero r) := len_bind fun _ => len_of _
theorem len_right {f : List Cl} (h : fRight f = true) : f.length ≤ 64 := by
  unfold fRight at h
  simp only [Bool.and_eq_true, decide_eq_true_eq] at h
  exact h.2
theorem oppL_len (c : Cl) : (oppL c).length ≤ 48 := by
  unfold oppL
  rw [List.length_append, List.length_map, List.length_map]
  have h1 : (listM c.pos).length ≤ 24 := listTo_len _ _
  have h2 : (listM c.neg).length ≤ 24 := listTo_len _ _
  omega
theorem listM_at {s i : Nat} (h : i < (listM s).length) : 0 ≤ (listM s).getD i 0 ∧ (listM s).getD i 0 < 24 := by
  have h1 := listTo_in (getD_mem (d := (0 : Int)) h)
  exact ⟨h1.1, by have := h1.2; exact_mod_cast this⟩
theorem listM_in {s i : Nat} (h : i < (listM s).length) : in64 ((listM s).getD i 0) := by have := listM_at h; unfold in64; omega
theorem meetL_len (f g : List Cl) : (meetL f g).length = f.length * g.length := by
  unfold meetL
  induction f with
  | nil => simp
  | cons a f ih => rw [List.flatMap_cons, List.length_append, ih, List.length_map, List.length_cons, Nat.succ_mul]; omega
theorem meetL_snoc (f g : List Cl) (a : Cl) : meetL (f ++ [a]) g = meetL f g ++ g.map fun b => meetC a b := by unfold meetL; rw [List.flatMap_append]; simp
theorem rowOk_CL {ok : Nat → Prop} {l : List Cl} {a : SH} {w : World} (h : clsAt ok l a w) : rowOk l := ⟨h.2, h.1.2.1⟩
def dimF (i : Int) : EL := if isDim i then (0, [⟨bitM i, 0⟩]) else (2, [])
/-! ### From an own row to what is known -/
theorem St.litCC2 {B : Base} {Γ : List Fact} {Ms : List Res} {w : World} {e : TypeId} {b : Nat} {l m : List Cl} {a a' : SH} (hs : St B Γ (boxR b [sl a l.length, sl a' m.length] e :: Ms) w) {hBp : Prop} (hB : hBp) (hF : CL l a ∈ Γ) (hG : CL m a' ∈ Γ) : St B (CCF [(l, a), (m, a')] (some ⟨b, 0, Option.none⟩, 2) :: Γ) Ms w := by
  have h1 := ((hs.boxRow (sz := 1) (m := 2) rfl (by decide)).allNil cpE).allAdd (x := (l, a)) List.mem_cons_self (List.mem_cons_of_mem _ hF)
  have h2 := h1.allAdd (x := (m, a')) List.mem_cons_self (List.mem_cons_of_mem _ (List.mem_cons_of_mem _ hG))
  exact (h2.settleRow (F := cpCells) (E := cpE) (d := cp0) (bt := 24) (l := [(l, a), (m, a')]) (fun _ => rfl) hB List.mem_cons_self rfl rfl (by decide)).less (by simp +contextual)
theorem St.lit1C {B : Base} {Γ : List Fact} {Ms : List Res} {w : World} {b : Nat} {e : TypeId} {cs : List Value} {c : Cl} (hs : St B Γ (boxR b cs e :: Ms) w) {hBp : Prop} (hB : hBp) (hc : cs = clCells c) (hu : u32 c) : St B (CL [c] (some ⟨b, 0, Option.none⟩, 1) :: Γ) Ms w :=
  (hs.boxRow (sz := 2) (m := 1) (by rw [hc]; rfl) (by decide)).settleCL (l := [c]) hB (by rw [hc]; simp [clFlat]) rfl (rowOk_one hu).2 (rowOk_one hu).1
theorem Spec.rowF {P : Program} {k : FuncId} {args : Array Value} {pre : List Fact} {e : TypeId} {r r' : EL} (he : r' = r) (h : Spec P k args pre [] (fun x : SH => .tuple #[sl x r.2.length, .int .i64 r.1]) (fun _ => []) (fun x => [rowS 2 e x r.2.length (clFlat r.2)])) (hr : okE r) :
    Spec P k args pre [] (fun x : SH => .tuple #[sl x r'.2.length, .int .i64 r'.1]) (fun x => [CL r'.2 x]) (fun _ => []) := by
  subst he
  exact fun ok w hok hst => (h ok w hok hst).mono fun e w' hh => by
    obtain ⟨x, he, hs⟩ := hh
    exact ⟨x, he, hs.settleCL trivial rfl rfl hr.2 hr.1⟩
theorem Spec.rowH {P : Program} {k : FuncId} {args : Array Value} {pre : List Fact} {e : TypeId} {r r' : EL} (he : r' = r) (h : Spec P k args pre [] (fun x : SH => .tuple #[sl x r.2.length, .int .i64 r.1]) (fun _ => []) (fun x => [rowS 2 e x r.2.length (clFlat r.2)])) :
    Spec P k args pre [] (fun x : SH => .tuple #[sl x r'.2.length, .int .i64 r'.1]) (fun _ => []) (fun x => [rowS 2 e x r'.2.length (clFlat r'.2)]) := by
  subst he
  exact h
end Go.Hy
