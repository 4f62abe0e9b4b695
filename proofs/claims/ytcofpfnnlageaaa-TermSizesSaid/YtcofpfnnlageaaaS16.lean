/- Contracts of functions of this program, one theorem each (printed by a program of this repository). -/
import Derived.Test.YtcofpfnnlageaaaHyAuto
import Derived.Test.YtcofpfnnlageaaaHyTab
import Derived.Test.YtcofpfnnlageaaaHyLeast
import Derived.Test.YtcofpfnnlageaaaS15
import Derived.Test.YtcofpfnnlageaaaS7
namespace Go.Hy
set_option linter.unusedVariables false
set_option linter.unusedSimpArgs false
set_option linter.unusedSectionVars false
open Go.Proofs
set_option linter.unusedVariables false
set_option linter.unusedSimpArgs false
set_option maxRecDepth 100000
theorem formRight_spec : FRight := by
  intro l a
  refine spec_go (args := [sl a l.length]) Try.func86 Try.ntmps86 rfl (by exact Nat.le_of_ble_eq_true rfl) fun B hB => ?_
  refine go_know (p := True) (fun _ _ => trivial) (fun _ => ?_)
  refine go_seq ?_
  refine go_region ⟨_, Try.func86⟩ rfl ?_
  refine q0 rfl (o_assign ?_)
  refine rg_nil ?_
  refine go_seq ?_
  refine go_region ⟨_, Try.func86⟩ rfl ?_
  refine q0 rfl (o_move ?_)
  refine q0 rfl (o_call Try.call93 (least_spec l a) (fun x7 => ?_))
  refine q0 rfl (o_move ?_)
  refine q0 rfl (o_extract ?_)
  refine q0 rfl (o_extract ?_)
  refine q0 rfl (o_assign ?_)
  refine q0 rfl (o_assign ?_)
  refine rg_nil ?_
  refine go_seq ?_
  refine go_region ⟨_, Try.func86⟩ rfl ?_
  refine q0 rfl (o_move ?_)
  refine q0 rfl (o_eqI ?_)
  refine q0 rfl (o_move ?_)
  refine qI rfl rfl rfl (by conv => lhs; whnf) (fun hg12 => o_move ?_) (fun hg12 => ?_)
  · refine qT rfl rfl rfl (o_move ?_)
    refine qT rfl rfl rfl (o_call Try.call48 (equal_spec x7.1.2.2 l x7.1.1 a) (fun x15 => ?_))
    refine q0 rfl (o_pickT ?_)
    refine q0 rfl (o_assign ?_)
    refine rg_nil ?_
    have hlr := least_right x7.2
    refine ret1 Try.func86 Try.results86 (by first | ((conv => lhs; whnf); done) | rfl) () (by rw [← hlr]; simp_all) (fun w hs => hs.none)
  · refine qF rfl rfl rfl ?_
    refine qF rfl rfl rfl ?_
    refine q0 rfl (o_pickF ?_)
    refine q0 rfl (o_assign ?_)
    refine rg_nil ?_
    have hlr := least_right x7.2
    refine ret1 Try.func86 Try.results86 (by first | ((conv => lhs; whnf); done) | rfl) () (by rw [← hlr]; simp_all) (fun w hs => hs.none)

theorem faceRight_spec : FaceRight := by
  intro l a
  refine spec_go (args := [sl a l.length]) Try.func88 Try.ntmps88 rfl (by exact Nat.le_of_ble_eq_true rfl) fun B hB => ?_
  refine go_openCL (l := l) (a := a) (fun hl1 hA1 hU1 => ?_)
  refine go_seq ?_
  refine go_region ⟨_, Try.func88⟩ rfl ?_
  refine q0 rfl (o_assign ?_)
  refine rg_nil ?_
  refine go_seq ?_
  refine go_region ⟨_, Try.func88⟩ rfl ?_
  refine q0 rfl (o_move ?_)
  refine q0 rfl (o_call Try.call86 (formRight_spec l a) (fun x4 => ?_))
  refine q0 rfl (o_move ?_)
  refine qI rfl rfl rfl (by conv => lhs; whnf) (fun hg5 => o_move ?_) (fun hg5 => ?_)
  · refine qT rfl rfl rfl (o_call Try.call94 (contains_spec l a 95 [] [] [] clash Try.call95 (fun x hx => clash_spec x (hU1 x hx))) (fun x7 => ?_))
    refine qT rfl rfl rfl (o_not ?_)
    refine q0 rfl (o_pickT ?_)
    refine q0 rfl (o_assign ?_)
    refine rg_nil ?_
    refine ret1 Try.func88 Try.results88 (by first | ((conv => lhs; whnf); done) | rfl) () (by simp_all [faceRight]) (fun w hs => hs.none)
  · refine qF rfl rfl rfl ?_
    refine qF rfl rfl rfl ?_
    refine q0 rfl (o_pickF ?_)
    refine q0 rfl (o_assign ?_)
    refine rg_nil ?_
    refine ret1 Try.func88 Try.results88 (by first | ((conv => lhs; whnf); done) | rfl) () (by simp_all [faceRight]) (fun w hs => hs.none)

theorem form_spec : FORM := ⟨formRight_spec, faceRight_spec, fDims_spec⟩

end Go.Hy
