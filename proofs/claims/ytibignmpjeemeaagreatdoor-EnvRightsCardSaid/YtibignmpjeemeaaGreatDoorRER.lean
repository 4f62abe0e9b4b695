/- EnvRights: whatever arguments it is given, the law's function returns true, and its arguments read as they did, where the package-level table reads as the program's text lays it (tied to the text by the card). -/
import Derived.Test.YtibignmpjeemeaaGreatDoorCards
import Derived.Test.YtibignmpjeemeaaGreatDoorTie
import Derived.SevenTiedAt
import Derived.Test.YtibignmpjeemeaaGreatDoorP13
namespace Go.Proofs.YtibignmpjeemeaaGreatDoor
open Go
theorem envRights_main : Tryz.pinned.checked.prog.mainIs = some (true, "c3c2727f3c43316d7de9c3ad69a9c489f60986cba9511717df55a931ff910401".toList) := by kernel_rfl
theorem envRights_goes : false = Rows.envRightsRow.goesBy Tryz.pinned.checked.prog := by kernel_rfl
theorem envRights_holds : Rows.EnvRightsCardSaid :=
  Claim7.holds_tied_plain_at .later [] [.data] true (true, "c3c2727f3c43316d7de9c3ad69a9c489f60986cba9511717df55a931ff910401") true
    envRights_said (fun _ h => by cases h) (by kernel_rfl) (fun _ h => by cases h) envRights_row_tie rfl ⟨rfl, rfl⟩ envRights_main rfl
    (fun f fn hf hfn => by
      obtain rfl : f = 8 := Option.some.inj ((show Tryz.prog.funcNamed "hypercube/hypercubelaw33.EnvRights" = some 8 by kernel_rfl).symm.trans hf) |>.symm
      obtain rfl : fn = Tryz.f8 := (Option.some.inj (Tryz.func8.symm.trans hfn)).symm
      exact ⟨by kernel_rfl, fun j t ht => by
        rw [Tryz.params8] at ht
        have hm : t ∈ [29, 3, 3] := by simpa using Array.mem_of_getElem? ht
        have hall : ([29, 3, 3].all fun u => !Tryz.prog.wantsStandIn u) = true := by kernel_rfl
        exact (show Tryz.prog.wantsStandIn t = false by simpa using List.all_eq_true.1 hall t hm)⟩)
    envRights_goes
#print axioms envRights_holds
end Go.Proofs.YtibignmpjeemeaaGreatDoor
