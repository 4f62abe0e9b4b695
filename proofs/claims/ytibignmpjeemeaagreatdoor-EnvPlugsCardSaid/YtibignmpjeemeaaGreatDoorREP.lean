/- EnvPlugs: whatever arguments it is given, the law's function returns true, and its arguments read as they did, where the package-level table reads as the program's text lays it (tied to the text by the card). -/
import Derived.Test.YtibignmpjeemeaaGreatDoorCards
import Derived.Test.YtibignmpjeemeaaGreatDoorTie
import Derived.SevenTiedAt
import Derived.Test.YtibignmpjeemeaaGreatDoorP14
namespace Go.Proofs.YtibignmpjeemeaaGreatDoor
open Go
theorem envPlugs_main : Tryz.pinned.checked.prog.mainIs = some (true, "c3c2727f3c43316d7de9c3ad69a9c489f60986cba9511717df55a931ff910401".toList) := by kernel_rfl
theorem envPlugs_goes : false = Rows.envPlugsRow.goesBy Tryz.pinned.checked.prog := by kernel_rfl
theorem envPlugs_holds : Rows.EnvPlugsCardSaid :=
  Claim7.holds_tied_plain_at .later [] [.data] true (true, "c3c2727f3c43316d7de9c3ad69a9c489f60986cba9511717df55a931ff910401") true
    envPlugs_said (fun _ h => by cases h) (by kernel_rfl) (fun _ h => by cases h) envPlugs_row_tie rfl ⟨rfl, rfl⟩ envPlugs_main rfl
    (fun f fn hf hfn => by
      obtain rfl : f = 13 := Option.some.inj ((show Tryz.prog.funcNamed "hypercube/hypercubelaw33.EnvPlugs" = some 13 by kernel_rfl).symm.trans hf) |>.symm
      obtain rfl : fn = Tryz.f13 := (Option.some.inj (Tryz.func13.symm.trans hfn)).symm
      exact ⟨by kernel_rfl, fun j t ht => by
        rw [Tryz.params13] at ht
        have hm : t ∈ [26, 26, 22, 3, 3] := by simpa using Array.mem_of_getElem? ht
        have hall : ([26, 26, 22, 3, 3].all fun u => !Tryz.prog.wantsStandIn u) = true := by kernel_rfl
        exact (show Tryz.prog.wantsStandIn t = false by simpa using List.all_eq_true.1 hall t hm)⟩)
    envPlugs_goes
#print axioms envPlugs_holds
end Go.Proofs.YtibignmpjeemeaaGreatDoor
