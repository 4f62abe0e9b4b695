/- EnvRows: whatever arguments it is given, the law's function returns true, and its arguments read as they did, where the package-level table reads as the program's text lays it (tied to the text by the card). -/
import Derived.Test.YtibignmpjeemeaaGreatDoorCards
import Derived.Test.YtibignmpjeemeaaGreatDoorTie
import Derived.SevenTiedAt
import Derived.Test.YtibignmpjeemeaaGreatDoorP14
namespace Go.Proofs.YtibignmpjeemeaaGreatDoor
open Go
theorem envRows_main : Tryz.pinned.checked.prog.mainIs = some (true, "c3c2727f3c43316d7de9c3ad69a9c489f60986cba9511717df55a931ff910401".toList) := by kernel_rfl
theorem envRows_goes : false = Rows.envRowsRow.goesBy Tryz.pinned.checked.prog := by kernel_rfl
theorem envRows_holds : Rows.EnvRowsCardSaid :=
  Claim7.holds_tied_plain_at .later [] [.data] true (true, "c3c2727f3c43316d7de9c3ad69a9c489f60986cba9511717df55a931ff910401") true
    envRows_said (fun _ h => by cases h) (by kernel_rfl) (fun _ h => by cases h) envRows_row_tie rfl ⟨rfl, rfl⟩ envRows_main rfl
    (fun f fn hf hfn => by
      obtain rfl : f = 6 := Option.some.inj ((show Tryz.prog.funcNamed "hypercube/hypercubelaw33.EnvRows" = some 6 by kernel_rfl).symm.trans hf) |>.symm
      obtain rfl : fn = Tryz.f6 := (Option.some.inj (Tryz.func6.symm.trans hfn)).symm
      exact ⟨by kernel_rfl, fun j t ht => by
        rw [Tryz.params6] at ht
        have hm : t ∈ [22, 29, 29] := by simpa using Array.mem_of_getElem? ht
        have hall : ([22, 29, 29].all fun u => !Tryz.prog.wantsStandIn u) = true := by kernel_rfl
        exact (show Tryz.prog.wantsStandIn t = false by simpa using List.all_eq_true.1 hall t hm)⟩)
    envRows_goes
#print axioms envRows_holds
end Go.Proofs.YtibignmpjeemeaaGreatDoor
