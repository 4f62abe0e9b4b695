/- DimsPuts: whatever arguments it is given, the law's function returns true, and its arguments read as they did, where the package-level table reads as the program's text lays it (tied to the text by the card). -/
import Derived.Test.YtpfjlbopkhdebaaGreatDoorCards
import Derived.Test.YtpfjlbopkhdebaaGreatDoorTie
import Derived.SevenTiedAt
import Derived.Test.YtpfjlbopkhdebaaGreatDoorP1
import Derived.Test.YtpfjlbopkhdebaaGreatDoorP14
namespace Go.Proofs.YtpfjlbopkhdebaaGreatDoor
open Go
theorem dimsPuts_main : Tryz.pinned.checked.prog.mainIs = some (true, "90479bd108c09853a47b12d7ab3fca4133566e261a1d361117b894e3a6a2c1f1".toList) := by kernel_rfl
theorem dimsPuts_goes : false = Rows.dimsPutsRow.goesBy Tryz.pinned.checked.prog := by kernel_rfl
theorem dimsPuts_holds : Rows.DimsPutsCardSaid :=
  Claim7.holds_tied_plain_at .later [] [.data] true (true, "90479bd108c09853a47b12d7ab3fca4133566e261a1d361117b894e3a6a2c1f1") true
    dimsPuts_said (fun _ h => by cases h) (by kernel_rfl) (fun _ h => by cases h) dimsPuts_row_tie rfl ⟨rfl, rfl⟩ dimsPuts_main rfl
    (fun f fn hf hfn => by
      obtain rfl : f = 4 := Option.some.inj ((show Tryz.prog.funcNamed "hypercube/hypercubelaw13.DimsPuts" = some 4 by kernel_rfl).symm.trans hf) |>.symm
      obtain rfl : fn = Tryz.f4 := (Option.some.inj (Tryz.func4.symm.trans hfn)).symm
      exact ⟨by kernel_rfl, fun j t ht => by
        rw [Tryz.params4] at ht
        have hm : t ∈ [35, 3, 25] := by simpa using Array.mem_of_getElem? ht
        have hall : ([35, 3, 25].all fun u => !Tryz.prog.wantsStandIn u) = true := by kernel_rfl
        exact (show Tryz.prog.wantsStandIn t = false by simpa using List.all_eq_true.1 hall t hm)⟩)
    dimsPuts_goes
#print axioms dimsPuts_holds
end Go.Proofs.YtpfjlbopkhdebaaGreatDoor
