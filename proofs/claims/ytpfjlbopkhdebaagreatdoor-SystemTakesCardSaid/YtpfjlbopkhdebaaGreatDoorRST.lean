/- SystemTakes: whatever arguments it is given, the law's function returns true, and its arguments read as they did, where the package-level table reads as the program's text lays it (tied to the text by the card). -/
import Derived.Test.YtpfjlbopkhdebaaGreatDoorCards
import Derived.Test.YtpfjlbopkhdebaaGreatDoorTie
import Derived.SevenTiedAt
import Derived.Test.YtpfjlbopkhdebaaGreatDoorP15
namespace Go.Proofs.YtpfjlbopkhdebaaGreatDoor
open Go
theorem systemTakes_main : Tryz.pinned.checked.prog.mainIs = some (true, "90479bd108c09853a47b12d7ab3fca4133566e261a1d361117b894e3a6a2c1f1".toList) := by kernel_rfl
theorem systemTakes_goes : false = Rows.systemTakesRow.goesBy Tryz.pinned.checked.prog := by kernel_rfl
theorem systemTakes_holds : Rows.SystemTakesCardSaid :=
  Claim7.holds_tied_plain_at .later [] [.data] true (true, "90479bd108c09853a47b12d7ab3fca4133566e261a1d361117b894e3a6a2c1f1") true
    systemTakes_said (fun _ h => by cases h) (by kernel_rfl) (fun _ h => by cases h) systemTakes_row_tie rfl ⟨rfl, rfl⟩ systemTakes_main rfl
    (fun f fn hf hfn => by
      obtain rfl : f = 11 := Option.some.inj ((show Tryz.prog.funcNamed "hypercube/hypercubelaw14.SystemTakes" = some 11 by kernel_rfl).symm.trans hf) |>.symm
      obtain rfl : fn = Tryz.f11 := (Option.some.inj (Tryz.func11.symm.trans hfn)).symm
      exact ⟨by kernel_rfl, fun j t ht => by
        rw [Tryz.params11] at ht
        have hm : t ∈ [3, 22, 3, 25, 45, 3] := by simpa using Array.mem_of_getElem? ht
        have hall : ([3, 22, 3, 25, 45, 3].all fun u => !Tryz.prog.wantsStandIn u) = true := by kernel_rfl
        exact (show Tryz.prog.wantsStandIn t = false by simpa using List.all_eq_true.1 hall t hm)⟩)
    systemTakes_goes
#print axioms systemTakes_holds
end Go.Proofs.YtpfjlbopkhdebaaGreatDoor
