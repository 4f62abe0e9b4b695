/- CtxTypes: whatever arguments it is given, the law's function returns true, and its arguments read as they did, where the package-level table reads as the program's text lays it (tied to the text by the card). -/
import Derived.Test.YtpfjlbopkhdebaaGreatDoorCards
import Derived.Test.YtpfjlbopkhdebaaGreatDoorTie
import Derived.SevenTiedAt
import Derived.Test.YtpfjlbopkhdebaaGreatDoorP14
namespace Go.Proofs.YtpfjlbopkhdebaaGreatDoor
open Go
theorem ctxTypes_main : Tryz.pinned.checked.prog.mainIs = some (true, "90479bd108c09853a47b12d7ab3fca4133566e261a1d361117b894e3a6a2c1f1".toList) := by kernel_rfl
theorem ctxTypes_goes : false = Rows.ctxTypesRow.goesBy Tryz.pinned.checked.prog := by kernel_rfl
theorem ctxTypes_holds : Rows.CtxTypesCardSaid :=
  Claim7.holds_tied_plain_at .later [] [.data] true (true, "90479bd108c09853a47b12d7ab3fca4133566e261a1d361117b894e3a6a2c1f1") true
    ctxTypes_said (fun _ h => by cases h) (by kernel_rfl) (fun _ h => by cases h) ctxTypes_row_tie rfl ⟨rfl, rfl⟩ ctxTypes_main rfl
    (fun f fn hf hfn => by
      obtain rfl : f = 10 := Option.some.inj ((show Tryz.prog.funcNamed "hypercube/hypercubelaw25.CtxTypes" = some 10 by kernel_rfl).symm.trans hf) |>.symm
      obtain rfl : fn = Tryz.f10 := (Option.some.inj (Tryz.func10.symm.trans hfn)).symm
      exact ⟨by kernel_rfl, fun j t ht => by
        rw [Tryz.params10] at ht
        have hm : t ∈ [68, 3, 45] := by simpa using Array.mem_of_getElem? ht
        have hall : ([68, 3, 45].all fun u => !Tryz.prog.wantsStandIn u) = true := by kernel_rfl
        exact (show Tryz.prog.wantsStandIn t = false by simpa using List.all_eq_true.1 hall t hm)⟩)
    ctxTypes_goes
#print axioms ctxTypes_holds
end Go.Proofs.YtpfjlbopkhdebaaGreatDoor
