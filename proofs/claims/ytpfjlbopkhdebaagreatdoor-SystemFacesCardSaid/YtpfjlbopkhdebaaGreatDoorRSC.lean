/- SystemFaces: whatever arguments it is given, the law's function returns true, and its arguments read as they did, where the package-level table reads as the program's text lays it (tied to the text by the card). -/
import Derived.Test.YtpfjlbopkhdebaaGreatDoorCards
import Derived.Test.YtpfjlbopkhdebaaGreatDoorTie
import Derived.SevenTiedAt
import Derived.Test.YtpfjlbopkhdebaaGreatDoorP12
namespace Go.Proofs.YtpfjlbopkhdebaaGreatDoor
open Go
theorem systemFaces_holds : Rows.SystemFacesCardSaid :=
  Claim7.holds_tied_plain_at .later [] [.data] true (true, "90479bd108c09853a47b12d7ab3fca4133566e261a1d361117b894e3a6a2c1f1") true
    systemFaces_said (fun _ h => by cases h) (by kernel_rfl) (fun _ h => by cases h) systemFaces_row_tie rfl ⟨rfl, rfl⟩ (by kernel_rfl) rfl
    (fun f fn hf hfn => by
      obtain rfl : f = 3 := Option.some.inj ((show Tryz.prog.funcNamed "hypercube/hypercubelaw14.SystemFaces" = some 3 by kernel_rfl).symm.trans hf) |>.symm
      obtain rfl : fn = Tryz.f3 := (Option.some.inj (Tryz.func3.symm.trans hfn)).symm
      exact ⟨by kernel_rfl, fun j t ht => by
        rw [Tryz.params3] at ht
        have hm : t ∈ [22] := by simpa using Array.mem_of_getElem? ht
        have hall : ([22].all fun u => !Tryz.prog.wantsStandIn u) = true := by kernel_rfl
        exact (show Tryz.prog.wantsStandIn t = false by simpa using List.all_eq_true.1 hall t hm)⟩)
    (by kernel_rfl)
#print axioms systemFaces_holds
end Go.Proofs.YtpfjlbopkhdebaaGreatDoor
