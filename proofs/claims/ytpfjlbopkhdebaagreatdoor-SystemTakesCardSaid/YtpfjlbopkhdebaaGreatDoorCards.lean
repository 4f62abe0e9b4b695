/-
  DERIVED. GIVEN WITH THE SEED: THE CARDS: each row of YtpfjlbopkhdebaaGreatDoorRows.lean that lists a variable, with what it lists TIED to the program's text (the seventh form; the later family's looks); each row that meets fmt, with fmt's text TOLD by the authors' own Lean function (tested against real Go, not proved from fmt's source: count such statements apart). THE CARD IS WHAT COUNTS. Prove the row's statement (the work); the ties are given (YtpfjlbopkhdebaaGreatDoorTie.lean); close each card by the builder's one call (the guide's Derived/Test/ToyasCard.lean, 'card_holds'). Laid BY PROGRAM, IN A SANDBOX (cutbox-door.mjs). By AI agents, Wed Nov 11 2026. No macro, syntax, notation, axiom, sorry.
-/
import Derived.Test.YtpfjlbopkhdebaaGreatDoorRows
import GoSem.ClaimSeven
namespace Go.Proofs.YtpfjlbopkhdebaaGreatDoor
namespace Rows

/-- THE TIED CARD OF 'hypercubelaw14.SystemFaces'. -/
def systemFacesCard : Claim7 := { stood := { row := systemFacesRow, standIns := [], harness := (true, "90479bd108c09853a47b12d7ab3fca4133566e261a1d361117b894e3a6a2c1f1"), looks := true }, kinds := [], alts := [], laidByText := true, laidKinds := [.data], laidTests := true, laidLooks := .later }
def SystemFacesCardSaid : Prop := Claim7.holds Tryz.pinned (.plain (OpenSpec.ofChange systemFacesSpec)) systemFacesCard

/-- THE TIED CARD OF 'hypercubelaw13.DimsPuts'. -/
def dimsPutsCard : Claim7 := { stood := { row := dimsPutsRow, standIns := [], harness := (true, "90479bd108c09853a47b12d7ab3fca4133566e261a1d361117b894e3a6a2c1f1"), looks := true }, kinds := [], alts := [], laidByText := true, laidKinds := [.data], laidTests := true, laidLooks := .later }
def DimsPutsCardSaid : Prop := Claim7.holds Tryz.pinned (.plain (OpenSpec.ofChange dimsPutsSpec)) dimsPutsCard

/-- THE TIED CARD OF 'hypercubelaw13.DimsUnders'. -/
def dimsUndersCard : Claim7 := { stood := { row := dimsUndersRow, standIns := [], harness := (true, "90479bd108c09853a47b12d7ab3fca4133566e261a1d361117b894e3a6a2c1f1"), looks := true }, kinds := [], alts := [], laidByText := true, laidKinds := [.data], laidTests := true, laidLooks := .later }
def DimsUndersCardSaid : Prop := Claim7.holds Tryz.pinned (.plain (OpenSpec.ofChange dimsUndersSpec)) dimsUndersCard

/-- THE TIED CARD OF 'hypercubelaw13.DimsFaces'. -/
def dimsFacesCard : Claim7 := { stood := { row := dimsFacesRow, standIns := [], harness := (true, "90479bd108c09853a47b12d7ab3fca4133566e261a1d361117b894e3a6a2c1f1"), looks := true }, kinds := [], alts := [], laidByText := true, laidKinds := [.data], laidTests := true, laidLooks := .later }
def DimsFacesCardSaid : Prop := Claim7.holds Tryz.pinned (.plain (OpenSpec.ofChange dimsFacesSpec)) dimsFacesCard

/-- THE TIED CARD OF 'hypercubelaw14.SystemRestricts'. -/
def systemRestrictsCard : Claim7 := { stood := { row := systemRestrictsRow, standIns := [], harness := (true, "90479bd108c09853a47b12d7ab3fca4133566e261a1d361117b894e3a6a2c1f1"), looks := true }, kinds := [], alts := [], laidByText := true, laidKinds := [.data], laidTests := true, laidLooks := .later }
def SystemRestrictsCardSaid : Prop := Claim7.holds Tryz.pinned (.plain (OpenSpec.ofChange systemRestrictsSpec)) systemRestrictsCard

/-- THE TIED CARD OF 'hypercubelaw13.DimsGone'. -/
def dimsGoneCard : Claim7 := { stood := { row := dimsGoneRow, standIns := [], harness := (true, "90479bd108c09853a47b12d7ab3fca4133566e261a1d361117b894e3a6a2c1f1"), looks := true }, kinds := [], alts := [], laidByText := true, laidKinds := [.data], laidTests := true, laidLooks := .later }
def DimsGoneCardSaid : Prop := Claim7.holds Tryz.pinned (.plain (OpenSpec.ofChange dimsGoneSpec)) dimsGoneCard

/-- THE TIED CARD OF 'hypercubelaw13.DimsSelf'. -/
def dimsSelfCard : Claim7 := { stood := { row := dimsSelfRow, standIns := [], harness := (true, "90479bd108c09853a47b12d7ab3fca4133566e261a1d361117b894e3a6a2c1f1"), looks := true }, kinds := [], alts := [], laidByText := true, laidKinds := [.data], laidTests := true, laidLooks := .later }
def DimsSelfCardSaid : Prop := Claim7.holds Tryz.pinned (.plain (OpenSpec.ofChange dimsSelfSpec)) dimsSelfCard

/-- THE TIED CARD OF 'hypercubelaw25.CtxTypes'. -/
def ctxTypesCard : Claim7 := { stood := { row := ctxTypesRow, standIns := [], harness := (true, "90479bd108c09853a47b12d7ab3fca4133566e261a1d361117b894e3a6a2c1f1"), looks := true }, kinds := [], alts := [], laidByText := true, laidKinds := [.data], laidTests := true, laidLooks := .later }
def CtxTypesCardSaid : Prop := Claim7.holds Tryz.pinned (.plain (OpenSpec.ofChange ctxTypesSpec)) ctxTypesCard

/-- THE TIED CARD OF 'hypercubelaw14.SystemTakes'. -/
def systemTakesCard : Claim7 := { stood := { row := systemTakesRow, standIns := [], harness := (true, "90479bd108c09853a47b12d7ab3fca4133566e261a1d361117b894e3a6a2c1f1"), looks := true }, kinds := [], alts := [], laidByText := true, laidKinds := [.data], laidTests := true, laidLooks := .later }
def SystemTakesCardSaid : Prop := Claim7.holds Tryz.pinned (.plain (OpenSpec.ofChange systemTakesSpec)) systemTakesCard

/-- THE TIED CARD OF 'hypercubelaw14.SystemNone'. -/
def systemNoneCard : Claim7 := { stood := { row := systemNoneRow, standIns := [], harness := (true, "90479bd108c09853a47b12d7ab3fca4133566e261a1d361117b894e3a6a2c1f1"), looks := true }, kinds := [], alts := [], laidByText := true, laidKinds := [.data], laidTests := true, laidLooks := .later }
def SystemNoneCardSaid : Prop := Claim7.holds Tryz.pinned (.plain (OpenSpec.ofChange systemNoneSpec)) systemNoneCard

/-- THE TIED CARD OF 'hypercubelaw25.CtxMay'. -/
def ctxMayCard : Claim7 := { stood := { row := ctxMayRow, standIns := [], harness := (true, "90479bd108c09853a47b12d7ab3fca4133566e261a1d361117b894e3a6a2c1f1"), looks := true }, kinds := [], alts := [], laidByText := true, laidKinds := [.data], laidTests := true, laidLooks := .later }
def CtxMayCardSaid : Prop := Claim7.holds Tryz.pinned (.plain (OpenSpec.ofChange ctxMaySpec)) ctxMayCard

/-- THE TIED CARD OF 'hypercubelaw13.DimsPlugs'. -/
def dimsPlugsCard : Claim7 := { stood := { row := dimsPlugsRow, standIns := [], harness := (true, "90479bd108c09853a47b12d7ab3fca4133566e261a1d361117b894e3a6a2c1f1"), looks := true }, kinds := [], alts := [], laidByText := true, laidKinds := [.data], laidTests := true, laidLooks := .later }
def DimsPlugsCardSaid : Prop := Claim7.holds Tryz.pinned (.plain (OpenSpec.ofChange dimsPlugsSpec)) dimsPlugsCard

/-- THE SECOND FORM's CARD OF 'hypercubelaw14.SystemFaces'. -/
def systemFacesUptoCard : Claim7 := { stood := { row := systemFacesUptoRow, standIns := [], harness := (true, "90479bd108c09853a47b12d7ab3fca4133566e261a1d361117b894e3a6a2c1f1"), looks := true }, kinds := [], alts := [], laidByText := true, laidKinds := [.data], laidTests := true, laidLooks := .later }
def SystemFacesUptoCardSaid : Prop := Claim7.holds Tryz.pinned (.plain (OpenSpec.upto systemFacesSpec)) systemFacesUptoCard

/-- THE SECOND FORM's CARD OF 'hypercubelaw13.DimsPuts'. -/
def dimsPutsUptoCard : Claim7 := { stood := { row := dimsPutsUptoRow, standIns := [], harness := (true, "90479bd108c09853a47b12d7ab3fca4133566e261a1d361117b894e3a6a2c1f1"), looks := true }, kinds := [], alts := [], laidByText := true, laidKinds := [.data], laidTests := true, laidLooks := .later }
def DimsPutsUptoCardSaid : Prop := Claim7.holds Tryz.pinned (.plain (OpenSpec.upto dimsPutsSpec)) dimsPutsUptoCard

/-- THE SECOND FORM's CARD OF 'hypercubelaw13.DimsUnders'. -/
def dimsUndersUptoCard : Claim7 := { stood := { row := dimsUndersUptoRow, standIns := [], harness := (true, "90479bd108c09853a47b12d7ab3fca4133566e261a1d361117b894e3a6a2c1f1"), looks := true }, kinds := [], alts := [], laidByText := true, laidKinds := [.data], laidTests := true, laidLooks := .later }
def DimsUndersUptoCardSaid : Prop := Claim7.holds Tryz.pinned (.plain (OpenSpec.upto dimsUndersSpec)) dimsUndersUptoCard

/-- THE SECOND FORM's CARD OF 'hypercubelaw13.DimsFaces'. -/
def dimsFacesUptoCard : Claim7 := { stood := { row := dimsFacesUptoRow, standIns := [], harness := (true, "90479bd108c09853a47b12d7ab3fca4133566e261a1d361117b894e3a6a2c1f1"), looks := true }, kinds := [], alts := [], laidByText := true, laidKinds := [.data], laidTests := true, laidLooks := .later }
def DimsFacesUptoCardSaid : Prop := Claim7.holds Tryz.pinned (.plain (OpenSpec.upto dimsFacesSpec)) dimsFacesUptoCard

/-- THE SECOND FORM's CARD OF 'hypercubelaw14.SystemRestricts'. -/
def systemRestrictsUptoCard : Claim7 := { stood := { row := systemRestrictsUptoRow, standIns := [], harness := (true, "90479bd108c09853a47b12d7ab3fca4133566e261a1d361117b894e3a6a2c1f1"), looks := true }, kinds := [], alts := [], laidByText := true, laidKinds := [.data], laidTests := true, laidLooks := .later }
def SystemRestrictsUptoCardSaid : Prop := Claim7.holds Tryz.pinned (.plain (OpenSpec.upto systemRestrictsSpec)) systemRestrictsUptoCard

/-- THE SECOND FORM's CARD OF 'hypercubelaw13.DimsGone'. -/
def dimsGoneUptoCard : Claim7 := { stood := { row := dimsGoneUptoRow, standIns := [], harness := (true, "90479bd108c09853a47b12d7ab3fca4133566e261a1d361117b894e3a6a2c1f1"), looks := true }, kinds := [], alts := [], laidByText := true, laidKinds := [.data], laidTests := true, laidLooks := .later }
def DimsGoneUptoCardSaid : Prop := Claim7.holds Tryz.pinned (.plain (OpenSpec.upto dimsGoneSpec)) dimsGoneUptoCard

/-- THE SECOND FORM's CARD OF 'hypercubelaw13.DimsSelf'. -/
def dimsSelfUptoCard : Claim7 := { stood := { row := dimsSelfUptoRow, standIns := [], harness := (true, "90479bd108c09853a47b12d7ab3fca4133566e261a1d361117b894e3a6a2c1f1"), looks := true }, kinds := [], alts := [], laidByText := true, laidKinds := [.data], laidTests := true, laidLooks := .later }
def DimsSelfUptoCardSaid : Prop := Claim7.holds Tryz.pinned (.plain (OpenSpec.upto dimsSelfSpec)) dimsSelfUptoCard

/-- THE SECOND FORM's CARD OF 'hypercubelaw25.CtxTypes'. -/
def ctxTypesUptoCard : Claim7 := { stood := { row := ctxTypesUptoRow, standIns := [], harness := (true, "90479bd108c09853a47b12d7ab3fca4133566e261a1d361117b894e3a6a2c1f1"), looks := true }, kinds := [], alts := [], laidByText := true, laidKinds := [.data], laidTests := true, laidLooks := .later }
def CtxTypesUptoCardSaid : Prop := Claim7.holds Tryz.pinned (.plain (OpenSpec.upto ctxTypesSpec)) ctxTypesUptoCard

/-- THE SECOND FORM's CARD OF 'hypercubelaw14.SystemTakes'. -/
def systemTakesUptoCard : Claim7 := { stood := { row := systemTakesUptoRow, standIns := [], harness := (true, "90479bd108c09853a47b12d7ab3fca4133566e261a1d361117b894e3a6a2c1f1"), looks := true }, kinds := [], alts := [], laidByText := true, laidKinds := [.data], laidTests := true, laidLooks := .later }
def SystemTakesUptoCardSaid : Prop := Claim7.holds Tryz.pinned (.plain (OpenSpec.upto systemTakesSpec)) systemTakesUptoCard

/-- THE SECOND FORM's CARD OF 'hypercubelaw14.SystemNone'. -/
def systemNoneUptoCard : Claim7 := { stood := { row := systemNoneUptoRow, standIns := [], harness := (true, "90479bd108c09853a47b12d7ab3fca4133566e261a1d361117b894e3a6a2c1f1"), looks := true }, kinds := [], alts := [], laidByText := true, laidKinds := [.data], laidTests := true, laidLooks := .later }
def SystemNoneUptoCardSaid : Prop := Claim7.holds Tryz.pinned (.plain (OpenSpec.upto systemNoneSpec)) systemNoneUptoCard

/-- THE SECOND FORM's CARD OF 'hypercubelaw25.CtxMay'. -/
def ctxMayUptoCard : Claim7 := { stood := { row := ctxMayUptoRow, standIns := [], harness := (true, "90479bd108c09853a47b12d7ab3fca4133566e261a1d361117b894e3a6a2c1f1"), looks := true }, kinds := [], alts := [], laidByText := true, laidKinds := [.data], laidTests := true, laidLooks := .later }
def CtxMayUptoCardSaid : Prop := Claim7.holds Tryz.pinned (.plain (OpenSpec.upto ctxMaySpec)) ctxMayUptoCard

/-- THE SECOND FORM's CARD OF 'hypercubelaw13.DimsPlugs'. -/
def dimsPlugsUptoCard : Claim7 := { stood := { row := dimsPlugsUptoRow, standIns := [], harness := (true, "90479bd108c09853a47b12d7ab3fca4133566e261a1d361117b894e3a6a2c1f1"), looks := true }, kinds := [], alts := [], laidByText := true, laidKinds := [.data], laidTests := true, laidLooks := .later }
def DimsPlugsUptoCardSaid : Prop := Claim7.holds Tryz.pinned (.plain (OpenSpec.upto dimsPlugsSpec)) dimsPlugsUptoCard
end Rows
end Go.Proofs.YtpfjlbopkhdebaaGreatDoor
