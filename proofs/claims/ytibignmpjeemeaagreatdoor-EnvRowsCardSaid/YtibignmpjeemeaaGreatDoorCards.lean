/-
  DERIVED. GIVEN WITH THE SEED: THE CARDS: each row of YtibignmpjeemeaaGreatDoorRows.lean that lists a variable, with what it lists TIED to the program's text (the seventh form; the later family's looks); each row that meets fmt, with fmt's text TOLD by the authors' own Lean function (tested against real Go, not proved from fmt's source: count such statements apart). THE CARD IS WHAT COUNTS. Prove the row's statement (the work); the ties are given (YtibignmpjeemeaaGreatDoorTie.lean); close each card by the builder's one call (the guide's Derived/Test/ToyasCard.lean, 'card_holds'). Laid BY PROGRAM, IN A SANDBOX (cutbox-door.mjs). By AI agents, Wed Nov 11 2026. No macro, syntax, notation, axiom, sorry.
-/
import Derived.Test.YtibignmpjeemeaaGreatDoorRows
import GoSem.ClaimSeven
namespace Go.Proofs.YtibignmpjeemeaaGreatDoor
namespace Rows

/-- THE TIED CARD OF 'hypercubelaw33.EnvApplies'. -/
def envAppliesCard : Claim7 := { stood := { row := envAppliesRow, standIns := [], harness := (true, "c3c2727f3c43316d7de9c3ad69a9c489f60986cba9511717df55a931ff910401"), looks := true }, kinds := [], alts := [], laidByText := true, laidKinds := [.data], laidTests := true, laidLooks := .later }
def EnvAppliesCardSaid : Prop := Claim7.holds Tryz.pinned (.plain (OpenSpec.ofChange envAppliesSpec)) envAppliesCard

/-- THE TIED CARD OF 'hypercubelaw33.EnvId'. -/
def envIdCard : Claim7 := { stood := { row := envIdRow, standIns := [], harness := (true, "c3c2727f3c43316d7de9c3ad69a9c489f60986cba9511717df55a931ff910401"), looks := true }, kinds := [], alts := [], laidByText := true, laidKinds := [.data], laidTests := true, laidLooks := .later }
def EnvIdCardSaid : Prop := Claim7.holds Tryz.pinned (.plain (OpenSpec.ofChange envIdSpec)) envIdCard

/-- THE TIED CARD OF 'hypercubelaw33.EnvMay'. -/
def envMayCard : Claim7 := { stood := { row := envMayRow, standIns := [], harness := (true, "c3c2727f3c43316d7de9c3ad69a9c489f60986cba9511717df55a931ff910401"), looks := true }, kinds := [], alts := [], laidByText := true, laidKinds := [.data], laidTests := true, laidLooks := .later }
def EnvMayCardSaid : Prop := Claim7.holds Tryz.pinned (.plain (OpenSpec.ofChange envMaySpec)) envMayCard

/-- THE TIED CARD OF 'hypercubelaw33.EnvRows'. -/
def envRowsCard : Claim7 := { stood := { row := envRowsRow, standIns := [], harness := (true, "c3c2727f3c43316d7de9c3ad69a9c489f60986cba9511717df55a931ff910401"), looks := true }, kinds := [], alts := [], laidByText := true, laidKinds := [.data], laidTests := true, laidLooks := .later }
def EnvRowsCardSaid : Prop := Claim7.holds Tryz.pinned (.plain (OpenSpec.ofChange envRowsSpec)) envRowsCard

/-- THE TIED CARD OF 'hypercubelaw33.EnvThen'. -/
def envThenCard : Claim7 := { stood := { row := envThenRow, standIns := [], harness := (true, "c3c2727f3c43316d7de9c3ad69a9c489f60986cba9511717df55a931ff910401"), looks := true }, kinds := [], alts := [], laidByText := true, laidKinds := [.data], laidTests := true, laidLooks := .later }
def EnvThenCardSaid : Prop := Claim7.holds Tryz.pinned (.plain (OpenSpec.ofChange envThenSpec)) envThenCard

/-- THE TIED CARD OF 'hypercubelaw33.EnvRights'. -/
def envRightsCard : Claim7 := { stood := { row := envRightsRow, standIns := [], harness := (true, "c3c2727f3c43316d7de9c3ad69a9c489f60986cba9511717df55a931ff910401"), looks := true }, kinds := [], alts := [], laidByText := true, laidKinds := [.data], laidTests := true, laidLooks := .later }
def EnvRightsCardSaid : Prop := Claim7.holds Tryz.pinned (.plain (OpenSpec.ofChange envRightsSpec)) envRightsCard

/-- THE TIED CARD OF 'hypercubelaw16.BetaSteps'. -/
def betaStepsCard : Claim7 := { stood := { row := betaStepsRow, standIns := [], harness := (true, "c3c2727f3c43316d7de9c3ad69a9c489f60986cba9511717df55a931ff910401"), looks := true }, kinds := [], alts := [], laidByText := true, laidKinds := [.data], laidTests := true, laidLooks := .later }
def BetaStepsCardSaid : Prop := Claim7.holds Tryz.pinned (.plain (OpenSpec.ofChange betaStepsSpec)) betaStepsCard

/-- THE TIED CARD OF 'hypercubelaw16.BetaPlugs'. -/
def betaPlugsCard : Claim7 := { stood := { row := betaPlugsRow, standIns := [], harness := (true, "c3c2727f3c43316d7de9c3ad69a9c489f60986cba9511717df55a931ff910401"), looks := true }, kinds := [], alts := [], laidByText := true, laidKinds := [.data], laidTests := true, laidLooks := .later }
def BetaPlugsCardSaid : Prop := Claim7.holds Tryz.pinned (.plain (OpenSpec.ofChange betaPlugsSpec)) betaPlugsCard

/-- THE TIED CARD OF 'hypercubelaw16.BetaPuts'. -/
def betaPutsCard : Claim7 := { stood := { row := betaPutsRow, standIns := [], harness := (true, "c3c2727f3c43316d7de9c3ad69a9c489f60986cba9511717df55a931ff910401"), looks := true }, kinds := [], alts := [], laidByText := true, laidKinds := [.data], laidTests := true, laidLooks := .later }
def BetaPutsCardSaid : Prop := Claim7.holds Tryz.pinned (.plain (OpenSpec.ofChange betaPutsSpec)) betaPutsCard

/-- THE TIED CARD OF 'hypercubelaw16.BetaMay'. -/
def betaMayCard : Claim7 := { stood := { row := betaMayRow, standIns := [], harness := (true, "c3c2727f3c43316d7de9c3ad69a9c489f60986cba9511717df55a931ff910401"), looks := true }, kinds := [], alts := [], laidByText := true, laidKinds := [.data], laidTests := true, laidLooks := .later }
def BetaMayCardSaid : Prop := Claim7.holds Tryz.pinned (.plain (OpenSpec.ofChange betaMaySpec)) betaMayCard

/-- THE TIED CARD OF 'hypercubelaw33.EnvPlugs'. -/
def envPlugsCard : Claim7 := { stood := { row := envPlugsRow, standIns := [], harness := (true, "c3c2727f3c43316d7de9c3ad69a9c489f60986cba9511717df55a931ff910401"), looks := true }, kinds := [], alts := [], laidByText := true, laidKinds := [.data], laidTests := true, laidLooks := .later }
def EnvPlugsCardSaid : Prop := Claim7.holds Tryz.pinned (.plain (OpenSpec.ofChange envPlugsSpec)) envPlugsCard

/-- THE SECOND FORM's CARD OF 'hypercubelaw33.EnvApplies'. -/
def envAppliesUptoCard : Claim7 := { stood := { row := envAppliesUptoRow, standIns := [], harness := (true, "c3c2727f3c43316d7de9c3ad69a9c489f60986cba9511717df55a931ff910401"), looks := true }, kinds := [], alts := [], laidByText := true, laidKinds := [.data], laidTests := true, laidLooks := .later }
def EnvAppliesUptoCardSaid : Prop := Claim7.holds Tryz.pinned (.plain (OpenSpec.upto envAppliesSpec)) envAppliesUptoCard

/-- THE SECOND FORM's CARD OF 'hypercubelaw33.EnvId'. -/
def envIdUptoCard : Claim7 := { stood := { row := envIdUptoRow, standIns := [], harness := (true, "c3c2727f3c43316d7de9c3ad69a9c489f60986cba9511717df55a931ff910401"), looks := true }, kinds := [], alts := [], laidByText := true, laidKinds := [.data], laidTests := true, laidLooks := .later }
def EnvIdUptoCardSaid : Prop := Claim7.holds Tryz.pinned (.plain (OpenSpec.upto envIdSpec)) envIdUptoCard

/-- THE SECOND FORM's CARD OF 'hypercubelaw33.EnvMay'. -/
def envMayUptoCard : Claim7 := { stood := { row := envMayUptoRow, standIns := [], harness := (true, "c3c2727f3c43316d7de9c3ad69a9c489f60986cba9511717df55a931ff910401"), looks := true }, kinds := [], alts := [], laidByText := true, laidKinds := [.data], laidTests := true, laidLooks := .later }
def EnvMayUptoCardSaid : Prop := Claim7.holds Tryz.pinned (.plain (OpenSpec.upto envMaySpec)) envMayUptoCard

/-- THE SECOND FORM's CARD OF 'hypercubelaw33.EnvRows'. -/
def envRowsUptoCard : Claim7 := { stood := { row := envRowsUptoRow, standIns := [], harness := (true, "c3c2727f3c43316d7de9c3ad69a9c489f60986cba9511717df55a931ff910401"), looks := true }, kinds := [], alts := [], laidByText := true, laidKinds := [.data], laidTests := true, laidLooks := .later }
def EnvRowsUptoCardSaid : Prop := Claim7.holds Tryz.pinned (.plain (OpenSpec.upto envRowsSpec)) envRowsUptoCard

/-- THE SECOND FORM's CARD OF 'hypercubelaw33.EnvThen'. -/
def envThenUptoCard : Claim7 := { stood := { row := envThenUptoRow, standIns := [], harness := (true, "c3c2727f3c43316d7de9c3ad69a9c489f60986cba9511717df55a931ff910401"), looks := true }, kinds := [], alts := [], laidByText := true, laidKinds := [.data], laidTests := true, laidLooks := .later }
def EnvThenUptoCardSaid : Prop := Claim7.holds Tryz.pinned (.plain (OpenSpec.upto envThenSpec)) envThenUptoCard

/-- THE SECOND FORM's CARD OF 'hypercubelaw33.EnvRights'. -/
def envRightsUptoCard : Claim7 := { stood := { row := envRightsUptoRow, standIns := [], harness := (true, "c3c2727f3c43316d7de9c3ad69a9c489f60986cba9511717df55a931ff910401"), looks := true }, kinds := [], alts := [], laidByText := true, laidKinds := [.data], laidTests := true, laidLooks := .later }
def EnvRightsUptoCardSaid : Prop := Claim7.holds Tryz.pinned (.plain (OpenSpec.upto envRightsSpec)) envRightsUptoCard

/-- THE SECOND FORM's CARD OF 'hypercubelaw16.BetaSteps'. -/
def betaStepsUptoCard : Claim7 := { stood := { row := betaStepsUptoRow, standIns := [], harness := (true, "c3c2727f3c43316d7de9c3ad69a9c489f60986cba9511717df55a931ff910401"), looks := true }, kinds := [], alts := [], laidByText := true, laidKinds := [.data], laidTests := true, laidLooks := .later }
def BetaStepsUptoCardSaid : Prop := Claim7.holds Tryz.pinned (.plain (OpenSpec.upto betaStepsSpec)) betaStepsUptoCard

/-- THE SECOND FORM's CARD OF 'hypercubelaw16.BetaPlugs'. -/
def betaPlugsUptoCard : Claim7 := { stood := { row := betaPlugsUptoRow, standIns := [], harness := (true, "c3c2727f3c43316d7de9c3ad69a9c489f60986cba9511717df55a931ff910401"), looks := true }, kinds := [], alts := [], laidByText := true, laidKinds := [.data], laidTests := true, laidLooks := .later }
def BetaPlugsUptoCardSaid : Prop := Claim7.holds Tryz.pinned (.plain (OpenSpec.upto betaPlugsSpec)) betaPlugsUptoCard

/-- THE SECOND FORM's CARD OF 'hypercubelaw16.BetaPuts'. -/
def betaPutsUptoCard : Claim7 := { stood := { row := betaPutsUptoRow, standIns := [], harness := (true, "c3c2727f3c43316d7de9c3ad69a9c489f60986cba9511717df55a931ff910401"), looks := true }, kinds := [], alts := [], laidByText := true, laidKinds := [.data], laidTests := true, laidLooks := .later }
def BetaPutsUptoCardSaid : Prop := Claim7.holds Tryz.pinned (.plain (OpenSpec.upto betaPutsSpec)) betaPutsUptoCard

/-- THE SECOND FORM's CARD OF 'hypercubelaw16.BetaMay'. -/
def betaMayUptoCard : Claim7 := { stood := { row := betaMayUptoRow, standIns := [], harness := (true, "c3c2727f3c43316d7de9c3ad69a9c489f60986cba9511717df55a931ff910401"), looks := true }, kinds := [], alts := [], laidByText := true, laidKinds := [.data], laidTests := true, laidLooks := .later }
def BetaMayUptoCardSaid : Prop := Claim7.holds Tryz.pinned (.plain (OpenSpec.upto betaMaySpec)) betaMayUptoCard

/-- THE SECOND FORM's CARD OF 'hypercubelaw33.EnvPlugs'. -/
def envPlugsUptoCard : Claim7 := { stood := { row := envPlugsUptoRow, standIns := [], harness := (true, "c3c2727f3c43316d7de9c3ad69a9c489f60986cba9511717df55a931ff910401"), looks := true }, kinds := [], alts := [], laidByText := true, laidKinds := [.data], laidTests := true, laidLooks := .later }
def EnvPlugsUptoCardSaid : Prop := Claim7.holds Tryz.pinned (.plain (OpenSpec.upto envPlugsSpec)) envPlugsUptoCard
end Rows
end Go.Proofs.YtibignmpjeemeaaGreatDoor
