/-
  NARROWER THAN 'FOR EVERY INPUT', by the rows' own cells (each row's printed sentence says how): EnvApplies: loops, laid · EnvId: loops, laid · EnvMay: loops, laid · EnvRows: loops, laid · EnvThen: loops, laid · EnvRights: loops, laid · BetaSteps: loops, laid · BetaPlugs: loops, laid · BetaPuts: loops, laid · BetaMay: loops, laid · EnvPlugs: loops, laid.
  DERIVED. THE GIVEN ROWS OF THIS SEAT. 11 by the template 'for every input the law returns true; each argument reads behind the call as it read before'; 0 by the template 'total and deterministic' (their statements: YtibignmpjeemeaaGreatDoorTotals.lean).
  GIVEN WITH THE SEED: the statements are not yours to turn. If you find one false, say at which input.
  Laid BY PROGRAM, IN A SANDBOX (cutbox-rows.mjs): the forced cells as the released guide's own fill.sh prints them over the translation bb4021916e1998b2… (all of the seat's roots in one cut). By AI agents, Wed Nov 11 2026. No macro, syntax, notation, axiom, sorry.
-/
import Derived.Test.YtibignmpjeemeaaGreatDoorChecked
import GoSem.Claim
import GoSem.ClaimJoined
import GoSem.ClaimMapViews
import Derived.JoinedTies
import Derived.KernelRfl
namespace Go.Proofs.YtibignmpjeemeaaGreatDoor
/- THE CELL 'sum', in the pinned program and in every row, IS THE sha256 OF THE DUMP (.gsa) THAT YtibignmpjeemeaaGreatDoorProg.lean LOADS. Nothing in Lean hashes anything: it is a label: what it is worth is what the hold of that sum in a sandbox is worth. -/
noncomputable def Tryz.pinned : Pinned := { name := "ytibignmpjeemeaagreatdoor", sum := "bb4021916e1998b2e674b1bf3e01f3487ee3dfff2ea7f277ab52b8c432d0d00f", checked := Tryz.checked }
namespace Rows
def none {H : Type} : Left H := { results := [], args := [] }

/- WHAT THE LISTED PACKAGE-LEVEL VARIABLES READ AS WHEN THE CALL BEGINS. Each datum BY PROGRAM (the guide's laid-datum.mjs) off the statement by which the dump's own 'gosem.cut.vars' lays the variable. In a bare row this is a premise. The card (YtibignmpjeemeaaGreatDoorCards.lean) ties it to the program's text. -/
def laid_math_bits_deBruijn32tab {H : Type} : DataW H := .agg [.lit (.int .u8 0), .lit (.int .u8 1), .lit (.int .u8 28), .lit (.int .u8 2), .lit (.int .u8 29), .lit (.int .u8 14), .lit (.int .u8 24), .lit (.int .u8 3), .lit (.int .u8 30), .lit (.int .u8 22), .lit (.int .u8 20), .lit (.int .u8 15), .lit (.int .u8 25), .lit (.int .u8 17), .lit (.int .u8 4), .lit (.int .u8 8), .lit (.int .u8 31), .lit (.int .u8 27), .lit (.int .u8 13), .lit (.int .u8 23), .lit (.int .u8 21), .lit (.int .u8 19), .lit (.int .u8 16), .lit (.int .u8 7), .lit (.int .u8 26), .lit (.int .u8 12), .lit (.int .u8 18), .lit (.int .u8 6), .lit (.int .u8 11), .lit (.int .u8 5), .lit (.int .u8 10), .lit (.int .u8 9)]

/-- 'hypercubelaw33.EnvApplies': WHATEVER THE INPUT: true; the input reads as it did. -/
def envAppliesSpec : ChangeSpec := { name := "envApplies", fn := fun _ => fun
  | [d1, d2] => { results := [.lit (.bool true)], args := [d1, d2] }
  | _ => none }
def envAppliesRow : OpenClaim := { program := "ytibignmpjeemeaagreatdoor", sum := "bb4021916e1998b2e674b1bf3e01f3487ee3dfff2ea7f277ab52b8c432d0d00f", func := "hypercube/hypercubelaw33.EnvApplies", spec := "envApplies", unfollowed := true, recurses := true, named := ["math/bits.deBruijn32tab"], loops := true, plainKeys := false, apart := false, laid := [("math/bits.deBruijn32tab", laid_math_bits_deBruijn32tab)] }
def EnvAppliesSaid : Prop := envAppliesRow.holds Tryz.pinned (OpenSpec.ofChange envAppliesSpec)

/-- ITS FALSE NEIGHBOUR: 'it returns false'. Refute it at one input. -/
def envAppliesWrong : ChangeSpec := { name := "envApplies", fn := fun _ => fun
  | [d1, d2] => { results := [.lit (.bool false)], args := [d1, d2] }
  | _ => none }
def EnvAppliesWrongFalsely : Prop := envAppliesRow.holds Tryz.pinned (OpenSpec.ofChange envAppliesWrong)

/-- 'hypercubelaw33.EnvId': WHATEVER THE INPUT: true; the input reads as it did. -/
def envIdSpec : ChangeSpec := { name := "envId", fn := fun _ => fun
  | [d1, d2, d3] => { results := [.lit (.bool true)], args := [d1, d2, d3] }
  | _ => none }
def envIdRow : OpenClaim := { program := "ytibignmpjeemeaagreatdoor", sum := "bb4021916e1998b2e674b1bf3e01f3487ee3dfff2ea7f277ab52b8c432d0d00f", func := "hypercube/hypercubelaw33.EnvId", spec := "envId", unfollowed := true, recurses := true, named := ["math/bits.deBruijn32tab"], loops := true, plainKeys := false, apart := false, laid := [("math/bits.deBruijn32tab", laid_math_bits_deBruijn32tab)] }
def EnvIdSaid : Prop := envIdRow.holds Tryz.pinned (OpenSpec.ofChange envIdSpec)

/-- ITS FALSE NEIGHBOUR: 'it returns false'. Refute it at one input. -/
def envIdWrong : ChangeSpec := { name := "envId", fn := fun _ => fun
  | [d1, d2, d3] => { results := [.lit (.bool false)], args := [d1, d2, d3] }
  | _ => none }
def EnvIdWrongFalsely : Prop := envIdRow.holds Tryz.pinned (OpenSpec.ofChange envIdWrong)

/-- 'hypercubelaw33.EnvMay': WHATEVER THE INPUT: true; the input reads as it did. -/
def envMaySpec : ChangeSpec := { name := "envMay", fn := fun _ => fun
  | [d1, d2, d3, d4] => { results := [.lit (.bool true)], args := [d1, d2, d3, d4] }
  | _ => none }
def envMayRow : OpenClaim := { program := "ytibignmpjeemeaagreatdoor", sum := "bb4021916e1998b2e674b1bf3e01f3487ee3dfff2ea7f277ab52b8c432d0d00f", func := "hypercube/hypercubelaw33.EnvMay", spec := "envMay", unfollowed := true, recurses := true, named := ["math/bits.deBruijn32tab"], loops := true, plainKeys := false, apart := false, laid := [("math/bits.deBruijn32tab", laid_math_bits_deBruijn32tab)] }
def EnvMaySaid : Prop := envMayRow.holds Tryz.pinned (OpenSpec.ofChange envMaySpec)

/-- ITS FALSE NEIGHBOUR: 'it returns false'. Refute it at one input. -/
def envMayWrong : ChangeSpec := { name := "envMay", fn := fun _ => fun
  | [d1, d2, d3, d4] => { results := [.lit (.bool false)], args := [d1, d2, d3, d4] }
  | _ => none }
def EnvMayWrongFalsely : Prop := envMayRow.holds Tryz.pinned (OpenSpec.ofChange envMayWrong)

/-- 'hypercubelaw33.EnvRows': WHATEVER THE INPUT: true; the input reads as it did. -/
def envRowsSpec : ChangeSpec := { name := "envRows", fn := fun _ => fun
  | [d1, d2, d3] => { results := [.lit (.bool true)], args := [d1, d2, d3] }
  | _ => none }
def envRowsRow : OpenClaim := { program := "ytibignmpjeemeaagreatdoor", sum := "bb4021916e1998b2e674b1bf3e01f3487ee3dfff2ea7f277ab52b8c432d0d00f", func := "hypercube/hypercubelaw33.EnvRows", spec := "envRows", unfollowed := true, recurses := true, named := ["math/bits.deBruijn32tab"], loops := true, plainKeys := false, apart := false, laid := [("math/bits.deBruijn32tab", laid_math_bits_deBruijn32tab)] }
def EnvRowsSaid : Prop := envRowsRow.holds Tryz.pinned (OpenSpec.ofChange envRowsSpec)

/-- ITS FALSE NEIGHBOUR: 'it returns false'. Refute it at one input. -/
def envRowsWrong : ChangeSpec := { name := "envRows", fn := fun _ => fun
  | [d1, d2, d3] => { results := [.lit (.bool false)], args := [d1, d2, d3] }
  | _ => none }
def EnvRowsWrongFalsely : Prop := envRowsRow.holds Tryz.pinned (OpenSpec.ofChange envRowsWrong)

/-- 'hypercubelaw33.EnvThen': WHATEVER THE INPUT: true; the input reads as it did. -/
def envThenSpec : ChangeSpec := { name := "envThen", fn := fun _ => fun
  | [d1, d2, d3] => { results := [.lit (.bool true)], args := [d1, d2, d3] }
  | _ => none }
def envThenRow : OpenClaim := { program := "ytibignmpjeemeaagreatdoor", sum := "bb4021916e1998b2e674b1bf3e01f3487ee3dfff2ea7f277ab52b8c432d0d00f", func := "hypercube/hypercubelaw33.EnvThen", spec := "envThen", unfollowed := true, recurses := true, named := ["math/bits.deBruijn32tab"], loops := true, plainKeys := false, apart := false, laid := [("math/bits.deBruijn32tab", laid_math_bits_deBruijn32tab)] }
def EnvThenSaid : Prop := envThenRow.holds Tryz.pinned (OpenSpec.ofChange envThenSpec)

/-- ITS FALSE NEIGHBOUR: 'it returns false'. Refute it at one input. -/
def envThenWrong : ChangeSpec := { name := "envThen", fn := fun _ => fun
  | [d1, d2, d3] => { results := [.lit (.bool false)], args := [d1, d2, d3] }
  | _ => none }
def EnvThenWrongFalsely : Prop := envThenRow.holds Tryz.pinned (OpenSpec.ofChange envThenWrong)

/-- 'hypercubelaw33.EnvRights': WHATEVER THE INPUT: true; the input reads as it did. -/
def envRightsSpec : ChangeSpec := { name := "envRights", fn := fun _ => fun
  | [d1, d2, d3] => { results := [.lit (.bool true)], args := [d1, d2, d3] }
  | _ => none }
def envRightsRow : OpenClaim := { program := "ytibignmpjeemeaagreatdoor", sum := "bb4021916e1998b2e674b1bf3e01f3487ee3dfff2ea7f277ab52b8c432d0d00f", func := "hypercube/hypercubelaw33.EnvRights", spec := "envRights", unfollowed := true, recurses := true, named := ["math/bits.deBruijn32tab"], loops := true, plainKeys := false, apart := false, laid := [("math/bits.deBruijn32tab", laid_math_bits_deBruijn32tab)] }
def EnvRightsSaid : Prop := envRightsRow.holds Tryz.pinned (OpenSpec.ofChange envRightsSpec)

/-- ITS FALSE NEIGHBOUR: 'it returns false'. Refute it at one input. -/
def envRightsWrong : ChangeSpec := { name := "envRights", fn := fun _ => fun
  | [d1, d2, d3] => { results := [.lit (.bool false)], args := [d1, d2, d3] }
  | _ => none }
def EnvRightsWrongFalsely : Prop := envRightsRow.holds Tryz.pinned (OpenSpec.ofChange envRightsWrong)

/-- 'hypercubelaw16.BetaSteps': WHATEVER THE INPUT: true; the input reads as it did. -/
def betaStepsSpec : ChangeSpec := { name := "betaSteps", fn := fun _ => fun
  | [d] => { results := [.lit (.bool true)], args := [d] }
  | _ => none }
def betaStepsRow : OpenClaim := { program := "ytibignmpjeemeaagreatdoor", sum := "bb4021916e1998b2e674b1bf3e01f3487ee3dfff2ea7f277ab52b8c432d0d00f", func := "hypercube/hypercubelaw16.BetaSteps", spec := "betaSteps", unfollowed := true, recurses := true, named := ["math/bits.deBruijn32tab"], loops := true, plainKeys := false, apart := false, laid := [("math/bits.deBruijn32tab", laid_math_bits_deBruijn32tab)] }
def BetaStepsSaid : Prop := betaStepsRow.holds Tryz.pinned (OpenSpec.ofChange betaStepsSpec)

/-- ITS FALSE NEIGHBOUR: 'it returns false'. Refute it at one input. -/
def betaStepsWrong : ChangeSpec := { name := "betaSteps", fn := fun _ => fun
  | [d] => { results := [.lit (.bool false)], args := [d] }
  | _ => none }
def BetaStepsWrongFalsely : Prop := betaStepsRow.holds Tryz.pinned (OpenSpec.ofChange betaStepsWrong)

/-- 'hypercubelaw16.BetaPlugs': WHATEVER THE INPUT: true; the input reads as it did. -/
def betaPlugsSpec : ChangeSpec := { name := "betaPlugs", fn := fun _ => fun
  | [d1, d2] => { results := [.lit (.bool true)], args := [d1, d2] }
  | _ => none }
def betaPlugsRow : OpenClaim := { program := "ytibignmpjeemeaagreatdoor", sum := "bb4021916e1998b2e674b1bf3e01f3487ee3dfff2ea7f277ab52b8c432d0d00f", func := "hypercube/hypercubelaw16.BetaPlugs", spec := "betaPlugs", unfollowed := true, recurses := true, named := ["math/bits.deBruijn32tab"], loops := true, plainKeys := false, apart := false, laid := [("math/bits.deBruijn32tab", laid_math_bits_deBruijn32tab)] }
def BetaPlugsSaid : Prop := betaPlugsRow.holds Tryz.pinned (OpenSpec.ofChange betaPlugsSpec)

/-- ITS FALSE NEIGHBOUR: 'it returns false'. Refute it at one input. -/
def betaPlugsWrong : ChangeSpec := { name := "betaPlugs", fn := fun _ => fun
  | [d1, d2] => { results := [.lit (.bool false)], args := [d1, d2] }
  | _ => none }
def BetaPlugsWrongFalsely : Prop := betaPlugsRow.holds Tryz.pinned (OpenSpec.ofChange betaPlugsWrong)

/-- 'hypercubelaw16.BetaPuts': WHATEVER THE INPUT: true; the input reads as it did. -/
def betaPutsSpec : ChangeSpec := { name := "betaPuts", fn := fun _ => fun
  | [d1, d2, d3] => { results := [.lit (.bool true)], args := [d1, d2, d3] }
  | _ => none }
def betaPutsRow : OpenClaim := { program := "ytibignmpjeemeaagreatdoor", sum := "bb4021916e1998b2e674b1bf3e01f3487ee3dfff2ea7f277ab52b8c432d0d00f", func := "hypercube/hypercubelaw16.BetaPuts", spec := "betaPuts", unfollowed := true, recurses := true, named := ["math/bits.deBruijn32tab"], loops := true, plainKeys := false, apart := false, laid := [("math/bits.deBruijn32tab", laid_math_bits_deBruijn32tab)] }
def BetaPutsSaid : Prop := betaPutsRow.holds Tryz.pinned (OpenSpec.ofChange betaPutsSpec)

/-- ITS FALSE NEIGHBOUR: 'it returns false'. Refute it at one input. -/
def betaPutsWrong : ChangeSpec := { name := "betaPuts", fn := fun _ => fun
  | [d1, d2, d3] => { results := [.lit (.bool false)], args := [d1, d2, d3] }
  | _ => none }
def BetaPutsWrongFalsely : Prop := betaPutsRow.holds Tryz.pinned (OpenSpec.ofChange betaPutsWrong)

/-- 'hypercubelaw16.BetaMay': WHATEVER THE INPUT: true; the input reads as it did. -/
def betaMaySpec : ChangeSpec := { name := "betaMay", fn := fun _ => fun
  | [d1, d2, d3] => { results := [.lit (.bool true)], args := [d1, d2, d3] }
  | _ => none }
def betaMayRow : OpenClaim := { program := "ytibignmpjeemeaagreatdoor", sum := "bb4021916e1998b2e674b1bf3e01f3487ee3dfff2ea7f277ab52b8c432d0d00f", func := "hypercube/hypercubelaw16.BetaMay", spec := "betaMay", unfollowed := true, recurses := true, named := ["math/bits.deBruijn32tab"], loops := true, plainKeys := false, apart := false, laid := [("math/bits.deBruijn32tab", laid_math_bits_deBruijn32tab)] }
def BetaMaySaid : Prop := betaMayRow.holds Tryz.pinned (OpenSpec.ofChange betaMaySpec)

/-- ITS FALSE NEIGHBOUR: 'it returns false'. Refute it at one input. -/
def betaMayWrong : ChangeSpec := { name := "betaMay", fn := fun _ => fun
  | [d1, d2, d3] => { results := [.lit (.bool false)], args := [d1, d2, d3] }
  | _ => none }
def BetaMayWrongFalsely : Prop := betaMayRow.holds Tryz.pinned (OpenSpec.ofChange betaMayWrong)

/-- 'hypercubelaw33.EnvPlugs': WHATEVER THE INPUT: true; the input reads as it did. -/
def envPlugsSpec : ChangeSpec := { name := "envPlugs", fn := fun _ => fun
  | [d1, d2, d3, d4, d5] => { results := [.lit (.bool true)], args := [d1, d2, d3, d4, d5] }
  | _ => none }
def envPlugsRow : OpenClaim := { program := "ytibignmpjeemeaagreatdoor", sum := "bb4021916e1998b2e674b1bf3e01f3487ee3dfff2ea7f277ab52b8c432d0d00f", func := "hypercube/hypercubelaw33.EnvPlugs", spec := "envPlugs", unfollowed := true, recurses := true, named := ["math/bits.deBruijn32tab"], loops := true, plainKeys := false, apart := false, laid := [("math/bits.deBruijn32tab", laid_math_bits_deBruijn32tab)] }
def EnvPlugsSaid : Prop := envPlugsRow.holds Tryz.pinned (OpenSpec.ofChange envPlugsSpec)

/-- ITS FALSE NEIGHBOUR: 'it returns false'. Refute it at one input. -/
def envPlugsWrong : ChangeSpec := { name := "envPlugs", fn := fun _ => fun
  | [d1, d2, d3, d4, d5] => { results := [.lit (.bool false)], args := [d1, d2, d3, d4, d5] }
  | _ => none }
def EnvPlugsWrongFalsely : Prop := envPlugsRow.holds Tryz.pinned (OpenSpec.ofChange envPlugsWrong)

/- THE SECOND FORM. 'bulk': how many values and letters a reading holds, each counted each time it is reached (what is shared counts as often as it is met; a slice's spare places count too). A statement '..UptoSaid' is the law's where the arguments, and the package variables that the reading takes, are together of bulk at most 1048576: NARROWER than '..Said'. Prove '..Said' where nothing that the law and all that it calls make is longer than what came in: it says more and counts as full. Else prove '..UptoSaid'. A law counts once. -/
mutual
def uptoBulk {H : Type} : DataW H → Nat
  | .lit (.string bytes) => bytes.length + 1
  | .lit _ => 1
  | .nil => 1
  | .ptr d => uptoBulk d + 1
  | .slice elems spare => uptoBulkAll elems + uptoBulkAll spare + 1
  | .agg parts => uptoBulkAll parts + 1
  | .iface _ d => uptoBulk d + 1
  | .map entries => uptoBulkEntries entries + 1
  | .held _ => 1
def uptoBulkAll {H : Type} : List (DataW H) → Nat
  | [] => 0
  | d :: r => uptoBulk d + uptoBulkAll r
def uptoBulkEntries {H : Type} : List (Lit × DataW H) → Nat
  | [] => 0
  | x :: r => uptoBulkEntry x + uptoBulkEntries r
def uptoBulkEntry {H : Type} : Lit × DataW H → Nat
  | (.string bytes, d) => bytes.length + uptoBulk d + 1
  | (_, d) => uptoBulk d + 1
 end
def uptoSmall : (H : Type) → List (DataW H) → Bool := fun _ ds => decide (uptoBulkAll ds ≤ 1048576)
def OpenSpec.upto (s : _root_.Go.ChangeSpec) : _root_.Go.OpenSpec := { _root_.Go.OpenSpec.ofChange s with cond := some uptoSmall }

/-- 'hypercubelaw33.EnvApplies', WHERE WHAT IT READS IS OF BULK AT MOST 1048576: true; the input reads as it did. -/
def envAppliesUptoRow : OpenClaim := { program := "ytibignmpjeemeaagreatdoor", sum := "bb4021916e1998b2e674b1bf3e01f3487ee3dfff2ea7f277ab52b8c432d0d00f", func := "hypercube/hypercubelaw33.EnvApplies", spec := "envApplies", unfollowed := true, recurses := true, named := ["math/bits.deBruijn32tab"], loops := true, plainKeys := false, apart := false, laid := [("math/bits.deBruijn32tab", laid_math_bits_deBruijn32tab)], narrowed := true }
def EnvAppliesUptoSaid : Prop := envAppliesUptoRow.holds Tryz.pinned (OpenSpec.upto envAppliesSpec)

/-- 'hypercubelaw33.EnvId', WHERE WHAT IT READS IS OF BULK AT MOST 1048576: true; the input reads as it did. -/
def envIdUptoRow : OpenClaim := { program := "ytibignmpjeemeaagreatdoor", sum := "bb4021916e1998b2e674b1bf3e01f3487ee3dfff2ea7f277ab52b8c432d0d00f", func := "hypercube/hypercubelaw33.EnvId", spec := "envId", unfollowed := true, recurses := true, named := ["math/bits.deBruijn32tab"], loops := true, plainKeys := false, apart := false, laid := [("math/bits.deBruijn32tab", laid_math_bits_deBruijn32tab)], narrowed := true }
def EnvIdUptoSaid : Prop := envIdUptoRow.holds Tryz.pinned (OpenSpec.upto envIdSpec)

/-- 'hypercubelaw33.EnvMay', WHERE WHAT IT READS IS OF BULK AT MOST 1048576: true; the input reads as it did. -/
def envMayUptoRow : OpenClaim := { program := "ytibignmpjeemeaagreatdoor", sum := "bb4021916e1998b2e674b1bf3e01f3487ee3dfff2ea7f277ab52b8c432d0d00f", func := "hypercube/hypercubelaw33.EnvMay", spec := "envMay", unfollowed := true, recurses := true, named := ["math/bits.deBruijn32tab"], loops := true, plainKeys := false, apart := false, laid := [("math/bits.deBruijn32tab", laid_math_bits_deBruijn32tab)], narrowed := true }
def EnvMayUptoSaid : Prop := envMayUptoRow.holds Tryz.pinned (OpenSpec.upto envMaySpec)

/-- 'hypercubelaw33.EnvRows', WHERE WHAT IT READS IS OF BULK AT MOST 1048576: true; the input reads as it did. -/
def envRowsUptoRow : OpenClaim := { program := "ytibignmpjeemeaagreatdoor", sum := "bb4021916e1998b2e674b1bf3e01f3487ee3dfff2ea7f277ab52b8c432d0d00f", func := "hypercube/hypercubelaw33.EnvRows", spec := "envRows", unfollowed := true, recurses := true, named := ["math/bits.deBruijn32tab"], loops := true, plainKeys := false, apart := false, laid := [("math/bits.deBruijn32tab", laid_math_bits_deBruijn32tab)], narrowed := true }
def EnvRowsUptoSaid : Prop := envRowsUptoRow.holds Tryz.pinned (OpenSpec.upto envRowsSpec)

/-- 'hypercubelaw33.EnvThen', WHERE WHAT IT READS IS OF BULK AT MOST 1048576: true; the input reads as it did. -/
def envThenUptoRow : OpenClaim := { program := "ytibignmpjeemeaagreatdoor", sum := "bb4021916e1998b2e674b1bf3e01f3487ee3dfff2ea7f277ab52b8c432d0d00f", func := "hypercube/hypercubelaw33.EnvThen", spec := "envThen", unfollowed := true, recurses := true, named := ["math/bits.deBruijn32tab"], loops := true, plainKeys := false, apart := false, laid := [("math/bits.deBruijn32tab", laid_math_bits_deBruijn32tab)], narrowed := true }
def EnvThenUptoSaid : Prop := envThenUptoRow.holds Tryz.pinned (OpenSpec.upto envThenSpec)

/-- 'hypercubelaw33.EnvRights', WHERE WHAT IT READS IS OF BULK AT MOST 1048576: true; the input reads as it did. -/
def envRightsUptoRow : OpenClaim := { program := "ytibignmpjeemeaagreatdoor", sum := "bb4021916e1998b2e674b1bf3e01f3487ee3dfff2ea7f277ab52b8c432d0d00f", func := "hypercube/hypercubelaw33.EnvRights", spec := "envRights", unfollowed := true, recurses := true, named := ["math/bits.deBruijn32tab"], loops := true, plainKeys := false, apart := false, laid := [("math/bits.deBruijn32tab", laid_math_bits_deBruijn32tab)], narrowed := true }
def EnvRightsUptoSaid : Prop := envRightsUptoRow.holds Tryz.pinned (OpenSpec.upto envRightsSpec)

/-- 'hypercubelaw16.BetaSteps', WHERE WHAT IT READS IS OF BULK AT MOST 1048576: true; the input reads as it did. -/
def betaStepsUptoRow : OpenClaim := { program := "ytibignmpjeemeaagreatdoor", sum := "bb4021916e1998b2e674b1bf3e01f3487ee3dfff2ea7f277ab52b8c432d0d00f", func := "hypercube/hypercubelaw16.BetaSteps", spec := "betaSteps", unfollowed := true, recurses := true, named := ["math/bits.deBruijn32tab"], loops := true, plainKeys := false, apart := false, laid := [("math/bits.deBruijn32tab", laid_math_bits_deBruijn32tab)], narrowed := true }
def BetaStepsUptoSaid : Prop := betaStepsUptoRow.holds Tryz.pinned (OpenSpec.upto betaStepsSpec)

/-- 'hypercubelaw16.BetaPlugs', WHERE WHAT IT READS IS OF BULK AT MOST 1048576: true; the input reads as it did. -/
def betaPlugsUptoRow : OpenClaim := { program := "ytibignmpjeemeaagreatdoor", sum := "bb4021916e1998b2e674b1bf3e01f3487ee3dfff2ea7f277ab52b8c432d0d00f", func := "hypercube/hypercubelaw16.BetaPlugs", spec := "betaPlugs", unfollowed := true, recurses := true, named := ["math/bits.deBruijn32tab"], loops := true, plainKeys := false, apart := false, laid := [("math/bits.deBruijn32tab", laid_math_bits_deBruijn32tab)], narrowed := true }
def BetaPlugsUptoSaid : Prop := betaPlugsUptoRow.holds Tryz.pinned (OpenSpec.upto betaPlugsSpec)

/-- 'hypercubelaw16.BetaPuts', WHERE WHAT IT READS IS OF BULK AT MOST 1048576: true; the input reads as it did. -/
def betaPutsUptoRow : OpenClaim := { program := "ytibignmpjeemeaagreatdoor", sum := "bb4021916e1998b2e674b1bf3e01f3487ee3dfff2ea7f277ab52b8c432d0d00f", func := "hypercube/hypercubelaw16.BetaPuts", spec := "betaPuts", unfollowed := true, recurses := true, named := ["math/bits.deBruijn32tab"], loops := true, plainKeys := false, apart := false, laid := [("math/bits.deBruijn32tab", laid_math_bits_deBruijn32tab)], narrowed := true }
def BetaPutsUptoSaid : Prop := betaPutsUptoRow.holds Tryz.pinned (OpenSpec.upto betaPutsSpec)

/-- 'hypercubelaw16.BetaMay', WHERE WHAT IT READS IS OF BULK AT MOST 1048576: true; the input reads as it did. -/
def betaMayUptoRow : OpenClaim := { program := "ytibignmpjeemeaagreatdoor", sum := "bb4021916e1998b2e674b1bf3e01f3487ee3dfff2ea7f277ab52b8c432d0d00f", func := "hypercube/hypercubelaw16.BetaMay", spec := "betaMay", unfollowed := true, recurses := true, named := ["math/bits.deBruijn32tab"], loops := true, plainKeys := false, apart := false, laid := [("math/bits.deBruijn32tab", laid_math_bits_deBruijn32tab)], narrowed := true }
def BetaMayUptoSaid : Prop := betaMayUptoRow.holds Tryz.pinned (OpenSpec.upto betaMaySpec)

/-- 'hypercubelaw33.EnvPlugs', WHERE WHAT IT READS IS OF BULK AT MOST 1048576: true; the input reads as it did. -/
def envPlugsUptoRow : OpenClaim := { program := "ytibignmpjeemeaagreatdoor", sum := "bb4021916e1998b2e674b1bf3e01f3487ee3dfff2ea7f277ab52b8c432d0d00f", func := "hypercube/hypercubelaw33.EnvPlugs", spec := "envPlugs", unfollowed := true, recurses := true, named := ["math/bits.deBruijn32tab"], loops := true, plainKeys := false, apart := false, laid := [("math/bits.deBruijn32tab", laid_math_bits_deBruijn32tab)], narrowed := true }
def EnvPlugsUptoSaid : Prop := envPlugsUptoRow.holds Tryz.pinned (OpenSpec.upto envPlugsSpec)

end Rows
end Go.Proofs.YtibignmpjeemeaaGreatDoor
