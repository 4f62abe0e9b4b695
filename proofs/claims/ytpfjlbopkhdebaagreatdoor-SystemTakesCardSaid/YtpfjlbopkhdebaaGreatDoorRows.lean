/-
  NARROWER THAN 'FOR EVERY INPUT', by the rows' own cells (each row's printed sentence says how): SystemFaces: loops, laid · DimsPuts: loops, laid · DimsUnders: loops, laid · DimsFaces: loops, laid · SystemRestricts: loops, laid · DimsGone: loops, laid · DimsSelf: loops, laid · CtxTypes: loops, laid · SystemTakes: loops, laid · SystemNone: laid · CtxMay: loops, laid · DimsPlugs: loops, laid.
  DERIVED. THE GIVEN ROWS OF THIS SEAT. 12 by the template 'for every input the law returns true; each argument reads behind the call as it read before'; 0 by the template 'total and deterministic' (their statements: YtpfjlbopkhdebaaGreatDoorTotals.lean).
  GIVEN WITH THE SEED: the statements are not yours to turn. If you find one false, say at which input.
  Laid BY PROGRAM, IN A SANDBOX (cutbox-rows.mjs): the forced cells as the released guide's own fill.sh prints them over the translation aa255bbfd4ce2f9b… (all of the seat's roots in one cut). By AI agents, Wed Nov 11 2026. No macro, syntax, notation, axiom, sorry.
-/
import Derived.Test.YtpfjlbopkhdebaaGreatDoorChecked
import GoSem.Claim
import GoSem.ClaimJoined
import GoSem.ClaimMapViews
import Derived.JoinedTies
import Derived.KernelRfl
namespace Go.Proofs.YtpfjlbopkhdebaaGreatDoor
/- THE CELL 'sum', in the pinned program and in every row, IS THE sha256 OF THE DUMP (.gsa) THAT YtpfjlbopkhdebaaGreatDoorProg.lean LOADS. Nothing in Lean hashes anything: it is a label: what it is worth is what the hold of that sum in a sandbox is worth. -/
noncomputable def Tryz.pinned : Pinned := { name := "ytpfjlbopkhdebaagreatdoor", sum := "aa255bbfd4ce2f9bd478a09061d53637f94f82f4d6d24991d4f1eecb5b7cce5f", checked := Tryz.checked }
namespace Rows
def none {H : Type} : Left H := { results := [], args := [] }

/- WHAT THE LISTED PACKAGE-LEVEL VARIABLES READ AS WHEN THE CALL BEGINS. Each datum BY PROGRAM (the guide's laid-datum.mjs) off the statement by which the dump's own 'gosem.cut.vars' lays the variable. In a bare row this is a premise. The card (YtpfjlbopkhdebaaGreatDoorCards.lean) ties it to the program's text. -/
def laid_math_bits_deBruijn32tab {H : Type} : DataW H := .agg [.lit (.int .u8 0), .lit (.int .u8 1), .lit (.int .u8 28), .lit (.int .u8 2), .lit (.int .u8 29), .lit (.int .u8 14), .lit (.int .u8 24), .lit (.int .u8 3), .lit (.int .u8 30), .lit (.int .u8 22), .lit (.int .u8 20), .lit (.int .u8 15), .lit (.int .u8 25), .lit (.int .u8 17), .lit (.int .u8 4), .lit (.int .u8 8), .lit (.int .u8 31), .lit (.int .u8 27), .lit (.int .u8 13), .lit (.int .u8 23), .lit (.int .u8 21), .lit (.int .u8 19), .lit (.int .u8 16), .lit (.int .u8 7), .lit (.int .u8 26), .lit (.int .u8 12), .lit (.int .u8 18), .lit (.int .u8 6), .lit (.int .u8 11), .lit (.int .u8 5), .lit (.int .u8 10), .lit (.int .u8 9)]

/-- 'hypercubelaw14.SystemFaces': WHATEVER THE INPUT: true; the input reads as it did. -/
def systemFacesSpec : ChangeSpec := { name := "systemFaces", fn := fun _ => fun
  | [d] => { results := [.lit (.bool true)], args := [d] }
  | _ => none }
def systemFacesRow : OpenClaim := { program := "ytpfjlbopkhdebaagreatdoor", sum := "aa255bbfd4ce2f9bd478a09061d53637f94f82f4d6d24991d4f1eecb5b7cce5f", func := "hypercube/hypercubelaw14.SystemFaces", spec := "systemFaces", unfollowed := true, recurses := true, named := ["math/bits.deBruijn32tab"], loops := true, plainKeys := false, apart := false, laid := [("math/bits.deBruijn32tab", laid_math_bits_deBruijn32tab)] }
def SystemFacesSaid : Prop := systemFacesRow.holds Tryz.pinned (OpenSpec.ofChange systemFacesSpec)

/-- ITS FALSE NEIGHBOUR: 'it returns false'. Refute it at one input. -/
def systemFacesWrong : ChangeSpec := { name := "systemFaces", fn := fun _ => fun
  | [d] => { results := [.lit (.bool false)], args := [d] }
  | _ => none }
def SystemFacesWrongFalsely : Prop := systemFacesRow.holds Tryz.pinned (OpenSpec.ofChange systemFacesWrong)

/-- 'hypercubelaw13.DimsPuts': WHATEVER THE INPUT: true; the input reads as it did. -/
def dimsPutsSpec : ChangeSpec := { name := "dimsPuts", fn := fun _ => fun
  | [d1, d2, d3] => { results := [.lit (.bool true)], args := [d1, d2, d3] }
  | _ => none }
def dimsPutsRow : OpenClaim := { program := "ytpfjlbopkhdebaagreatdoor", sum := "aa255bbfd4ce2f9bd478a09061d53637f94f82f4d6d24991d4f1eecb5b7cce5f", func := "hypercube/hypercubelaw13.DimsPuts", spec := "dimsPuts", unfollowed := true, recurses := true, named := ["math/bits.deBruijn32tab"], loops := true, plainKeys := false, apart := false, laid := [("math/bits.deBruijn32tab", laid_math_bits_deBruijn32tab)] }
def DimsPutsSaid : Prop := dimsPutsRow.holds Tryz.pinned (OpenSpec.ofChange dimsPutsSpec)

/-- ITS FALSE NEIGHBOUR: 'it returns false'. Refute it at one input. -/
def dimsPutsWrong : ChangeSpec := { name := "dimsPuts", fn := fun _ => fun
  | [d1, d2, d3] => { results := [.lit (.bool false)], args := [d1, d2, d3] }
  | _ => none }
def DimsPutsWrongFalsely : Prop := dimsPutsRow.holds Tryz.pinned (OpenSpec.ofChange dimsPutsWrong)

/-- 'hypercubelaw13.DimsUnders': WHATEVER THE INPUT: true; the input reads as it did. -/
def dimsUndersSpec : ChangeSpec := { name := "dimsUnders", fn := fun _ => fun
  | [d1, d2] => { results := [.lit (.bool true)], args := [d1, d2] }
  | _ => none }
def dimsUndersRow : OpenClaim := { program := "ytpfjlbopkhdebaagreatdoor", sum := "aa255bbfd4ce2f9bd478a09061d53637f94f82f4d6d24991d4f1eecb5b7cce5f", func := "hypercube/hypercubelaw13.DimsUnders", spec := "dimsUnders", unfollowed := true, recurses := true, named := ["math/bits.deBruijn32tab"], loops := true, plainKeys := false, apart := false, laid := [("math/bits.deBruijn32tab", laid_math_bits_deBruijn32tab)] }
def DimsUndersSaid : Prop := dimsUndersRow.holds Tryz.pinned (OpenSpec.ofChange dimsUndersSpec)

/-- ITS FALSE NEIGHBOUR: 'it returns false'. Refute it at one input. -/
def dimsUndersWrong : ChangeSpec := { name := "dimsUnders", fn := fun _ => fun
  | [d1, d2] => { results := [.lit (.bool false)], args := [d1, d2] }
  | _ => none }
def DimsUndersWrongFalsely : Prop := dimsUndersRow.holds Tryz.pinned (OpenSpec.ofChange dimsUndersWrong)

/-- 'hypercubelaw13.DimsFaces': WHATEVER THE INPUT: true; the input reads as it did. -/
def dimsFacesSpec : ChangeSpec := { name := "dimsFaces", fn := fun _ => fun
  | [d1, d2] => { results := [.lit (.bool true)], args := [d1, d2] }
  | _ => none }
def dimsFacesRow : OpenClaim := { program := "ytpfjlbopkhdebaagreatdoor", sum := "aa255bbfd4ce2f9bd478a09061d53637f94f82f4d6d24991d4f1eecb5b7cce5f", func := "hypercube/hypercubelaw13.DimsFaces", spec := "dimsFaces", unfollowed := true, recurses := true, named := ["math/bits.deBruijn32tab"], loops := true, plainKeys := false, apart := false, laid := [("math/bits.deBruijn32tab", laid_math_bits_deBruijn32tab)] }
def DimsFacesSaid : Prop := dimsFacesRow.holds Tryz.pinned (OpenSpec.ofChange dimsFacesSpec)

/-- ITS FALSE NEIGHBOUR: 'it returns false'. Refute it at one input. -/
def dimsFacesWrong : ChangeSpec := { name := "dimsFaces", fn := fun _ => fun
  | [d1, d2] => { results := [.lit (.bool false)], args := [d1, d2] }
  | _ => none }
def DimsFacesWrongFalsely : Prop := dimsFacesRow.holds Tryz.pinned (OpenSpec.ofChange dimsFacesWrong)

/-- 'hypercubelaw14.SystemRestricts': WHATEVER THE INPUT: true; the input reads as it did. -/
def systemRestrictsSpec : ChangeSpec := { name := "systemRestricts", fn := fun _ => fun
  | [d1, d2] => { results := [.lit (.bool true)], args := [d1, d2] }
  | _ => none }
def systemRestrictsRow : OpenClaim := { program := "ytpfjlbopkhdebaagreatdoor", sum := "aa255bbfd4ce2f9bd478a09061d53637f94f82f4d6d24991d4f1eecb5b7cce5f", func := "hypercube/hypercubelaw14.SystemRestricts", spec := "systemRestricts", unfollowed := true, recurses := true, named := ["math/bits.deBruijn32tab"], loops := true, plainKeys := false, apart := false, laid := [("math/bits.deBruijn32tab", laid_math_bits_deBruijn32tab)] }
def SystemRestrictsSaid : Prop := systemRestrictsRow.holds Tryz.pinned (OpenSpec.ofChange systemRestrictsSpec)

/-- ITS FALSE NEIGHBOUR: 'it returns false'. Refute it at one input. -/
def systemRestrictsWrong : ChangeSpec := { name := "systemRestricts", fn := fun _ => fun
  | [d1, d2] => { results := [.lit (.bool false)], args := [d1, d2] }
  | _ => none }
def SystemRestrictsWrongFalsely : Prop := systemRestrictsRow.holds Tryz.pinned (OpenSpec.ofChange systemRestrictsWrong)

/-- 'hypercubelaw13.DimsGone': WHATEVER THE INPUT: true; the input reads as it did. -/
def dimsGoneSpec : ChangeSpec := { name := "dimsGone", fn := fun _ => fun
  | [d1, d2, d3, d4] => { results := [.lit (.bool true)], args := [d1, d2, d3, d4] }
  | _ => none }
def dimsGoneRow : OpenClaim := { program := "ytpfjlbopkhdebaagreatdoor", sum := "aa255bbfd4ce2f9bd478a09061d53637f94f82f4d6d24991d4f1eecb5b7cce5f", func := "hypercube/hypercubelaw13.DimsGone", spec := "dimsGone", unfollowed := true, recurses := true, named := ["math/bits.deBruijn32tab"], loops := true, plainKeys := false, apart := false, laid := [("math/bits.deBruijn32tab", laid_math_bits_deBruijn32tab)] }
def DimsGoneSaid : Prop := dimsGoneRow.holds Tryz.pinned (OpenSpec.ofChange dimsGoneSpec)

/-- ITS FALSE NEIGHBOUR: 'it returns false'. Refute it at one input. -/
def dimsGoneWrong : ChangeSpec := { name := "dimsGone", fn := fun _ => fun
  | [d1, d2, d3, d4] => { results := [.lit (.bool false)], args := [d1, d2, d3, d4] }
  | _ => none }
def DimsGoneWrongFalsely : Prop := dimsGoneRow.holds Tryz.pinned (OpenSpec.ofChange dimsGoneWrong)

/-- 'hypercubelaw13.DimsSelf': WHATEVER THE INPUT: true; the input reads as it did. -/
def dimsSelfSpec : ChangeSpec := { name := "dimsSelf", fn := fun _ => fun
  | [d1, d2, d3] => { results := [.lit (.bool true)], args := [d1, d2, d3] }
  | _ => none }
def dimsSelfRow : OpenClaim := { program := "ytpfjlbopkhdebaagreatdoor", sum := "aa255bbfd4ce2f9bd478a09061d53637f94f82f4d6d24991d4f1eecb5b7cce5f", func := "hypercube/hypercubelaw13.DimsSelf", spec := "dimsSelf", unfollowed := true, recurses := true, named := ["math/bits.deBruijn32tab"], loops := true, plainKeys := false, apart := false, laid := [("math/bits.deBruijn32tab", laid_math_bits_deBruijn32tab)] }
def DimsSelfSaid : Prop := dimsSelfRow.holds Tryz.pinned (OpenSpec.ofChange dimsSelfSpec)

/-- ITS FALSE NEIGHBOUR: 'it returns false'. Refute it at one input. -/
def dimsSelfWrong : ChangeSpec := { name := "dimsSelf", fn := fun _ => fun
  | [d1, d2, d3] => { results := [.lit (.bool false)], args := [d1, d2, d3] }
  | _ => none }
def DimsSelfWrongFalsely : Prop := dimsSelfRow.holds Tryz.pinned (OpenSpec.ofChange dimsSelfWrong)

/-- 'hypercubelaw25.CtxTypes': WHATEVER THE INPUT: true; the input reads as it did. -/
def ctxTypesSpec : ChangeSpec := { name := "ctxTypes", fn := fun _ => fun
  | [d1, d2, d3] => { results := [.lit (.bool true)], args := [d1, d2, d3] }
  | _ => none }
def ctxTypesRow : OpenClaim := { program := "ytpfjlbopkhdebaagreatdoor", sum := "aa255bbfd4ce2f9bd478a09061d53637f94f82f4d6d24991d4f1eecb5b7cce5f", func := "hypercube/hypercubelaw25.CtxTypes", spec := "ctxTypes", unfollowed := true, recurses := true, named := ["math/bits.deBruijn32tab"], loops := true, plainKeys := false, apart := false, laid := [("math/bits.deBruijn32tab", laid_math_bits_deBruijn32tab)] }
def CtxTypesSaid : Prop := ctxTypesRow.holds Tryz.pinned (OpenSpec.ofChange ctxTypesSpec)

/-- ITS FALSE NEIGHBOUR: 'it returns false'. Refute it at one input. -/
def ctxTypesWrong : ChangeSpec := { name := "ctxTypes", fn := fun _ => fun
  | [d1, d2, d3] => { results := [.lit (.bool false)], args := [d1, d2, d3] }
  | _ => none }
def CtxTypesWrongFalsely : Prop := ctxTypesRow.holds Tryz.pinned (OpenSpec.ofChange ctxTypesWrong)

/-- 'hypercubelaw14.SystemTakes': WHATEVER THE INPUT: true; the input reads as it did. -/
def systemTakesSpec : ChangeSpec := { name := "systemTakes", fn := fun _ => fun
  | [d1, d2, d3, d4, d5, d6] => { results := [.lit (.bool true)], args := [d1, d2, d3, d4, d5, d6] }
  | _ => none }
def systemTakesRow : OpenClaim := { program := "ytpfjlbopkhdebaagreatdoor", sum := "aa255bbfd4ce2f9bd478a09061d53637f94f82f4d6d24991d4f1eecb5b7cce5f", func := "hypercube/hypercubelaw14.SystemTakes", spec := "systemTakes", unfollowed := true, recurses := true, named := ["math/bits.deBruijn32tab"], loops := true, plainKeys := false, apart := false, laid := [("math/bits.deBruijn32tab", laid_math_bits_deBruijn32tab)] }
def SystemTakesSaid : Prop := systemTakesRow.holds Tryz.pinned (OpenSpec.ofChange systemTakesSpec)

/-- ITS FALSE NEIGHBOUR: 'it returns false'. Refute it at one input. -/
def systemTakesWrong : ChangeSpec := { name := "systemTakes", fn := fun _ => fun
  | [d1, d2, d3, d4, d5, d6] => { results := [.lit (.bool false)], args := [d1, d2, d3, d4, d5, d6] }
  | _ => none }
def SystemTakesWrongFalsely : Prop := systemTakesRow.holds Tryz.pinned (OpenSpec.ofChange systemTakesWrong)

/-- 'hypercubelaw14.SystemNone': WHATEVER THE INPUT: true; the input reads as it did. -/
def systemNoneSpec : ChangeSpec := { name := "systemNone", fn := fun _ => fun
  | [d1, d2, d3, d4] => { results := [.lit (.bool true)], args := [d1, d2, d3, d4] }
  | _ => none }
def systemNoneRow : OpenClaim := { program := "ytpfjlbopkhdebaagreatdoor", sum := "aa255bbfd4ce2f9bd478a09061d53637f94f82f4d6d24991d4f1eecb5b7cce5f", func := "hypercube/hypercubelaw14.SystemNone", spec := "systemNone", unfollowed := true, recurses := true, named := ["math/bits.deBruijn32tab"], plainKeys := false, apart := false, laid := [("math/bits.deBruijn32tab", laid_math_bits_deBruijn32tab)] }
def SystemNoneSaid : Prop := systemNoneRow.holds Tryz.pinned (OpenSpec.ofChange systemNoneSpec)

/-- ITS FALSE NEIGHBOUR: 'it returns false'. Refute it at one input. -/
def systemNoneWrong : ChangeSpec := { name := "systemNone", fn := fun _ => fun
  | [d1, d2, d3, d4] => { results := [.lit (.bool false)], args := [d1, d2, d3, d4] }
  | _ => none }
def SystemNoneWrongFalsely : Prop := systemNoneRow.holds Tryz.pinned (OpenSpec.ofChange systemNoneWrong)

/-- 'hypercubelaw25.CtxMay': WHATEVER THE INPUT: true; the input reads as it did. -/
def ctxMaySpec : ChangeSpec := { name := "ctxMay", fn := fun _ => fun
  | [d1, d2, d3] => { results := [.lit (.bool true)], args := [d1, d2, d3] }
  | _ => none }
def ctxMayRow : OpenClaim := { program := "ytpfjlbopkhdebaagreatdoor", sum := "aa255bbfd4ce2f9bd478a09061d53637f94f82f4d6d24991d4f1eecb5b7cce5f", func := "hypercube/hypercubelaw25.CtxMay", spec := "ctxMay", unfollowed := true, recurses := true, named := ["math/bits.deBruijn32tab"], loops := true, plainKeys := false, apart := false, laid := [("math/bits.deBruijn32tab", laid_math_bits_deBruijn32tab)] }
def CtxMaySaid : Prop := ctxMayRow.holds Tryz.pinned (OpenSpec.ofChange ctxMaySpec)

/-- ITS FALSE NEIGHBOUR: 'it returns false'. Refute it at one input. -/
def ctxMayWrong : ChangeSpec := { name := "ctxMay", fn := fun _ => fun
  | [d1, d2, d3] => { results := [.lit (.bool false)], args := [d1, d2, d3] }
  | _ => none }
def CtxMayWrongFalsely : Prop := ctxMayRow.holds Tryz.pinned (OpenSpec.ofChange ctxMayWrong)

/-- 'hypercubelaw13.DimsPlugs': WHATEVER THE INPUT: true; the input reads as it did. -/
def dimsPlugsSpec : ChangeSpec := { name := "dimsPlugs", fn := fun _ => fun
  | [d1, d2, d3, d4, d5] => { results := [.lit (.bool true)], args := [d1, d2, d3, d4, d5] }
  | _ => none }
def dimsPlugsRow : OpenClaim := { program := "ytpfjlbopkhdebaagreatdoor", sum := "aa255bbfd4ce2f9bd478a09061d53637f94f82f4d6d24991d4f1eecb5b7cce5f", func := "hypercube/hypercubelaw13.DimsPlugs", spec := "dimsPlugs", unfollowed := true, recurses := true, named := ["math/bits.deBruijn32tab"], loops := true, plainKeys := false, apart := false, laid := [("math/bits.deBruijn32tab", laid_math_bits_deBruijn32tab)] }
def DimsPlugsSaid : Prop := dimsPlugsRow.holds Tryz.pinned (OpenSpec.ofChange dimsPlugsSpec)

/-- ITS FALSE NEIGHBOUR: 'it returns false'. Refute it at one input. -/
def dimsPlugsWrong : ChangeSpec := { name := "dimsPlugs", fn := fun _ => fun
  | [d1, d2, d3, d4, d5] => { results := [.lit (.bool false)], args := [d1, d2, d3, d4, d5] }
  | _ => none }
def DimsPlugsWrongFalsely : Prop := dimsPlugsRow.holds Tryz.pinned (OpenSpec.ofChange dimsPlugsWrong)

/- THE SECOND FORM. 'bulk': how many values and letters a reading holds, each counted each time it is reached (what is shared counts as often as it is met; a slice's spare places count too). A statement '..UptoSaid' is the law's where the arguments, and the package variables that the reading takes, are together of bulk at most 1048576: NARROWER than '..Said'. Prove '..Said' where nothing that the law and all that it calls make is longer than what came in: it says more and counts as full. Else prove '..UptoSaid'. A law counts once. -/
mutual
def uptoBulk {H : Type} : DataW H → Nat
  | .lit (.string bytes) => bytes.length + 1
  | .lit _ => 1
  | .nil => 1
  | .ptr d => uptoBulk d + 1
  | .slice elems spare => uptoBulkAll elems + uptoBulkAll spare + 1
  | .agg parts => uptoBulkAll parts + 1
  | .iface _ d => uptoBulk d + 1
  | .map entries => uptoBulkEntries entries + 1
  | .held _ => 1
def uptoBulkAll {H : Type} : List (DataW H) → Nat
  | [] => 0
  | d :: r => uptoBulk d + uptoBulkAll r
def uptoBulkEntries {H : Type} : List (Lit × DataW H) → Nat
  | [] => 0
  | x :: r => uptoBulkEntry x + uptoBulkEntries r
def uptoBulkEntry {H : Type} : Lit × DataW H → Nat
  | (.string bytes, d) => bytes.length + uptoBulk d + 1
  | (_, d) => uptoBulk d + 1
 end
def uptoSmall : (H : Type) → List (DataW H) → Bool := fun _ ds => decide (uptoBulkAll ds ≤ 1048576)
def OpenSpec.upto (s : _root_.Go.ChangeSpec) : _root_.Go.OpenSpec := { _root_.Go.OpenSpec.ofChange s with cond := some uptoSmall }

/-- 'hypercubelaw14.SystemFaces', WHERE WHAT IT READS IS OF BULK AT MOST 1048576: true; the input reads as it did. -/
def systemFacesUptoRow : OpenClaim := { program := "ytpfjlbopkhdebaagreatdoor", sum := "aa255bbfd4ce2f9bd478a09061d53637f94f82f4d6d24991d4f1eecb5b7cce5f", func := "hypercube/hypercubelaw14.SystemFaces", spec := "systemFaces", unfollowed := true, recurses := true, named := ["math/bits.deBruijn32tab"], loops := true, plainKeys := false, apart := false, laid := [("math/bits.deBruijn32tab", laid_math_bits_deBruijn32tab)], narrowed := true }
def SystemFacesUptoSaid : Prop := systemFacesUptoRow.holds Tryz.pinned (OpenSpec.upto systemFacesSpec)

/-- 'hypercubelaw13.DimsPuts', WHERE WHAT IT READS IS OF BULK AT MOST 1048576: true; the input reads as it did. -/
def dimsPutsUptoRow : OpenClaim := { program := "ytpfjlbopkhdebaagreatdoor", sum := "aa255bbfd4ce2f9bd478a09061d53637f94f82f4d6d24991d4f1eecb5b7cce5f", func := "hypercube/hypercubelaw13.DimsPuts", spec := "dimsPuts", unfollowed := true, recurses := true, named := ["math/bits.deBruijn32tab"], loops := true, plainKeys := false, apart := false, laid := [("math/bits.deBruijn32tab", laid_math_bits_deBruijn32tab)], narrowed := true }
def DimsPutsUptoSaid : Prop := dimsPutsUptoRow.holds Tryz.pinned (OpenSpec.upto dimsPutsSpec)

/-- 'hypercubelaw13.DimsUnders', WHERE WHAT IT READS IS OF BULK AT MOST 1048576: true; the input reads as it did. -/
def dimsUndersUptoRow : OpenClaim := { program := "ytpfjlbopkhdebaagreatdoor", sum := "aa255bbfd4ce2f9bd478a09061d53637f94f82f4d6d24991d4f1eecb5b7cce5f", func := "hypercube/hypercubelaw13.DimsUnders", spec := "dimsUnders", unfollowed := true, recurses := true, named := ["math/bits.deBruijn32tab"], loops := true, plainKeys := false, apart := false, laid := [("math/bits.deBruijn32tab", laid_math_bits_deBruijn32tab)], narrowed := true }
def DimsUndersUptoSaid : Prop := dimsUndersUptoRow.holds Tryz.pinned (OpenSpec.upto dimsUndersSpec)

/-- 'hypercubelaw13.DimsFaces', WHERE WHAT IT READS IS OF BULK AT MOST 1048576: true; the input reads as it did. -/
def dimsFacesUptoRow : OpenClaim := { program := "ytpfjlbopkhdebaagreatdoor", sum := "aa255bbfd4ce2f9bd478a09061d53637f94f82f4d6d24991d4f1eecb5b7cce5f", func := "hypercube/hypercubelaw13.DimsFaces", spec := "dimsFaces", unfollowed := true, recurses := true, named := ["math/bits.deBruijn32tab"], loops := true, plainKeys := false, apart := false, laid := [("math/bits.deBruijn32tab", laid_math_bits_deBruijn32tab)], narrowed := true }
def DimsFacesUptoSaid : Prop := dimsFacesUptoRow.holds Tryz.pinned (OpenSpec.upto dimsFacesSpec)

/-- 'hypercubelaw14.SystemRestricts', WHERE WHAT IT READS IS OF BULK AT MOST 1048576: true; the input reads as it did. -/
def systemRestrictsUptoRow : OpenClaim := { program := "ytpfjlbopkhdebaagreatdoor", sum := "aa255bbfd4ce2f9bd478a09061d53637f94f82f4d6d24991d4f1eecb5b7cce5f", func := "hypercube/hypercubelaw14.SystemRestricts", spec := "systemRestricts", unfollowed := true, recurses := true, named := ["math/bits.deBruijn32tab"], loops := true, plainKeys := false, apart := false, laid := [("math/bits.deBruijn32tab", laid_math_bits_deBruijn32tab)], narrowed := true }
def SystemRestrictsUptoSaid : Prop := systemRestrictsUptoRow.holds Tryz.pinned (OpenSpec.upto systemRestrictsSpec)

/-- 'hypercubelaw13.DimsGone', WHERE WHAT IT READS IS OF BULK AT MOST 1048576: true; the input reads as it did. -/
def dimsGoneUptoRow : OpenClaim := { program := "ytpfjlbopkhdebaagreatdoor", sum := "aa255bbfd4ce2f9bd478a09061d53637f94f82f4d6d24991d4f1eecb5b7cce5f", func := "hypercube/hypercubelaw13.DimsGone", spec := "dimsGone", unfollowed := true, recurses := true, named := ["math/bits.deBruijn32tab"], loops := true, plainKeys := false, apart := false, laid := [("math/bits.deBruijn32tab", laid_math_bits_deBruijn32tab)], narrowed := true }
def DimsGoneUptoSaid : Prop := dimsGoneUptoRow.holds Tryz.pinned (OpenSpec.upto dimsGoneSpec)

/-- 'hypercubelaw13.DimsSelf', WHERE WHAT IT READS IS OF BULK AT MOST 1048576: true; the input reads as it did. -/
def dimsSelfUptoRow : OpenClaim := { program := "ytpfjlbopkhdebaagreatdoor", sum := "aa255bbfd4ce2f9bd478a09061d53637f94f82f4d6d24991d4f1eecb5b7cce5f", func := "hypercube/hypercubelaw13.DimsSelf", spec := "dimsSelf", unfollowed := true, recurses := true, named := ["math/bits.deBruijn32tab"], loops := true, plainKeys := false, apart := false, laid := [("math/bits.deBruijn32tab", laid_math_bits_deBruijn32tab)], narrowed := true }
def DimsSelfUptoSaid : Prop := dimsSelfUptoRow.holds Tryz.pinned (OpenSpec.upto dimsSelfSpec)

/-- 'hypercubelaw25.CtxTypes', WHERE WHAT IT READS IS OF BULK AT MOST 1048576: true; the input reads as it did. -/
def ctxTypesUptoRow : OpenClaim := { program := "ytpfjlbopkhdebaagreatdoor", sum := "aa255bbfd4ce2f9bd478a09061d53637f94f82f4d6d24991d4f1eecb5b7cce5f", func := "hypercube/hypercubelaw25.CtxTypes", spec := "ctxTypes", unfollowed := true, recurses := true, named := ["math/bits.deBruijn32tab"], loops := true, plainKeys := false, apart := false, laid := [("math/bits.deBruijn32tab", laid_math_bits_deBruijn32tab)], narrowed := true }
def CtxTypesUptoSaid : Prop := ctxTypesUptoRow.holds Tryz.pinned (OpenSpec.upto ctxTypesSpec)

/-- 'hypercubelaw14.SystemTakes', WHERE WHAT IT READS IS OF BULK AT MOST 1048576: true; the input reads as it did. -/
def systemTakesUptoRow : OpenClaim := { program := "ytpfjlbopkhdebaagreatdoor", sum := "aa255bbfd4ce2f9bd478a09061d53637f94f82f4d6d24991d4f1eecb5b7cce5f", func := "hypercube/hypercubelaw14.SystemTakes", spec := "systemTakes", unfollowed := true, recurses := true, named := ["math/bits.deBruijn32tab"], loops := true, plainKeys := false, apart := false, laid := [("math/bits.deBruijn32tab", laid_math_bits_deBruijn32tab)], narrowed := true }
def SystemTakesUptoSaid : Prop := systemTakesUptoRow.holds Tryz.pinned (OpenSpec.upto systemTakesSpec)

/-- 'hypercubelaw14.SystemNone', WHERE WHAT IT READS IS OF BULK AT MOST 1048576: true; the input reads as it did. -/
def systemNoneUptoRow : OpenClaim := { program := "ytpfjlbopkhdebaagreatdoor", sum := "aa255bbfd4ce2f9bd478a09061d53637f94f82f4d6d24991d4f1eecb5b7cce5f", func := "hypercube/hypercubelaw14.SystemNone", spec := "systemNone", unfollowed := true, recurses := true, named := ["math/bits.deBruijn32tab"], plainKeys := false, apart := false, laid := [("math/bits.deBruijn32tab", laid_math_bits_deBruijn32tab)], narrowed := true }
def SystemNoneUptoSaid : Prop := systemNoneUptoRow.holds Tryz.pinned (OpenSpec.upto systemNoneSpec)

/-- 'hypercubelaw25.CtxMay', WHERE WHAT IT READS IS OF BULK AT MOST 1048576: true; the input reads as it did. -/
def ctxMayUptoRow : OpenClaim := { program := "ytpfjlbopkhdebaagreatdoor", sum := "aa255bbfd4ce2f9bd478a09061d53637f94f82f4d6d24991d4f1eecb5b7cce5f", func := "hypercube/hypercubelaw25.CtxMay", spec := "ctxMay", unfollowed := true, recurses := true, named := ["math/bits.deBruijn32tab"], loops := true, plainKeys := false, apart := false, laid := [("math/bits.deBruijn32tab", laid_math_bits_deBruijn32tab)], narrowed := true }
def CtxMayUptoSaid : Prop := ctxMayUptoRow.holds Tryz.pinned (OpenSpec.upto ctxMaySpec)

/-- 'hypercubelaw13.DimsPlugs', WHERE WHAT IT READS IS OF BULK AT MOST 1048576: true; the input reads as it did. -/
def dimsPlugsUptoRow : OpenClaim := { program := "ytpfjlbopkhdebaagreatdoor", sum := "aa255bbfd4ce2f9bd478a09061d53637f94f82f4d6d24991d4f1eecb5b7cce5f", func := "hypercube/hypercubelaw13.DimsPlugs", spec := "dimsPlugs", unfollowed := true, recurses := true, named := ["math/bits.deBruijn32tab"], loops := true, plainKeys := false, apart := false, laid := [("math/bits.deBruijn32tab", laid_math_bits_deBruijn32tab)], narrowed := true }
def DimsPlugsUptoSaid : Prop := dimsPlugsUptoRow.holds Tryz.pinned (OpenSpec.upto dimsPlugsSpec)

end Rows
end Go.Proofs.YtpfjlbopkhdebaaGreatDoor
