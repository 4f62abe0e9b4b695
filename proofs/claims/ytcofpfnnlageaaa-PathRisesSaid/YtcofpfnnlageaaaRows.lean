/-
  NARROWER THAN 'FOR EVERY INPUT', by the rows' own cells (each row's printed sentence says how): TermSizes: loops · TermRights: loops · TermParts: loops · TermMore: loops · PathApart: loops · PathBack: loops · PathRises: loops.
  DERIVED. THE GIVEN ROWS OF THIS SEAT. 8 by the template 'for every input the law returns true; each argument reads behind the call as it read before'; 0 by the template 'total and deterministic' (their statements: YtcofpfnnlageaaaTotals.lean).
  GIVEN WITH THE SEED: the statements are not yours to turn. If you find one false, say at which input.
  Laid BY PROGRAM, IN A SANDBOX (cutbox-rows.mjs): the forced cells as the released guide's own fill.sh prints them over the translation e99805292911fc60… (all of the seat's roots in one cut). By AI agents, Wed Nov 11 2026. No macro, syntax, notation, axiom, sorry.
-/
import Derived.Test.YtcofpfnnlageaaaChecked
import GoSem.Claim
import GoSem.ClaimJoined
import GoSem.ClaimMapViews
import Derived.JoinedTies
import Derived.KernelRfl
namespace Go.Proofs.Ytcofpfnnlageaaa
/- THE CELL 'sum', in the pinned program and in every row, IS THE sha256 OF THE DUMP (.gsa) THAT YtcofpfnnlageaaaProg.lean LOADS. Nothing in Lean hashes anything: it is a label: what it is worth is what the hold of that sum in a sandbox is worth. -/
noncomputable def Try.pinned : Pinned := { name := "ytcofpfnnlageaaa", sum := "e99805292911fc6077a464de788fc60d2258e6572779da76a5df1b1a3384a485", checked := Try.checked }
namespace Rows
def none {H : Type} : Left H := { results := [], args := [] }

/-- 'hypercubelaw10.TermKinds': WHATEVER THE INPUT: true; the input reads as it did. -/
def termKindsSpec : ChangeSpec := { name := "termKinds", fn := fun _ => fun
  | [d1, d2] => { results := [.lit (.bool true)], args := [d1, d2] }
  | _ => none }
def termKindsRow : OpenClaim := { program := "ytcofpfnnlageaaa", sum := "e99805292911fc6077a464de788fc60d2258e6572779da76a5df1b1a3384a485", func := "hypercube/hypercubelaw10.TermKinds", spec := "termKinds", unfollowed := true, recurses := true, plainKeys := false, apart := false }
def TermKindsSaid : Prop := termKindsRow.holds Try.pinned (OpenSpec.ofChange termKindsSpec)

/-- ITS FALSE NEIGHBOUR: 'it returns false'. Refute it at one input. -/
def termKindsWrong : ChangeSpec := { name := "termKinds", fn := fun _ => fun
  | [d1, d2] => { results := [.lit (.bool false)], args := [d1, d2] }
  | _ => none }
def TermKindsWrongFalsely : Prop := termKindsRow.holds Try.pinned (OpenSpec.ofChange termKindsWrong)

/-- 'hypercubelaw10.TermSizes': WHATEVER THE INPUT: true; the input reads as it did. -/
def termSizesSpec : ChangeSpec := { name := "termSizes", fn := fun _ => fun
  | [d1, d2] => { results := [.lit (.bool true)], args := [d1, d2] }
  | _ => none }
def termSizesRow : OpenClaim := { program := "ytcofpfnnlageaaa", sum := "e99805292911fc6077a464de788fc60d2258e6572779da76a5df1b1a3384a485", func := "hypercube/hypercubelaw10.TermSizes", spec := "termSizes", unfollowed := true, recurses := true, loops := true, plainKeys := false, apart := false }
def TermSizesSaid : Prop := termSizesRow.holds Try.pinned (OpenSpec.ofChange termSizesSpec)

/-- ITS FALSE NEIGHBOUR: 'it returns false'. Refute it at one input. -/
def termSizesWrong : ChangeSpec := { name := "termSizes", fn := fun _ => fun
  | [d1, d2] => { results := [.lit (.bool false)], args := [d1, d2] }
  | _ => none }
def TermSizesWrongFalsely : Prop := termSizesRow.holds Try.pinned (OpenSpec.ofChange termSizesWrong)

/-- 'hypercubelaw10.TermRights': WHATEVER THE INPUT: true; the input reads as it did. -/
def termRightsSpec : ChangeSpec := { name := "termRights", fn := fun _ => fun
  | [d1, d2, d3] => { results := [.lit (.bool true)], args := [d1, d2, d3] }
  | _ => none }
def termRightsRow : OpenClaim := { program := "ytcofpfnnlageaaa", sum := "e99805292911fc6077a464de788fc60d2258e6572779da76a5df1b1a3384a485", func := "hypercube/hypercubelaw10.TermRights", spec := "termRights", unfollowed := true, recurses := true, loops := true, plainKeys := false, apart := false }
def TermRightsSaid : Prop := termRightsRow.holds Try.pinned (OpenSpec.ofChange termRightsSpec)

/-- ITS FALSE NEIGHBOUR: 'it returns false'. Refute it at one input. -/
def termRightsWrong : ChangeSpec := { name := "termRights", fn := fun _ => fun
  | [d1, d2, d3] => { results := [.lit (.bool false)], args := [d1, d2, d3] }
  | _ => none }
def TermRightsWrongFalsely : Prop := termRightsRow.holds Try.pinned (OpenSpec.ofChange termRightsWrong)

/-- 'hypercubelaw10.TermParts': WHATEVER THE INPUT: true; the input reads as it did. -/
def termPartsSpec : ChangeSpec := { name := "termParts", fn := fun _ => fun
  | [d1, d2, d3, d4] => { results := [.lit (.bool true)], args := [d1, d2, d3, d4] }
  | _ => none }
def termPartsRow : OpenClaim := { program := "ytcofpfnnlageaaa", sum := "e99805292911fc6077a464de788fc60d2258e6572779da76a5df1b1a3384a485", func := "hypercube/hypercubelaw10.TermParts", spec := "termParts", unfollowed := true, recurses := true, loops := true, plainKeys := false, apart := false }
def TermPartsSaid : Prop := termPartsRow.holds Try.pinned (OpenSpec.ofChange termPartsSpec)

/-- ITS FALSE NEIGHBOUR: 'it returns false'. Refute it at one input. -/
def termPartsWrong : ChangeSpec := { name := "termParts", fn := fun _ => fun
  | [d1, d2, d3, d4] => { results := [.lit (.bool false)], args := [d1, d2, d3, d4] }
  | _ => none }
def TermPartsWrongFalsely : Prop := termPartsRow.holds Try.pinned (OpenSpec.ofChange termPartsWrong)

/-- 'hypercubelaw10.TermMore': WHATEVER THE INPUT: true; the input reads as it did. -/
def termMoreSpec : ChangeSpec := { name := "termMore", fn := fun _ => fun
  | [d1, d2, d3, d4] => { results := [.lit (.bool true)], args := [d1, d2, d3, d4] }
  | _ => none }
def termMoreRow : OpenClaim := { program := "ytcofpfnnlageaaa", sum := "e99805292911fc6077a464de788fc60d2258e6572779da76a5df1b1a3384a485", func := "hypercube/hypercubelaw10.TermMore", spec := "termMore", unfollowed := true, recurses := true, loops := true, plainKeys := false, apart := false }
def TermMoreSaid : Prop := termMoreRow.holds Try.pinned (OpenSpec.ofChange termMoreSpec)

/-- ITS FALSE NEIGHBOUR: 'it returns false'. Refute it at one input. -/
def termMoreWrong : ChangeSpec := { name := "termMore", fn := fun _ => fun
  | [d1, d2, d3, d4] => { results := [.lit (.bool false)], args := [d1, d2, d3, d4] }
  | _ => none }
def TermMoreWrongFalsely : Prop := termMoreRow.holds Try.pinned (OpenSpec.ofChange termMoreWrong)

/-- 'hypercubelaw30.PathApart': WHATEVER THE INPUT: true; the input reads as it did. -/
def pathApartSpec : ChangeSpec := { name := "pathApart", fn := fun _ => fun
  | [d1, d2, d3, d4, d5] => { results := [.lit (.bool true)], args := [d1, d2, d3, d4, d5] }
  | _ => none }
def pathApartRow : OpenClaim := { program := "ytcofpfnnlageaaa", sum := "e99805292911fc6077a464de788fc60d2258e6572779da76a5df1b1a3384a485", func := "hypercube/hypercubelaw30.PathApart", spec := "pathApart", unfollowed := true, recurses := true, loops := true, plainKeys := false, apart := false }
def PathApartSaid : Prop := pathApartRow.holds Try.pinned (OpenSpec.ofChange pathApartSpec)

/-- ITS FALSE NEIGHBOUR: 'it returns false'. Refute it at one input. -/
def pathApartWrong : ChangeSpec := { name := "pathApart", fn := fun _ => fun
  | [d1, d2, d3, d4, d5] => { results := [.lit (.bool false)], args := [d1, d2, d3, d4, d5] }
  | _ => none }
def PathApartWrongFalsely : Prop := pathApartRow.holds Try.pinned (OpenSpec.ofChange pathApartWrong)

/-- 'hypercubelaw30.PathBack': WHATEVER THE INPUT: true; the input reads as it did. -/
def pathBackSpec : ChangeSpec := { name := "pathBack", fn := fun _ => fun
  | [d1, d2, d3] => { results := [.lit (.bool true)], args := [d1, d2, d3] }
  | _ => none }
def pathBackRow : OpenClaim := { program := "ytcofpfnnlageaaa", sum := "e99805292911fc6077a464de788fc60d2258e6572779da76a5df1b1a3384a485", func := "hypercube/hypercubelaw30.PathBack", spec := "pathBack", unfollowed := true, recurses := true, loops := true, plainKeys := false, apart := false }
def PathBackSaid : Prop := pathBackRow.holds Try.pinned (OpenSpec.ofChange pathBackSpec)

/-- ITS FALSE NEIGHBOUR: 'it returns false'. Refute it at one input. -/
def pathBackWrong : ChangeSpec := { name := "pathBack", fn := fun _ => fun
  | [d1, d2, d3] => { results := [.lit (.bool false)], args := [d1, d2, d3] }
  | _ => none }
def PathBackWrongFalsely : Prop := pathBackRow.holds Try.pinned (OpenSpec.ofChange pathBackWrong)

/-- 'hypercubelaw30.PathRises': WHATEVER THE INPUT: true; the input reads as it did. -/
def pathRisesSpec : ChangeSpec := { name := "pathRises", fn := fun _ => fun
  | [d] => { results := [.lit (.bool true)], args := [d] }
  | _ => none }
def pathRisesRow : OpenClaim := { program := "ytcofpfnnlageaaa", sum := "e99805292911fc6077a464de788fc60d2258e6572779da76a5df1b1a3384a485", func := "hypercube/hypercubelaw30.PathRises", spec := "pathRises", unfollowed := true, recurses := true, loops := true, plainKeys := false, apart := false }
def PathRisesSaid : Prop := pathRisesRow.holds Try.pinned (OpenSpec.ofChange pathRisesSpec)

/-- ITS FALSE NEIGHBOUR: 'it returns false'. Refute it at one input. -/
def pathRisesWrong : ChangeSpec := { name := "pathRises", fn := fun _ => fun
  | [d] => { results := [.lit (.bool false)], args := [d] }
  | _ => none }
def PathRisesWrongFalsely : Prop := pathRisesRow.holds Try.pinned (OpenSpec.ofChange pathRisesWrong)

/- THE SECOND FORM. 'bulk': how many values and letters a reading holds, each counted each time it is reached (what is shared counts as often as it is met; a slice's spare places count too). A statement '..UptoSaid' is the law's where the arguments, and the package variables that the reading takes, are together of bulk at most 1048576: NARROWER than '..Said'. Prove '..Said' where nothing that the law and all that it calls make is longer than what came in: it says more and counts as full. Else prove '..UptoSaid'. A law counts once. -/
mutual
def uptoBulk {H : Type} : DataW H → Nat
  | .lit (.string bytes) => bytes.length + 1
  | .lit _ => 1
  | .nil => 1
  | .ptr d => uptoBulk d + 1
  | .slice elems spare => uptoBulkAll elems + uptoBulkAll spare + 1
  | .agg parts => uptoBulkAll parts + 1
  | .iface _ d => uptoBulk d + 1
  | .map entries => uptoBulkEntries entries + 1
  | .held _ => 1
def uptoBulkAll {H : Type} : List (DataW H) → Nat
  | [] => 0
  | d :: r => uptoBulk d + uptoBulkAll r
def uptoBulkEntries {H : Type} : List (Lit × DataW H) → Nat
  | [] => 0
  | x :: r => uptoBulkEntry x + uptoBulkEntries r
def uptoBulkEntry {H : Type} : Lit × DataW H → Nat
  | (.string bytes, d) => bytes.length + uptoBulk d + 1
  | (_, d) => uptoBulk d + 1
 end
def uptoSmall : (H : Type) → List (DataW H) → Bool := fun _ ds => decide (uptoBulkAll ds ≤ 1048576)
def OpenSpec.upto (s : _root_.Go.ChangeSpec) : _root_.Go.OpenSpec := { _root_.Go.OpenSpec.ofChange s with cond := some uptoSmall }

/-- 'hypercubelaw10.TermKinds', WHERE WHAT IT READS IS OF BULK AT MOST 1048576: true; the input reads as it did. -/
def termKindsUptoRow : OpenClaim := { program := "ytcofpfnnlageaaa", sum := "e99805292911fc6077a464de788fc60d2258e6572779da76a5df1b1a3384a485", func := "hypercube/hypercubelaw10.TermKinds", spec := "termKinds", unfollowed := true, recurses := true, plainKeys := false, apart := false, narrowed := true }
def TermKindsUptoSaid : Prop := termKindsUptoRow.holds Try.pinned (OpenSpec.upto termKindsSpec)

/-- 'hypercubelaw10.TermSizes', WHERE WHAT IT READS IS OF BULK AT MOST 1048576: true; the input reads as it did. -/
def termSizesUptoRow : OpenClaim := { program := "ytcofpfnnlageaaa", sum := "e99805292911fc6077a464de788fc60d2258e6572779da76a5df1b1a3384a485", func := "hypercube/hypercubelaw10.TermSizes", spec := "termSizes", unfollowed := true, recurses := true, loops := true, plainKeys := false, apart := false, narrowed := true }
def TermSizesUptoSaid : Prop := termSizesUptoRow.holds Try.pinned (OpenSpec.upto termSizesSpec)

/-- 'hypercubelaw10.TermRights', WHERE WHAT IT READS IS OF BULK AT MOST 1048576: true; the input reads as it did. -/
def termRightsUptoRow : OpenClaim := { program := "ytcofpfnnlageaaa", sum := "e99805292911fc6077a464de788fc60d2258e6572779da76a5df1b1a3384a485", func := "hypercube/hypercubelaw10.TermRights", spec := "termRights", unfollowed := true, recurses := true, loops := true, plainKeys := false, apart := false, narrowed := true }
def TermRightsUptoSaid : Prop := termRightsUptoRow.holds Try.pinned (OpenSpec.upto termRightsSpec)

/-- 'hypercubelaw10.TermParts', WHERE WHAT IT READS IS OF BULK AT MOST 1048576: true; the input reads as it did. -/
def termPartsUptoRow : OpenClaim := { program := "ytcofpfnnlageaaa", sum := "e99805292911fc6077a464de788fc60d2258e6572779da76a5df1b1a3384a485", func := "hypercube/hypercubelaw10.TermParts", spec := "termParts", unfollowed := true, recurses := true, loops := true, plainKeys := false, apart := false, narrowed := true }
def TermPartsUptoSaid : Prop := termPartsUptoRow.holds Try.pinned (OpenSpec.upto termPartsSpec)

/-- 'hypercubelaw10.TermMore', WHERE WHAT IT READS IS OF BULK AT MOST 1048576: true; the input reads as it did. -/
def termMoreUptoRow : OpenClaim := { program := "ytcofpfnnlageaaa", sum := "e99805292911fc6077a464de788fc60d2258e6572779da76a5df1b1a3384a485", func := "hypercube/hypercubelaw10.TermMore", spec := "termMore", unfollowed := true, recurses := true, loops := true, plainKeys := false, apart := false, narrowed := true }
def TermMoreUptoSaid : Prop := termMoreUptoRow.holds Try.pinned (OpenSpec.upto termMoreSpec)

/-- 'hypercubelaw30.PathApart', WHERE WHAT IT READS IS OF BULK AT MOST 1048576: true; the input reads as it did. -/
def pathApartUptoRow : OpenClaim := { program := "ytcofpfnnlageaaa", sum := "e99805292911fc6077a464de788fc60d2258e6572779da76a5df1b1a3384a485", func := "hypercube/hypercubelaw30.PathApart", spec := "pathApart", unfollowed := true, recurses := true, loops := true, plainKeys := false, apart := false, narrowed := true }
def PathApartUptoSaid : Prop := pathApartUptoRow.holds Try.pinned (OpenSpec.upto pathApartSpec)

/-- 'hypercubelaw30.PathBack', WHERE WHAT IT READS IS OF BULK AT MOST 1048576: true; the input reads as it did. -/
def pathBackUptoRow : OpenClaim := { program := "ytcofpfnnlageaaa", sum := "e99805292911fc6077a464de788fc60d2258e6572779da76a5df1b1a3384a485", func := "hypercube/hypercubelaw30.PathBack", spec := "pathBack", unfollowed := true, recurses := true, loops := true, plainKeys := false, apart := false, narrowed := true }
def PathBackUptoSaid : Prop := pathBackUptoRow.holds Try.pinned (OpenSpec.upto pathBackSpec)

/-- 'hypercubelaw30.PathRises', WHERE WHAT IT READS IS OF BULK AT MOST 1048576: true; the input reads as it did. -/
def pathRisesUptoRow : OpenClaim := { program := "ytcofpfnnlageaaa", sum := "e99805292911fc6077a464de788fc60d2258e6572779da76a5df1b1a3384a485", func := "hypercube/hypercubelaw30.PathRises", spec := "pathRises", unfollowed := true, recurses := true, loops := true, plainKeys := false, apart := false, narrowed := true }
def PathRisesUptoSaid : Prop := pathRisesUptoRow.holds Try.pinned (OpenSpec.upto pathRisesSpec)

end Rows
end Go.Proofs.Ytcofpfnnlageaaa
