/-
  NARROWER THAN 'FOR EVERY INPUT', by the rows' own cells (each row's printed sentence says how): TermUses: loops · PathPuts: loops · PathGets: loops · PathAlls: loops.
  DERIVED. THE GIVEN ROWS OF THIS SEAT. 4 by the template 'for every input the law returns true; each argument reads behind the call as it read before'; 0 by the template 'total and deterministic' (their statements: YtcofpfnnlageaaaGreatTotals.lean).
  GIVEN WITH THE SEED: the statements are not yours to turn. If you find one false, say at which input.
  Laid BY PROGRAM, IN A SANDBOX (cutbox-rows.mjs): the forced cells as the released guide's own fill.sh prints them over the translation 34d47ca63dd71b7d… (all of the seat's roots in one cut). By AI agents, Wed Nov 11 2026. No macro, syntax, notation, axiom, sorry.
-/
import Derived.Test.YtcofpfnnlageaaaGreatChecked
import GoSem.Claim
import GoSem.ClaimJoined
import GoSem.ClaimMapViews
import Derived.JoinedTies
import Derived.KernelRfl
namespace Go.Proofs.YtcofpfnnlageaaaGreat
/- THE CELL 'sum', in the pinned program and in every row, IS THE sha256 OF THE DUMP (.gsa) THAT YtcofpfnnlageaaaGreatProg.lean LOADS. Nothing in Lean hashes anything: it is a label: what it is worth is what the hold of that sum in a sandbox is worth. -/
noncomputable def Tryz.pinned : Pinned := { name := "ytcofpfnnlageaaagreat", sum := "34d47ca63dd71b7d59992b0df639bd70a2c506bcc4b8b21bcbf6bc7761328313", checked := Tryz.checked }
namespace Rows
def none {H : Type} : Left H := { results := [], args := [] }

/-- 'hypercubelaw10.TermUses': WHATEVER THE INPUT: true; the input reads as it did. -/
def termUsesSpec : ChangeSpec := { name := "termUses", fn := fun _ => fun
  | [d1, d2] => { results := [.lit (.bool true)], args := [d1, d2] }
  | _ => none }
def termUsesRow : OpenClaim := { program := "ytcofpfnnlageaaagreat", sum := "34d47ca63dd71b7d59992b0df639bd70a2c506bcc4b8b21bcbf6bc7761328313", func := "hypercube/hypercubelaw10.TermUses", spec := "termUses", unfollowed := true, recurses := true, loops := true, plainKeys := false, apart := false }
def TermUsesSaid : Prop := termUsesRow.holds Tryz.pinned (OpenSpec.ofChange termUsesSpec)

/-- ITS FALSE NEIGHBOUR: 'it returns false'. Refute it at one input. -/
def termUsesWrong : ChangeSpec := { name := "termUses", fn := fun _ => fun
  | [d1, d2] => { results := [.lit (.bool false)], args := [d1, d2] }
  | _ => none }
def TermUsesWrongFalsely : Prop := termUsesRow.holds Tryz.pinned (OpenSpec.ofChange termUsesWrong)

/-- 'hypercubelaw30.PathPuts': WHATEVER THE INPUT: true; the input reads as it did. -/
def pathPutsSpec : ChangeSpec := { name := "pathPuts", fn := fun _ => fun
  | [d1, d2, d3] => { results := [.lit (.bool true)], args := [d1, d2, d3] }
  | _ => none }
def pathPutsRow : OpenClaim := { program := "ytcofpfnnlageaaagreat", sum := "34d47ca63dd71b7d59992b0df639bd70a2c506bcc4b8b21bcbf6bc7761328313", func := "hypercube/hypercubelaw30.PathPuts", spec := "pathPuts", unfollowed := true, recurses := true, loops := true, plainKeys := false, apart := false }
def PathPutsSaid : Prop := pathPutsRow.holds Tryz.pinned (OpenSpec.ofChange pathPutsSpec)

/-- ITS FALSE NEIGHBOUR: 'it returns false'. Refute it at one input. -/
def pathPutsWrong : ChangeSpec := { name := "pathPuts", fn := fun _ => fun
  | [d1, d2, d3] => { results := [.lit (.bool false)], args := [d1, d2, d3] }
  | _ => none }
def PathPutsWrongFalsely : Prop := pathPutsRow.holds Tryz.pinned (OpenSpec.ofChange pathPutsWrong)

/-- 'hypercubelaw30.PathGets': WHATEVER THE INPUT: true; the input reads as it did. -/
def pathGetsSpec : ChangeSpec := { name := "pathGets", fn := fun _ => fun
  | [d1, d2] => { results := [.lit (.bool true)], args := [d1, d2] }
  | _ => none }
def pathGetsRow : OpenClaim := { program := "ytcofpfnnlageaaagreat", sum := "34d47ca63dd71b7d59992b0df639bd70a2c506bcc4b8b21bcbf6bc7761328313", func := "hypercube/hypercubelaw30.PathGets", spec := "pathGets", unfollowed := true, recurses := true, loops := true, plainKeys := false, apart := false }
def PathGetsSaid : Prop := pathGetsRow.holds Tryz.pinned (OpenSpec.ofChange pathGetsSpec)

/-- ITS FALSE NEIGHBOUR: 'it returns false'. Refute it at one input. -/
def pathGetsWrong : ChangeSpec := { name := "pathGets", fn := fun _ => fun
  | [d1, d2] => { results := [.lit (.bool false)], args := [d1, d2] }
  | _ => none }
def PathGetsWrongFalsely : Prop := pathGetsRow.holds Tryz.pinned (OpenSpec.ofChange pathGetsWrong)

/-- 'hypercubelaw30.PathAlls': WHATEVER THE INPUT: true; the input reads as it did. -/
def pathAllsSpec : ChangeSpec := { name := "pathAlls", fn := fun _ => fun
  | [d1, d2, d3] => { results := [.lit (.bool true)], args := [d1, d2, d3] }
  | _ => none }
def pathAllsRow : OpenClaim := { program := "ytcofpfnnlageaaagreat", sum := "34d47ca63dd71b7d59992b0df639bd70a2c506bcc4b8b21bcbf6bc7761328313", func := "hypercube/hypercubelaw30.PathAlls", spec := "pathAlls", unfollowed := true, recurses := true, loops := true, plainKeys := false, apart := false }
def PathAllsSaid : Prop := pathAllsRow.holds Tryz.pinned (OpenSpec.ofChange pathAllsSpec)

/-- ITS FALSE NEIGHBOUR: 'it returns false'. Refute it at one input. -/
def pathAllsWrong : ChangeSpec := { name := "pathAlls", fn := fun _ => fun
  | [d1, d2, d3] => { results := [.lit (.bool false)], args := [d1, d2, d3] }
  | _ => none }
def PathAllsWrongFalsely : Prop := pathAllsRow.holds Tryz.pinned (OpenSpec.ofChange pathAllsWrong)

/- THE SECOND FORM. 'bulk': how many values and letters a reading holds, each counted each time it is reached (what is shared counts as often as it is met; a slice's spare places count too). A statement '..UptoSaid' is the law's where the arguments, and the package variables that the reading takes, are together of bulk at most 1048576: NARROWER than '..Said'. Prove '..Said' where nothing that the law and all that it calls make is longer than what came in: it says more and counts as full. Else prove '..UptoSaid'. A law counts once. -/
mutual
def uptoBulk {H : Type} : DataW H → Nat
  | .lit (.string bytes) => bytes.length + 1
  | .lit _ => 1
  | .nil => 1
  | .ptr d => uptoBulk d + 1
  | .slice elems spare => uptoBulkAll elems + uptoBulkAll spare + 1
  | .agg parts => uptoBulkAll parts + 1
  | .iface _ d => uptoBulk d + 1
  | .map entries => uptoBulkEntries entries + 1
  | .held _ => 1
def uptoBulkAll {H : Type} : List (DataW H) → Nat
  | [] => 0
  | d :: r => uptoBulk d + uptoBulkAll r
def uptoBulkEntries {H : Type} : List (Lit × DataW H) → Nat
  | [] => 0
  | x :: r => uptoBulkEntry x + uptoBulkEntries r
def uptoBulkEntry {H : Type} : Lit × DataW H → Nat
  | (.string bytes, d) => bytes.length + uptoBulk d + 1
  | (_, d) => uptoBulk d + 1
 end
def uptoSmall : (H : Type) → List (DataW H) → Bool := fun _ ds => decide (uptoBulkAll ds ≤ 1048576)
def OpenSpec.upto (s : _root_.Go.ChangeSpec) : _root_.Go.OpenSpec := { _root_.Go.OpenSpec.ofChange s with cond := some uptoSmall }

/-- 'hypercubelaw10.TermUses', WHERE WHAT IT READS IS OF BULK AT MOST 1048576: true; the input reads as it did. -/
def termUsesUptoRow : OpenClaim := { program := "ytcofpfnnlageaaagreat", sum := "34d47ca63dd71b7d59992b0df639bd70a2c506bcc4b8b21bcbf6bc7761328313", func := "hypercube/hypercubelaw10.TermUses", spec := "termUses", unfollowed := true, recurses := true, loops := true, plainKeys := false, apart := false, narrowed := true }
def TermUsesUptoSaid : Prop := termUsesUptoRow.holds Tryz.pinned (OpenSpec.upto termUsesSpec)

/-- 'hypercubelaw30.PathPuts', WHERE WHAT IT READS IS OF BULK AT MOST 1048576: true; the input reads as it did. -/
def pathPutsUptoRow : OpenClaim := { program := "ytcofpfnnlageaaagreat", sum := "34d47ca63dd71b7d59992b0df639bd70a2c506bcc4b8b21bcbf6bc7761328313", func := "hypercube/hypercubelaw30.PathPuts", spec := "pathPuts", unfollowed := true, recurses := true, loops := true, plainKeys := false, apart := false, narrowed := true }
def PathPutsUptoSaid : Prop := pathPutsUptoRow.holds Tryz.pinned (OpenSpec.upto pathPutsSpec)

/-- 'hypercubelaw30.PathGets', WHERE WHAT IT READS IS OF BULK AT MOST 1048576: true; the input reads as it did. -/
def pathGetsUptoRow : OpenClaim := { program := "ytcofpfnnlageaaagreat", sum := "34d47ca63dd71b7d59992b0df639bd70a2c506bcc4b8b21bcbf6bc7761328313", func := "hypercube/hypercubelaw30.PathGets", spec := "pathGets", unfollowed := true, recurses := true, loops := true, plainKeys := false, apart := false, narrowed := true }
def PathGetsUptoSaid : Prop := pathGetsUptoRow.holds Tryz.pinned (OpenSpec.upto pathGetsSpec)

/-- 'hypercubelaw30.PathAlls', WHERE WHAT IT READS IS OF BULK AT MOST 1048576: true; the input reads as it did. -/
def pathAllsUptoRow : OpenClaim := { program := "ytcofpfnnlageaaagreat", sum := "34d47ca63dd71b7d59992b0df639bd70a2c506bcc4b8b21bcbf6bc7761328313", func := "hypercube/hypercubelaw30.PathAlls", spec := "pathAlls", unfollowed := true, recurses := true, loops := true, plainKeys := false, apart := false, narrowed := true }
def PathAllsUptoSaid : Prop := pathAllsUptoRow.holds Tryz.pinned (OpenSpec.upto pathAllsSpec)

end Rows
end Go.Proofs.YtcofpfnnlageaaaGreat
