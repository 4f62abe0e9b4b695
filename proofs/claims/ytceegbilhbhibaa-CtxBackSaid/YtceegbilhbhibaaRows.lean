/-
  NARROWER THAN 'FOR EVERY INPUT', by the rows' own cells (each row's printed sentence says how): LiftAdds: loops · LiftFree: loops · CtxBack: loops · PlugLifts: loops · PlugLemma: loops.
  DERIVED. THE GIVEN ROWS OF THIS SEAT. 5 by the template 'for every input the law returns true; each argument reads behind the call as it read before'; 0 by the template 'total and deterministic' (their statements: YtceegbilhbhibaaTotals.lean).
  GIVEN WITH THE SEED: the statements are not yours to turn. If you find one false, say at which input.
  Laid BY PROGRAM, IN A SANDBOX (cutbox-rows.mjs): the forced cells as the released guide's own fill.sh prints them over the translation e4a701f8fbec0053… (all of the seat's roots in one cut). By AI agents, Wed Nov 11 2026. No macro, syntax, notation, axiom, sorry.
-/
import Derived.Test.YtceegbilhbhibaaChecked
import GoSem.Claim
import GoSem.ClaimJoined
import GoSem.ClaimMapViews
import Derived.JoinedTies
import Derived.KernelRfl
namespace Go.Proofs.Ytceegbilhbhibaa
/- THE CELL 'sum', in the pinned program and in every row, IS THE sha256 OF THE DUMP (.gsa) THAT YtceegbilhbhibaaProg.lean LOADS. Nothing in Lean hashes anything: it is a label: what it is worth is what the hold of that sum in a sandbox is worth. -/
noncomputable def Try.pinned : Pinned := { name := "ytceegbilhbhibaa", sum := "e4a701f8fbec0053cb281815dcd588416c6cad28ab83a2b23eed074b899c93bf", checked := Try.checked }
namespace Rows
def none {H : Type} : Left H := { results := [], args := [] }

/-- 'hypercubelaw11.LiftAdds': WHATEVER THE INPUT: true; the input reads as it did. -/
def liftAddsSpec : ChangeSpec := { name := "liftAdds", fn := fun _ => fun
  | [d1, d2, d3, d4] => { results := [.lit (.bool true)], args := [d1, d2, d3, d4] }
  | _ => none }
def liftAddsRow : OpenClaim := { program := "ytceegbilhbhibaa", sum := "e4a701f8fbec0053cb281815dcd588416c6cad28ab83a2b23eed074b899c93bf", func := "hypercube/hypercubelaw11.LiftAdds", spec := "liftAdds", unfollowed := true, recurses := true, loops := true, plainKeys := false, apart := false }
def LiftAddsSaid : Prop := liftAddsRow.holds Try.pinned (OpenSpec.ofChange liftAddsSpec)

/-- ITS FALSE NEIGHBOUR: 'it returns false'. Refute it at one input. -/
def liftAddsWrong : ChangeSpec := { name := "liftAdds", fn := fun _ => fun
  | [d1, d2, d3, d4] => { results := [.lit (.bool false)], args := [d1, d2, d3, d4] }
  | _ => none }
def LiftAddsWrongFalsely : Prop := liftAddsRow.holds Try.pinned (OpenSpec.ofChange liftAddsWrong)

/-- 'hypercubelaw11.LiftFree': WHATEVER THE INPUT: true; the input reads as it did. -/
def liftFreeSpec : ChangeSpec := { name := "liftFree", fn := fun _ => fun
  | [d1, d2, d3, d4] => { results := [.lit (.bool true)], args := [d1, d2, d3, d4] }
  | _ => none }
def liftFreeRow : OpenClaim := { program := "ytceegbilhbhibaa", sum := "e4a701f8fbec0053cb281815dcd588416c6cad28ab83a2b23eed074b899c93bf", func := "hypercube/hypercubelaw11.LiftFree", spec := "liftFree", unfollowed := true, recurses := true, loops := true, plainKeys := false, apart := false }
def LiftFreeSaid : Prop := liftFreeRow.holds Try.pinned (OpenSpec.ofChange liftFreeSpec)

/-- ITS FALSE NEIGHBOUR: 'it returns false'. Refute it at one input. -/
def liftFreeWrong : ChangeSpec := { name := "liftFree", fn := fun _ => fun
  | [d1, d2, d3, d4] => { results := [.lit (.bool false)], args := [d1, d2, d3, d4] }
  | _ => none }
def LiftFreeWrongFalsely : Prop := liftFreeRow.holds Try.pinned (OpenSpec.ofChange liftFreeWrong)

/-- 'hypercubelaw25.CtxBack': WHATEVER THE INPUT: true; the input reads as it did. -/
def ctxBackSpec : ChangeSpec := { name := "ctxBack", fn := fun _ => fun
  | [d1, d2] => { results := [.lit (.bool true)], args := [d1, d2] }
  | _ => none }
def ctxBackRow : OpenClaim := { program := "ytceegbilhbhibaa", sum := "e4a701f8fbec0053cb281815dcd588416c6cad28ab83a2b23eed074b899c93bf", func := "hypercube/hypercubelaw25.CtxBack", spec := "ctxBack", unfollowed := true, recurses := true, loops := true, plainKeys := false, apart := false }
def CtxBackSaid : Prop := ctxBackRow.holds Try.pinned (OpenSpec.ofChange ctxBackSpec)

/-- ITS FALSE NEIGHBOUR: 'it returns false'. Refute it at one input. -/
def ctxBackWrong : ChangeSpec := { name := "ctxBack", fn := fun _ => fun
  | [d1, d2] => { results := [.lit (.bool false)], args := [d1, d2] }
  | _ => none }
def CtxBackWrongFalsely : Prop := ctxBackRow.holds Try.pinned (OpenSpec.ofChange ctxBackWrong)

/-- 'hypercubelaw12.PlugLifts': WHATEVER THE INPUT: true; the input reads as it did. -/
def plugLiftsSpec : ChangeSpec := { name := "plugLifts", fn := fun _ => fun
  | [d1, d2, d3] => { results := [.lit (.bool true)], args := [d1, d2, d3] }
  | _ => none }
def plugLiftsRow : OpenClaim := { program := "ytceegbilhbhibaa", sum := "e4a701f8fbec0053cb281815dcd588416c6cad28ab83a2b23eed074b899c93bf", func := "hypercube/hypercubelaw12.PlugLifts", spec := "plugLifts", unfollowed := true, recurses := true, loops := true, plainKeys := false, apart := false }
def PlugLiftsSaid : Prop := plugLiftsRow.holds Try.pinned (OpenSpec.ofChange plugLiftsSpec)

/-- ITS FALSE NEIGHBOUR: 'it returns false'. Refute it at one input. -/
def plugLiftsWrong : ChangeSpec := { name := "plugLifts", fn := fun _ => fun
  | [d1, d2, d3] => { results := [.lit (.bool false)], args := [d1, d2, d3] }
  | _ => none }
def PlugLiftsWrongFalsely : Prop := plugLiftsRow.holds Try.pinned (OpenSpec.ofChange plugLiftsWrong)

/-- 'hypercubelaw12.PlugLemma': WHATEVER THE INPUT: true; the input reads as it did. -/
def plugLemmaSpec : ChangeSpec := { name := "plugLemma", fn := fun _ => fun
  | [d1, d2, d3, d4] => { results := [.lit (.bool true)], args := [d1, d2, d3, d4] }
  | _ => none }
def plugLemmaRow : OpenClaim := { program := "ytceegbilhbhibaa", sum := "e4a701f8fbec0053cb281815dcd588416c6cad28ab83a2b23eed074b899c93bf", func := "hypercube/hypercubelaw12.PlugLemma", spec := "plugLemma", unfollowed := true, recurses := true, loops := true, plainKeys := false, apart := false }
def PlugLemmaSaid : Prop := plugLemmaRow.holds Try.pinned (OpenSpec.ofChange plugLemmaSpec)

/-- ITS FALSE NEIGHBOUR: 'it returns false'. Refute it at one input. -/
def plugLemmaWrong : ChangeSpec := { name := "plugLemma", fn := fun _ => fun
  | [d1, d2, d3, d4] => { results := [.lit (.bool false)], args := [d1, d2, d3, d4] }
  | _ => none }
def PlugLemmaWrongFalsely : Prop := plugLemmaRow.holds Try.pinned (OpenSpec.ofChange plugLemmaWrong)

/- THE SECOND FORM. 'bulk': how many values and letters a reading holds, each counted each time it is reached (what is shared counts as often as it is met; a slice's spare places count too). A statement '..UptoSaid' is the law's where the arguments, and the package variables that the reading takes, are together of bulk at most 1048576: NARROWER than '..Said'. Prove '..Said' where nothing that the law and all that it calls make is longer than what came in: it says more and counts as full. Else prove '..UptoSaid'. A law counts once. -/
mutual
def uptoBulk {H : Type} : DataW H → Nat
  | .lit (.string bytes) => bytes.length + 1
  | .lit _ => 1
  | .nil => 1
  | .ptr d => uptoBulk d + 1
  | .slice elems spare => uptoBulkAll elems + uptoBulkAll spare + 1
  | .agg parts => uptoBulkAll parts + 1
  | .iface _ d => uptoBulk d + 1
  | .map entries => uptoBulkEntries entries + 1
  | .held _ => 1
def uptoBulkAll {H : Type} : List (DataW H) → Nat
  | [] => 0
  | d :: r => uptoBulk d + uptoBulkAll r
def uptoBulkEntries {H : Type} : List (Lit × DataW H) → Nat
  | [] => 0
  | x :: r => uptoBulkEntry x + uptoBulkEntries r
def uptoBulkEntry {H : Type} : Lit × DataW H → Nat
  | (.string bytes, d) => bytes.length + uptoBulk d + 1
  | (_, d) => uptoBulk d + 1
 end
def uptoSmall : (H : Type) → List (DataW H) → Bool := fun _ ds => decide (uptoBulkAll ds ≤ 1048576)
def OpenSpec.upto (s : _root_.Go.ChangeSpec) : _root_.Go.OpenSpec := { _root_.Go.OpenSpec.ofChange s with cond := some uptoSmall }

/-- 'hypercubelaw11.LiftAdds', WHERE WHAT IT READS IS OF BULK AT MOST 1048576: true; the input reads as it did. -/
def liftAddsUptoRow : OpenClaim := { program := "ytceegbilhbhibaa", sum := "e4a701f8fbec0053cb281815dcd588416c6cad28ab83a2b23eed074b899c93bf", func := "hypercube/hypercubelaw11.LiftAdds", spec := "liftAdds", unfollowed := true, recurses := true, loops := true, plainKeys := false, apart := false, narrowed := true }
def LiftAddsUptoSaid : Prop := liftAddsUptoRow.holds Try.pinned (OpenSpec.upto liftAddsSpec)

/-- 'hypercubelaw11.LiftFree', WHERE WHAT IT READS IS OF BULK AT MOST 1048576: true; the input reads as it did. -/
def liftFreeUptoRow : OpenClaim := { program := "ytceegbilhbhibaa", sum := "e4a701f8fbec0053cb281815dcd588416c6cad28ab83a2b23eed074b899c93bf", func := "hypercube/hypercubelaw11.LiftFree", spec := "liftFree", unfollowed := true, recurses := true, loops := true, plainKeys := false, apart := false, narrowed := true }
def LiftFreeUptoSaid : Prop := liftFreeUptoRow.holds Try.pinned (OpenSpec.upto liftFreeSpec)

/-- 'hypercubelaw25.CtxBack', WHERE WHAT IT READS IS OF BULK AT MOST 1048576: true; the input reads as it did. -/
def ctxBackUptoRow : OpenClaim := { program := "ytceegbilhbhibaa", sum := "e4a701f8fbec0053cb281815dcd588416c6cad28ab83a2b23eed074b899c93bf", func := "hypercube/hypercubelaw25.CtxBack", spec := "ctxBack", unfollowed := true, recurses := true, loops := true, plainKeys := false, apart := false, narrowed := true }
def CtxBackUptoSaid : Prop := ctxBackUptoRow.holds Try.pinned (OpenSpec.upto ctxBackSpec)

/-- 'hypercubelaw12.PlugLifts', WHERE WHAT IT READS IS OF BULK AT MOST 1048576: true; the input reads as it did. -/
def plugLiftsUptoRow : OpenClaim := { program := "ytceegbilhbhibaa", sum := "e4a701f8fbec0053cb281815dcd588416c6cad28ab83a2b23eed074b899c93bf", func := "hypercube/hypercubelaw12.PlugLifts", spec := "plugLifts", unfollowed := true, recurses := true, loops := true, plainKeys := false, apart := false, narrowed := true }
def PlugLiftsUptoSaid : Prop := plugLiftsUptoRow.holds Try.pinned (OpenSpec.upto plugLiftsSpec)

/-- 'hypercubelaw12.PlugLemma', WHERE WHAT IT READS IS OF BULK AT MOST 1048576: true; the input reads as it did. -/
def plugLemmaUptoRow : OpenClaim := { program := "ytceegbilhbhibaa", sum := "e4a701f8fbec0053cb281815dcd588416c6cad28ab83a2b23eed074b899c93bf", func := "hypercube/hypercubelaw12.PlugLemma", spec := "plugLemma", unfollowed := true, recurses := true, loops := true, plainKeys := false, apart := false, narrowed := true }
def PlugLemmaUptoSaid : Prop := plugLemmaUptoRow.holds Try.pinned (OpenSpec.upto plugLemmaSpec)

end Rows
end Go.Proofs.Ytceegbilhbhibaa
