/- Contracts of this program's functions and the laws that they need: a separation logic over the machine's rules, one theorem each (partly printed by a program of this repository). -/
import Derived.Test.YtpfjlbopkhdebaaGreatDoorRows
import Derived.Test.YtpfjlbopkhdebaaGreatDoorP6
import Derived.Test.YtpfjlbopkhdebaaGreatDoorP9
set_option linter.unusedVariables false
set_option linter.unusedSimpArgs false
set_option linter.unusedSectionVars false
/- SystemFaces: whatever arguments it is given, the law's function returns true, and its arguments read as they did; no condition. -/
namespace Go.Proofs.YtpfjlbopkhdebaaGreatDoor
open Go.ChangeShapes Go.WideShapes Go.ChangeAt Go.RowKit Go.Hy
theorem Tryz.gTab : Tryz.prog.globalNamed "math/bits.deBruijn32tab" = some 0 := by kernel_rfl
theorem Tryz.tTab : (Tryz.prog.globals[0]?).map (·.type) = some 202 := by kernel_rfl
abbrev Tryz.laidL : List (String × DataW Unit) := [("math/bits.deBruijn32tab", Rows.laid_math_bits_deBruijn32tab)]
theorem Tryz.door_met (os : Os) (args : Array Value) : laidMetH Tryz.prog Tryz.laidL ((World.doorLaid Tryz.prog 400 os).forCall (fun _ _ => 0) ⟨#[], args, []⟩).memory :=
  laidMetH_of_parts3 (fuel := 8) (laidMet_of_run' 8 (by kernel_rfl) (by kernel_rfl)) (by kernel_rfl) (by kernel_rfl)
theorem Tryz.own : ownKnob Tryz.prog.godebug = none := by kernel_rfl
theorem Tryz.laidOut : laidOutB Tryz.prog = true := by kernel_rfl
set_option maxRecDepth 100000 in
theorem systemFaces_lifted (os : Os) (started : os.Started) (H : Type) (enc : TypeId × Value → H) :
    ReturnsInHanded {} Tryz.checked os 3 .any (fun w args => (Rows.systemFacesSpec.pre enc Tryz.prog Tryz.f3 [] false w args ∧ laidMetH Tryz.prog Tryz.laidL w) ∧ sizedMet enc Tryz.prog Tryz.f3 (OpenSpec.ofChange Rows.systemFacesSpec) false w args) (Rows.systemFacesSpec.post enc Tryz.prog Tryz.f3 false true false false) := by
  refine law_lifted_laid (C := Tryz.checked) (L := Tryz.laidL) (ts := [22]) (tb := 4) Tryz.own started (by kernel_rfl) Tryz.func3
    (ChangeSpec.witness_shaped (enc := enc) (C := Tryz.checked) (os := os) (X := fun w _ => laidMetH Tryz.prog Tryz.laidL w) false (World.doorLaid Tryz.prog 400 os) #[.slice none 0 0] 8 rfl (World.shaped_of_RefB (by kernel_rfl) (by kernel_rfl)) (by kernel_rfl) (by kernel_rfl) (by kernel_rfl) (Tryz.door_met os _))
    Tryz.laidOut (by kernel_rfl) (by kernel_rfl) (by kernel_rfl) Tryz.underlying4 rfl ?_ ?_
  · intro ds h
    match ds, h with
    | [_], _ => rfl
  · intro W base args ds p hval hA hw hL
    have hT := tab_fact (tab_laid (tab := Lib.deBruijn32tab) Tryz.gTab Tryz.tTab Tryz.underlying202 Tryz.underlying5 (by kernel_rfl) (by kernel_rfl) (by decide) (by rfl) hL)
    obtain ⟨v0, l0, d0, e0, p0, q0, s0, g0, h0, k0⟩ := trods_cons hA
    have hn := trods_nil k0
    subst hn
    subst g0
    have ha : args = #[v0] := by cases args; simp_all
    subst ha
    obtain ⟨w0, u0⟩ := weights_split hw
    obtain ⟨a0, r0, rfl, i0⟩ := arg_BL (P := Tryz.prog) (by rfl) (hval 0 _ v0 rfl rfl) h0 w0
    exact (systemFaces_spec a0 r0 ).calls (fun _ => rfl) (fun F hF => by
      simp only [List.mem_cons, List.not_mem_nil, or_false] at hF
      rcases hF with rfl | rfl
      · exact hT
      · exact i0)
end Go.Proofs.YtpfjlbopkhdebaaGreatDoor
