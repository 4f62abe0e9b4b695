/- Contracts of this program's functions and the laws that they need. -/
import Derived.Test.YtibignmpjeemeaaGreatDoorRows
import Derived.Test.YtibignmpjeemeaaGreatDoorP12
set_option linter.unusedVariables false
set_option linter.unusedSimpArgs false
set_option linter.unusedSectionVars false
/- EnvRows: whatever arguments it is given, the law's function returns true, and its arguments read as they did; no condition. -/
namespace Go.Proofs.YtibignmpjeemeaaGreatDoor
open Go.ChangeShapes Go.WideShapes Go.ChangeAt Go.RowKit Go.Hy
theorem Tryz.gTab : Tryz.prog.globalNamed "math/bits.deBruijn32tab" = some 0 := by kernel_rfl
theorem Tryz.tTab : (Tryz.prog.globals[0]?).map (·.type) = some 228 := by kernel_rfl
abbrev Tryz.laidL : List (String × DataW Unit) := [("math/bits.deBruijn32tab", Rows.laid_math_bits_deBruijn32tab)]
theorem Tryz.door_met (os : Os) (args : Array Value) : laidMetH Tryz.prog Tryz.laidL ((World.doorLaid Tryz.prog 400 os).forCall (fun _ _ => 0) ⟨#[], args, []⟩).memory :=
  laidMetH_of_parts3 (fuel := 8) (laidMet_of_run' 8 (by kernel_rfl) (by kernel_rfl)) (by kernel_rfl) (by kernel_rfl)
theorem Tryz.own : ownKnob Tryz.prog.godebug = none := by kernel_rfl
theorem Tryz.laidOut : laidOutB Tryz.prog = true := by kernel_rfl
set_option maxRecDepth 100000 in
theorem envRows_lifted (os : Os) (started : os.Started) (H : Type) (enc : TypeId × Value → H) :
    ReturnsInHanded {} Tryz.checked os 6 .any (fun w args => (Rows.envRowsSpec.pre enc Tryz.prog Tryz.f6 [] false w args ∧ laidMetH Tryz.prog Tryz.laidL w) ∧ sizedMet enc Tryz.prog Tryz.f6 (OpenSpec.ofChange Rows.envRowsSpec) false w args) (Rows.envRowsSpec.post enc Tryz.prog Tryz.f6 false true false false) := by
  refine Yp (C := Tryz.checked) (L := Tryz.laidL) (ts := [22, 29, 29]) (tb := 4) Tryz.own started (by kernel_rfl) Tryz.func6
    (ChangeSpec.witness_shaped (enc := enc) (C := Tryz.checked) (os := os) (X := fun w _ => laidMetH Tryz.prog Tryz.laidL w) false (World.doorLaid Tryz.prog 400 os) #[.slice none 0 0, .agg #[.slice none 0 0, .slice none 0 0], .agg #[.slice none 0 0, .slice none 0 0]] 8 rfl (World.shaped_of_RefB (by kernel_rfl) (by kernel_rfl)) (by kernel_rfl) (by kernel_rfl) (by kernel_rfl) (Tryz.door_met os _))
    Tryz.laidOut (by kernel_rfl) (by kernel_rfl) (by kernel_rfl) Tryz.underlying4 rfl ?_ ?_
  · intro ds h
    match ds, h with
    | [_, _, _], _ => rfl
  · intro W base args ds p hval hA hw hL
    have hT := C5i (C5h (tab := Lib.deBruijn32tab) Tryz.gTab Tryz.tTab Tryz.underlying228 Tryz.underlying5 (by kernel_rfl) (by kernel_rfl) (by decide) (by rfl) hL)
    obtain ⟨v0, l0, d0, e0, p0, q0, s0, g0, h0, k0⟩ := Tf hA
    obtain ⟨v1, l1, d1, e1, p1, q1, s1, g1, h1, k1⟩ := Tf k0
    obtain ⟨v2, l2, d2, e2, p2, q2, s2, g2, h2, k2⟩ := Tf k1
    have hn := C1i k2
    subst hn
    subst s2
    subst g2
    subst s1
    subst g1
    subst g0
    have ha : args = #[v0, v1, v2] := by cases args; simp_all
    subst ha
    obtain ⟨w0, u0⟩ := Nv hw
    obtain ⟨w1, u1⟩ := Nv u0
    obtain ⟨w2, u2⟩ := Nv u1
    obtain ⟨a0, r0, rfl, i0⟩ := E1x (P := Tryz.prog) (by rfl) (hval 0 _ v0 rfl rfl) h0 w0
    obtain ⟨a1, r1, m1, z1, rfl, i1, j1⟩ := D0x (P := Tryz.prog) Tryz.underlying29 (by rfl) (by rfl) Tryz.underlying27 (by rfl) (by rfl) (hval 1 _ v1 rfl rfl) h1 w1
    obtain ⟨a2, r2, m2, z2, rfl, i2, j2⟩ := D0x (P := Tryz.prog) Tryz.underlying29 (by rfl) (by rfl) Tryz.underlying27 (by rfl) (by rfl) (hval 2 _ v2 rfl rfl) h2 w2
    exact (B6q a0 r0 a1 r1 m1 z1 a2 r2 m2 z2).calls (fun _ => rfl) (fun F hF => by
      simp only [List.mem_cons, List.not_mem_nil, or_false] at hF
      rcases hF with rfl | rfl | rfl | rfl | rfl | rfl
      · exact hT
      · exact i0
      · exact i1
      · exact j1
      · exact i2
      · exact j2)
end Go.Proofs.YtibignmpjeemeaaGreatDoor
