/- Contracts of this program's functions and the laws that they need. -/
import Derived.Test.YtpfjlbopkhdebaaGreatDoorRows
import Derived.Test.YtpfjlbopkhdebaaGreatDoorP13
set_option linter.unusedVariables false
set_option linter.unusedSimpArgs false
set_option linter.unusedSectionVars false
/- SystemTakes: whatever arguments it is given, the law's function returns true, and its arguments read as they did; no condition. -/
namespace Go.Proofs.YtpfjlbopkhdebaaGreatDoor
open Go.ChangeShapes Go.WideShapes Go.ChangeAt Go.RowKit Go.Hy
theorem Tryz.gTab : Tryz.prog.globalNamed "math/bits.deBruijn32tab" = some 0 := by kernel_rfl
theorem Tryz.tTab : (Tryz.prog.globals[0]?).map (·.type) = some 202 := by kernel_rfl
abbrev Tryz.laidL : List (String × DataW Unit) := [("math/bits.deBruijn32tab", Rows.laid_math_bits_deBruijn32tab)]
theorem Tryz.door_met (os : Os) (args : Array Value) : laidMetH Tryz.prog Tryz.laidL ((World.doorLaid Tryz.prog 400 os).forCall (fun _ _ => 0) ⟨#[], args, []⟩).memory :=
  laidMetH_of_parts3 (fuel := 8) (laidMet_of_run' 8 (by kernel_rfl) (by kernel_rfl)) (by kernel_rfl) (by kernel_rfl)
theorem Tryz.own : ownKnob Tryz.prog.godebug = none := by kernel_rfl
theorem Tryz.laidOut : laidOutB Tryz.prog = true := by kernel_rfl
set_option maxRecDepth 100000 in
theorem systemTakes_lifted (os : Os) (started : os.Started) (H : Type) (enc : TypeId × Value → H) :
    ReturnsInHanded {} Tryz.checked os 11 .any (fun w args => (Rows.systemTakesSpec.pre enc Tryz.prog Tryz.f11 [] false w args ∧ laidMetH Tryz.prog Tryz.laidL w) ∧ sizedMet enc Tryz.prog Tryz.f11 (OpenSpec.ofChange Rows.systemTakesSpec) false w args) (Rows.systemTakesSpec.post enc Tryz.prog Tryz.f11 false true false false) := by
  refine A1n (C := Tryz.checked) (L := Tryz.laidL) (ts := [3, 22, 3, 25, 45, 3]) (tb := 4) Tryz.own started (by kernel_rfl) Tryz.func11
    (ChangeSpec.witness_shaped (enc := enc) (C := Tryz.checked) (os := os) (X := fun w _ => laidMetH Tryz.prog Tryz.laidL w) false (World.doorLaid Tryz.prog 400 os) #[.int .i64 0, .slice none 0 0, .int .i64 0, .slice none 0 0, .agg #[.int .u32 0, .int .u32 0], .int .i64 0] 8 rfl (World.shaped_of_RefB (by kernel_rfl) (by kernel_rfl)) (by kernel_rfl) (by kernel_rfl) (by kernel_rfl) (Tryz.door_met os _))
    Tryz.laidOut (by kernel_rfl) (by kernel_rfl) (by kernel_rfl) Tryz.underlying4 rfl ?_ ?_
  · intro ds h
    match ds, h with
    | [_, _, _, _, _, _], _ => rfl
  · intro W base args ds p hval hA hw hL
    have hT := D0l (D0k (tab := Lib.deBruijn32tab) Tryz.gTab Tryz.tTab Tryz.underlying202 Tryz.underlying5 (by kernel_rfl) (by kernel_rfl) (by decide) (by rfl) hL)
    obtain ⟨v0, l0, d0, e0, p0, q0, s0, g0, h0, k0⟩ := Mx hA
    obtain ⟨v1, l1, d1, e1, p1, q1, s1, g1, h1, k1⟩ := Mx k0
    obtain ⟨v2, l2, d2, e2, p2, q2, s2, g2, h2, k2⟩ := Mx k1
    obtain ⟨v3, l3, d3, e3, p3, q3, s3, g3, h3, k3⟩ := Mx k2
    obtain ⟨v4, l4, d4, e4, p4, q4, s4, g4, h4, k4⟩ := Mx k3
    obtain ⟨v5, l5, d5, e5, p5, q5, s5, g5, h5, k5⟩ := Mx k4
    have hn := C6h k5
    subst hn
    subst s5
    subst g5
    subst s4
    subst g4
    subst s3
    subst g3
    subst s2
    subst g2
    subst s1
    subst g1
    subst g0
    have ha : args = #[v0, v1, v2, v3, v4, v5] := by cases args; simp_all
    subst ha
    obtain ⟨w0, u0⟩ := Il hw
    obtain ⟨w1, u1⟩ := Il u0
    obtain ⟨w2, u2⟩ := Il u1
    obtain ⟨w3, u3⟩ := Il u2
    obtain ⟨w4, u4⟩ := Il u3
    obtain ⟨w5, u5⟩ := Il u4
    obtain ⟨a0, rfl, i0⟩ := D5u (P := Tryz.prog) Tryz.underlying3 (hval 0 _ v0 rfl rfl) h0
    obtain ⟨a1, r1, rfl, i1⟩ := E5d (P := Tryz.prog) (by rfl) (hval 1 _ v1 rfl rfl) h1 w1
    obtain ⟨a2, rfl, i2⟩ := D5u (P := Tryz.prog) Tryz.underlying3 (hval 2 _ v2 rfl rfl) h2
    obtain ⟨a3, r3, rfl, i3⟩ := E5c (P := Tryz.prog) (by rfl) (hval 3 _ v3 rfl rfl) h3 w3
    obtain ⟨a4, rfl, i4⟩ := E9h (P := Tryz.prog) (by rfl) (hval 4 _ v4 rfl rfl) h4 w4
    obtain ⟨a5, rfl, i5⟩ := D5u (P := Tryz.prog) Tryz.underlying3 (hval 5 _ v5 rfl rfl) h5
    exact (Z2 a0 a1 r1 a2 a3 r3 a4 a5 i2 i4 i5).calls (fun _ => rfl) (fun F hF => by
      simp only [List.mem_cons, List.not_mem_nil, or_false] at hF
      rcases hF with rfl | rfl | rfl
      · exact hT
      · exact i1
      · exact i3)
end Go.Proofs.YtpfjlbopkhdebaaGreatDoor
