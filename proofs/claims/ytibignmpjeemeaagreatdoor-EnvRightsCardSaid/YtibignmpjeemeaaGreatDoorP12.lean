/- Contracts of this program's functions and the laws that they need. -/
import Derived.Test.YtibignmpjeemeaaGreatDoorRows
import Derived.Test.YtibignmpjeemeaaGreatDoorP11
set_option linter.unusedVariables false
set_option linter.unusedSimpArgs false
set_option linter.unusedSectionVars false
/- EnvRights: whatever arguments it is given, the law's function returns true, and its arguments read as they did; no condition. -/
namespace Go.Proofs.YtibignmpjeemeaaGreatDoor
open Go.ChangeShapes Go.WideShapes Go.ChangeAt Go.RowKit Go.Hy
theorem Tryz.gTab : Tryz.prog.globalNamed "math/bits.deBruijn32tab" = some 0 := by kernel_rfl
theorem Tryz.tTab : (Tryz.prog.globals[0]?).map (·.type) = some 228 := by kernel_rfl
abbrev Tryz.laidL : List (String × DataW Unit) := [("math/bits.deBruijn32tab", Rows.laid_math_bits_deBruijn32tab)]
theorem Tryz.door_met (os : Os) (args : Array Value) : laidMetH Tryz.prog Tryz.laidL ((World.doorLaid Tryz.prog 400 os).forCall (fun _ _ => 0) ⟨#[], args, []⟩).memory :=
  laidMetH_of_parts3 (fuel := 8) (laidMet_of_run' 8 (by kernel_rfl) (by kernel_rfl)) (by kernel_rfl) (by kernel_rfl)
theorem Tryz.own : ownKnob Tryz.prog.godebug = none := by kernel_rfl
theorem Tryz.laidOut : laidOutB Tryz.prog = true := by kernel_rfl
set_option maxRecDepth 100000 in
theorem envRights_lifted (os : Os) (started : os.Started) (H : Type) (enc : TypeId × Value → H) :
    ReturnsInHanded {} Tryz.checked os 8 .any (fun w args => (Rows.envRightsSpec.pre enc Tryz.prog Tryz.f8 [] false w args ∧ laidMetH Tryz.prog Tryz.laidL w) ∧ sizedMet enc Tryz.prog Tryz.f8 (OpenSpec.ofChange Rows.envRightsSpec) false w args) (Rows.envRightsSpec.post enc Tryz.prog Tryz.f8 false true false false) := by
  refine Tz (C := Tryz.checked) (L := Tryz.laidL) (ts := [29, 3, 3]) (tb := 4) Tryz.own started (by kernel_rfl) Tryz.func8
    (ChangeSpec.witness_shaped (enc := enc) (C := Tryz.checked) (os := os) (X := fun w _ => laidMetH Tryz.prog Tryz.laidL w) false (World.doorLaid Tryz.prog 400 os) #[.agg #[.slice none 0 0, .slice none 0 0], .int .i64 0, .int .i64 0] 8 rfl (World.shaped_of_RefB (by kernel_rfl) (by kernel_rfl)) (by kernel_rfl) (by kernel_rfl) (by kernel_rfl) (Tryz.door_met os _))
    Tryz.laidOut (by kernel_rfl) (by kernel_rfl) (by kernel_rfl) Tryz.underlying4 rfl ?_ ?_
  · intro ds h
    match ds, h with
    | [_, _, _], _ => rfl
  · intro W base args ds p hval hA hw hL
    have hT := B7j (B7i (tab := Lib.deBruijn32tab) Tryz.gTab Tryz.tTab Tryz.underlying228 Tryz.underlying5 (by kernel_rfl) (by kernel_rfl) (by decide) (by rfl) hL)
    obtain ⟨v0, l0, d0, e0, p0, q0, s0, g0, h0, k0⟩ := Pl hA
    obtain ⟨v1, l1, d1, e1, p1, q1, s1, g1, h1, k1⟩ := Pl k0
    obtain ⟨v2, l2, d2, e2, p2, q2, s2, g2, h2, k2⟩ := Pl k1
    have hn := B3g k2
    subst hn
    subst s2
    subst g2
    subst s1
    subst g1
    subst g0
    have ha : args = #[v0, v1, v2] := by cases args; simp_all
    subst ha
    obtain ⟨w0, u0⟩ := Kv hw
    obtain ⟨w1, u1⟩ := Kv u0
    obtain ⟨w2, u2⟩ := Kv u1
    obtain ⟨a0, r0, m0, z0, rfl, i0, j0⟩ := D1z (P := Tryz.prog) Tryz.underlying29 (by rfl) (by rfl) Tryz.underlying27 (by rfl) (by rfl) (hval 0 _ v0 rfl rfl) h0 w0
    obtain ⟨a1, rfl, i1⟩ := C6y (P := Tryz.prog) Tryz.underlying3 (hval 1 _ v1 rfl rfl) h1
    obtain ⟨a2, rfl, i2⟩ := C6y (P := Tryz.prog) Tryz.underlying3 (hval 2 _ v2 rfl rfl) h2
    exact (A1u a0 r0 m0 z0 a1 a2 i1 i2).calls (fun _ => rfl) (fun F hF => by
      simp only [List.mem_cons, List.not_mem_nil, or_false] at hF
      rcases hF with rfl | rfl | rfl
      · exact hT
      · exact i0
      · exact j0)
end Go.Proofs.YtibignmpjeemeaaGreatDoor
