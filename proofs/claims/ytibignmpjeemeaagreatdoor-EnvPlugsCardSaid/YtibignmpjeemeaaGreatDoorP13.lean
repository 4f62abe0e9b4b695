/- Contracts of this program's functions and the laws that they need. -/
import Derived.Test.YtibignmpjeemeaaGreatDoorRows
import Derived.Test.YtibignmpjeemeaaGreatDoorP12
set_option linter.unusedVariables false
set_option linter.unusedSimpArgs false
set_option linter.unusedSectionVars false
/- EnvPlugs: whatever arguments it is given, the law's function returns true, and its arguments read as they did; no condition. -/
namespace Go.Proofs.YtibignmpjeemeaaGreatDoor
open Go.ChangeShapes Go.WideShapes Go.ChangeAt Go.RowKit Go.Hy
theorem Tryz.gTab : Tryz.prog.globalNamed "math/bits.deBruijn32tab" = some 0 := by kernel_rfl
theorem Tryz.tTab : (Tryz.prog.globals[0]?).map (·.type) = some 228 := by kernel_rfl
abbrev Tryz.laidL : List (String × DataW Unit) := [("math/bits.deBruijn32tab", Rows.laid_math_bits_deBruijn32tab)]
theorem Tryz.door_met (os : Os) (args : Array Value) : laidMetH Tryz.prog Tryz.laidL ((World.doorLaid Tryz.prog 400 os).forCall (fun _ _ => 0) ⟨#[], args, []⟩).memory :=
  laidMetH_of_parts3 (fuel := 8) (laidMet_of_run' 8 (by kernel_rfl) (by kernel_rfl)) (by kernel_rfl) (by kernel_rfl)
theorem Tryz.own : ownKnob Tryz.prog.godebug = none := by kernel_rfl
theorem Tryz.laidOut : laidOutB Tryz.prog = true := by kernel_rfl
set_option maxRecDepth 100000 in
theorem envPlugs_lifted (os : Os) (started : os.Started) (H : Type) (enc : TypeId × Value → H) :
    ReturnsInHanded {} Tryz.checked os 13 .any (fun w args => (Rows.envPlugsSpec.pre enc Tryz.prog Tryz.f13 [] false w args ∧ laidMetH Tryz.prog Tryz.laidL w) ∧ sizedMet enc Tryz.prog Tryz.f13 (OpenSpec.ofChange Rows.envPlugsSpec) false w args) (Rows.envPlugsSpec.post enc Tryz.prog Tryz.f13 false true false false) := by
  refine Zy (C := Tryz.checked) (L := Tryz.laidL) (ts := [26, 26, 22, 3, 3]) (tb := 4) Tryz.own started (by kernel_rfl) Tryz.func13
    (ChangeSpec.witness_shaped (enc := enc) (C := Tryz.checked) (os := os) (X := fun w _ => laidMetH Tryz.prog Tryz.laidL w) false (World.doorLaid Tryz.prog 400 os) #[.agg #[.int .i64 0, .int .i64 0, .string ⟨#[]⟩, .slice none 0 0, .slice none 0 0, .slice none 0 0], .agg #[.int .i64 0, .int .i64 0, .string ⟨#[]⟩, .slice none 0 0, .slice none 0 0, .slice none 0 0], .slice none 0 0, .int .i64 0, .int .i64 0] 8 rfl (World.shaped_of_RefB (by kernel_rfl) (by kernel_rfl)) (by kernel_rfl) (by kernel_rfl) (by kernel_rfl) (Tryz.door_met os _))
    Tryz.laidOut (by kernel_rfl) (by kernel_rfl) (by kernel_rfl) Tryz.underlying4 rfl ?_ ?_
  · intro ds h
    match ds, h with
    | [_, _, _, _, _], _ => rfl
  · intro W base args ds p hval hA hw hL
    have hT := C9d (C9c (tab := Lib.deBruijn32tab) Tryz.gTab Tryz.tTab Tryz.underlying228 Tryz.underlying5 (by kernel_rfl) (by kernel_rfl) (by decide) (by rfl) hL)
    obtain ⟨v0, l0, d0, e0, p0, q0, s0, g0, h0, k0⟩ := Nj hA
    obtain ⟨v1, l1, d1, e1, p1, q1, s1, g1, h1, k1⟩ := Nj k0
    obtain ⟨v2, l2, d2, e2, p2, q2, s2, g2, h2, k2⟩ := Nj k1
    obtain ⟨v3, l3, d3, e3, p3, q3, s3, g3, h3, k3⟩ := Nj k2
    obtain ⟨v4, l4, d4, e4, p4, q4, s4, g4, h4, k4⟩ := Nj k3
    have hn := C4p k4
    subst hn
    subst s4
    subst g4
    subst s3
    subst g3
    subst s2
    subst g2
    subst s1
    subst g1
    subst g0
    have ha : args = #[v0, v1, v2, v3, v4] := by cases args; simp_all
    subst ha
    obtain ⟨w0, u0⟩ := J6 hw
    obtain ⟨w1, u1⟩ := J6 u0
    obtain ⟨w2, u2⟩ := J6 u1
    obtain ⟨w3, u3⟩ := J6 u2
    obtain ⟨w4, u4⟩ := J6 u3
    obtain ⟨a0, r0, t0, y0, rfl, i0⟩ := D9o (P := Tryz.prog) (by rfl) (hval 0 _ v0 rfl rfl) h0 w0
    obtain ⟨a1, r1, t1, y1, rfl, i1⟩ := D9o (P := Tryz.prog) (by rfl) (hval 1 _ v1 rfl rfl) h1 w1
    obtain ⟨a2, r2, rfl, i2⟩ := E5a (P := Tryz.prog) (by rfl) (hval 2 _ v2 rfl rfl) h2 w2
    obtain ⟨a3, rfl, i3⟩ := D9p (P := Tryz.prog) Tryz.underlying3 (hval 3 _ v3 rfl rfl) h3
    obtain ⟨a4, rfl, i4⟩ := D9p (P := Tryz.prog) Tryz.underlying3 (hval 4 _ v4 rfl rfl) h4
    exact (B6s a0 r0 t0 y0 a1 r1 t1 y1 a2 r2 a3 a4).calls (fun _ => rfl) (fun F hF => by
      simp only [List.mem_cons, List.not_mem_nil, or_false] at hF
      rcases hF with rfl | rfl | rfl | rfl
      · exact hT
      · exact i0
      · exact i1
      · exact i2)
end Go.Proofs.YtibignmpjeemeaaGreatDoor
