/- Contracts of this program's functions and the laws that they need: a separation logic over the machine's rules, one theorem each (partly printed by a program of this repository). -/
import Derived.Test.YtpfjlbopkhdebaaGreatDoorRows
import Derived.Test.YtpfjlbopkhdebaaGreatDoorP6
import Derived.Test.YtpfjlbopkhdebaaGreatDoorP11
set_option linter.unusedVariables false
set_option linter.unusedSimpArgs false
set_option linter.unusedSectionVars false
/- CtxMay: whatever arguments it is given, the law's function returns true, and its arguments read as they did; no condition. -/
namespace Go.Proofs.YtpfjlbopkhdebaaGreatDoor
open Go.ChangeShapes Go.WideShapes Go.ChangeAt Go.RowKit Go.Hy
theorem Tryz.gTab : Tryz.prog.globalNamed "math/bits.deBruijn32tab" = some 0 := by kernel_rfl
theorem Tryz.tTab : (Tryz.prog.globals[0]?).map (·.type) = some 202 := by kernel_rfl
abbrev Tryz.laidL : List (String × DataW Unit) := [("math/bits.deBruijn32tab", Rows.laid_math_bits_deBruijn32tab)]
theorem Tryz.door_met (os : Os) (args : Array Value) : laidMetH Tryz.prog Tryz.laidL ((World.doorLaid Tryz.prog 400 os).forCall (fun _ _ => 0) ⟨#[], args, []⟩).memory :=
  laidMetH_of_parts3 (fuel := 8) (laidMet_of_run' 8 (by kernel_rfl) (by kernel_rfl)) (by kernel_rfl) (by kernel_rfl)
theorem Tryz.own : ownKnob Tryz.prog.godebug = none := by kernel_rfl
theorem Tryz.laidOut : laidOutB Tryz.prog = true := by kernel_rfl
set_option maxRecDepth 100000 in
theorem ctxMay_lifted (os : Os) (started : os.Started) (H : Type) (enc : TypeId × Value → H) :
    ReturnsInHanded {} Tryz.checked os 13 .any (fun w args => (Rows.ctxMaySpec.pre enc Tryz.prog Tryz.f13 [] false w args ∧ laidMetH Tryz.prog Tryz.laidL w) ∧ sizedMet enc Tryz.prog Tryz.f13 (OpenSpec.ofChange Rows.ctxMaySpec) false w args) (Rows.ctxMaySpec.post enc Tryz.prog Tryz.f13 false true false false) := by
  refine law_lifted_laid (C := Tryz.checked) (L := Tryz.laidL) (ts := [68, 35, 45]) (tb := 4) Tryz.own started (by kernel_rfl) Tryz.func13
    (ChangeSpec.witness_shaped (enc := enc) (C := Tryz.checked) (os := os) (X := fun w _ => laidMetH Tryz.prog Tryz.laidL w) false (World.doorLaid Tryz.prog 400 os) #[.agg #[.slice none 0 0, .int .i64 0], .agg #[.int .i64 0, .int .i64 0, .string ⟨#[]⟩, .slice none 0 0, .slice none 0 0, .slice none 0 0], .agg #[.int .u32 0, .int .u32 0]] 8 rfl (World.shaped_of_RefB (by kernel_rfl) (by kernel_rfl)) (by kernel_rfl) (by kernel_rfl) (by kernel_rfl) (Tryz.door_met os _))
    Tryz.laidOut (by kernel_rfl) (by kernel_rfl) (by kernel_rfl) Tryz.underlying4 rfl ?_ ?_
  · intro ds h
    match ds, h with
    | [_, _, _], _ => rfl
  · intro W base args ds p hval hA hw hL
    have hT := tab_fact (tab_laid (tab := Lib.deBruijn32tab) Tryz.gTab Tryz.tTab Tryz.underlying202 Tryz.underlying5 (by kernel_rfl) (by kernel_rfl) (by decide) (by rfl) hL)
    obtain ⟨v0, l0, d0, e0, p0, q0, s0, g0, h0, k0⟩ := trods_cons hA
    obtain ⟨v1, l1, d1, e1, p1, q1, s1, g1, h1, k1⟩ := trods_cons k0
    obtain ⟨v2, l2, d2, e2, p2, q2, s2, g2, h2, k2⟩ := trods_cons k1
    have hn := trods_nil k2
    subst hn
    subst s2
    subst g2
    subst s1
    subst g1
    subst g0
    have ha : args = #[v0, v1, v2] := by cases args; simp_all
    subst ha
    obtain ⟨w0, u0⟩ := weights_split hw
    obtain ⟨w1, u1⟩ := weights_split u0
    obtain ⟨w2, u2⟩ := weights_split u1
    obtain ⟨a0, r0, n0, rfl, i0, j0⟩ := arg_X (P := Tryz.prog) Tryz.underlying68 (by rfl) (by rfl) (hval 0 _ v0 rfl rfl) h0 w0
    obtain ⟨a1, r1, t1, y1, rfl, i1⟩ := arg_T (P := Tryz.prog) (by rfl) (hval 1 _ v1 rfl rfl) h1 w1
    obtain ⟨a2, rfl, i2⟩ := arg_C (P := Tryz.prog) (by rfl) (hval 2 _ v2 rfl rfl) h2 w2
    exact (ctxMay_spec a0 r0 n0 a1 r1 t1 y1 a2 j0 i2).calls (fun _ => rfl) (fun F hF => by
      simp only [List.mem_cons, List.not_mem_nil, or_false] at hF
      rcases hF with rfl | rfl | rfl
      · exact hT
      · exact i0
      · exact i1)
end Go.Proofs.YtpfjlbopkhdebaaGreatDoor
