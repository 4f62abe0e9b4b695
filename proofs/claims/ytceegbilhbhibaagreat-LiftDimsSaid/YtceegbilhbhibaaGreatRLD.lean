/- LiftDims: whatever arguments it is given, the law's function returns true, and its arguments read as they did; no condition. -/
import Derived.Test.YtceegbilhbhibaaGreatRows
import Derived.Test.YtceegbilhbhibaaGreatP3
import Derived.Test.YtceegbilhbhibaaGreatP11
namespace Go.Proofs.YtceegbilhbhibaaGreat
open Go.ChangeShapes Go.WideShapes Go.ChangeAt Go.RowKit Go.Hy
theorem Tryz.own : ownKnob Tryz.prog.godebug = none := by kernel_rfl
theorem Tryz.laidOut : laidOutB Tryz.prog = true := by kernel_rfl
set_option maxRecDepth 100000 in
theorem liftDims_lifted (os : Os) (started : os.Started) (H : Type) (enc : TypeId × Value → H) :
    ReturnsInHanded {} Tryz.checked os 3 .any (Rows.liftDimsSpec.pre6 enc Tryz.prog Tryz.f3 Rows.liftDimsRow.domain false) (Rows.liftDimsSpec.post enc Tryz.prog Tryz.f3 false true false false) := by
  refine law_lifted (C := Tryz.checked) (ts := [26, 3, 3, 3]) (tb := 4) Tryz.own started (by kernel_rfl) Tryz.func3
    (ChangeSpec.witness6 (enc := enc) (C := Tryz.checked) false ⟨#[], #[.agg #[.int .i64 0, .int .i64 0, .string ⟨#[]⟩, .slice none 0 0, .slice none 0 0, .slice none 0 0], .int .i64 0, .int .i64 0, .int .i64 0], []⟩ 8 (by kernel_rfl) (by kernel_rfl) (by kernel_rfl) (by kernel_rfl))
    Tryz.laidOut (by kernel_rfl) (by kernel_rfl) (by kernel_rfl) Tryz.underlying4 rfl ?_ ?_
  · intro ds h
    match ds, h with
    | [_, _, _, _], _ => rfl
  · intro W base args ds p hval hA hw
    obtain ⟨v0, l0, d0, e0, p0, q0, s0, g0, h0, k0⟩ := trods_cons hA
    obtain ⟨v1, l1, d1, e1, p1, q1, s1, g1, h1, k1⟩ := trods_cons k0
    obtain ⟨v2, l2, d2, e2, p2, q2, s2, g2, h2, k2⟩ := trods_cons k1
    obtain ⟨v3, l3, d3, e3, p3, q3, s3, g3, h3, k3⟩ := trods_cons k2
    have hn := trods_nil k3
    subst hn
    subst s3
    subst g3
    subst s2
    subst g2
    subst s1
    subst g1
    subst g0
    have ha : args = #[v0, v1, v2, v3] := by cases args; simp_all
    subst ha
    obtain ⟨w0, u0⟩ := weights_split hw
    obtain ⟨w1, u1⟩ := weights_split u0
    obtain ⟨w2, u2⟩ := weights_split u1
    obtain ⟨w3, u3⟩ := weights_split u2
    obtain ⟨a0, r0, t0, y0, rfl, i0⟩ := arg_T (P := Tryz.prog) (by rfl) (hval 0 _ v0 rfl rfl) h0 w0
    obtain ⟨a1, rfl, i1⟩ := arg_I (P := Tryz.prog) Tryz.underlying3 (hval 1 _ v1 rfl rfl) h1
    obtain ⟨a2, rfl, i2⟩ := arg_I (P := Tryz.prog) Tryz.underlying3 (hval 2 _ v2 rfl rfl) h2
    obtain ⟨a3, rfl, i3⟩ := arg_I (P := Tryz.prog) Tryz.underlying3 (hval 3 _ v3 rfl rfl) h3
    exact (liftDims_spec a0 r0 t0 y0 a1 a2 a3 i1 i2 i3).calls (fun _ => rfl) (fun F hF => by
      simp only [List.mem_cons, List.not_mem_nil, or_false] at hF
      subst hF; exact i0)
theorem liftDims_holds : Rows.LiftDimsSaid :=
  OpenClaim.holds_of_wide 3 Tryz.f3 rfl rfl rfl rfl rfl rfl rfl ⟨rfl, rfl, rfl, rfl, rfl⟩ rfl rfl rfl rfl rfl (by kernel_rfl) Tryz.func3 (by kernel_rfl)
    (of_decide_eq_true (by kernel_rfl)) (by unfold Func.isWrapper; first | (rw [if_pos (by decide +kernel)]; kernel_rfl) | (rw [if_neg (by decide +kernel)]; exact ⟨rfl, rfl⟩))
    (fun os started H enc _ => liftDims_lifted os started H enc)
#print axioms liftDims_holds
end Go.Proofs.YtceegbilhbhibaaGreat
