/- CtxPushes: whatever arguments it is given, the law's function returns true, and its arguments read as they did; no condition. -/
import Derived.Test.YtceegbilhbhibaaGreatRows
import Derived.Test.YtceegbilhbhibaaGreatP3
import Derived.Test.YtceegbilhbhibaaGreatP11
namespace Go.Proofs.YtceegbilhbhibaaGreat
open Go.ChangeShapes Go.WideShapes Go.ChangeAt Go.RowKit Go.Hy
theorem Tryz.own : ownKnob Tryz.prog.godebug = none := by kernel_rfl
theorem Tryz.laidOut : laidOutB Tryz.prog = true := by kernel_rfl
set_option maxRecDepth 100000 in
theorem ctxPushes_lifted (os : Os) (started : os.Started) (H : Type) (enc : TypeId × Value → H) :
    ReturnsInHanded {} Tryz.checked os 4 .any (Rows.ctxPushesSpec.pre6 enc Tryz.prog Tryz.f4 Rows.ctxPushesRow.domain false) (Rows.ctxPushesSpec.post enc Tryz.prog Tryz.f4 false true false false) := by
  refine law_lifted (C := Tryz.checked) (ts := [39, 26]) (tb := 4) Tryz.own started (by kernel_rfl) Tryz.func4
    (ChangeSpec.witness6 (enc := enc) (C := Tryz.checked) false ⟨#[], #[.agg #[.slice none 0 0, .int .i64 0], .agg #[.int .i64 0, .int .i64 0, .string ⟨#[]⟩, .slice none 0 0, .slice none 0 0, .slice none 0 0]], []⟩ 8 (by kernel_rfl) (by kernel_rfl) (by kernel_rfl) (by kernel_rfl))
    Tryz.laidOut (by kernel_rfl) (by kernel_rfl) (by kernel_rfl) Tryz.underlying4 rfl ?_ ?_
  · intro ds h
    match ds, h with
    | [_, _], _ => rfl
  · intro W base args ds p hval hA hw
    obtain ⟨v0, l0, d0, e0, p0, q0, s0, g0, h0, k0⟩ := trods_cons hA
    obtain ⟨v1, l1, d1, e1, p1, q1, s1, g1, h1, k1⟩ := trods_cons k0
    have hn := trods_nil k1
    subst hn
    subst s1
    subst g1
    subst g0
    have ha : args = #[v0, v1] := by cases args; simp_all
    subst ha
    obtain ⟨w0, u0⟩ := weights_split hw
    obtain ⟨w1, u1⟩ := weights_split u0
    obtain ⟨a0, r0, n0, rfl, i0, j0⟩ := arg_X (P := Tryz.prog) Tryz.underlying39 (by rfl) (by rfl) (hval 0 _ v0 rfl rfl) h0 w0
    obtain ⟨a1, r1, t1, y1, rfl, i1⟩ := arg_T (P := Tryz.prog) (by rfl) (hval 1 _ v1 rfl rfl) h1 w1
    exact (ctxPushes_spec a0 r0 n0 a1 r1 t1 y1 j0).calls (fun _ => rfl) (fun F hF => by
      simp only [List.mem_cons, List.not_mem_nil, or_false] at hF
      rcases hF with rfl | rfl
      · exact i0
      · exact i1)
theorem ctxPushes_holds : Rows.CtxPushesSaid :=
  OpenClaim.holds_of_wide 4 Tryz.f4 rfl rfl rfl rfl rfl rfl rfl ⟨rfl, rfl, rfl, rfl, rfl⟩ rfl rfl rfl rfl rfl (by kernel_rfl) Tryz.func4 (by kernel_rfl)
    (of_decide_eq_true (by kernel_rfl)) (by unfold Func.isWrapper; first | (rw [if_pos (by decide +kernel)]; kernel_rfl) | (rw [if_neg (by decide +kernel)]; exact ⟨rfl, rfl⟩))
    (fun os started H enc _ => ctxPushes_lifted os started H enc)
#print axioms ctxPushes_holds
end Go.Proofs.YtceegbilhbhibaaGreat
