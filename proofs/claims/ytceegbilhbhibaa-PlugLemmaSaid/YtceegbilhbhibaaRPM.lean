/- PlugLemma: whatever arguments it is given, the law's function returns true, and its arguments read as they did; no condition. -/
import Derived.Test.YtceegbilhbhibaaRows
import Derived.Test.YtceegbilhbhibaaP3
import Derived.Test.YtceegbilhbhibaaP9
namespace Go.Proofs.Ytceegbilhbhibaa
open Go.ChangeShapes Go.WideShapes Go.ChangeAt Go.RowKit Go.Hy
theorem Try.own : ownKnob Try.prog.godebug = none := by kernel_rfl
theorem Try.laidOut : laidOutB Try.prog = true := by kernel_rfl
set_option maxRecDepth 100000 in
theorem plugLemma_lifted (os : Os) (started : os.Started) (H : Type) (enc : TypeId × Value → H) :
    ReturnsInHanded {} Try.checked os 7 .any (Rows.plugLemmaSpec.pre6 enc Try.prog Try.f7 Rows.plugLemmaRow.domain false) (Rows.plugLemmaSpec.post enc Try.prog Try.f7 false true false false) := by
  refine law_lifted (C := Try.checked) (ts := [26, 26, 26, 3]) (tb := 4) Try.own started (by kernel_rfl) Try.func7
    (ChangeSpec.witness6 (enc := enc) (C := Try.checked) false ⟨#[], #[.agg #[.int .i64 0, .int .i64 0, .string ⟨#[]⟩, .slice none 0 0, .slice none 0 0, .slice none 0 0], .agg #[.int .i64 0, .int .i64 0, .string ⟨#[]⟩, .slice none 0 0, .slice none 0 0, .slice none 0 0], .agg #[.int .i64 0, .int .i64 0, .string ⟨#[]⟩, .slice none 0 0, .slice none 0 0, .slice none 0 0], .int .i64 0], []⟩ 8 (by kernel_rfl) (by kernel_rfl) (by kernel_rfl) (by kernel_rfl))
    Try.laidOut (by kernel_rfl) (by kernel_rfl) (by kernel_rfl) Try.underlying4 rfl ?_ ?_
  · intro ds h
    match ds, h with
    | [_, _, _, _], _ => rfl
  · intro W base args ds p hval hA hw
    obtain ⟨v0, l0, d0, e0, p0, q0, s0, g0, h0, k0⟩ := trods_cons hA
    obtain ⟨v1, l1, d1, e1, p1, q1, s1, g1, h1, k1⟩ := trods_cons k0
    obtain ⟨v2, l2, d2, e2, p2, q2, s2, g2, h2, k2⟩ := trods_cons k1
    obtain ⟨v3, l3, d3, e3, p3, q3, s3, g3, h3, k3⟩ := trods_cons k2
    have hn := trods_nil k3
    subst hn
    subst s3
    subst g3
    subst s2
    subst g2
    subst s1
    subst g1
    subst g0
    have ha : args = #[v0, v1, v2, v3] := by cases args; simp_all
    subst ha
    obtain ⟨w0, u0⟩ := weights_split hw
    obtain ⟨w1, u1⟩ := weights_split u0
    obtain ⟨w2, u2⟩ := weights_split u1
    obtain ⟨w3, u3⟩ := weights_split u2
    obtain ⟨a0, r0, t0, y0, rfl, i0⟩ := arg_T (P := Try.prog) (by rfl) (hval 0 _ v0 rfl rfl) h0 w0
    obtain ⟨a1, r1, t1, y1, rfl, i1⟩ := arg_T (P := Try.prog) (by rfl) (hval 1 _ v1 rfl rfl) h1 w1
    obtain ⟨a2, r2, t2, y2, rfl, i2⟩ := arg_T (P := Try.prog) (by rfl) (hval 2 _ v2 rfl rfl) h2 w2
    obtain ⟨a3, rfl, i3⟩ := arg_I (P := Try.prog) Try.underlying3 (hval 3 _ v3 rfl rfl) h3
    exact (plugLemma_spec a0 r0 t0 y0 a1 r1 t1 y1 a2 r2 t2 y2 a3 i3).calls (fun _ => rfl) (fun F hF => by
      simp only [List.mem_cons, List.not_mem_nil, or_false] at hF
      rcases hF with rfl | rfl | rfl
      · exact i0
      · exact i1
      · exact i2)
theorem plugLemma_holds : Rows.PlugLemmaSaid :=
  OpenClaim.holds_of_wide 7 Try.f7 rfl rfl rfl rfl rfl rfl rfl ⟨rfl, rfl, rfl, rfl, rfl⟩ rfl rfl rfl rfl rfl (by kernel_rfl) Try.func7 (by kernel_rfl)
    (of_decide_eq_true (by kernel_rfl)) (by unfold Func.isWrapper; first | (rw [if_pos (by decide +kernel)]; kernel_rfl) | (rw [if_neg (by decide +kernel)]; exact ⟨rfl, rfl⟩))
    (fun os started H enc _ => plugLemma_lifted os started H enc)
#print axioms plugLemma_holds
end Go.Proofs.Ytceegbilhbhibaa
