/- PathPuts: whatever arguments it is given, the law's function returns true, and its arguments read as they did; no condition. -/
import Derived.Test.YtcofpfnnlageaaaGreatRows
import Derived.Test.YtcofpfnnlageaaaGreatP3
import Derived.Test.YtcofpfnnlageaaaGreatP10
namespace Go.Proofs.YtcofpfnnlageaaaGreat
open Go.ChangeShapes Go.WideShapes Go.ChangeAt Go.RowKit Go.Hy
theorem Tryz.own : ownKnob Tryz.prog.godebug = none := by kernel_rfl
theorem Tryz.laidOut : laidOutB Tryz.prog = true := by kernel_rfl
set_option maxRecDepth 100000 in
theorem pathPuts_lifted (os : Os) (started : os.Started) (H : Type) (enc : TypeId × Value → H) :
    ReturnsInHanded {} Tryz.checked os 4 .any (Rows.pathPutsSpec.pre6 enc Tryz.prog Tryz.f4 Rows.pathPutsRow.domain false) (Rows.pathPutsSpec.post enc Tryz.prog Tryz.f4 false true false false) := by
  refine law_lifted (C := Tryz.checked) (ts := [26, 33, 26]) (tb := 4) Tryz.own started (by kernel_rfl) Tryz.func4
    (ChangeSpec.witness6 (enc := enc) (C := Tryz.checked) false ⟨#[], #[.agg #[.int .i64 0, .int .i64 0, .string ⟨#[]⟩, .slice none 0 0, .slice none 0 0, .slice none 0 0], .slice none 0 0, .agg #[.int .i64 0, .int .i64 0, .string ⟨#[]⟩, .slice none 0 0, .slice none 0 0, .slice none 0 0]], []⟩ 8 (by kernel_rfl) (by kernel_rfl) (by kernel_rfl) (by kernel_rfl))
    Tryz.laidOut (by kernel_rfl) (by kernel_rfl) (by kernel_rfl) Tryz.underlying4 rfl ?_ ?_
  · intro ds h
    match ds, h with
    | [_, _, _], _ => rfl
  · intro W base args ds p hval hA hw
    obtain ⟨v0, l0, d0, e0, p0, q0, s0, g0, h0, k0⟩ := trods_cons hA
    obtain ⟨v1, l1, d1, e1, p1, q1, s1, g1, h1, k1⟩ := trods_cons k0
    obtain ⟨v2, l2, d2, e2, p2, q2, s2, g2, h2, k2⟩ := trods_cons k1
    have hn := trods_nil k2
    subst hn
    subst s2
    subst g2
    subst s1
    subst g1
    subst g0
    have ha : args = #[v0, v1, v2] := by cases args; simp_all
    subst ha
    obtain ⟨w0, u0⟩ := weights_split hw
    obtain ⟨w1, u1⟩ := weights_split u0
    obtain ⟨w2, u2⟩ := weights_split u1
    obtain ⟨a0, r0, t0, y0, rfl, i0⟩ := arg_T (P := Tryz.prog) (by rfl) (hval 0 _ v0 rfl rfl) h0 w0
    obtain ⟨a1, r1, rfl, i1⟩ := arg_IL (P := Tryz.prog) (tI := 3) Tryz.underlying33 Tryz.underlying3 (by rfl) (by rfl) (hval 1 _ v1 rfl rfl) h1 w1
    obtain ⟨a2, r2, t2, y2, rfl, i2⟩ := arg_T (P := Tryz.prog) (by rfl) (hval 2 _ v2 rfl rfl) h2 w2
    exact (pathPuts_spec a0 r0 t0 y0 a1 r1 a2 r2 t2 y2).calls (fun _ => rfl) (fun F hF => by
      simp only [List.mem_cons, List.not_mem_nil, or_false] at hF
      rcases hF with rfl | rfl | rfl
      · exact i0
      · exact i1
      · exact i2)
theorem pathPuts_holds : Rows.PathPutsSaid :=
  OpenClaim.holds_of_wide 4 Tryz.f4 rfl rfl rfl rfl rfl rfl rfl ⟨rfl, rfl, rfl, rfl, rfl⟩ rfl rfl rfl rfl rfl (by kernel_rfl) Tryz.func4 (by kernel_rfl)
    (of_decide_eq_true (by kernel_rfl)) (by unfold Func.isWrapper; first | (rw [if_pos (by decide +kernel)]; kernel_rfl) | (rw [if_neg (by decide +kernel)]; exact ⟨rfl, rfl⟩))
    (fun os started H enc _ => pathPuts_lifted os started H enc)
#print axioms pathPuts_holds
end Go.Proofs.YtcofpfnnlageaaaGreat
