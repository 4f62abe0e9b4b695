/- PathRises: whatever arguments it is given, the law's function returns true, and its arguments read as they did; no condition. -/
import Derived.Test.YtcofpfnnlageaaaRows
import Derived.Test.YtcofpfnnlageaaaP3
import Derived.Test.YtcofpfnnlageaaaP8
namespace Go.Proofs.Ytcofpfnnlageaaa
open Go.ChangeShapes Go.WideShapes Go.ChangeAt Go.RowKit Go.Hy
theorem Try.own : ownKnob Try.prog.godebug = none := by kernel_rfl
theorem Try.laidOut : laidOutB Try.prog = true := by kernel_rfl
set_option maxRecDepth 100000 in
theorem pathRises_lifted (os : Os) (started : os.Started) (H : Type) (enc : TypeId × Value → H) :
    ReturnsInHanded {} Try.checked os 10 .any (Rows.pathRisesSpec.pre6 enc Try.prog Try.f10 Rows.pathRisesRow.domain false) (Rows.pathRisesSpec.post enc Try.prog Try.f10 false true false false) := by
  refine law_lifted (C := Try.checked) (ts := [31]) (tb := 4) Try.own started (by kernel_rfl) Try.func10
    (ChangeSpec.witness6 (enc := enc) (C := Try.checked) false ⟨#[], #[.agg #[.int .i64 0, .int .i64 0, .string ⟨#[]⟩, .slice none 0 0, .slice none 0 0, .slice none 0 0]], []⟩ 8 (by kernel_rfl) (by kernel_rfl) (by kernel_rfl) (by kernel_rfl))
    Try.laidOut (by kernel_rfl) (by kernel_rfl) (by kernel_rfl) Try.underlying4 rfl ?_ ?_
  · intro ds h
    match ds, h with
    | [_], _ => rfl
  · intro W base args ds p hval hA hw
    obtain ⟨v0, l0, d0, e0, p0, q0, s0, g0, h0, k0⟩ := trods_cons hA
    have hn := trods_nil k0
    subst hn
    subst g0
    have ha : args = #[v0] := by cases args; simp_all
    subst ha
    obtain ⟨w0, u0⟩ := weights_split hw
    obtain ⟨a0, r0, t0, y0, rfl, i0⟩ := arg_T (P := Try.prog) (by rfl) (hval 0 _ v0 rfl rfl) h0 w0
    exact (pathRises_spec a0 r0 t0 y0).calls (fun _ => rfl) (fun F hF => by
      simp only [List.mem_cons, List.not_mem_nil, or_false] at hF
      subst hF; exact i0)
theorem pathRises_holds : Rows.PathRisesSaid :=
  OpenClaim.holds_of_wide 10 Try.f10 rfl rfl rfl rfl rfl rfl rfl ⟨rfl, rfl, rfl, rfl, rfl⟩ rfl rfl rfl rfl rfl (by kernel_rfl) Try.func10 (by kernel_rfl)
    (of_decide_eq_true (by kernel_rfl)) (by unfold Func.isWrapper; first | (rw [if_pos (by decide +kernel)]; kernel_rfl) | (rw [if_neg (by decide +kernel)]; exact ⟨rfl, rfl⟩))
    (fun os started H enc _ => pathRises_lifted os started H enc)
#print axioms pathRises_holds
end Go.Proofs.Ytcofpfnnlageaaa
