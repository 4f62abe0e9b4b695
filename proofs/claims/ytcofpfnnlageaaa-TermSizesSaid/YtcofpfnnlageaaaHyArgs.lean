/- Contracts of functions of this program, one theorem each (printed by a program of this repository). -/
import Derived.Test.YtcofpfnnlageaaaHyRow
import Derived.Test.YtcofpfnnlageaaaHyInt
import Derived.WideShapes
namespace Go.Hy
set_option linter.unusedVariables false
set_option linter.unusedSimpArgs false
set_option linter.unusedSectionVars false
open Go Go.ChangeShapes Go.WideShapes Go.RowKit
set_option linter.unusedVariables false
set_option linter.unusedSectionVars false
/-! ### A law's arguments, one by one -/
variable {P : Program} {H : Type} {enc : TypeId × Value → H} {W : World} {base : Nat} {v : Value} {d : DataW H} {ps : List MemPlace}
theorem weights_split {t : TypeId} {ts : List TypeId} {ds : List (DataW H)} (h : ∀ x, x ∈ DataW.weightsEach P (t :: ts) (d :: ds) → x ≤ reach) : light P t d ∧ ∀ x, x ∈ DataW.weightsEach P ts ds → x ≤ reach :=
  ⟨fun x hx => h x (by simp only [DataW.weightsEach, List.mem_append]; exact .inl hx), fun x hx => h x (by simp only [DataW.weightsEach, List.mem_append]; exact .inr hx)⟩
theorem trods_cons {t : TypeId} {ts : List TypeId} {vs : List Value} {ds : List (DataW H)} (h : DataW.TrodAll enc P W 0 (fun _ => true) true (t :: ts) vs ds ps) :
    ∃ v vs' d ds' p q, vs = v :: vs' ∧ ds = d :: ds' ∧ DataW.Trod enc P W 0 (fun _ => true) true t v d p ∧ DataW.TrodAll enc P W 0 (fun _ => true) true ts vs' ds' q := by
  obtain ⟨v, vs1, d, ds1, a, b, h1, h2, h3, h4, h5⟩ := trodAll_cons h
  exact ⟨v, vs1, d, ds1, a, b, h1, h2, h4, h5⟩
theorem trods_nil {vs : List Value} {ds : List (DataW H)} (h : DataW.TrodAll enc P W 0 (fun _ => true) true [] vs ds ps) : vs = [] := by
  obtain ⟨h1, _, _⟩ := trodAll_nil h
  exact h1
theorem arg_I {t : TypeId} (ht : P.underlying t = some (.int .i64)) (hval : Value.okWide P W .any base t v) (h : DataW.Trod enc P W 0 (fun _ => true) true t v d ps) : ∃ n : Int, v = .int .i64 n ∧ in64 n := by
  obtain ⟨n, rfl, _, _, hw⟩ := open_int ht hval h
  simp only [Lit.wf, Bool.and_eq_true, decide_eq_true_eq] at hw
  exact ⟨n, rfl, hw.1, hw.2⟩
variable [TyF P]
theorem arg_C {t : TypeId} (ht : t = TyF.tC P) (hval : Value.okWide P W .any base t v) (h : DataW.Trod enc P W 0 (fun _ => true) true t v d ps) (hl : light P t d) : ∃ c : Cl, v = .agg (clCells c).toArray ∧ u32 c := by
  subst ht
  obtain ⟨cs, rfl, _⟩ := okWide_struct TyF.uC hval
  obtain ⟨fuel, hf⟩ := h
  obtain ⟨c, h1, h2⟩ := open_cl hf hl
  exact ⟨c, by rw [← h1]; simp [Value.cells], h2⟩
theorem arg_T {t : TypeId} (ht : t = TyF.tT P) (hval : Value.okWide P W .any base t v) (h : DataW.Trod enc P W 0 (fun _ => true) true t v d ps) (hl : light P t d) : ∃ (u : T) (vr vk vs : SH), v = .agg (tc u vr vk vs).toArray ∧ termAt (okw W) u vr vk vs W := by
  subst ht
  obtain ⟨cs, rfl, _⟩ := okWide_struct TyF.uT hval
  obtain ⟨fuel, hf⟩ := h
  obtain ⟨⟨u, vr, vk, vs⟩, h1, h2⟩ := (open_both fuel).1 _ _ _ hf hl
  exact ⟨u, vr, vk, vs, by
    have h3 : (Value.agg cs).cells.toList = tc u vr vk vs := h1
    rw [← h3]; simp [Value.cells], h2⟩
theorem arg_CL {t : TypeId} (ht : t = TyF.lC P) (hval : Value.okWide P W .any base t v) (h : DataW.Trod enc P W 0 (fun _ => true) true t v d ps) (hl : light P t d) : ∃ (l : List Cl) (a : SH), v = sl a l.length ∧ clsAt (okw W) l a W := by
  subst ht
  obtain ⟨x, y, z, rfl⟩ := okWide_slice TyF.ulC hval
  obtain ⟨fuel, hf⟩ := h
  obtain ⟨l, a, h1, h2⟩ := open_lC hf hl
  exact ⟨l, a, by simpa [Value.cells] using h1, h2⟩
theorem arg_TL {t : TypeId} (ht : t = TyF.lT P) (hval : Value.okWide P W .any base t v) (h : DataW.Trod enc P W 0 (fun _ => true) true t v d ps) (hl : light P t d) : ∃ (l : List T) (a : SH), v = sl a l.length ∧ tlAt (okw W) l a W := by
  subst ht
  obtain ⟨x, y, z, rfl⟩ := okWide_slice TyF.ulT hval
  obtain ⟨fuel, hf⟩ := h
  obtain ⟨l, a, h1, h2⟩ := (open_both fuel).2.1 _ _ _ hf hl
  exact ⟨l, a, by simpa [Value.cells] using h1, h2⟩
theorem arg_BL {t : TypeId} (ht : t = TyF.lB P) (hval : Value.okWide P W .any base t v) (h : DataW.Trod enc P W 0 (fun _ => true) true t v d ps) (hl : light P t d) : ∃ (l : List Br) (a : SH), v = sl a l.length ∧ blAt (okw W) l a W := by
  subst ht
  obtain ⟨x, y, z, rfl⟩ := okWide_slice TyF.ulB hval
  obtain ⟨fuel, hf⟩ := h
  obtain ⟨l, a, h1, h2⟩ := (open_both fuel).2.2.2 _ _ _ hf hl
  exact ⟨l, a, by simpa [Value.cells] using h1, h2⟩
theorem arg_IL {t tI : TypeId} (hu : P.underlying t = some (.slice tI)) (hI : P.underlying tI = some (.int .i64)) (hc : P.cellsOf tI = 1) (hb : P.bytesOf tI = 8) (hval : Value.okWide P W .any base t v) (h : DataW.Trod enc P W 0 (fun _ => true) true t v d ps) (hl : light P t d) : ∃ (l : List Int) (a : SH), v = sl a l.length ∧ intsAt (okw W) l a W := by
  obtain ⟨x, y, z, rfl⟩ := okWide_slice hu hval
  obtain ⟨fuel, hf⟩ := h
  cases fuel with
  | zero => cases hf
  | succ fuel =>
    obtain ⟨xs, a, h1, h2, h3⟩ := open_row (sp := fun _ => true) intCells in64 0 intCells_len (by omega) hu hc hb (fun cs d ps h hl => open_intI hI h) hf hl
    exact ⟨xs, a, by simpa [Value.cells] using h1, h2, h3⟩
end Go.Hy
