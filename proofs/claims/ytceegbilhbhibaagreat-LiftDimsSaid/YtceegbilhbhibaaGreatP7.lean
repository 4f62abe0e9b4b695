/- Contracts of this program's functions and the laws that they need: a separation logic over the machine's rules, one theorem each (partly printed by a program of this repository). -/
import Derived.Test.YtceegbilhbhibaaGreatP4
import Derived.Test.YtceegbilhbhibaaGreatP5
import Derived.Test.YtceegbilhbhibaaGreatP6
namespace Go.Hy
set_option linter.unusedVariables false
set_option linter.unusedSimpArgs false
set_option linter.unusedSectionVars false
set_option linter.unusedVariables false
set_option linter.unusedSimpArgs false
/-! ### Masks, bit by bit -/
theorem maskLift_bit {s : Nat} {f b : Int} (h : (maskLift s f b).1 = 0) (i : Nat) : 0 ≤ f ∧ 0 ≤ b ∧ (maskLift s f b).2.testBit i = ((decide (i < min f.toNat 24) && (s &&& 16777215).testBit i) || (decide (min f.toNat 24 + b.toNat ≤ i) && (s &&& 16777215).testBit (i - b.toNat))) := by
  by_cases h0 : f < 0 ∨ b < 0
  · rw [maskLift, if_pos h0] at h; cases h
  · have hq : ∀ j, (s &&& 16777215).testBit j = true → j < 24 := fun j hj => by rw [and24_bit, Bool.and_eq_true, decide_eq_true_eq] at hj; exact hj.1
    refine ⟨by omega, by omega, ?_⟩
    generalize hF : min f.toNat 24 = F at *
    by_cases h1 : andNot32 (s &&& 16777215) (2 ^ (min f.toNat 24) - 1) = 0
    · rw [maskLift, if_neg h0, if_pos h1]
      show ((s &&& 16777215) &&& (2 ^ (min f.toNat 24) - 1)).testBit i = _
      rw [hF] at h1 ⊢
      rw [Nat.testBit_and, mask_bit]
      have h2 : (decide (F + b.toNat ≤ i) && (s &&& 16777215).testBit (i - b.toNat)) = false := by
        cases h3 : (s &&& 16777215).testBit (i - b.toNat) with
        | false => rw [Bool.and_false]
        | true =>
          rw [Bool.and_true]
          refine decide_eq_false (fun h4 => ?_)
          have h5 : (andNot32 (s &&& 16777215) (2 ^ F - 1)).testBit (i - b.toNat) = true := by
            rw [andNot32_bit, mask_bit, h3, decide_eq_true (by have := hq _ h3; omega), decide_eq_false (by omega)]; rfl
          rw [h1, Nat.zero_testBit] at h5
          cases h5
      rw [h2, Bool.or_false, Bool.and_comm]
    · by_cases h2 : 24 ≤ b ∨ 16777215 < andNot32 (s &&& 16777215) (2 ^ (min f.toNat 24) - 1) * 2 ^ b.toNat
      · rw [maskLift, if_neg h0, if_neg h1, if_pos h2] at h; cases h
      · rw [maskLift, if_neg h0, if_neg h1, if_neg h2]
        show (((s &&& 16777215) &&& (2 ^ (min f.toNat 24) - 1)) ||| (andNot32 (s &&& 16777215) (2 ^ (min f.toNat 24) - 1) * 2 ^ b.toNat)).testBit i = _
        rw [hF, Nat.testBit_or, Nat.testBit_and, mask_bit, Nat.testBit_mul_two_pow, andNot32_bit, mask_bit]
        cases h3 : (s &&& 16777215).testBit (i - b.toNat) with
        | false => simp [Bool.and_comm]
        | true =>
          have h4 := hq _ h3
          rw [decide_eq_true (show i - b.toNat < 32 by omega)]
          simp only [Bool.and_true, Bool.true_and]
          rw [Bool.and_comm]
          congr 1
          by_cases h5 : F + b.toNat ≤ i
          · rw [decide_eq_true (show b.toNat ≤ i by omega), decide_eq_false (show ¬ i - b.toNat < F by omega), decide_eq_true h5]; rfl
          · rw [decide_eq_false h5]
            by_cases h6 : b.toNat ≤ i
            · rw [decide_eq_true h6, decide_eq_true (show i - b.toNat < F by omega)]; rfl
            · rw [decide_eq_false h6]; rfl
theorem maskLift_clash {p q : Nat} {f b : Int} (hp : (maskLift p f b).1 = 0) (hq : (maskLift q f b).1 = 0) (h : p &&& q = 0) : (maskLift p f b).2 &&& (maskLift q f b).2 = 0 := by
  refine Nat.eq_of_testBit_eq (fun i => ?_)
  have hb : ∀ j, (p &&& 16777215).testBit j = true → (q &&& 16777215).testBit j = true → False := fun j h1 h2 => by
    rw [and24_bit, Bool.and_eq_true] at h1 h2
    have : (p &&& q).testBit j = true := by rw [Nat.testBit_and, h1.2, h2.2]; rfl
    rw [h, Nat.zero_testBit] at this
    cases this
  rw [Nat.testBit_and, (maskLift_bit hp i).2.2, (maskLift_bit hq i).2.2, Nat.zero_testBit]
  cases h1 : (p &&& 16777215).testBit i <;> cases h2 : (q &&& 16777215).testBit i <;> cases h3 : (p &&& 16777215).testBit (i - b.toNat) <;> cases h4 : (q &&& 16777215).testBit (i - b.toNat) <;> first
    | exact (hb _ h1 h2).elim
    | exact (hb _ h3 h4).elim
    | (simp only [Bool.and_true, Bool.and_false, Bool.or_false, Bool.false_or, Bool.and_eq_false_iff, decide_eq_false_iff_not]; done)
    | (by_cases h5 : i < min f.toNat 24
       · rw [decide_eq_true h5, decide_eq_false (show ¬ min f.toNat 24 + b.toNat ≤ i by omega)]; simp
       · rw [decide_eq_false h5]; simp)
/-! ### Clauses, formulas -/
theorem clLift_ok {c : Cl} {f b : Int} (h : (clLift c f b).1 = 0) : right24 c = true ∧ (maskLift c.pos f b).1 = 0 ∧ (maskLift c.neg f b).1 = 0 ∧ (clLift c f b).2 = ⟨(maskLift c.pos f b).2, (maskLift c.neg f b).2⟩ := by
  unfold clLift at h ⊢
  split at h
  · cases h
  · rename_i h1
    split at h
    · rename_i h2; exact absurd h h2
    · rename_i h2
      split at h
      · rename_i h3; exact absurd h h3
      · rename_i h3
        rw [if_neg h1, if_neg h2, if_neg h3]
        exact ⟨by simpa using h1, Decidable.not_not.mp h2, Decidable.not_not.mp h3, rfl⟩
theorem clLift_clash {c : Cl} {f b : Int} (h : (clLift c f b).1 = 0) (hc : clash c = false) : clash (clLift c f b).2 = false := by
  obtain ⟨_, h1, h2, h3⟩ := clLift_ok h
  rw [h3]
  unfold clash at hc ⊢
  have h4 : c.pos &&& c.neg = 0 := Decidable.not_not.mp (of_decide_eq_false hc)
  exact decide_eq_false (Decidable.not_not.mpr (maskLift_clash h1 h2 h4))
theorem leastF_cases (l : List Cl) : ((leastF l).1 = 0 ∧ l.all right24 = true ∧ (leastF l).2 = refLeast l ∧ (refLeast l).length ≤ 64) ∨ (leastF l).1 = 2 ∨ (leastF l).1 = 3 := by
  unfold leastF
  split
  · exact .inr (.inl rfl)
  · rename_i h1
    split
    · exact .inr (.inr rfl)
    · rename_i h2
      exact .inl ⟨rfl, by simpa using h1, rfl, by omega⟩
theorem leastF_fR {l : List Cl} (h : (leastF l).1 = 0) : fRight (leastF l).2 = true := by
  rcases leastF_cases l with ⟨_, h1, h2, h3⟩ | h1 | h1
  · rw [h2]
    unfold fRight
    rw [Bool.and_eq_true, Bool.and_eq_true, Bool.and_eq_true]
    refine ⟨⟨⟨List.all_eq_true.mpr fun c hc => List.all_eq_true.mp h1 c (refLeast_mem.mp hc).1, sortedC_iff.mpr (refLeast_sorted l)⟩, apart_iff.mpr fun a ha b hb => needless_iff.mp (refLeast_mem.mp ha).2 b (refLeast_mem.mp hb).1⟩, decide_eq_true h3⟩
  · rw [h1] at h; cases h
  · rw [h1] at h; cases h
theorem leastF_sub {l : List Cl} (h : (leastF l).1 = 0) {c : Cl} (hc : c ∈ (leastF l).2) : c ∈ l := by
  rcases leastF_cases l with ⟨_, h1, h2, h3⟩ | h1 | h1
  · rw [h2] at hc; exact (refLeast_mem.mp hc).1
  · rw [h1] at h; cases h
  · rw [h1] at h; cases h
theorem formLift_cases {l : List Cl} {f b : Int} (h : (formLift l f b).1 = 0) : fRight l = true ∧ (∀ c, c ∈ l → (clLift c f b).1 = 0) ∧ formLift l f b = leastF (l.map fun c => (clLift c f b).2) := by
  unfold formLift at h ⊢
  split at h
  · cases h
  · rename_i h1
    split at h
    · rename_i h2; exact absurd h h2
    · rename_i h2
      have h3 : (foldC (fun c => clLift c f b) l).1 = 0 := Decidable.not_not.mp h2
      rw [if_neg h1, if_neg h2]
      exact ⟨by simpa using h1, foldC_iff.mp h3, by rw [foldC_map h3]⟩
theorem formLift_fR {l : List Cl} {f b : Int} (h : (formLift l f b).1 = 0) : fRight (formLift l f b).2 = true := by
  obtain ⟨_, _, h3⟩ := formLift_cases h
  rw [h3] at h ⊢
  exact leastF_fR h
theorem formLift_face {l : List Cl} {f b : Int} (h : (formLift l f b).1 = 0) (hl : faceRight l = true) : faceRight (formLift l f b).2 = true := by
  obtain ⟨_, h2, h3⟩ := formLift_cases h
  have hf := formLift_fR h
  unfold faceRight at hl ⊢
  rw [Bool.and_eq_true, Bool.not_eq_true'] at hl ⊢
  refine ⟨hf, ?_⟩
  rw [List.any_eq_false]
  intro c hc
  rw [h3] at h hc
  obtain ⟨d, hd, rfl⟩ := List.mem_map.mp (leastF_sub h hc)
  have h4 := List.any_eq_false.mp hl.2 d hd
  rw [Bool.not_eq_true] at h4 ⊢
  exact clLift_clash (h2 d hd) h4
theorem rowLift_fR {l g : List Cl} {f b : Int} (h : rowLift b l f = .ok g) (hl : fRight l = true) : fRight g = true := by
  unfold rowLift at h
  split at h
  · injection h with h; subst h; exact hl
  · split at h
    · rename_i h2; injection h with h; subst h; exact formLift_fR h2
    · cases h
theorem rowLift_face {l g : List Cl} {f b : Int} (h : rowLift b l f = .ok g) (hl : faceRight l = true) : faceRight g = true := by
  unfold rowLift at h
  split at h
  · injection h with h; subst h; exact hl
  · split at h
    · rename_i h2; injection h with h; subst h; exact formLift_face h2 hl
    · cases h
theorem fRight_nil : fRight [] = true := by decide
theorem formLift_nil (f b : Int) : formLift [] f b = (0, []) := by
  unfold formLift
  rw [if_neg (by rw [fRight_nil]; decide)]
  have h : foldC (fun c => clLift c f b) [] = (0, []) := rfl
  rw [h, if_neg (by decide)]
  exact leastF_fRight.mp fRight_nil
theorem rowLift_nil (f b : Int) : rowLift b [] f = .ok [] := by
  unfold rowLift
  rw [formLift_nil]
  simp
/-! ### Lifted terms are formed -/
theorem lift_fine {vb db : Int} (hv : 0 ≤ vb) {t u : T} {c : Int × Int} (h : fineT t) (hu : trav (liftTr vb db) t c = .ok u) : fineT u := by
  refine trav_fine (A := liftTr vb db) ?_ ?_ ?_ h hu
  · intro c k n nm r p h ho
    obtain ⟨h1, h2, h3, h4, h5, h6, h7⟩ := h
    obtain ⟨g, hg, ho⟩ := Res1.bind_ok (x := rowLift db r c.2) ho
    have hnil : r = [] → g = [] := fun e => by rw [e, rowLift_nil] at hg; injection hg with hg; exact hg.symm
    have key : ∀ n', (k ≠ 1 → n' = n) → (k = 1 → 0 ≤ n') → headOK k n' nm g := fun n' e1 e2 =>
      ⟨fun hk => by rw [e1 hk]; exact h1 hk, h2, fun hk => ⟨hnil (h3 hk).1, e2 hk⟩, fun hk => ⟨hnil (h4 hk).1, (h4 hk).2⟩, fun hk => rowLift_fR hg (h5 hk), fun hk => rowLift_face hg (h6 hk), fun hk => hnil (h7 hk)⟩
    split at ho
    · rename_i hk
      split at ho
      · cases ho
      · injection ho with ho; injection ho with ho; subst ho
        exact key _ (fun h => absurd hk.1 h) (fun h => by have := (h3 h).2; dsimp only; omega)
    · injection ho with ho; injection ho with ho; subst ho
      exact key _ (fun _ => rfl) (fun h => (h3 h).2)
  · intro c k n nm r u _ ho
    exact absurd ho lift_own_inl
  · intro c f f' hf ho
    obtain ⟨g, hg, ho⟩ := Res1.bind_ok (x := rowLift db f c.2) ho
    injection ho with ho; injection ho with ho; subst ho
    exact rowLift_face hg hf
section
variable {C : Type} {A : Tr C}
end
/-! ### Lifts, one behind the other -/
theorem rowLift_zero (l : List Cl) (f : Int) : rowLift 0 l f = .ok l := by unfold rowLift; rw [if_pos (.inl rfl)]
/-- What liftTr makes of a node. -/
theorem lift_own_eq {vb db : Int} {c : Int × Int} {k n : Int} {nm : ByteArray} {r : List Cl} : (liftTr vb db).own c k n nm r = (rowLift db r c.2).bind fun r' => if k = 1 ∧ c.1 ≤ n ∧ 1000000000 - vb < n then .bad 100 else .ok (.inr (liftN vb c.1 k n, r')) := by
  simp only [liftTr, liftN]
  congr 1
  funext g
  by_cases h1 : k = 1 ∧ c.1 ≤ n
  · rw [if_pos h1, if_pos h1]
    by_cases h2 : 1000000000 - vb < n
    · rw [if_pos h2, if_pos ⟨h1.1, h1.2, h2⟩]
    · rw [if_neg h2, if_neg (fun h => h2 h.2.2)]
  · rw [if_neg h1, if_neg h1, if_neg (fun h => h1 ⟨h.1, h.2.1⟩)]
theorem lift_face_def {vb db : Int} {c : Int × Int} {f : List Cl} : (liftTr vb db).face c f = (rowLift db f c.2).bind fun f' => .ok (some f') := rfl
/-! Lifting variables is refused for one reason alone. -/
mutual
theorem var_bad {a : Int} : ∀ {t : T} {c : Int × Int} {e : Int}, trav (liftTr a 0) t c = .bad e → e = 100
  | .mk k n nm r ks ss, c, e, h => by
    rw [trav_eq] at h
    simp only [T.kind, T.n, T.name, T.r, T.kids, T.sys] at h
    rw [lift_own_eq, rowLift_zero] at h
    simp only [Res1.bind] at h
    by_cases h6 : k = 1 ∧ c.1 ≤ n ∧ 1000000000 - a < n
    · rw [if_pos h6] at h; injection h with h; exact h.symm
    · rw [if_neg h6] at h
      simp only at h
      cases h1 : travL (liftTr a 0) k 0 ks c with
      | bad e' => rw [h1] at h; injection h with h; exact h ▸ varL_bad h1
      | ok x =>
        rw [h1] at h
        simp only at h
        cases h2 : travB (liftTr a 0) k ss c with
        | bad e' => rw [h2] at h; injection h with h; exact h ▸ varB_bad h2
        | ok y => rw [h2] at h; cases h
theorem varL_bad {a k : Int} : ∀ {ts : List T} {i : Nat} {c : Int × Int} {e : Int}, travL (liftTr a 0) k i ts c = .bad e → e = 100
  | [], i, c, e, h => by rw [travL_nil] at h; cases h
  | t :: ts, i, c, e, h => by
    rw [travL_cons, lift_kid] at h
    simp only [Res1.bind] at h
    cases h1 : trav (liftTr a 0) t (c.1 + (binds k i).1, c.2 + (binds k i).2) with
    | bad e' => rw [h1] at h; injection h with h; exact h ▸ var_bad h1
    | ok x =>
      rw [h1] at h
      simp only at h
      cases h2 : travL (liftTr a 0) k (i + 1) ts c with
      | bad e' => rw [h2] at h; injection h with h; exact h ▸ varL_bad h2
      | ok y => rw [h2] at h; cases h
theorem varS_bad {a k : Int} : ∀ {ts : List T} {c : Int × Int} {e : Int}, travS (liftTr a 0) k ts c = .bad e → e = 100
  | [], c, e, h => by rw [travS_nil] at h; cases h
  | t :: ts, c, e, h => by
    rw [travS_cons, lift_kid] at h
    simp only [Res1.bind] at h
    cases h1 : trav (liftTr a 0) t (c.1 + 0, c.2 + more k) with
    | bad e' => rw [h1] at h; injection h with h; exact h ▸ var_bad h1
    | ok x =>
      rw [h1] at h
      simp only at h
      cases h2 : travS (liftTr a 0) k ts c with
      | bad e' => rw [h2] at h; injection h with h; exact h ▸ varS_bad h2
      | ok y => rw [h2] at h; cases h
theorem varB_bad {a k : Int} : ∀ {bs : List Br} {c : Int × Int} {e : Int}, travB (liftTr a 0) k bs c = .bad e → e = 100
  | [], c, e, h => by rw [travB_nil] at h; cases h
  | .mk f ks :: bs, c, e, h => by
    rw [travB_cons, lift_face_def] at h
    simp only [Br.face, Br.kids] at h
    rw [rowLift_zero] at h
    simp only [Res1.bind] at h
    cases h1 : travS (liftTr a 0) k ks c with
    | bad e' => rw [h1] at h; injection h with h; exact h ▸ varS_bad h1
    | ok x =>
      rw [h1] at h
      simp only at h
      cases h2 : travB (liftTr a 0) k bs c with
      | bad e' => rw [h2] at h; injection h with h; exact h ▸ varB_bad h2
      | ok y => rw [h2] at h; cases h
end
/-! A refusal's number. -/
theorem clLift_err (c : Cl) (f b : Int) : (clLift c f b).1 = 0 ∨ (clLift c f b).1 = 2 ∨ (clLift c f b).1 = 10 := by
  have hm : ∀ s, (maskLift s f b).1 = 0 ∨ (maskLift s f b).1 = 2 ∨ (maskLift s f b).1 = 10 := fun s => by
    unfold maskLift
    split
    · exact .inr (.inl rfl)
    · split
      · exact .inl rfl
      · split
        · exact .inr (.inr rfl)
        · exact .inl rfl
  unfold clLift
  split
  · exact .inr (.inl rfl)
  · split
    · exact hm _
    · split
      · exact hm _
      · exact .inl rfl
def asRes (r : Res1 T) : Int × T := match r with
  | .ok u => (0, u)
  | .bad e => (e, t0)
theorem guard_as {t : T} {ns : List Int} {r : Res1 T} (h : formedP t = 0) (h2 : ns.all (fun n => decide (0 ≤ n)) = true) : guardRes t ns r = asRes r := by
  cases r with
  | ok u => exact guard_ok h h2 rfl
  | bad e => exact guard_bad h h2 rfl
theorem most_in64 {b : Int} (h0 : 0 ≤ b) (h1 : b ≤ 1000000) : 0 ≤ most b := by rw [most_of (by unfold in64; omega) h0]; omega
end Go.Hy
namespace Go.Hy
set_option linter.unusedVariables false
set_option linter.unusedSimpArgs false
set_option linter.unusedSectionVars false
set_option linter.unusedVariables false
set_option linter.unusedSimpArgs false
/-! ### A contract whose result is only known to be so and so -/
theorem Spec.hide {P : Program} {k : FuncId} {args : Array Value} {pre : List Fact} {Ms0 : List Res} {α X : Type} (r : α) {val : α → X → Value} {N : α → X → List Fact} {Ms1 : α → X → List Res} (h : Spec P k args pre Ms0 (val r) (N r) (Ms1 r)) :
    Spec P k args pre Ms0 (fun x : {x : α × X // x.1 = r} => val x.1.1 x.1.2) (fun x => N x.1.1 x.1.2) (fun x => Ms1 x.1.1 x.1.2) := fun ok w hk hs => (h ok w hk hs).mono fun e w' hh => by
  obtain ⟨x, he, hs'⟩ := hh
  exact ⟨⟨(r, x), rfl⟩, he, hs'⟩
/-! ### What a way tells of the parts -/
section
variable {C : Type} {A : Tr C}
theorem travL_at {k : Int} {c : C} : ∀ {ts us : List T} {i : Nat}, travL A k i ts c = .ok us → us.length = ts.length ∧ ∀ j, j < us.length → ∃ c', A.kid c (binds k ((i + j : Nat) : Int)) = .ok c' ∧ trav A (ts.getD j t0) c' = .ok (us.getD j t0)
  | [], us, i, h => by rw [travL_nil] at h; injection h with h; subst h; exact ⟨rfl, fun j hj => absurd hj (by simp)⟩
  | t :: ts, us, i, h => by
    rw [travL_cons] at h
    obtain ⟨c', h1, h⟩ := Res1.bind_ok h
    obtain ⟨t', h2, h⟩ := Res1.bind_ok h
    obtain ⟨ts', h3, h⟩ := Res1.bind_ok h
    injection h with h
    subst h
    obtain ⟨h4, h5⟩ := travL_at h3
    refine ⟨by simp [h4], fun j hj => ?_⟩
    cases j with
    | zero => exact ⟨c', by simpa using h1, by simpa using h2⟩
    | succ j =>
      obtain ⟨d, h6, h7⟩ := h5 j (by simpa using hj)
      exact ⟨d, by rw [show i + (j + 1) = i + 1 + j by omega]; exact h6, by rw [List.getD_cons_succ, List.getD_cons_succ]; exact h7⟩
theorem travS_at {k : Int} {c : C} : ∀ {ts us : List T}, travS A k ts c = .ok us → us.length = ts.length ∧ ∀ j, j < us.length → ∃ c', A.kid c (0, more k) = .ok c' ∧ trav A (ts.getD j t0) c' = .ok (us.getD j t0)
  | [], us, h => by rw [travS_nil] at h; injection h with h; subst h; exact ⟨rfl, fun j hj => absurd hj (by simp)⟩
  | t :: ts, us, h => by
    rw [travS_cons] at h
    obtain ⟨c', h1, h⟩ := Res1.bind_ok h
    obtain ⟨t', h2, h⟩ := Res1.bind_ok h
    obtain ⟨ts', h3, h⟩ := Res1.bind_ok h
    injection h with h
    subst h
    obtain ⟨h4, h5⟩ := travS_at h3
    refine ⟨by simp [h4], fun j hj => ?_⟩
    cases j with
    | zero => exact ⟨c', h1, by simpa using h2⟩
    | succ j =>
      obtain ⟨d, h6, h7⟩ := h5 j (by simpa using hj)
      exact ⟨d, h6, by rw [List.getD_cons_succ, List.getD_cons_succ]; exact h7⟩
theorem travB_at {k : Int} {c : C} : ∀ {bs us : List Br}, travB A k bs c = .ok us → us.length ≤ bs.length ∧ ∀ u, u ∈ us → ∃ b, b ∈ bs ∧ A.face c b.face = .ok (some u.face) ∧ travS A k b.kids c = .ok u.kids
  | [], us, h => by rw [travB_nil] at h; injection h with h; subst h; exact ⟨Nat.le_refl _, fun u hu => (by cases hu)⟩
  | b :: bs, us, h => by
    rw [travB_cons] at h
    obtain ⟨o, h1, h⟩ := Res1.bind_ok h
    cases o with
    | none =>
      obtain ⟨h4, h5⟩ := travB_at h
      exact ⟨by simp only [List.length_cons]; omega, fun u hu => by obtain ⟨x, hx, h6⟩ := h5 u hu; exact ⟨x, List.mem_cons_of_mem _ hx, h6⟩⟩
    | some f' =>
      obtain ⟨ks', h2, h⟩ := Res1.bind_ok h
      obtain ⟨bs', h3, h⟩ := Res1.bind_ok h
      injection h with h
      subst h
      obtain ⟨h4, h5⟩ := travB_at h3
      refine ⟨by simp only [List.length_cons]; omega, fun u hu => ?_⟩
      rcases List.mem_cons.mp hu with rfl | hu
      · exact ⟨b, List.mem_cons_self, h1, h2⟩
      · obtain ⟨x, hx, h6⟩ := h5 u hu; exact ⟨x, List.mem_cons_of_mem _ hx, h6⟩
theorem mem_getD {α : Type} {d x : α} {l : List α} (h : x ∈ l) : ∃ i, i < l.length ∧ l.getD i d = x := by
  obtain ⟨i, hi, e⟩ := List.mem_iff_getElem.mp h
  exact ⟨i, hi, by rw [getD_get (d := d) hi]; exact e⟩
theorem trav_out {t u : T} {c : C} (h : trav A t c = .ok u) : A.own c t.kind t.n t.name t.r = .ok (.inl u) ∨ ∃ p, A.own c t.kind t.n t.name t.r = .ok (.inr p) ∧ (u.kind = t.kind ∧ u.n = p.1 ∧ u.name = t.name ∧ u.r = p.2) ∧
    (∀ q, q ∈ parts u → ∃ p, p ∈ parts t ∧ p.2 = q.2 ∧ ∃ c', A.kid c p.2 = .ok c' ∧ trav A p.1 c' = .ok q.1) ∧ ∀ b', b' ∈ u.sys → ∃ b, b ∈ t.sys ∧ A.face c b.face = .ok (some b'.face) := by
  rw [trav_eq] at h
  obtain ⟨o, h1, h⟩ := Res1.bind_ok h
  cases o with
  | inl v => injection h with h; subst h; exact .inl h1
  | inr p =>
    obtain ⟨ks', h2, h⟩ := Res1.bind_ok h
    obtain ⟨ss', h3, h⟩ := Res1.bind_ok h
    injection h with h
    subst h
    obtain ⟨l1, l2⟩ := travL_at h2
    obtain ⟨b1, b2⟩ := travB_at h3
    refine .inr ⟨p, h1, ⟨rfl, rfl, rfl, rfl⟩, fun q hq => ?_, fun b' hb' => ?_⟩
    · rcases part_cases hq with ⟨i, hi, rfl⟩ | ⟨s, j, hs, hj, rfl⟩
      · simp only [T.kids, T.kind] at hi ⊢
        obtain ⟨c', h4, h5⟩ := l2 i hi
        exact ⟨_, List.mem_of_getElem? (parts_kid t i (by omega)), rfl, c', by rw [Nat.zero_add] at h4; exact h4, h5⟩
      · simp only [T.sys, T.kind] at hs hj ⊢
        obtain ⟨b, hb, _, h6⟩ := b2 _ (getD_mem (d := br0) hs)
        obtain ⟨h7, h8⟩ := travS_at h6
        obtain ⟨c', h9, h10⟩ := h8 j hj
        obtain ⟨s', hs', e⟩ := mem_getD (d := br0) hb
        refine ⟨_, List.mem_of_getElem? (parts_sys t s' j hs' (by rw [e]; omega)), rfl, c', h9, ?_⟩
        rw [e]; exact h10
    · obtain ⟨b, hb, h6, _⟩ := b2 b' hb'
      exact ⟨b, hb, h6⟩
theorem bind_bad_of {α β : Type} {x : Res1 α} {k : α → Res1 β} {e : Int} (h : x.bind k = .bad e) : x = .bad e ∨ ∃ a, x = .ok a ∧ k a = .bad e := by
  cases x with
  | ok a => exact .inr ⟨a, rfl, h⟩
  | bad e' => injection h with h; subst h; exact .inl rfl
theorem travL_why {k : Int} {c : C} {e : Int} : ∀ {ts : List T} {i : Nat}, travL A k i ts c = .bad e → ∃ j, j < ts.length ∧ (A.kid c (binds k ((i + j : Nat) : Int)) = .bad e ∨ ∃ c', A.kid c (binds k ((i + j : Nat) : Int)) = .ok c' ∧ trav A (ts.getD j t0) c' = .bad e)
  | [], i, h => by rw [travL_nil] at h; cases h
  | t :: ts, i, h => by
    rw [travL_cons] at h
    rcases bind_bad_of h with h | ⟨c', h1, h⟩
    · exact ⟨0, by simp, .inl (by simpa using h)⟩
    · rcases bind_bad_of h with h | ⟨t', h2, h⟩
      · exact ⟨0, by simp, .inr ⟨c', by simpa using h1, by simpa using h⟩⟩
      · rcases bind_bad_of h with h | ⟨ts', h3, h⟩
        · obtain ⟨j, hj, h4⟩ := travL_why h
          refine ⟨j + 1, by simpa using hj, ?_⟩
          rw [List.getD_cons_succ, show i + (j + 1) = i + 1 + j by omega]; exact h4
        · cases h
theorem travS_why {k : Int} {c : C} {e : Int} : ∀ {ts : List T}, travS A k ts c = .bad e → ∃ j, j < ts.length ∧ (A.kid c (0, more k) = .bad e ∨ ∃ c', A.kid c (0, more k) = .ok c' ∧ trav A (ts.getD j t0) c' = .bad e)
  | [], h => by rw [travS_nil] at h; cases h
  | t :: ts, h => by
    rw [travS_cons] at h
    rcases bind_bad_of h with h | ⟨c', h1, h⟩
    · exact ⟨0, by simp, .inl h⟩
    · rcases bind_bad_of h with h | ⟨t', h2, h⟩
      · exact ⟨0, by simp, .inr ⟨c', h1, by simpa using h⟩⟩
      · rcases bind_bad_of h with h | ⟨ts', h3, h⟩
        · obtain ⟨j, hj, h4⟩ := travS_why h
          exact ⟨j + 1, by simpa using hj, by rw [List.getD_cons_succ]; exact h4⟩
        · cases h
theorem travB_why {k : Int} {c : C} {e : Int} : ∀ {bs : List Br}, travB A k bs c = .bad e → ∃ b, b ∈ bs ∧ (A.face c b.face = .bad e ∨ travS A k b.kids c = .bad e)
  | [], h => by rw [travB_nil] at h; cases h
  | b :: bs, h => by
    rw [travB_cons] at h
    rcases bind_bad_of h with h | ⟨o, h1, h⟩
    · exact ⟨b, List.mem_cons_self, .inl h⟩
    · cases o with
      | none => obtain ⟨x, hx, h⟩ := travB_why h; exact ⟨x, List.mem_cons_of_mem _ hx, h⟩
      | some f' =>
        rcases bind_bad_of h with h | ⟨ks, h2, h⟩
        · exact ⟨b, List.mem_cons_self, .inr h⟩
        · rcases bind_bad_of h with h | ⟨us, h3, h⟩
          · obtain ⟨x, hx, h⟩ := travB_why h; exact ⟨x, List.mem_cons_of_mem _ hx, h⟩
          · cases h
theorem trav_why {t : T} {c : C} {e : Int} (h : trav A t c = .bad e) : A.own c t.kind t.n t.name t.r = .bad e ∨ (∃ b, b ∈ t.sys ∧ A.face c b.face = .bad e) ∨ ∃ p, p ∈ parts t ∧ (A.kid c p.2 = .bad e ∨ ∃ c', A.kid c p.2 = .ok c' ∧ trav A p.1 c' = .bad e) := by
  rw [trav_eq] at h
  rcases bind_bad_of h with h | ⟨o, h1, h⟩
  · exact .inl h
  · cases o with
    | inl u => cases h
    | inr p =>
      rcases bind_bad_of h with h | ⟨ks, h2, h⟩
      · obtain ⟨j, hj, h3⟩ := travL_why h
        rw [Nat.zero_add] at h3
        exact .inr (.inr ⟨_, List.mem_of_getElem? (parts_kid t j hj), h3⟩)
      · rcases bind_bad_of h with h | ⟨ss, h3, h⟩
        · obtain ⟨b, hb, h4⟩ := travB_why h
          rcases h4 with h4 | h4
          · exact .inr (.inl ⟨b, hb, h4⟩)
          · obtain ⟨j, hj, h5⟩ := travS_why h4
            obtain ⟨s, hs, e2⟩ := mem_getD (d := br0) hb
            refine .inr (.inr ⟨_, List.mem_of_getElem? (parts_sys t s j hs (by rw [e2]; exact hj)), ?_⟩)
            rw [e2]; exact h5
        · cases h
end
end Go.Hy
namespace Go.Hy
set_option linter.unusedVariables false
set_option linter.unusedSimpArgs false
set_option linter.unusedSectionVars false
set_option linter.unusedVariables false
set_option linter.unusedSimpArgs false
/-! ### What a lift does to the bits -/
theorem maskLift_from {s : Nat} {f b : Int} (h : (maskLift s f b).1 = 0) (i : Nat) (hi : (maskLift s f b).2.testBit i = true) : ∃ j, j < 24 ∧ s.testBit j = true ∧ (((j : Int) < f ∧ i = j) ∨ (f ≤ (j : Int) ∨ 24 ≤ j) ∧ (i : Int) = j + b) := by
  obtain ⟨h0, h1, h2⟩ := maskLift_bit h i
  rw [h2, Bool.or_eq_true, Bool.and_eq_true, Bool.and_eq_true, decide_eq_true_eq, decide_eq_true_eq, and24_bit, and24_bit, Bool.and_eq_true, Bool.and_eq_true, decide_eq_true_eq, decide_eq_true_eq] at hi
  rcases hi with ⟨h3, h4, h5⟩ | ⟨h3, h4, h5⟩
  · exact ⟨i, h4, h5, .inl ⟨by omega, rfl⟩⟩
  · exact ⟨i - b.toNat, h4, h5, .inr ⟨by omega, by omega⟩⟩
theorem fine_row {t : T} (h : fineT t) : fRight t.r = true := by
  obtain ⟨_, _, _, _, h13, h14, h0⟩ := (fineT_iff.mp h).1
  by_cases h1 : t.kind = 13 ∨ t.kind = 21 ∨ t.kind = 26
  · exact h13 h1
  · by_cases h2 : t.kind = 14
    · have := h14 h2
      unfold faceRight at this
      rw [Bool.and_eq_true] at this
      exact this.1
    · rw [h0 (by omega)]; exact fRight_nil
theorem fine_face {t : T} (h : fineT t) {b : Br} (hb : b ∈ t.sys) : faceRight b.face = true := (fineB_iff.mp (fineT_iff.mp h).2.2.2.2 b hb).2.1
theorem fine_part {t : T} (h : fineT t) {p : Part} (hp : p ∈ parts t) : fineT p.1 := (fine_parts.mp h).2 p hp
theorem face_row {l : List Cl} (h : faceRight l = true) : fRight l = true := by
  unfold faceRight at h
  rw [Bool.and_eq_true] at h
  exact h.1
end Go.Hy
namespace Go.Hy
set_option linter.unusedVariables false
set_option linter.unusedSimpArgs false
set_option linter.unusedSectionVars false
theorem St.litI {B : Base} {Γ : List Fact} {Ms : List Res} {w : World} {b : Nat} {e : TypeId} {cs : List Value} (l : List Int) (hs : St B Γ (boxR b cs e :: Ms) w) {hBp : Prop} (hB : hBp) (hc : cs = intFlat l) (hn : l.length ≤ 1000) (hu : ∀ c, c ∈ l → in64 c) : St B (IL l (some ⟨b, 0, Option.none⟩, l.length) :: Γ) Ms w :=
  (hs.boxRow (sz := 1) (m := l.length) (by rw [hc, flat_len intCells_len l]) (by unfold maxLen; omega)).settleIL hB hc rfl (by unfold reach; omega) hu
end Go.Hy
namespace Go.Hy
set_option linter.unusedVariables false
set_option linter.unusedSimpArgs false
set_option linter.unusedSectionVars false
/-! ### The chapter's examples of lifts -/
def vE (n : Int) : T := .mk 1 n ⟨#[]⟩ [] [] []
def appE : T := .mk 6 0 ⟨#[]⟩ [] [vE 0, vE 1] []
def exL : T := .mk 5 0 ⟨#[]⟩ [] [appE] []
def exA : T := .mk 5 0 ⟨#[]⟩ [] [.mk 6 0 ⟨#[]⟩ [] [vE 0, vE 3] []] []
def loopE : T := .mk 21 0 ⟨#[]⟩ [⟨3, 0⟩] [] []
def exP : T := .mk 12 0 ⟨#[]⟩ [] [loopE] []
def exQ : T := .mk 12 0 ⟨#[]⟩ [] [.mk 21 0 ⟨#[]⟩ [⟨5, 0⟩] [] []] []
theorem ex_vars : varsRes exL 0 2 = (0, exA) := by decide +kernel
theorem ex_dims : dimsRes exP 0 1 = (0, exQ) := by decide +kernel
theorem ex_vars1 : (varsRes exL 0 2).1 = 0 := by rw [ex_vars]
theorem ex_vars2 : (varsRes exL 0 2).2 = exA := by rw [ex_vars]
theorem ex_dims1 : (dimsRes exP 0 1).1 = 0 := by rw [ex_dims]
theorem ex_dims2 : (dimsRes exP 0 1).2 = exQ := by rw [ex_dims]
theorem exL_size : size exL = 4 ∧ size exP = 2 := by decide +kernel
theorem vars_okT {t : T} {f b : Int} (hb : in64 b) (h : okT t) : okT (varsRes t f b).2 := by
  refine guard_okT' (fun ha u hu => ?_)
  simp only [List.all_cons, List.all_nil, Bool.and_true, Bool.and_eq_true, decide_eq_true_eq] at ha
  exact lift_okT ⟨ha.2.1, most_le hb ha.2.1 ha.2.2⟩ h hu
theorem dims_okT {t : T} {f b : Int} (h : okT t) : okT (dimsRes t f b).2 := guard_okT' (fun _ u hu => lift_okT (by omega) h hu)
theorem both_okT {t : T} {v d : Int} (hv : in64 v) (h : okT t) : okT (bothRes t v d).2 := by
  refine guard_okT' (fun ha u hu => ?_)
  simp only [List.all_cons, List.all_nil, Bool.and_true, Bool.and_eq_true, decide_eq_true_eq] at ha
  obtain ⟨x, hx, hu⟩ := Res1.bind_ok hu
  exact lift_okT (by omega) (lift_okT ⟨ha.1, most_le hv ha.1 ha.2.2⟩ h hx) hu
end Go.Hy
namespace Go.Hy
set_option linter.unusedVariables false
set_option linter.unusedSimpArgs false
set_option linter.unusedSectionVars false
set_option linter.unusedVariables false
set_option linter.unusedSimpArgs false
/-! ### Lifted rows, clause by clause -/
theorem maskLift_iff {s : Nat} {f b : Int} (h : (maskLift s f b).1 = 0) (i : Nat) : (maskLift s f b).2.testBit i = true ↔ ∃ j, j < 24 ∧ s.testBit j = true ∧ (((j : Int) < f ∧ i = j) ∨ (f ≤ (j : Int) ∧ (i : Int) = j + b)) := by
  obtain ⟨h0, h1, h2⟩ := maskLift_bit h i
  constructor
  · intro hi
    obtain ⟨j, h3, h4, h5⟩ := maskLift_from h i hi
    exact ⟨j, h3, h4, by omega⟩
  · rintro ⟨j, h3, h4, h5⟩
    rw [h2, Bool.or_eq_true, Bool.and_eq_true, Bool.and_eq_true, decide_eq_true_eq, decide_eq_true_eq, and24_bit, and24_bit, Bool.and_eq_true, Bool.and_eq_true, decide_eq_true_eq, decide_eq_true_eq]
    rcases h5 with ⟨h5, rfl⟩ | ⟨h5, h6⟩
    · exact .inl ⟨by omega, h3, h4⟩
    · refine .inr ⟨by omega, ?_⟩
      rw [show i - b.toNat = j by omega]
      exact ⟨h3, h4⟩
theorem mask_keep {s : Nat} {f b : Int} (hs : s < 16777216) (h0 : 0 ≤ f) (hb : 0 ≤ b) (h : b = 0 ∨ 24 ≤ f) : maskLift s f b = (0, s) := by
  have hs24 : s &&& 16777215 = s := by rw [and24]; exact Nat.mod_eq_of_lt hs
  have h1 : (maskLift s f b).1 = 0 := by
    unfold maskLift
    rw [if_neg (by omega)]
    split
    · rfl
    · rename_i h2
      rw [if_neg]
      rintro (h3 | h3)
      · rcases h with h | h
        · omega
        · refine h2 ?_
          refine Nat.eq_of_testBit_eq fun i => ?_
          rw [andNot32_bit, mask_bit, Nat.zero_testBit, and24_bit, show min f.toNat 24 = 24 by omega]
          by_cases hi : i < 24 <;> simp [hi]
      · rcases h with h | h
        · subst h
          have := andNot_lt (q := s &&& 16777215) (m := 2 ^ min f.toNat 24 - 1) (and24_lt s)
          simp at h3
          omega
        · refine h2 ?_
          refine Nat.eq_of_testBit_eq fun i => ?_
          rw [andNot32_bit, mask_bit, Nat.zero_testBit, and24_bit, show min f.toNat 24 = 24 by omega]
          by_cases hi : i < 24 <;> simp [hi]
  refine Prod.ext h1 ?_
  refine Nat.eq_of_testBit_eq fun i => ?_
  rw [Bool.eq_iff_iff, maskLift_iff h1]
  have hlt : ∀ j, s.testBit j = true → j < 24 := fun j hj => by
    refine Nat.lt_of_not_le fun hge => ?_
    rw [Nat.testBit_lt_two_pow (Nat.lt_of_lt_of_le hs (Nat.pow_le_pow_right (n := 2) (i := 24) (by omega) hge))] at hj
    cases hj
  constructor
  · rintro ⟨j, h2, h3, h4⟩
    rw [show i = j by omega]; exact h3
  · intro h2
    exact ⟨i, hlt i h2, h2, by have := hlt i h2; omega⟩
theorem fRight_parts {l : List Cl} (h : fRight l = true) : (∀ c, c ∈ l → right24 c = true) ∧ apart l = true := by
  unfold fRight at h
  simp only [Bool.and_eq_true, List.all_eq_true] at h
  exact ⟨h.1.1.1, h.1.2⟩
theorem right24_iff {c : Cl} : right24 c = true ↔ c.pos < 16777216 ∧ c.neg < 16777216 := by unfold right24; rw [Bool.and_eq_true, decide_eq_true_eq, decide_eq_true_eq]
/-! ### Two ways and two others -/
section
variable {CA CB CC CD : Type} {A : Tr CA} {B : Tr CB} {C : Tr CC} {D : Tr CD} (R : CA → CB → CC → CD → Prop)
/-- Where both are told, the one and then the other is the third and then the fourth; no branch is dropped, and only variables become what they become by themselves. -/
structure Sq : Prop where
  leaf : ∀ t a b c x ca cb cc cd, R ca cb cc cd → fineT t → t.kind = 1 → trav A t ca = .ok a → trav B a cb = .ok b → trav C t cc = .ok c → trav D c cd = .ok x → b = x
  nA : ∀ ca k n nm r u, k ≠ 1 → A.own ca k n nm r ≠ .ok (.inl u)
  nB : ∀ ca k n nm r u, k ≠ 1 → B.own ca k n nm r ≠ .ok (.inl u)
  nC : ∀ ca k n nm r u, k ≠ 1 → C.own ca k n nm r ≠ .ok (.inl u)
  nD : ∀ ca k n nm r u, k ≠ 1 → D.own ca k n nm r ≠ .ok (.inl u)
  own : ∀ ca cb cc cd k n nm r pa pb pc pd, R ca cb cc cd → headOK k n nm r → k ≠ 1 → A.own ca k n nm r = .ok (.inr pa) → B.own cb k pa.1 nm pa.2 = .ok (.inr pb) → C.own cc k n nm r = .ok (.inr pc) → D.own cd k pc.1 nm pc.2 = .ok (.inr pd) → pb = pd
  face : ∀ ca cb cc cd f oa oc ob od, R ca cb cc cd → faceRight f = true → A.face ca f = .ok oa → C.face cc f = .ok oc → ∃ fa fc, oa = some fa ∧ oc = some fc ∧ (B.face cb fa = .ok ob → D.face cd fc = .ok od → ∃ g, ob = some g ∧ od = some g)
  kid : ∀ ca cb cc cd b ca' cb' cc' cd', R ca cb cc cd → 0 ≤ b.1 → 0 ≤ b.2 → A.kid ca b = .ok ca' → B.kid cb b = .ok cb' → C.kid cc b = .ok cc' → D.kid cd b = .ok cd' → R ca' cb' cc' cd'
variable {R}
end
/-! ### The way that changes nothing -/
def idTr : Tr Unit where
  own _ _ n _ r := .ok (.inr (n, r))
  face _ f := .ok (some f)
  kid _ _ := .ok ()
mutual
theorem id_eq : ∀ t : T, trav idTr t () = .ok t
  | .mk k n nm r ks ss => by rw [trav_eq]; simp only [T.kind, T.n, T.name, T.r, T.kids, T.sys, idTr, Res1.bind]; rw [show (Tr.mk _ _ _ : Tr Unit) = idTr from rfl, idL_eq ks, idB_eq ss]
theorem idL_eq {k : Int} : ∀ {i : Nat} (ts : List T), travL idTr k i ts () = .ok ts
  | i, [] => travL_nil _ _ _
  | i, t :: ts => by rw [travL_cons, show idTr.kid () (binds k i) = .ok () from rfl]; simp only [Res1.bind]; rw [id_eq t]; simp only; rw [idL_eq ts]
theorem idS_eq {k : Int} : ∀ ts : List T, travS idTr k ts () = .ok ts
  | [] => travS_nil _ _
  | t :: ts => by rw [travS_cons, show idTr.kid () (0, more k) = .ok () from rfl]; simp only [Res1.bind]; rw [id_eq t]; simp only; rw [idS_eq ts]
theorem idB_eq {k : Int} : ∀ bs : List Br, travB idTr k bs () = .ok bs
  | [] => travB_nil _ _
  | .mk f ks :: bs => by rw [travB_cons, show idTr.face () (Br.face (.mk f ks)) = .ok (some f) from rfl]; simp only [Res1.bind]; rw [show (Br.mk f ks).kids = ks from rfl, idS_eq ks]; simp only; rw [idB_eq bs]
end
end Go.Hy
namespace Go.Hy
set_option linter.unusedVariables false
set_option linter.unusedSimpArgs false
set_option linter.unusedSectionVars false
set_option linter.unusedVariables false
set_option linter.unusedSimpArgs false
/-! ### The document's lift of a mask: its list, number by number -/
theorem sorted_ext : ∀ {l m : List Int}, (l.Pairwise fun a b => a < b) → (m.Pairwise fun a b => a < b) → (∀ x, x ∈ l ↔ x ∈ m) → l = m
  | [], [], _, _, _ => rfl
  | [], b :: m, _, _, h => by have := (h b).mpr List.mem_cons_self; cases this
  | a :: l, [], _, _, h => by have := (h a).mp List.mem_cons_self; cases this
  | a :: l, b :: m, hl, hm, h => by
    obtain ⟨l1, l2⟩ := List.pairwise_cons.mp hl
    obtain ⟨m1, m2⟩ := List.pairwise_cons.mp hm
    have hab : a = b := by
      rcases List.mem_cons.mp ((h a).mp List.mem_cons_self) with h1 | h1
      · exact h1
      · rcases List.mem_cons.mp ((h b).mpr List.mem_cons_self) with h2 | h2
        · exact h2.symm
        · have := l1 b h2; have := m1 a h1; omega
    subst hab
    have : l = m := sorted_ext l2 m2 fun x => by
      constructor
      · intro hx
        rcases List.mem_cons.mp ((h x).mp (List.mem_cons_of_mem _ hx)) with h1 | h1
        · subst h1; have := l1 x hx; omega
        · exact h1
      · intro hx
        rcases List.mem_cons.mp ((h x).mpr (List.mem_cons_of_mem _ hx)) with h1 | h1
        · subst h1; have := m1 x hx; omega
        · exact h1
    rw [this]
def shI (f b x : Int) : Int := if x < f then x else x + b
theorem mask_bad {s : Nat} {f b x : Int} (h0 : 0 ≤ f) (hb : 0 ≤ b) (hx : x ∈ listM s) (hf : f ≤ x) (h : 24 ≤ x + b) : maskLift s f b = (10, 0) := by
  obtain ⟨x0, x1, x2⟩ := listTo_mem.mp hx
  have hbit : (andNot32 (s &&& 16777215) (2 ^ (min f.toNat 24) - 1)).testBit x.toNat = true := by
    rw [andNot32_bit, mask_bit, and24_bit, x2, decide_eq_true (by omega), decide_eq_true (by omega), decide_eq_false (by omega)]; rfl
  have hge := Nat.ge_two_pow_of_testBit hbit
  unfold maskLift
  rw [if_neg (by omega), if_neg (fun h1 => by rw [h1, Nat.zero_testBit] at hbit; cases hbit), if_pos]
  by_cases h24 : 24 ≤ b
  · exact .inl h24
  · right
    have h1 : 2 ^ x.toNat * 2 ^ b.toNat ≤ andNot32 (s &&& 16777215) (2 ^ (min f.toNat 24) - 1) * 2 ^ b.toNat := Nat.mul_le_mul_right _ hge
    rw [← Nat.pow_add] at h1
    have h2 : 2 ^ 24 ≤ 2 ^ (x.toNat + b.toNat) := Nat.pow_le_pow_right (by omega) (by omega)
    have h3 : (2 : Nat) ^ 24 = 16777216 := by decide
    omega
theorem mask_good {s : Nat} {f b : Int} (h0 : 0 ≤ f) (hb : 0 ≤ b) (h : ∀ x, x ∈ listM s → x < f ∨ x + b < 24) : maskLift s f b = (0, setM ((listM s).map (shI f b))) := by
  have h1 : (maskLift s f b).1 = 0 := by
    unfold maskLift
    rw [if_neg (by omega)]
    split
    · rfl
    · rename_i h2
      rw [if_neg]
      have hbits : ∀ i, (andNot32 (s &&& 16777215) (2 ^ (min f.toNat 24) - 1)).testBit i = true → (i : Int) + b < 24 := fun i hi => by
        rw [andNot32_bit, mask_bit, and24_bit] at hi
        simp only [Bool.and_eq_true, decide_eq_true_eq, Bool.not_eq_true', decide_eq_false_iff_not] at hi
        have hm : (i : Int) ∈ listM s := listTo_mem.mpr ⟨by omega, by omega, by simpa using hi.1.2.2⟩
        rcases h _ hm with h3 | h3 <;> omega
      obtain ⟨i, hi⟩ : ∃ i, (andNot32 (s &&& 16777215) (2 ^ (min f.toNat 24) - 1)).testBit i = true := by
        refine Classical.byContradiction fun hn => h2 (Nat.eq_of_testBit_eq fun i => ?_)
        rw [Nat.zero_testBit]
        cases hh : (andNot32 (s &&& 16777215) (2 ^ (min f.toNat 24) - 1)).testBit i with
        | false => rfl
        | true => exact absurd ⟨i, hh⟩ hn
      have hb24 := hbits i hi
      have hlt : andNot32 (s &&& 16777215) (2 ^ (min f.toNat 24) - 1) < 2 ^ (24 - b.toNat) := Nat.lt_pow_two_of_testBit _ fun j hj => by
        cases hh : (andNot32 (s &&& 16777215) (2 ^ (min f.toNat 24) - 1)).testBit j with
        | false => rfl
        | true => have := hbits j hh; omega
      rintro (h3 | h3)
      · omega
      · have h4 : andNot32 (s &&& 16777215) (2 ^ (min f.toNat 24) - 1) * 2 ^ b.toNat < 2 ^ (24 - b.toNat) * 2 ^ b.toNat := Nat.mul_lt_mul_of_pos_right hlt (Nat.pow_pos (by omega))
        rw [← Nat.pow_add, show 24 - b.toNat + b.toNat = 24 by omega] at h4
        have h5 : (2 : Nat) ^ 24 = 16777216 := by decide
        omega
  refine Prod.ext h1 ?_
  have hlt := maskLift_lt s f b
  have e1 : (maskLift s f b).2 = setM (listM (maskLift s f b).2) := by rw [setM_listM, and24]; exact (Nat.mod_eq_of_lt hlt).symm
  rw [e1]
  show setM _ = setM _
  congr 1
  refine sorted_ext (listTo_sorted _ _) ?_ fun x => ?_
  · rw [List.pairwise_map]
    refine (listTo_sorted s 24).imp fun {a c} hac => ?_
    unfold shI
    split <;> split <;> omega
  · rw [List.mem_map]
    constructor
    · intro hx
      obtain ⟨x0, x1, x2⟩ := listTo_mem.mp hx
      obtain ⟨j, h2, h3, h4⟩ := (maskLift_iff h1 x.toNat).mp x2
      refine ⟨(j : Int), listTo_mem.mpr ⟨by omega, by omega, by simpa using h3⟩, ?_⟩
      unfold shI
      split <;> omega
    · rintro ⟨y, hy, rfl⟩
      obtain ⟨y0, y1, y2⟩ := listTo_mem.mp hy
      have hsh : 0 ≤ shI f b y ∧ shI f b y < 24 := by
        unfold shI
        rcases h y hy with h2 | h2 <;> split <;> omega
      refine listTo_mem.mpr ⟨hsh.1, hsh.2, (maskLift_iff h1 _).mpr ⟨y.toNat, by omega, y2, ?_⟩⟩
      unfold shI at hsh ⊢
      split <;> omega
end Go.Hy
namespace Go.Hy
set_option linter.unusedVariables false
set_option linter.unusedSimpArgs false
set_option linter.unusedSectionVars false
set_option linter.unusedVariables false
set_option linter.unusedSimpArgs false
theorem formLift_keep {l : List Cl} {f b : Int} (hl : fRight l = true) (h0 : 0 ≤ f) (hb : 0 ≤ b) (h : b = 0 ∨ 24 ≤ f) : formLift l f b = (0, l) := by
  obtain ⟨hr, _⟩ := fRight_parts hl
  have key : ∀ c, c ∈ l → clLift c f b = (0, c) := fun c hc => by
    obtain ⟨h2, h3⟩ := right24_iff.mp (hr c hc)
    unfold clLift
    rw [if_neg (by rw [hr c hc]; simp), mask_keep h2 h0 hb h, mask_keep h3 h0 hb h]
    simp
  have hf : foldC (fun c => clLift c f b) l = (0, l) := by
    unfold foldC
    rw [List.find?_eq_none.mpr (fun c hc => by show ¬ decide ((clLift c f b).1 ≠ 0) = true; rw [key c hc]; simp)]
    simp only
    congr 1
    conv => rhs; rw [← List.map_id l]
    exact List.map_congr_left (fun c hc => by rw [key c hc]; rfl)
  unfold formLift
  rw [if_neg (by rw [hl]; simp), hf, if_neg (by simp)]
  have := leastF_right l
  rw [hl, Bool.and_eq_true, decide_eq_true_eq, decide_eq_true_eq] at this
  exact Prod.ext this.1 this.2
theorem rowLift_form {l : List Cl} {f b : Int} (hl : fRight l = true) (h0 : 0 ≤ f) (hb : 0 ≤ b) : rowLift b l f = if (formLift l f b).1 = 0 then .ok (formLift l f b).2 else .bad (formLift l f b).1 := by
  unfold rowLift
  by_cases h : b = 0 ∨ 24 ≤ f
  · rw [if_pos h, formLift_keep hl h0 hb h]; rfl
  · rw [if_neg h]
theorem form_pos {l : List Cl} {f b : Int} : 0 ≤ (formLift l f b).1 := by
  have hl : ∀ m : List Cl, 0 ≤ (leastF m).1 := fun m => by rcases leastF_cases m with h | h | h <;> omega
  unfold formLift
  split
  · exact (show (0 : Int) ≤ 2 by omega)
  · split
    · unfold foldC
      split
      · rename_i c _
        rcases clLift_err c f b with h | h | h <;> (simp only; omega)
      · exact Int.le_refl 0
    · exact hl _
theorem form_le {l : List Cl} {f b : Int} : (formLift l f b).1 ≤ 10 := by
  have hl : ∀ m : List Cl, (leastF m).1 ≤ 10 := fun m => by rcases leastF_cases m with h | h | h <;> omega
  unfold formLift
  split
  · exact (show (2 : Int) ≤ 10 by omega)
  · split
    · unfold foldC
      split
      · rename_i c _
        rcases clLift_err c f b with h | h | h <;> (simp only; omega)
      · exact (show (0 : Int) ≤ 10 by omega)
    · exact hl _
def refT (e : Int) : T := .mk (-e) 0 ⟨#[]⟩ [] [] []
def liftRes (vb db : Int) (t : T) (v d : Int) : T := match trav (liftTr vb db) t (v, d) with
  | .ok u => u
  | .bad e => refT e
theorem liftRes_ok {vb db : Int} {t u : T} {v d : Int} (h : trav (liftTr vb db) t (v, d) = .ok u) : liftRes vb db t v d = u := by unfold liftRes; rw [h]
theorem liftRes_bad {vb db : Int} {t : T} {v d e : Int} (h : trav (liftTr vb db) t (v, d) = .bad e) : liftRes vb db t v d = refT e := by unfold liftRes; rw [h]
theorem rowLift_pos {l : List Cl} {f b e : Int} (h : rowLift b l f = .bad e) : 0 < e := by
  unfold rowLift at h
  split at h
  · cases h
  · split at h
    · cases h
    · rename_i h2
      injection h with h
      have := form_pos (l := l) (f := f) (b := b)
      omega
theorem lift_bad_pos {vb db : Int} : ∀ (t : T) {c : Int × Int} {e : Int}, trav (liftTr vb db) t c = .bad e → 0 < e := T.ind fun t ih c e h => by
  rcases trav_why h with h1 | ⟨b, _, h1⟩ | ⟨p, hp, h1 | ⟨c', _, h2⟩⟩
  · rw [lift_own_eq] at h1
    rcases bind_bad_of h1 with h2 | ⟨g, _, h2⟩
    · exact rowLift_pos h2
    · split at h2
      · injection h2 with h2; omega
      · cases h2
  · rw [lift_face_def] at h1
    rcases bind_bad_of h1 with h2 | ⟨g, _, h2⟩
    · exact rowLift_pos h2
    · cases h2
  · cases h1
  · exact ih p hp h2
theorem fine_kind {t : T} (h : fineT t) : 0 ≤ t.kind := by
  have h2 := (fineT_iff.mp h).2.1
  unfold kidsN at h2
  repeat' split at h2
  all_goals omega
theorem lift_kind {vb db : Int} {t u : T} {c : Int × Int} (h : trav (liftTr vb db) t c = .ok u) : u.kind = t.kind := by
  rcases trav_out h with h1 | ⟨p, _, h1, _⟩
  · exact absurd h1 lift_own_inl
  · exact h1.1
theorem liftRes_alt {vb db : Int} {t : T} {v d : Int} (hf : fineT t) : (trav (liftTr vb db) t (v, d) = .ok (liftRes vb db t v d) ∧ 0 ≤ (liftRes vb db t v d).kind) ∨ ∃ e, 0 < e ∧ trav (liftTr vb db) t (v, d) = .bad e ∧ liftRes vb db t v d = refT e := by
  cases h : trav (liftTr vb db) t (v, d) with
  | ok u =>
    rw [liftRes_ok h]
    exact .inl ⟨rfl, by rw [lift_kind h]; exact fine_kind hf⟩
  | bad e => exact .inr ⟨e, lift_bad_pos t h, rfl, liftRes_bad h⟩
theorem refT_kind {e : Int} (h : 0 < e) : (refT e).kind < 0 := by show -e < 0; omega
/-- Beyond the dimensions, it is all the same. -/
theorem fuse_far {vb db : Int} : Fuse (A := idTr) (B := liftTr vb db) (D := liftTr vb db) (fun (_ : Unit) (x y : Int × Int) => x.1 = y.1 ∧ 24 ≤ x.2 ∧ 24 ≤ y.2) where
  inl := fun ca cb cc k n nm r u _ _ h => (by injection h with h; cases h)
  inr := by
    rintro ca cb cc k n nm r p ⟨e1, e2, e3⟩ _ h
    injection h with h
    injection h with h
    subst h
    have h1 : ∀ l : List Cl, ∀ f : Int, 24 ≤ f → rowLift db l f = .ok l := fun l f hf => by unfold rowLift; rw [if_pos (.inr hf)]
    rw [lift_own_eq, lift_own_eq, h1 _ _ e2, h1 _ _ e3, e1]
  none := fun ca cb cc f _ _ h => (by injection h with h; cases h)
  some := by
    rintro ca cb cc f f' ⟨e1, e2, e3⟩ _ h
    injection h with h
    injection h with h
    subst h
    have h1 : ∀ l : List Cl, ∀ f : Int, 24 ≤ f → rowLift db l f = .ok l := fun l f hf => by unfold rowLift; rw [if_pos (.inr hf)]
    rw [lift_face_def, lift_face_def, h1 _ _ e2, h1 _ _ e3]
  kid := by
    rintro ca cb cc b' ca' hb1 hb2 ⟨e1, e2, e3⟩ h
    exact .inl ⟨_, _, rfl, rfl, by dsimp only; omega, by dsimp only; omega, by dsimp only; omega⟩
theorem lift_far {vb db : Int} {t : T} {v d d' : Int} (hf : fineT t) (h : 24 ≤ d) (h' : 24 ≤ d') : trav (liftTr vb db) t (v, d) = trav (liftTr vb db) t (v, d') :=
  fuse (fuse_far (vb := vb) (db := db)) hf (ca := ()) ⟨rfl, h, h'⟩ (id_eq t)
end Go.Hy
namespace Go.Hy
set_option linter.unusedVariables false
set_option linter.unusedSimpArgs false
set_option linter.unusedSectionVars false
set_option linter.unusedVariables false
set_option linter.unusedSimpArgs false
/-! ### LiftDims: the document's answers are the program's -/
def wrongR (t : T) (a b : Int) : Int := if formedP t ≠ 0 then formedP t else if a < 0 ∨ b < 0 then 2 else 0
def wrongV (t : T) (f b : Int) : Int := if wrongR t f b = 0 ∧ 1000000 < b then 2 else wrongR t f b
def doneR (x : T) : Int × T := if x.kind < 0 then (-x.kind, t0) else (0, x)
theorem done_lift {vb db : Int} {t : T} {v d : Int} (hf : fineT t) : doneR (liftRes vb db t v d) = asRes (trav (liftTr vb db) t (v, d)) := by
  unfold doneR
  rcases liftRes_alt (vb := vb) (db := db) (v := v) (d := d) hf with ⟨h1, h2⟩ | ⟨e, h1, h2, h3⟩
  · rw [if_neg (by omega), h1]; rfl
  · rw [h3, if_pos (refT_kind h1), h2]
    show (-(-e), t0) = (e, t0)
    rw [Int.neg_neg]
theorem lift_bad_le {vb db : Int} : ∀ (t : T) {c : Int × Int} {e : Int}, trav (liftTr vb db) t c = .bad e → e ≤ 100 := T.ind fun t ih c e h => by
  have hr : ∀ {l : List Cl} {f e : Int}, rowLift db l f = .bad e → e ≤ 100 := fun {l f e} h => by
    unfold rowLift at h
    split at h
    · cases h
    · split at h
      · cases h
      · injection h with h
        have := form_le (l := l) (f := f) (b := db)
        omega
  rcases trav_why h with h1 | ⟨b, _, h1⟩ | ⟨p, hp, h1 | ⟨c', _, h2⟩⟩
  · rw [lift_own_eq] at h1
    rcases bind_bad_of h1 with h2 | ⟨g, _, h2⟩
    · exact hr h2
    · split at h2
      · injection h2 with h2; omega
      · cases h2
  · rw [lift_face_def] at h1
    rcases bind_bad_of h1 with h2 | ⟨g, _, h2⟩
    · exact hr h2
    · cases h2
  · cases h1
  · exact ih p hp h2
theorem wrongR_zero {t : T} {a b : Int} : wrongR t a b = 0 ↔ formedP t = 0 ∧ 0 ≤ a ∧ 0 ≤ b := by
  unfold wrongR
  split
  · rename_i h; simp [h]
  · rename_i h
    split <;> omega
theorem vars_wrong {t : T} {f b : Int} (hb : in64 b) (h : wrongV t f b ≠ 0) : varsRes t f b = (wrongV t f b, t0) := by
  unfold wrongV at h ⊢
  unfold varsRes guardRes
  by_cases h1 : formedP t ≠ 0
  · have h2 : wrongR t f b = formedP t := by unfold wrongR; rw [if_pos h1]
    rw [if_pos h1, h2, if_neg (fun h3 => h1 h3.1)]
  · rw [if_neg h1]
    by_cases h2 : f < 0 ∨ b < 0
    · have h3 : wrongR t f b = 2 := by unfold wrongR; rw [if_neg h1, if_pos h2]
      rw [if_pos (by simp; omega), h3, if_neg (by omega)]
    · have h3 : wrongR t f b = 0 := by unfold wrongR; rw [if_neg h1, if_neg h2]
      rw [h3] at h ⊢
      by_cases h4 : 1000000 < b
      · rw [if_pos (by have := most_of hb (by omega); simp; omega), if_pos ⟨rfl, h4⟩]
      · rw [if_neg (fun h5 => h4 h5.2)] at h; exact absurd rfl h
theorem vars_right {t : T} {f b : Int} (hb : in64 b) (h : wrongV t f b = 0) : formedP t = 0 ∧ 0 ≤ f ∧ 0 ≤ b ∧ b ≤ 1000000 ∧ varsRes t f b = asRes (varsR t f b) := by
  unfold wrongV at h
  by_cases h1 : wrongR t f b = 0
  · obtain ⟨h2, h3, h4⟩ := wrongR_zero.mp h1
    by_cases h5 : 1000000 < b
    · rw [if_pos ⟨h1, h5⟩] at h; cases h
    · exact ⟨h2, h3, h4, by omega, guard_as h2 (by have := most_in64 h4 (by omega); simp [h3, h4, this])⟩
  · rw [if_neg (fun h2 => h1 h2.1)] at h; exact absurd h h1
theorem dims_wrong {t : T} {f b : Int} (h : wrongR t f b ≠ 0) : dimsRes t f b = (wrongR t f b, t0) := by
  unfold dimsRes guardRes
  by_cases h1 : formedP t ≠ 0
  · have h2 : wrongR t f b = formedP t := by unfold wrongR; rw [if_pos h1]
    rw [if_pos h1, h2]
  · rw [if_neg h1]
    by_cases h2 : f < 0 ∨ b < 0
    · have h3 : wrongR t f b = 2 := by unfold wrongR; rw [if_neg h1, if_pos h2]
      rw [if_pos (by simp; omega), h3]
    · exact absurd (wrongR_zero.mpr ⟨by omega, by omega, by omega⟩) h
theorem dims_right {t : T} {f b : Int} (h : wrongR t f b = 0) : dimsRes t f b = asRes (trav (liftTr 0 b) t (0, if 1000000000 < f then 1000000000 else f)) := by
  obtain ⟨h2, h3, h4⟩ := wrongR_zero.mp h
  rw [show dimsRes t f b = asRes (dimsR t f b) from guard_as h2 (by simp [h3, h4])]
  by_cases h5 : 24 < f
  · have := lift_far (vb := 0) (db := b) (v := 0) (d := if 24 < f then 24 else f) (d' := if 1000000000 < f then 1000000000 else f) (formed_fine.mp h2).2 (by split <;> omega) (by split <;> omega)
    show asRes (trav _ _ _) = _
    rw [this]
  · show asRes (trav _ _ (0, if 24 < f then 24 else f)) = _
    rw [if_neg h5, if_neg (by omega)]
def bothE (e d : Int) : Int := if e = 0 ∧ d < 0 then 2 else e
theorem both_wrong {t : T} {v d : Int} (hv : in64 v) (h : bothE (varsRes t 0 v).1 d ≠ 0) : bothRes t v d = ((if d < 0 ∧ bothE (varsRes t 0 v).1 d = 100 ∧ formedP t = 0 then 2 else bothE (varsRes t 0 v).1 d), t0) := by
  by_cases h1 : wrongV t 0 v = 0
  · obtain ⟨f1, _, f2, f3, f4⟩ := vars_right hv h1
    have hm := most_in64 f2 f3
    unfold bothRes guardRes
    rw [if_neg (by simp [f1])]
    by_cases hd : d < 0
    · rw [if_pos (by simp; omega)]
      have h2 : ¬ (d < 0 ∧ bothE (varsRes t 0 v).1 d = 100 ∧ formedP t = 0) → bothE (varsRes t 0 v).1 d = 2 := fun h3 => by
        unfold bothE at h3 ⊢
        rw [f4] at h3 ⊢
        cases hx : varsR t 0 v with
        | ok u => rw [if_pos ⟨rfl, hd⟩]
        | bad e =>
          rw [hx] at h3
          have he := var_bad hx
          exfalso
          apply h3
          refine ⟨hd, ?_, f1⟩
          show (if e = 0 ∧ d < 0 then 2 else e) = 100
          rw [if_neg (by omega), he]
      by_cases h4 : d < 0 ∧ bothE (varsRes t 0 v).1 d = 100 ∧ formedP t = 0
      · rw [if_pos h4]
      · rw [if_neg h4, h2 h4]
    · rw [if_neg (by simp; omega), if_neg (fun h2 => hd h2.1)]
      unfold bothE at h ⊢
      rw [if_neg (fun h2 => hd h2.2)] at h ⊢
      rw [f4] at h ⊢
      have hvr : varsR t 0 v = trav (liftTr v 0) t (0, 0) := rfl
      cases hx : varsR t 0 v with
      | ok u => rw [hx] at h; exact absurd rfl h
      | bad e =>
        rw [hvr] at hx
        show (match bothR t v d with | .ok u => (0, u) | .bad e => (e, t0)) = (e, t0)
        rw [show bothR t v d = .bad e from Res1.bind_bad hx]
  · have h2 := vars_wrong hv h1
    have h3 : ∀ e, (varsRes t 0 v).1 = e → e ≠ 0 → bothE (varsRes t 0 v).1 d = e := fun e he h0 => by unfold bothE; rw [he, if_neg (fun h4 => h0 h4.1)]
    by_cases h4 : formedP t ≠ 0
    · have h5 : wrongV t 0 v = formedP t := by unfold wrongV wrongR; rw [if_pos h4, if_neg (fun h6 => h4 h6.1)]
      rw [h5] at h2
      rw [h3 _ (by rw [h2]) h4, if_neg (fun h6 => h4 h6.2.2)]
      unfold bothRes guardRes
      rw [if_pos h4]
    · have h5 : wrongV t 0 v = 2 := by
        unfold wrongV at h1 ⊢
        split
        · rfl
        · rename_i h6
          rw [if_neg h6] at h1
          unfold wrongR at h1 ⊢
          rw [if_neg h4] at h1 ⊢
          split
          · rfl
          · rename_i h7; rw [if_neg h7] at h1; exact absurd rfl h1
      rw [h5] at h2
      rw [h3 _ (by rw [h2]) (by decide), if_neg (by omega)]
      unfold bothRes guardRes
      rw [if_neg h4, if_pos]
      by_cases h6 : v < 0
      · simp; omega
      · have h7 : 1000000 < v := by
          have hw : wrongR t 0 v = 0 := wrongR_zero.mpr ⟨by omega, by omega, by omega⟩
          unfold wrongV at h5
          rw [hw] at h5
          refine Decidable.byContradiction fun h8 => ?_
          rw [if_neg (fun h9 => h8 h9.2)] at h5
          cases h5
        have := most_of hv (by omega)
        simp; omega
theorem both_right {t : T} {v d : Int} (hv : in64 v) (h : bothE (varsRes t 0 v).1 d = 0) : bothRes t v d = asRes (trav (liftTr 0 d) (varsRes t 0 v).2 (0, 0)) ∧ fineT (varsRes t 0 v).2 ∧ 0 ≤ d ∧ size (varsRes t 0 v).2 = size t ∧ size t ≤ 20000 := by
  have h0 : (varsRes t 0 v).1 = 0 ∧ ¬ d < 0 := by
    unfold bothE at h
    split at h
    · cases h
    · rename_i h1; exact ⟨h, fun h2 => h1 ⟨h, h2⟩⟩
  by_cases h1 : wrongV t 0 v = 0
  · obtain ⟨f1, _, f2, f3, f4⟩ := vars_right hv h1
    rw [f4] at h0
    have hvr : varsR t 0 v = trav (liftTr v 0) t (0, 0) := rfl
    cases hx : varsR t 0 v with
    | bad e => rw [hx] at h0; have := var_bad hx; have := h0.1; simp only [asRes] at this; omega
    | ok u =>
      rw [f4, hx]
      rw [hvr] at hx
      have hfine := (formed_fine.mp f1).2
      refine ⟨?_, lift_fine f2 hfine hx, by omega, lift_size hx, formed_size f1⟩
      rw [show bothRes t v d = asRes (bothR t v d) from guard_as f1 (by have := most_in64 f2 f3; simp [f2, this]; omega)]
      show asRes (Res1.bind _ _) = asRes (trav (liftTr 0 d) u (0, 0))
      rw [hx]; rfl
  · rw [vars_wrong hv h1] at h0; exact absurd h0.1 h1
end Go.Hy
namespace Go.Hy
set_option linter.unusedVariables false
set_option linter.unusedSimpArgs false
set_option linter.unusedSectionVars false
open Go.Proofs
set_option linter.unusedVariables false
set_option linter.unusedSimpArgs false
set_option maxRecDepth 100000
theorem rpower (n : Int) (h0 : 0 ≤ n) (hn : n ≤ 40) : Spec Tryz.prog 123 #[.int .i64 (n)] [] [] (fun _ : Unit => .int .i64 (((2 ^ n.toNat : Nat) : Int))) (fun _ : Unit => []) (fun _ : Unit => []) := by
  refine spec_go (args := [.int .i64 (n)]) Tryz.func123 Tryz.ntmps123 rfl (by exact Nat.le_of_ble_eq_true rfl) fun B hB => ?_
  refine go_seq ?_
  refine go_region ⟨_, Tryz.func123⟩ rfl ?_
  refine q0 rfl (o_assign ?_)
  refine rg_nil ?_
  refine go_seq ?_
  refine go_region ⟨_, Tryz.func123⟩ rfl ?_
  refine q0 rfl (o_assign ?_)
  refine rg_nil ?_
  refine go_seq ?_
  refine go_seq ?_
  refine go_region ⟨_, Tryz.func123⟩ rfl ?_
  refine q0 rfl (o_assign ?_)
  refine rg_nil ?_
  refine go_block ?_
  refine go_loopE (X := Nat) (fun s_ => (s_ : Int) ≤ n) (fun s_ => [(0, .int .i64 (n)), (3, .int .i64 (((2 ^ s_ : Nat) : Int))), (4, .int .i64 ((s_ : Int)))]) (fun s_ G_ => G_) (fun s_ => []) (fun s_ => n.toNat - s_) (0) (by simpa using h0) (by exact ⟨rfl, rfl, rfl, trivial⟩) ?_ ?_
  · exact fun w hs => hs
  · intro i base0 hi0 next0
    have hpw : 2 ^ i ≤ 2 ^ 40 := Nat.pow_le_pow_right (by omega) (by omega)
    have hpz : (0 : Int) ≤ ((2 ^ i : Nat) : Int) := Int.natCast_nonneg _
    refine go_seq ?_
    refine go_seq ?_
    refine go_region ⟨_, Tryz.func123⟩ rfl ?_
    refine q0 rfl (o_move ?_)
    refine q0 rfl (o_move ?_)
    refine q0 rfl (o_lss ?_)
    refine rg_nil ?_
    refine go_condI (fun h7 => ?_) (fun h7 => ?_)
    · have c7 : (decide ((i : Int) < n)) = true := h7
      try simp only [sC, bne_iff_ne, beq_iff_eq, ne_eq] at c7
      refine go_skip ?_
      refine go_seq ?_
      refine go_block ?_
      refine go_region ⟨_, Tryz.func123⟩ rfl ?_
      refine q0 rfl (o_move ?_)
      refine q0 rfl (o_mul ?_)
      refine q0 rfl (o_assign ?_)
      refine rg_nil ?_
      refine go_inBlock ?_
      refine go_region ⟨_, Tryz.func123⟩ rfl ?_
      refine q0 rfl (o_move ?_)
      refine q0 rfl (o_add ?_)
      refine q0 rfl (o_assign ?_)
      refine rg_nil ?_
      refine go_state (fun w hs => ?_) (next0 (i + 1) _ (by omega) (by omega) ⟨rfl, (by (conv => lhs; whnf); rw [Nat.pow_succ]; push_cast; rfl), rfl, trivial⟩)
      exact (hs.less (by simp +contextual))
    · have c7 : (decide ((i : Int) < n)) = false := h7
      try simp only [sC, bne_iff_ne, beq_iff_eq, ne_eq] at c7
      have he : n.toNat = i := by omega
      refine go_exit rfl ?_
      refine go_seq ?_
      refine go_region ⟨_, Tryz.func123⟩ rfl ?_
      refine q0 rfl (o_move ?_)
      refine q0 rfl (o_assign ?_)
      refine rg_nil ?_
      refine ret1 Tryz.func123 Tryz.results123 wn_ () (by rw [he]) (fun w hs => hs.none)
theorem rhas (s : Nat) (i : Int) (hs : s < 4294967296) : Spec Tryz.prog 109 #[.int .u32 ((s : Nat) : Int), .int .i64 (i)] [] [] (fun _ : Unit => .bool ((hasM s i))) (fun _ : Unit => []) (fun _ : Unit => []) := by
  refine spec_go (args := [.int .u32 ((s : Nat) : Int), .int .i64 (i)]) Tryz.func109 Tryz.ntmps109 rfl (by exact Nat.le_of_ble_eq_true rfl) fun B hB => ?_
  refine go_seq ?_
  refine go_region ⟨_, Tryz.func109⟩ rfl ?_
  refine q0 rfl (o_assign ?_)
  refine rg_nil ?_
  refine go_seq ?_
  refine go_cutS ([(4, .bool (((decide (0 ≤ i)) && (decide (i < 24))) && (decide (((s / 2 ^ i.toNat % 2 : Nat) : Int) = 1))))]) (fun hK => ?_) (fun base => ?_)
  · refine go_region ⟨_, Tryz.func109⟩ rfl ?_
    refine q0 rfl (o_move ?_)
    refine q0 rfl (o_geq ?_)
    refine q0 rfl (o_move ?_)
    refine qI rfl rfl rfl wl_ (fun hg7 => ?_) (fun hg7 => ?_)
    · have g7 : (decide (0 ≤ i)) = true := hg7
      try simp only [sC, bne_iff_ne, beq_iff_eq, ne_eq] at g7
      refine o_move ?_
      refine qT rfl rfl rfl (o_lss ?_)
      refine q0 rfl (o_pickT ?_)
      refine q0 rfl (o_move ?_)
      refine qI rfl rfl rfl wl_ (fun hg11 => ?_) (fun hg11 => ?_)
      · have g11 : (decide (i < 24)) = true := hg11
        try simp only [sC, bne_iff_ne, beq_iff_eq, ne_eq] at g11
        refine o_move ?_
        refine qT rfl rfl rfl (o_convUI ?_)
        refine qT rfl rfl rfl (o_move ?_)
        refine qT rfl rfl rfl (o_call Tryz.call123 (rpower i om_ om_) (fun x15 => ?_))
        refine qT rfl rfl rfl (o_quoN ?_ (a := s) (b := 2 ^ i.toNat))
        refine qT rfl rfl rfl (o_remN ?_ (a := s / 2 ^ i.toNat) (b := 2))
        refine qT rfl rfl rfl (o_eqI ?_ (a := ((s / 2 ^ i.toNat % 2 : Nat) : Int)) (b := 1))
        refine q0 rfl (o_pickT ?_)
        refine q0 rfl (o_assign ?_)
        refine rg_nil ?_
        exact hK _ ⟨(by first | rfl | ((conv => lhs; whnf); first | (simp_all [hasM_eq]; done) | (simp_all [hasM_eq]; omega))), trivial⟩
      · have g11 : (decide (i < 24)) = false := hg11
        try simp only [sC, bne_iff_ne, beq_iff_eq, ne_eq] at g11
        refine qF rfl rfl rfl ?_
        refine qF rfl rfl rfl ?_
        refine qF rfl rfl rfl ?_
        refine qF rfl rfl rfl ?_
        refine qF rfl rfl rfl ?_
        refine qF rfl rfl rfl ?_
        refine q0 rfl (o_pickF ?_)
        refine q0 rfl (o_assign ?_)
        refine rg_nil ?_
        exact hK _ ⟨(by first | rfl | ((conv => lhs; whnf); first | (simp_all [hasM_eq]; done) | (simp_all [hasM_eq]; omega))), trivial⟩
    · have g7 : (decide (0 ≤ i)) = false := hg7
      try simp only [sC, bne_iff_ne, beq_iff_eq, ne_eq] at g7
      refine qF rfl rfl rfl ?_
      refine q0 rfl (o_pickF ?_)
      refine q0 rfl (o_move ?_)
      refine qF rfl rfl rfl ?_
      refine qF rfl rfl rfl ?_
      refine qF rfl rfl rfl ?_
      refine qF rfl rfl rfl ?_
      refine qF rfl rfl rfl ?_
      refine qF rfl rfl rfl ?_
      refine qF rfl rfl rfl ?_
      refine q0 rfl (o_pickF ?_)
      refine q0 rfl (o_assign ?_)
      refine rg_nil ?_
      exact hK _ ⟨(by first | rfl | ((conv => lhs; whnf); first | (simp_all [hasM_eq]; done) | (simp_all [hasM_eq]; omega))), trivial⟩
  · refine ret1 Tryz.func109 Tryz.results109 wn_ () (congrArg Value.bool (by rw [hasM_eq, show decide (((s / 2 ^ i.toNat % 2 : Nat) : Int) = 1) = decide (s / 2 ^ i.toNat % 2 = 1) from decide_eq_decide.mpr (by omega)])) (fun w hs => hs.none)
theorem p24 : (2 ^ (24 : Int).toNat : Nat) = 16777216 := by decide +kernel
theorem rmright (s : Nat) (hs : s < 4294967296) : Spec Tryz.prog 121 #[.int .u32 ((s : Nat) : Int)] [] [] (fun _ : Unit => .bool ((decide (s < 16777216)))) (fun _ : Unit => []) (fun _ : Unit => []) := by
  refine spec_go (args := [.int .u32 ((s : Nat) : Int)]) Tryz.func121 Tryz.ntmps121 rfl (by exact Nat.le_of_ble_eq_true rfl) fun B hB => ?_
  refine go_seq ?_
  refine go_region ⟨_, Tryz.func121⟩ rfl ?_
  refine q0 rfl (o_assign ?_)
  refine rg_nil ?_
  refine go_seq ?_
  refine go_region ⟨_, Tryz.func121⟩ rfl ?_
  refine q0 rfl (o_move ?_)
  refine q0 rfl (o_convUI ?_)
  refine q0 rfl (o_call Tryz.call123 (rpower 24 om_ om_) (fun x5 => ?_))
  refine q0 rfl (o_lss ?_)
  refine q0 rfl (o_assign ?_)
  refine rg_nil ?_
  refine ret1 Tryz.func121 Tryz.results121 wn_ () (congrArg Value.bool (decide_eq_decide.mpr (by rw [p24]; omega))) (fun w hs => hs.none)
theorem rlist (s : Nat) (hs : s < 4294967296) : Spec Tryz.prog 86 #[.int .u32 ((s : Nat) : Int)] [] [] (fun x : SH => sl x (listM s).length) (fun x : SH => [IL (listM s) x]) (fun x : SH => []) := by
  refine spec_go (args := [.int .u32 ((s : Nat) : Int)]) Tryz.func86 Tryz.ntmps86 rfl (by exact Nat.le_of_ble_eq_true rfl) fun B hB => ?_
  refine go_seq ?_
  refine go_region ⟨_, Tryz.func86⟩ rfl ?_
  refine q0 rfl (o_assign ?_)
  refine rg_nil ?_
  refine go_seq ?_
  refine go_region ⟨_, Tryz.func86⟩ rfl ?_
  refine q0 rfl (o_assign ?_)
  refine rg_nil ?_
  refine go_seq ?_
  refine go_seq ?_
  refine go_region ⟨_, Tryz.func86⟩ rfl ?_
  refine q0 rfl (o_assign ?_)
  refine rg_nil ?_
  refine go_block ?_
  refine go_loopE (X := Nat × SH) (fun s_ => s_.1 ≤ 24) (fun s_ => [(0, .int .u32 ((s : Nat) : Int)), (3, sl s_.2 ((listTo s s_.1).length)), (4, .int .i64 ((s_.1 : Int)))]) (fun s_ G_ => G_) (fun s_ => [rowS 1 3 s_.2 ((listTo s s_.1).length) (intFlat (listTo s s_.1))]) (fun s_ => 24 - s_.1) (0, (none, 0)) (by omega) (by exact ⟨rfl, rfl, rfl, trivial⟩) ?_ ?_
  · exact fun w hs => (hs.rowS0 1 3)
  · intro ⟨i, a⟩ base0 hi0 next0
    dsimp only at hi0 next0 ⊢
    have hln := listTo_len s i
    refine go_seq ?_
    refine go_seq ?_
    refine go_region ⟨_, Tryz.func86⟩ rfl ?_
    refine q0 rfl (o_move ?_)
    refine q0 rfl (o_lss ?_)
    refine rg_nil ?_
    refine go_condI (fun h6 => ?_) (fun h6 => ?_)
    · have c6 : (decide ((i : Int) < 24)) = true := h6
      try simp only [sC, bne_iff_ne, beq_iff_eq, ne_eq] at c6
      refine go_skip ?_
      refine go_seq ?_
      refine go_block ?_
      refine go_seq ?_
      refine go_region ⟨_, Tryz.func86⟩ rfl ?_
      refine q0 rfl (o_move ?_)
      refine q0 rfl (o_move ?_)
      refine q0 rfl (o_call Tryz.call109 (rhas s (i : Int) om_) (fun x11 => ?_))
      refine rg_nil ?_
      refine go_condI (fun h11 => ?_) (fun h11 => ?_)
      · have c11 : ((hasM s (i : Int))) = true := h11
        try simp only [sC, bne_iff_ne, beq_iff_eq, ne_eq] at c11
        refine go_region ⟨_, Tryz.func86⟩ rfl ?_
        refine q0 rfl (o_move ?_)
        refine q0 rfl (o_move ?_)
        refine q0 rfl (o_lit1 fun b14 => ?_)
        refine q0 rfl (o_appS (fun a15 => ?_) (a := a) (n' := (listTo s i).length))
        refine rg_state (fun w hs => ((hs.perm perm1).drop).snocI) ?_
        refine q0 rfl (o_assign ?_)
        refine rg_nil ?_
        refine go_inBlock ?_
        refine go_region ⟨_, Tryz.func86⟩ rfl ?_
        refine q0 rfl (o_move ?_)
        refine q0 rfl (o_add ?_)
        refine q0 rfl (o_assign ?_)
        refine rg_nil ?_
        have hnx : listTo s (i + 1) = listTo s i ++ [(i : Int)] := by rw [listTo_succ, if_pos]; simp [hasM] at c11; exact c11.2
        refine go_state (fun w hs => ?_) (next0 (i + 1, a15) _ (by omega) (by (try simp only); omega) ⟨rfl, (by (conv => lhs; whnf); simp [sl, hnx]), rfl, trivial⟩)
        rw [hnx]; simpa using (hs.less (by simp +contextual))
      · have c11 : ((hasM s (i : Int))) = false := h11
        try simp only [sC, bne_iff_ne, beq_iff_eq, ne_eq] at c11
        refine go_skip ?_
        refine go_inBlock ?_
        refine go_region ⟨_, Tryz.func86⟩ rfl ?_
        refine q0 rfl (o_move ?_)
        refine q0 rfl (o_add ?_)
        refine q0 rfl (o_assign ?_)
        refine rg_nil ?_
        have hnx : listTo s (i + 1) = listTo s i := by rw [listTo_succ, if_neg]; simp [hasM] at c11; simp [c11 (by omega)]
        refine go_state (fun w hs => ?_) (next0 (i + 1, a) _ (by omega) (by (try simp only); omega) ⟨rfl, (by (conv => lhs; whnf); simp [sl, hnx]), rfl, trivial⟩)
        rw [hnx]; exact (hs.less (by simp +contextual))
    · have c6 : (decide ((i : Int) < 24)) = false := h6
      try simp only [sC, bne_iff_ne, beq_iff_eq, ne_eq] at c6
      refine go_exit rfl ?_
      refine go_seq ?_
      refine go_region ⟨_, Tryz.func86⟩ rfl ?_
      refine q0 rfl (o_move ?_)
      refine q0 rfl (o_assign ?_)
      refine rg_nil ?_
      have he : i = 24 := by omega
      subst he
      refine ret1 Tryz.func86 Tryz.results86 wn_ a rfl (fun w hs => (hs.settleIL hB rfl rfl (by unfold reach; omega) (fun c hc => by have := listTo_in hc; unfold in64; omega)).less (by simp))
theorem rset (l : List Int) (a_l : SH) (hl : l.length ≤ 64) (hx : ∀ x, x ∈ l → 0 ≤ x ∧ x < 24) : Spec Tryz.prog 110 #[sl a_l (l.length)] [IL l a_l] [] (fun _ : Unit => .int .u32 (((setM l) : Nat) : Int)) (fun _ : Unit => []) (fun _ : Unit => []) := by
  refine spec_go (args := [sl a_l (l.length)]) Tryz.func110 Tryz.ntmps110 rfl (by exact Nat.le_of_ble_eq_true rfl) fun B hB => ?_
  refine go_openIL (l := l) (a := a_l) (fun hl1 hA1 hU1 => ?_)
  refine go_seq ?_
  refine go_region ⟨_, Tryz.func110⟩ rfl ?_
  refine q0 rfl (o_assign ?_)
  refine rg_nil ?_
  refine go_seq ?_
  refine go_region ⟨_, Tryz.func110⟩ rfl ?_
  refine q0 rfl (o_assign ?_)
  refine rg_nil ?_
  refine go_seq ?_
  refine go_seq ?_
  refine go_region ⟨_, Tryz.func110⟩ rfl ?_
  refine q0 rfl (o_assign ?_)
  refine rg_nil ?_
  refine go_block ?_
  refine go_loopE (X := Nat) (fun s_ => s_ ≤ l.length) (fun s_ => [(0, sl a_l (l.length)), (3, .int .i64 (((setTo l s_ : Nat) : Int))), (4, .int .i64 ((s_ : Int)))]) (fun s_ G_ => G_) (fun s_ => []) (fun s_ => l.length - s_) (0) (by omega) (by exact ⟨rfl, (by rw [setTo_zero]; rfl), rfl, trivial⟩) ?_ ?_
  · exact fun w hs => hs
  · intro i base0 hi0 next0
    have hst := setTo_le hx i
    refine go_seq ?_
    refine go_seq ?_
    refine go_region ⟨_, Tryz.func110⟩ rfl ?_
    refine q0 rfl (o_move ?_)
    refine q0 rfl (o_move ?_)
    refine q0 rfl (o_len ?_)
    refine q0 rfl (o_lss ?_)
    refine rg_nil ?_
    refine go_condI (fun h8 => ?_) (fun h8 => ?_)
    · have c8 : (decide ((i : Int) < (l.length : Int))) = true := h8
      try simp only [sC, bne_iff_ne, beq_iff_eq, ne_eq] at c8
      have hgx := hx _ (getD_mem (d := 0) (show i < l.length by omega))
      have hg2 : 2 ^ (l.getD i 0).toNat ≤ 2 ^ 24 := Nat.pow_le_pow_right (by omega) (by omega)
      have hpz : (0 : Int) ≤ ((2 ^ (l.getD i 0).toNat : Nat) : Int) := Int.natCast_nonneg _
      refine go_skip ?_
      refine go_seq ?_
      refine go_block ?_
      refine go_region ⟨_, Tryz.func110⟩ rfl ?_
      refine q0 rfl (o_move ?_)
      refine q0 rfl (o_move ?_)
      refine q0 rfl (o_move ?_)
      obtain ⟨bk2, o2, hav2⟩ := hA1 (by omega)
      refine q0 rfl (o_ixN ?_ (j := i))
      refine q0 rfl (o_ldI ?_)
      refine q0 rfl (o_call Tryz.call123 (rpower (l.getD i 0) om_ om_) (fun x16 => ?_))
      refine q0 rfl (o_add ?_)
      refine q0 rfl (o_assign ?_)
      refine rg_nil ?_
      refine go_inBlock ?_
      refine go_region ⟨_, Tryz.func110⟩ rfl ?_
      refine q0 rfl (o_move ?_)
      refine q0 rfl (o_add ?_)
      refine q0 rfl (o_assign ?_)
      refine rg_nil ?_
      refine go_state (fun w hs => ?_) (next0 (i + 1) _ (by omega) (by omega) ⟨rfl, (by (conv => lhs; whnf); rw [setTo_succ (by omega)]; push_cast; rfl), rfl, trivial⟩)
      exact (hs.less (by simp +contextual))
    · have c8 : (decide ((i : Int) < (l.length : Int))) = false := h8
      try simp only [sC, bne_iff_ne, beq_iff_eq, ne_eq] at c8
      have he : i = l.length := by omega
      subst he
      rw [setTo_all] at hst ⊢
      refine go_exit rfl ?_
      refine go_seq ?_
      refine go_region ⟨_, Tryz.func110⟩ rfl ?_
      refine q0 rfl (o_move ?_)
      refine q0 rfl (o_convIU ?_ (a := setM l))
      refine q0 rfl (o_assign ?_)
      refine rg_nil ?_
      refine ret1 Tryz.func110 Tryz.results110 wn_ () (by first | rfl | (simp_all; done) | (simp_all; omega)) (fun w hs => hs.none)
end Go.Hy
namespace Go.Hy
set_option linter.unusedVariables false
set_option linter.unusedSimpArgs false
set_option linter.unusedSectionVars false
open Go.Proofs
set_option linter.unusedVariables false
set_option linter.unusedSimpArgs false
set_option maxRecDepth 100000
theorem rcright (c : Cl) (hc : u32 c) : Spec Tryz.prog 105 #[keyV c] [] [] (fun _ : Unit => .bool ((right24 c))) (fun _ : Unit => []) (fun _ : Unit => []) := by
  refine spec_go (args := [keyV c]) Tryz.func105 Tryz.ntmps105 rfl (by exact Nat.le_of_ble_eq_true rfl) fun B hB => ?_
  have hc1 := hc.1
  have hc2 := hc.2
  refine go_seq ?_
  refine go_region ⟨_, Tryz.func105⟩ rfl ?_
  refine q0 rfl (o_box fun b1 => ?_)
  refine q0 rfl (o_assign ?_)
  refine rg_nil ?_
  refine go_seq ?_
  refine go_cutS ([(2, .bool ((decide (((c).pos) < 16777216)) && (decide (((c).neg) < 16777216))))]) (fun hK => ?_) (fun base => ?_)
  · refine go_region ⟨_, Tryz.func105⟩ rfl ?_
    refine q0 rfl (o_fa ?_)
    refine q0 rfl (o_ld ?_)
    refine q0 rfl (o_call Tryz.call121 (rmright ((c).pos) om_) (fun x5 => ?_))
    refine q0 rfl (o_move ?_)
    refine qI rfl rfl rfl wl_ (fun hg6 => ?_) (fun hg6 => ?_)
    · have g6 : ((decide (((c).pos) < 16777216))) = true := hg6
      try simp only [sC, bne_iff_ne, beq_iff_eq, ne_eq] at g6
      refine o_fa ?_
      refine qT rfl rfl rfl (o_ld ?_)
      refine qT rfl rfl rfl (o_call Tryz.call121 (rmright ((c).neg) om_) (fun x9 => ?_))
      refine q0 rfl (o_pickT ?_)
      refine q0 rfl (o_assign ?_)
      refine rg_nil ?_
      exact hK _ ⟨(by first | rfl | ((conv => lhs; whnf); first | (simp_all [right24]; done) | (simp_all [right24]; omega))), trivial⟩
    · have g6 : ((decide (((c).pos) < 16777216))) = false := hg6
      try simp only [sC, bne_iff_ne, beq_iff_eq, ne_eq] at g6
      refine qF rfl rfl rfl ?_
      refine qF rfl rfl rfl ?_
      refine q0 rfl (o_pickF ?_)
      refine q0 rfl (o_assign ?_)
      refine rg_nil ?_
      exact hK _ ⟨(by first | rfl | ((conv => lhs; whnf); first | (simp_all [right24]; done) | (simp_all [right24]; omega))), trivial⟩
  · refine ret1 Tryz.func105 Tryz.results105 wn_ () (by first | rfl | (simp_all [right24]; done) | (simp_all [right24]; omega)) (fun w hs => hs.none)
theorem rbelow (c : Cl) (d : Cl) (hc : u32 c) (hd : u32 d) : Spec Tryz.prog 122 #[keyV c, keyV d] [] [] (fun _ : Unit => .bool ((below c d))) (fun _ : Unit => []) (fun _ : Unit => []) := by
  refine spec_go (args := [keyV c, keyV d]) Tryz.func122 Tryz.ntmps122 rfl (by exact Nat.le_of_ble_eq_true rfl) fun B hB => ?_
  have hc1 := hc.1
  have hc2 := hc.2
  have hd1 := hd.1
  have hd2 := hd.2
  refine go_seq ?_
  refine go_region ⟨_, Tryz.func122⟩ rfl ?_
  refine q0 rfl (o_box fun b2 => ?_)
  refine q0 rfl (o_box fun b3 => ?_)
  refine q0 rfl (o_assign ?_)
  refine rg_nil ?_
  refine go_seq ?_
  refine go_cutS ([(4, .bool ((decide ((((c).pos) ||| ((d).pos)) = ((c).pos))) && (decide ((((c).neg) ||| ((d).neg)) = ((c).neg)))))]) (fun hK => ?_) (fun base => ?_)
  · refine go_region ⟨_, Tryz.func122⟩ rfl ?_
    refine q0 rfl (o_fa ?_)
    refine q0 rfl (o_ld ?_)
    refine q0 rfl (o_fa ?_)
    refine q0 rfl (o_ld ?_)
    refine q0 rfl (o_orU32 ?_ (a := ((c).pos)) (b := ((d).pos)))
    refine q0 rfl (o_fa ?_)
    refine q0 rfl (o_ld ?_)
    refine q0 rfl (o_eqU ?_ (a := (((c).pos) ||| ((d).pos))) (b := ((c).pos)))
    refine q0 rfl (o_move ?_)
    refine qI rfl rfl rfl wl_ (fun hg13 => ?_) (fun hg13 => ?_)
    · have g13 : (decide ((((c).pos) ||| ((d).pos)) = ((c).pos))) = true := hg13
      try simp only [sC, bne_iff_ne, beq_iff_eq, ne_eq] at g13
      refine o_fa ?_
      refine qT rfl rfl rfl (o_ld ?_)
      refine qT rfl rfl rfl (o_fa ?_)
      refine qT rfl rfl rfl (o_ld ?_)
      refine qT rfl rfl rfl (o_orU32 ?_ (a := ((c).neg)) (b := ((d).neg)))
      refine qT rfl rfl rfl (o_fa ?_)
      refine qT rfl rfl rfl (o_ld ?_)
      refine qT rfl rfl rfl (o_eqU ?_ (a := (((c).neg) ||| ((d).neg))) (b := ((c).neg)))
      refine q0 rfl (o_pickT ?_)
      refine q0 rfl (o_assign ?_)
      refine rg_nil ?_
      exact hK _ ⟨(by first | rfl | ((conv => lhs; whnf); first | (simp_all [below]; done) | (simp_all [below]; omega))), trivial⟩
    · have g13 : (decide ((((c).pos) ||| ((d).pos)) = ((c).pos))) = false := hg13
      try simp only [sC, bne_iff_ne, beq_iff_eq, ne_eq] at g13
      refine qF rfl rfl rfl ?_
      refine qF rfl rfl rfl ?_
      refine qF rfl rfl rfl ?_
      refine qF rfl rfl rfl ?_
      refine qF rfl rfl rfl ?_
      refine qF rfl rfl rfl ?_
      refine qF rfl rfl rfl ?_
      refine q0 rfl (o_pickF ?_)
      refine q0 rfl (o_assign ?_)
      refine rg_nil ?_
      exact hK _ ⟨(by first | rfl | ((conv => lhs; whnf); first | (simp_all [below]; done) | (simp_all [below]; omega))), trivial⟩
  · refine ret1 Tryz.func122 Tryz.results122 wn_ () (by first | rfl | (simp_all [below]; done) | (simp_all [below]; omega)) (fun w hs => hs.none)
theorem rless (c : Cl) (d : Cl) (hc : u32 c) (hd : u32 d) : Spec Tryz.prog 108 #[keyV c, keyV d] [] [] (fun _ : Unit => .bool ((lessC c d))) (fun _ : Unit => []) (fun _ : Unit => []) := by
  refine spec_go (args := [keyV c, keyV d]) Tryz.func108 Tryz.ntmps108 rfl (by exact Nat.le_of_ble_eq_true rfl) fun B hB => ?_
  have hc1 := hc.1
  have hc2 := hc.2
  have hd1 := hd.1
  have hd2 := hd.2
  refine go_seq ?_
  refine go_region ⟨_, Tryz.func108⟩ rfl ?_
  refine q0 rfl (o_box fun b2 => ?_)
  refine q0 rfl (o_box fun b3 => ?_)
  refine q0 rfl (o_assign ?_)
  refine rg_nil ?_
  refine go_seq ?_
  refine go_cutS ([(4, .bool ((decide (((c).pos) < ((d).pos))) || ((decide (((c).pos) = ((d).pos))) && (decide (((c).neg) < ((d).neg))))))]) (fun hK => ?_) (fun base => ?_)
  · refine go_region ⟨_, Tryz.func108⟩ rfl ?_
    refine q0 rfl (o_fa ?_)
    refine q0 rfl (o_ld ?_)
    refine q0 rfl (o_fa ?_)
    refine q0 rfl (o_ld ?_)
    refine q0 rfl (o_lssU ?_ (a := ((c).pos)) (b := ((d).pos)))
    refine q0 rfl (o_move ?_)
    refine qI rfl rfl rfl wl_ (fun hg10 => ?_) (fun hg10 => ?_)
    · have g10 : (decide (((c).pos) < ((d).pos))) = false := hg10
      try simp only [sC, bne_iff_ne, beq_iff_eq, ne_eq] at g10
      refine o_fa ?_
      refine qT rfl rfl rfl (o_ld ?_)
      refine qT rfl rfl rfl (o_fa ?_)
      refine qT rfl rfl rfl (o_ld ?_)
      refine qT rfl rfl rfl (o_eqU ?_ (a := ((c).pos)) (b := ((d).pos)))
      refine qT rfl rfl rfl (o_move ?_)
      refine qI rfl rfl rfl wl_ (fun hg16 => ?_) (fun hg16 => ?_)
      · have g16 : (decide (((c).pos) = ((d).pos))) = true := hg16
        try simp only [sC, bne_iff_ne, beq_iff_eq, ne_eq] at g16
        refine o_fa ?_
        refine qT rfl rfl rfl (o_ld ?_)
        refine qT rfl rfl rfl (o_fa ?_)
        refine qT rfl rfl rfl (o_ld ?_)
        refine qT rfl rfl rfl (o_lssU ?_ (a := ((c).neg)) (b := ((d).neg)))
        refine qT rfl rfl rfl (o_pickT ?_)
        refine q0 rfl (o_pickF ?_)
        refine q0 rfl (o_assign ?_)
        refine rg_nil ?_
        exact hK _ ⟨(by first | rfl | ((conv => lhs; whnf); first | (simp_all [lessC]; done) | (simp_all [lessC]; omega))), trivial⟩
      · have g16 : (decide (((c).pos) = ((d).pos))) = false := hg16
        try simp only [sC, bne_iff_ne, beq_iff_eq, ne_eq] at g16
        refine qF rfl rfl rfl ?_
        refine qF rfl rfl rfl ?_
        refine qF rfl rfl rfl ?_
        refine qF rfl rfl rfl ?_
        refine qT rfl rfl rfl (o_pickF ?_)
        refine q0 rfl (o_pickF ?_)
        refine q0 rfl (o_assign ?_)
        refine rg_nil ?_
        exact hK _ ⟨(by first | rfl | ((conv => lhs; whnf); first | (simp_all [lessC]; done) | (simp_all [lessC]; omega))), trivial⟩
    · have g10 : (decide (((c).pos) < ((d).pos))) = true := hg10
      try simp only [sC, bne_iff_ne, beq_iff_eq, ne_eq] at g10
      refine qF rfl rfl rfl ?_
      refine qF rfl rfl rfl ?_
      refine qF rfl rfl rfl ?_
      refine qF rfl rfl rfl ?_
      refine qF rfl rfl rfl ?_
      refine qU rfl rfl rfl ?_
      refine qU rfl rfl rfl ?_
      refine qU rfl rfl rfl ?_
      refine qU rfl rfl rfl ?_
      refine qU rfl rfl rfl ?_
      refine qF rfl rfl rfl ?_
      refine q0 rfl (o_pickT ?_)
      refine q0 rfl (o_assign ?_)
      refine rg_nil ?_
      exact hK _ ⟨(by first | rfl | ((conv => lhs; whnf); first | (simp_all [lessC]; done) | (simp_all [lessC]; omega))), trivial⟩
  · refine ret1 Tryz.func108 Tryz.results108 wn_ () (by first | rfl | (simp_all [lessC]; done) | (simp_all [lessC]; omega)) (fun w hs => hs.none)
theorem rclash_spec (c : Cl) (hc : u32 c) : Spec Tryz.prog 85 #[keyV c] [] [] (fun _ : Unit => .bool ((rclash c))) (fun _ : Unit => []) (fun _ : Unit => []) := by
  refine spec_go (args := [keyV c]) Tryz.func85 Tryz.ntmps85 rfl (by exact Nat.le_of_ble_eq_true rfl) fun B hB => ?_
  have hc1 := hc.1
  have hc2 := hc.2
  refine go_seq ?_
  refine go_region ⟨_, Tryz.func85⟩ rfl ?_
  refine q0 rfl (o_box fun b1 => ?_)
  refine q0 rfl (o_assign ?_)
  refine rg_nil ?_
  refine go_seq ?_
  refine go_seq ?_
  refine go_region ⟨_, Tryz.func85⟩ rfl ?_
  refine q0 rfl (o_assign ?_)
  refine rg_nil ?_
  refine go_block ?_
  refine go_loopE (X := Nat) (fun s_ => s_ ≤ 24 ∧ ∀ j, j < s_ → (hasM c.pos (j : Int) && hasM c.neg (j : Int)) = false) (fun s_ => [(1, .pointer (some ⟨b1, 0, none⟩)), (3, .int .i64 ((s_ : Int)))]) (fun s_ G_ => G_) (fun s_ => [boxR b1 (clCells c) 55]) (fun s_ => 24 - s_) (0) (⟨by omega, fun j hj => by omega⟩) (by exact ⟨rfl, rfl, trivial⟩) ?_ ?_
  · exact fun w hs => hs
  · intro i base0 ⟨hi, hok⟩ next0
    refine go_seq ?_
    refine go_seq ?_
    refine go_region ⟨_, Tryz.func85⟩ rfl ?_
    refine q0 rfl (o_move ?_)
    refine q0 rfl (o_lss ?_)
    refine rg_nil ?_
    refine go_condI (fun h5 => ?_) (fun h5 => ?_)
    · have c5 : (decide ((i : Int) < 24)) = true := h5
      try simp only [sC, bne_iff_ne, beq_iff_eq, ne_eq] at c5
      refine go_skip ?_
      refine go_seq ?_
      refine go_block ?_
      refine go_seq ?_
      refine go_cutS ([(1, .pointer (some ⟨b1, 0, none⟩)), (3, .int .i64 ((i : Int))), (17, .bool ((hasM ((c).pos) (i : Int)) && (hasM ((c).neg) (i : Int))))]) (fun hK => ?_) (fun base => ?_)
      · refine go_region ⟨_, Tryz.func85⟩ rfl ?_
        refine q0 rfl (o_fa ?_)
        refine q0 rfl (o_ld ?_)
        refine q0 rfl (o_move ?_)
        refine q0 rfl (o_call Tryz.call109 (rhas ((c).pos) (i : Int) om_) (fun x11 => ?_))
        refine q0 rfl (o_move ?_)
        refine qI rfl rfl rfl wl_ (fun hg12 => ?_) (fun hg12 => ?_)
        · have g12 : ((hasM ((c).pos) (i : Int))) = true := hg12
          try simp only [sC, bne_iff_ne, beq_iff_eq, ne_eq] at g12
          refine o_fa ?_
          refine qT rfl rfl rfl (o_ld ?_)
          refine qT rfl rfl rfl (o_move ?_)
          refine qT rfl rfl rfl (o_call Tryz.call109 (rhas ((c).neg) (i : Int) om_) (fun x16 => ?_))
          refine q0 rfl (o_pickT ?_)
          refine rg_nil ?_
          exact hK _ ⟨rfl, rfl, dn_, trivial⟩
        · have g12 : ((hasM ((c).pos) (i : Int))) = false := hg12
          try simp only [sC, bne_iff_ne, beq_iff_eq, ne_eq] at g12
          refine qF rfl rfl rfl ?_
          refine qF rfl rfl rfl ?_
          refine qF rfl rfl rfl ?_
          refine q0 rfl (o_pickF ?_)
          refine rg_nil ?_
          exact hK _ ⟨rfl, rfl, dn_, trivial⟩
      · refine go_condI (fun h17 => ?_) (fun h17 => ?_)
        · have c17 : ((hasM ((c).pos) (i : Int)) && (hasM ((c).neg) (i : Int))) = true := h17
          try simp only [sC, bne_iff_ne, beq_iff_eq, ne_eq] at c17
          refine go_seq ?_
          refine go_region ⟨_, Tryz.func85⟩ rfl ?_
          refine q0 rfl (o_assign ?_)
          refine rg_nil ?_
          have hb : (hasM c.pos (i : Int) && hasM c.neg (i : Int)) = true := by simpa using h17
          refine ret1 Tryz.func85 Tryz.results85 wn_ () (by rw [rclash, List.any_eq_true.mpr ⟨i, List.mem_range.mpr (by omega), hb⟩]) (fun w hs => hs.none)
        · have c17 : ((hasM ((c).pos) (i : Int)) && (hasM ((c).neg) (i : Int))) = false := h17
          try simp only [sC, bne_iff_ne, beq_iff_eq, ne_eq] at c17
          refine go_skip ?_
          refine go_inBlock ?_
          refine go_region ⟨_, Tryz.func85⟩ rfl ?_
          refine q0 rfl (o_move ?_)
          refine q0 rfl (o_add ?_)
          refine q0 rfl (o_assign ?_)
          refine rg_nil ?_
          have hb : (hasM c.pos (i : Int) && hasM c.neg (i : Int)) = false := by simpa using h17
          refine go_state (fun w hs => ?_) (next0 (i + 1) _ (⟨by omega, succ_inv hok hb⟩) (by omega) ⟨rfl, rfl, trivial⟩)
          exact (hs.less (by simp +contextual))
    · have c5 : (decide ((i : Int) < 24)) = false := h5
      try simp only [sC, bne_iff_ne, beq_iff_eq, ne_eq] at c5
      refine go_exit rfl ?_
      refine go_seq ?_
      refine go_region ⟨_, Tryz.func85⟩ rfl ?_
      refine q0 rfl (o_assign ?_)
      refine rg_nil ?_
      refine ret1 Tryz.func85 Tryz.results85 wn_ () (by rw [rclash, List.any_eq_false.mpr (fun j hj => by rw [hok j (by have := List.mem_range.mp hj; omega)]; decide)]) (fun w hs => hs.none)
theorem needless_eq (l : List Cl) (c : Cl) : needless l c = l.any fun d => !decide (d = c) && below c d := by
  unfold needless; congr 1; funext d; rw [show (decide (c = d)) = decide (d = c) from decide_eq_decide.mpr eq_comm]
theorem rneeded (l : List Cl) (a_l : SH) (c : Cl) (hc : u32 c) : Spec Tryz.prog 107 #[sl a_l (l.length), keyV c] [CL l a_l] [] (fun _ : Unit => .bool ((!needless l c))) (fun _ : Unit => []) (fun _ : Unit => []) := by
  refine spec_go (args := [sl a_l (l.length), keyV c]) Tryz.func107 Tryz.ntmps107 rfl (by exact Nat.le_of_ble_eq_true rfl) fun B hB => ?_
  refine go_openCL (l := l) (a := a_l) (fun hl1 hA1 hU1 => ?_)
  have hc1 := hc.1
  have hc2 := hc.2
  refine go_seq ?_
  refine go_region ⟨_, Tryz.func107⟩ rfl ?_
  refine q0 rfl (o_box fun b3 => ?_)
  refine q0 rfl (o_assign ?_)
  refine rg_nil ?_
  refine go_seq ?_
  refine go_seq ?_
  refine go_region ⟨_, Tryz.func107⟩ rfl ?_
  refine q0 rfl (o_assign ?_)
  refine rg_nil ?_
  refine go_block ?_
  refine go_loopE (X := Nat) (fun s_ => s_ ≤ l.length ∧ ∀ j, j < s_ → (!decide (l.getD j cl0 = c) && below c (l.getD j cl0)) = false) (fun s_ => [(0, sl a_l (l.length)), (3, .pointer (some ⟨b3, 0, none⟩)), (5, .int .i64 ((s_ : Int)))]) (fun s_ G_ => G_) (fun s_ => [boxR b3 (clCells c) 55]) (fun s_ => l.length - s_) (0) (⟨by omega, fun j hj => by omega⟩) (by exact ⟨rfl, rfl, rfl, trivial⟩) ?_ ?_
  · exact fun w hs => hs
  · intro i base0 ⟨hi, hok⟩ next0
    refine go_seq ?_
    refine go_seq ?_
    refine go_region ⟨_, Tryz.func107⟩ rfl ?_
    refine q0 rfl (o_move ?_)
    refine q0 rfl (o_move ?_)
    refine q0 rfl (o_len ?_)
    refine q0 rfl (o_lss ?_)
    refine rg_nil ?_
    refine go_condI (fun h9 => ?_) (fun h9 => ?_)
    · have c9 : (decide ((i : Int) < (l.length : Int))) = true := h9
      try simp only [sC, bne_iff_ne, beq_iff_eq, ne_eq] at c9
      have hu := hU1 _ (getD_mem (d := cl0) (show i < l.length by omega))
      have hu1 := hu.1
      have hu2 := hu.2
      refine go_skip ?_
      refine go_seq ?_
      refine go_block ?_
      refine go_seq ?_
      refine go_cutS ([(0, sl a_l (l.length)), (3, .pointer (some ⟨b3, 0, none⟩)), (5, .int .i64 ((i : Int))), (25, .bool ((!decide ((l.getD i cl0) = c)) && (below c (l.getD i cl0))))]) (fun hK => ?_) (fun base => ?_)
      · refine go_draw (pn := 1000000) (tn := false) (A := [0, 0, 3, 7, 0, 31, 63, 127, 127, 127, 895, 1919, 4095, 8191]) (l := [0, 1, 2, 3, 4, 5, 6, 7, 8, 9, 10, 11, 12, 13]) (fin := []) Tab.mixed ⟨_, Tryz.func107⟩ (by rfl) ?_
        refine n0 rfl (v_move ?_)
        refine n0 rfl (v_move ?_)
        obtain ⟨bk2, o2, hav2⟩ := hA1 (by omega)
        refine n0 rfl (v_ixN ?_ (j := i))
        refine n0 rfl (v_ldC ?_)
        refine n0 rfl (v_lds ?_)
        refine n0 rfl (v_neC ?_ (c := (l.getD i cl0)) (c' := c))
        refine n0 rfl (v_move ?_)
        refine nI rfl rfl rfl wl_ (fun hg18 => ?_) (fun hg18 => ?_)
        · have g18 : (!decide ((l.getD i cl0) = c)) = true := hg18
          try simp only [sC, bne_iff_ne, beq_iff_eq, ne_eq] at g18
          refine v_lds ?_
          refine nT rfl rfl rfl (v_move ?_)
          refine nT rfl rfl rfl (v_move ?_)
          refine nT rfl rfl rfl (v_ixN ?_ (j := i))
          refine nT rfl rfl rfl (v_ldC ?_)
          refine nT rfl rfl rfl (v_call Tryz.call122 (rbelow c (l.getD i cl0) om_ om_) (fun x24 => ?_))
          refine n0 rfl (v_pickT ?_)
          refine NV.done ?_
          refine rg_nil ?_
          exact hK _ ⟨rfl, rfl, rfl, dn_, trivial⟩
        · have g18 : (!decide ((l.getD i cl0) = c)) = false := hg18
          try simp only [sC, bne_iff_ne, beq_iff_eq, ne_eq] at g18
          refine nF rfl rfl rfl ?_
          refine nF rfl rfl rfl ?_
          refine nF rfl rfl rfl ?_
          refine nF rfl rfl rfl ?_
          refine nF rfl rfl rfl ?_
          refine n0 rfl (v_pickF ?_)
          refine NV.done ?_
          refine rg_nil ?_
          exact hK _ ⟨rfl, rfl, rfl, dn_, trivial⟩
      · refine go_condI (fun h25 => ?_) (fun h25 => ?_)
        · have c25 : ((!decide ((l.getD i cl0) = c)) && (below c (l.getD i cl0))) = true := h25
          try simp only [sC, bne_iff_ne, beq_iff_eq, ne_eq] at c25
          refine go_seq ?_
          refine go_region ⟨_, Tryz.func107⟩ rfl ?_
          refine q0 rfl (o_assign ?_)
          refine rg_nil ?_
          have hb : (!decide (l.getD i cl0 = c) && below c (l.getD i cl0)) = true := by simpa using h25
          refine ret1 Tryz.func107 Tryz.results107 wn_ () (by rw [needless_eq, any_true_at (d := cl0) (i := i) (by omega) hb]; rfl) (fun w hs => hs.none)
        · have c25 : ((!decide ((l.getD i cl0) = c)) && (below c (l.getD i cl0))) = false := h25
          try simp only [sC, bne_iff_ne, beq_iff_eq, ne_eq] at c25
          refine go_skip ?_
          refine go_inBlock ?_
          refine go_region ⟨_, Tryz.func107⟩ rfl ?_
          refine q0 rfl (o_move ?_)
          refine q0 rfl (o_add ?_)
          refine q0 rfl (o_assign ?_)
          refine rg_nil ?_
          have hb : (!decide (l.getD i cl0 = c) && below c (l.getD i cl0)) = false := by simpa using h25
          refine go_state (fun w hs => ?_) (next0 (i + 1) _ (⟨by omega, succ_inv hok hb⟩) (by omega) ⟨rfl, rfl, rfl, trivial⟩)
          exact (hs.less (by simp +contextual))
    · have c9 : (decide ((i : Int) < (l.length : Int))) = false := h9
      try simp only [sC, bne_iff_ne, beq_iff_eq, ne_eq] at c9
      refine go_exit rfl ?_
      refine go_seq ?_
      refine go_region ⟨_, Tryz.func107⟩ rfl ?_
      refine q0 rfl (o_assign ?_)
      refine rg_nil ?_
      refine ret1 Tryz.func107 Tryz.results107 wn_ () (by rw [needless_eq, any_false_of (d := cl0) (fun j hj => hok j (by omega))]; rfl) (fun w hs => hs.none)
theorem rsameC (l : List Cl) (a_l : SH) (m : List Cl) (a_m : SH)  : Spec Tryz.prog 26 #[sl a_l (l.length), sl a_m (m.length)] [CL l a_l, CL m a_m] [] (fun _ : Unit => .bool ((decide (l = m)))) (fun _ : Unit => []) (fun _ : Unit => []) := by
  refine spec_go (args := [sl a_l (l.length), sl a_m (m.length)]) Tryz.func26 Tryz.ntmps26 rfl (by exact Nat.le_of_ble_eq_true rfl) fun B hB => ?_
  refine go_openCL (l := l) (a := a_l) (fun hl1 hA1 hU1 => ?_)
  refine go_openCL (l := m) (a := a_m) (fun hl2 hA2 hU2 => ?_)
  refine go_seq ?_
  refine go_region ⟨_, Tryz.func26⟩ rfl ?_
  refine q0 rfl (o_assign ?_)
  refine rg_nil ?_
  refine go_seq ?_
  refine go_seq ?_
  refine go_region ⟨_, Tryz.func26⟩ rfl ?_
  refine q0 rfl (o_move ?_)
  refine q0 rfl (o_len ?_)
  refine q0 rfl (o_move ?_)
  refine q0 rfl (o_len ?_)
  refine q0 rfl (o_neI ?_)
  refine rg_nil ?_
  refine go_condI (fun h10 => ?_) (fun h10 => ?_)
  · have c10 : (decide ((l.length : Int) ≠ (m.length : Int))) = true := h10
    try simp only [sC, bne_iff_ne, beq_iff_eq, ne_eq] at c10
    have hne : ¬ l = m := fun e => by subst e; simp at h10
    refine go_seq ?_
    refine go_region ⟨_, Tryz.func26⟩ rfl ?_
    refine q0 rfl (o_assign ?_)
    refine rg_nil ?_
    refine ret1 Tryz.func26 Tryz.results26 wn_ () (by rw [decide_eq_false hne]) (fun w hs => hs.none)
  · have c10 : (decide ((l.length : Int) ≠ (m.length : Int))) = false := h10
    try simp only [sC, bne_iff_ne, beq_iff_eq, ne_eq] at c10
    have hlen : l.length = m.length := by simp at h10; omega
    refine go_skip ?_
    refine go_seq ?_
    refine go_seq ?_
    refine go_region ⟨_, Tryz.func26⟩ rfl ?_
    refine q0 rfl (o_assign ?_)
    refine rg_nil ?_
    refine go_block ?_
    refine go_loopE (X := Nat) (fun s_ => s_ ≤ l.length ∧ ∀ j, j < s_ → l.getD j cl0 = m.getD j cl0) (fun s_ => [(0, sl a_l (l.length)), (1, sl a_m (m.length)), (5, .int .i64 ((s_ : Int)))]) (fun s_ G_ => G_) (fun s_ => []) (fun s_ => l.length - s_) (0) (⟨by omega, fun j hj => by omega⟩) (by exact ⟨rfl, rfl, rfl, trivial⟩) ?_ ?_
    · exact fun w hs => hs
    · intro i base0 ⟨hi, hok⟩ next0
      refine go_seq ?_
      refine go_seq ?_
      refine go_region ⟨_, Tryz.func26⟩ rfl ?_
      refine q0 rfl (o_move ?_)
      refine q0 rfl (o_move ?_)
      refine q0 rfl (o_len ?_)
      refine q0 rfl (o_lss ?_)
      refine rg_nil ?_
      refine go_condI (fun h14 => ?_) (fun h14 => ?_)
      · have c14 : (decide ((i : Int) < (l.length : Int))) = true := h14
        try simp only [sC, bne_iff_ne, beq_iff_eq, ne_eq] at c14
        refine go_skip ?_
        refine go_seq ?_
        refine go_block ?_
        refine go_seq ?_
        refine go_draw (pn := 1000000) (tn := false) (A := [0, 0, 3, 7, 0, 0, 48, 112, 255]) (l := [0, 1, 2, 3, 4, 5, 6, 7, 8]) (fin := []) Tab.mixed ⟨_, Tryz.func26⟩ (by rfl) ?_
        refine n0 rfl (v_move ?_)
        refine n0 rfl (v_move ?_)
        obtain ⟨bk3, o3, hav3⟩ := hA1 (by omega)
        refine n0 rfl (v_ixN ?_ (j := i))
        refine n0 rfl (v_ldC ?_)
        refine n0 rfl (v_move ?_)
        refine n0 rfl (v_move ?_)
        obtain ⟨bk4, o4, hav4⟩ := hA2 (by omega)
        refine n0 rfl (v_ixN ?_ (j := i))
        refine n0 rfl (v_ldC ?_)
        refine n0 rfl (v_neC ?_ (c := (l.getD i cl0)) (c' := (m.getD i cl0)))
        refine NV.done ?_
        refine rg_nil ?_
        refine go_condI (fun h25 => ?_) (fun h25 => ?_)
        · have c25 : (!decide ((l.getD i cl0) = (m.getD i cl0))) = true := h25
          try simp only [sC, bne_iff_ne, beq_iff_eq, ne_eq] at c25
          refine go_seq ?_
          refine go_region ⟨_, Tryz.func26⟩ rfl ?_
          refine q0 rfl (o_assign ?_)
          refine rg_nil ?_
          refine ret1 Tryz.func26 Tryz.results26 wn_ () (by rw [decide_eq_false (fun e => by subst e; simp at h25)]) (fun w hs => hs.none)
        · have c25 : (!decide ((l.getD i cl0) = (m.getD i cl0))) = false := h25
          try simp only [sC, bne_iff_ne, beq_iff_eq, ne_eq] at c25
          refine go_skip ?_
          refine go_inBlock ?_
          refine go_region ⟨_, Tryz.func26⟩ rfl ?_
          refine q0 rfl (o_move ?_)
          refine q0 rfl (o_add ?_)
          refine q0 rfl (o_assign ?_)
          refine rg_nil ?_
          have hb : l.getD i cl0 = m.getD i cl0 := by simpa using h25
          refine go_state (fun w hs => ?_) (next0 (i + 1) _ (⟨by omega, succ_inv hok hb⟩) (by omega) ⟨rfl, rfl, rfl, trivial⟩)
          exact (hs.less (by simp +contextual))
      · have c14 : (decide ((i : Int) < (l.length : Int))) = false := h14
        try simp only [sC, bne_iff_ne, beq_iff_eq, ne_eq] at c14
        refine go_exit rfl ?_
        refine go_seq ?_
        refine go_region ⟨_, Tryz.func26⟩ rfl ?_
        refine q0 rfl (o_assign ?_)
        refine rg_nil ?_
        refine ret1 Tryz.func26 Tryz.results26 wn_ () (by rw [decide_eq_true (list_eq_of hlen (fun j hj => hok j (by omega)))]) (fun w hs => hs.none)
theorem rleast (l : List Cl) (a_l : SH)  : Spec Tryz.prog 84 #[sl a_l (l.length)] [CL l a_l] [] (fun x : SH => .tuple #[sl x (leastF l).2.length, .int .i64 (leastF l).1]) (fun x : SH => [CL (leastF l).2 x]) (fun x : SH => []) := by
  refine spec_go (args := [sl a_l (l.length)]) Tryz.func84 Tryz.ntmps84 rfl (by exact Nat.le_of_ble_eq_true rfl) fun B hB => ?_
  refine go_openCL (l := l) (a := a_l) (fun hl1 hA1 hU1 => ?_)
  refine go_seq ?_
  refine go_region ⟨_, Tryz.func84⟩ rfl ?_
  refine q0 rfl (o_assign ?_)
  refine q0 rfl (o_assign ?_)
  refine rg_nil ?_
  refine go_seq ?_
  refine go_seq ?_
  refine go_region ⟨_, Tryz.func84⟩ rfl ?_
  refine q0 rfl (o_assign ?_)
  refine rg_nil ?_
  refine go_block ?_
  refine go_loopE (X := Nat) (fun s_ => s_ ≤ l.length ∧ ∀ j, j < s_ → right24 (l.getD j cl0) = true) (fun s_ => [(0, sl a_l (l.length)), (4, .int .i64 ((s_ : Int)))]) (fun s_ G_ => G_) (fun s_ => []) (fun s_ => l.length - s_) (0) (⟨by omega, fun j hj => by omega⟩) (by exact ⟨rfl, rfl, trivial⟩) ?_ ?_
  · exact fun w hs => hs
  · intro i base0 ⟨hi, hok⟩ next0
    refine go_seq ?_
    refine go_seq ?_
    refine go_region ⟨_, Tryz.func84⟩ rfl ?_
    refine q0 rfl (o_move ?_)
    refine q0 rfl (o_move ?_)
    refine q0 rfl (o_len ?_)
    refine q0 rfl (o_lss ?_)
    refine rg_nil ?_
    refine go_condI (fun h11 => ?_) (fun h11 => ?_)
    · have c11 : (decide ((i : Int) < (l.length : Int))) = true := h11
      try simp only [sC, bne_iff_ne, beq_iff_eq, ne_eq] at c11
      have hu := hU1 _ (getD_mem (d := cl0) (show i < l.length by omega))
      have hu1 := hu.1
      have hu2 := hu.2
      refine go_skip ?_
      refine go_seq ?_
      refine go_block ?_
      refine go_seq ?_
      refine go_region ⟨_, Tryz.func84⟩ rfl ?_
      refine q0 rfl (o_move ?_)
      refine q0 rfl (o_move ?_)
      obtain ⟨bk2, o2, hav2⟩ := hA1 (by omega)
      refine q0 rfl (o_ixN ?_ (j := i))
      refine q0 rfl (o_ldC ?_)
      refine q0 rfl (o_call Tryz.call105 (rcright (l.getD i cl0) om_) (fun x18 => ?_))
      refine q0 rfl (o_not ?_)
      refine rg_nil ?_
      refine go_condI (fun h19 => ?_) (fun h19 => ?_)
      · have c19 : (!(right24 (l.getD i cl0))) = true := h19
        try simp only [sC, bne_iff_ne, beq_iff_eq, ne_eq] at c19
        have hlf : leastF l = (2, []) := by rw [leastF, if_pos (all_false_at (d := cl0) (i := i) (by omega) (by simpa using h19))]
        refine go_seq ?_
        refine go_region ⟨_, Tryz.func84⟩ rfl ?_
        refine q0 rfl (o_assign ?_)
        refine q0 rfl (o_assign ?_)
        refine rg_nil ?_
        refine ret2 Tryz.func84 Tryz.results84 wn_ wn_ (none, 0) (by rw [hlf]; rfl) (fun w hs => by rw [hlf]; exact (hs.nilCL 0).bare.less (by simp))
      · have c19 : (!(right24 (l.getD i cl0))) = false := h19
        try simp only [sC, bne_iff_ne, beq_iff_eq, ne_eq] at c19
        refine go_skip ?_
        refine go_inBlock ?_
        refine go_region ⟨_, Tryz.func84⟩ rfl ?_
        refine q0 rfl (o_move ?_)
        refine q0 rfl (o_add ?_)
        refine q0 rfl (o_assign ?_)
        refine rg_nil ?_
        have hb : right24 (l.getD i cl0) = true := by simpa using h19
        refine go_state (fun w hs => ?_) (next0 (i + 1) _ (⟨by omega, succ_inv hok hb⟩) (by omega) ⟨rfl, rfl, trivial⟩)
        exact (hs.less (by simp +contextual))
    · have c11 : (decide ((i : Int) < (l.length : Int))) = false := h11
      try simp only [sC, bne_iff_ne, beq_iff_eq, ne_eq] at c11
      have hall : l.all right24 = true := all_true_of (d := cl0) (fun j hj => hok j (by omega))
      refine go_exit rfl ?_
      refine go_seq ?_
      refine go_region ⟨_, Tryz.func84⟩ rfl ?_
      refine q0 rfl (o_assign ?_)
      refine rg_nil ?_
      refine go_seq ?_
      refine go_seq ?_
      refine go_region ⟨_, Tryz.func84⟩ rfl ?_
      refine q0 rfl (o_assign ?_)
      refine rg_nil ?_
      refine go_block ?_
      refine go_loopE (X := Nat × SH) (fun s_ => s_.1 ≤ l.length) (fun s_ => [(0, sl a_l (l.length)), (5, sl s_.2 (((rlTo l s_.1)).length)), (6, .int .i64 ((s_.1 : Int)))]) (fun s_ G_ => CL (rlTo l s_.1) s_.2 :: G_) (fun s_ => []) (fun s_ => l.length - s_.1) (0, (none, 0)) (by omega) (by exact ⟨rfl, (by rw [rlTo_zero]; rfl), rfl, trivial⟩) ?_ ?_
      · exact fun w hs => by rw [rlTo_zero]; exact hs.nilCL 0
      · intro ⟨i, a⟩ base1 hi1 next1
        dsimp only at hi1 next1 ⊢
        refine go_openCL (l := (rlTo l i)) (a := a) (fun hl3 hA3 hU3 => ?_)
        have hrl := rlTo_len l i
        refine go_seq ?_
        refine go_seq ?_
        refine go_region ⟨_, Tryz.func84⟩ rfl ?_
        refine q0 rfl (o_move ?_)
        refine q0 rfl (o_move ?_)
        refine q0 rfl (o_len ?_)
        refine q0 rfl (o_lss ?_)
        refine rg_nil ?_
        refine go_condI (fun h23 => ?_) (fun h23 => ?_)
        · have c23 : (decide ((i : Int) < (l.length : Int))) = true := h23
          try simp only [sC, bne_iff_ne, beq_iff_eq, ne_eq] at c23
          have hu := hU1 _ (getD_mem (d := cl0) (show i < l.length by omega))
          have hu1 := hu.1
          have hu2 := hu.2
          refine go_skip ?_
          refine go_seq ?_
          refine go_block ?_
          refine go_seq ?_
          refine go_seq ?_
          refine go_region ⟨_, Tryz.func84⟩ rfl ?_
          refine q0 rfl (o_move ?_)
          refine q0 rfl (o_move ?_)
          refine q0 rfl (o_move ?_)
          obtain ⟨bk4, o4, hav4⟩ := hA1 (by omega)
          refine q0 rfl (o_ixN ?_ (j := i))
          refine q0 rfl (o_ldC ?_)
          refine q0 rfl (o_call Tryz.call107 (rneeded l a_l (l.getD i cl0) om_) (fun x31 => ?_))
          refine q0 rfl (o_not ?_)
          refine rg_nil ?_
          refine go_condI (fun h32 => ?_) (fun h32 => ?_)
          · have c32 : (!(!needless l (l.getD i cl0))) = true := h32
            try simp only [sC, bne_iff_ne, beq_iff_eq, ne_eq] at c32
            refine go_exit rfl ?_
            refine go_region ⟨_, Tryz.func84⟩ rfl ?_
            refine q0 rfl (o_move ?_)
            refine q0 rfl (o_add ?_)
            refine q0 rfl (o_assign ?_)
            refine rg_nil ?_
            have hnx : rlTo l (i + 1) = rlTo l i := by rw [rlTo_succ (by omega), if_pos (by simpa using h32)]
            refine go_state (fun w hs => ?_) (next1 (i + 1, a) _ (by omega) (by (try simp only); omega) ⟨rfl, (by (conv => lhs; whnf); simp [sl, hnx]), rfl, trivial⟩)
            rw [hnx]; exact (hs.less (by simp +contextual))
          · have c32 : (!(!needless l (l.getD i cl0))) = false := h32
            try simp only [sC, bne_iff_ne, beq_iff_eq, ne_eq] at c32
            refine go_skip ?_
            refine go_seq ?_
            refine go_region ⟨_, Tryz.func84⟩ rfl ?_
            refine q0 rfl (o_assign ?_)
            refine rg_nil ?_
            refine go_seq ?_
            refine go_block ?_
            refine go_loopE (X := Nat) (fun s_ => s_ ≤ (rlTo l i).length ∧ ∀ j, j < s_ → lessC ((rlTo l i).getD j cl0) (l.getD i cl0) = true) (fun s_ => [(0, sl a_l (l.length)), (5, sl a (((rlTo l i)).length)), (6, .int .i64 ((i : Int))), (7, .int .i64 ((s_ : Int)))]) (fun s_ G_ => G_) (fun s_ => []) (fun s_ => (rlTo l i).length - s_) (0) (⟨by omega, fun j hj => by omega⟩) (by exact ⟨rfl, rfl, rfl, rfl, trivial⟩) ?_ ?_
            · exact fun w hs => hs
            · intro k base2 ⟨hk, hk2⟩ next2
              have hvo : k < (rlTo l i).length → u32 ((rlTo l i).getD k cl0) := fun h => hU1 _ (rlTo_in (getD_mem h))
              refine go_seq ?_
              refine go_seq ?_
              refine go_cutS ([(0, sl a_l (l.length)), (5, sl a (((rlTo l i)).length)), (6, .int .i64 ((i : Int))), (7, .int .i64 ((k : Int))), (47, .bool ((decide ((k : Int) < (((rlTo l i)).length : Int))) && (lessC (((rlTo l i)).getD k cl0) (l.getD i cl0))))]) (fun hK => ?_) (fun base => ?_)
              · refine go_draw (pn := 1000000) (tn := false) (A := [0, 0, 2, 7, 15, 31, 31, 127, 255, 31, 31, 1567, 3615, 8191, 16383]) (l := [0, 1, 2, 3, 4, 5, 6, 7, 8, 9, 10, 11, 12, 13, 14]) (fin := []) Tab.mixed ⟨_, Tryz.func84⟩ (by rfl) ?_
                refine n0 rfl (v_move ?_)
                refine n0 rfl (v_move ?_)
                refine n0 rfl (v_len ?_)
                refine n0 rfl (v_lss ?_)
                refine n0 rfl (v_move ?_)
                refine nI rfl rfl rfl wl_ (fun hg37 => ?_) (fun hg37 => ?_)
                · have g37 : (decide ((k : Int) < (((rlTo l i)).length : Int))) = true := hg37
                  try simp only [sC, bne_iff_ne, beq_iff_eq, ne_eq] at g37
                  refine v_move ?_
                  refine nT rfl rfl rfl (v_move ?_)
                  obtain ⟨bk5, o5, hav5⟩ := hA3 (by omega)
                  refine nT rfl rfl rfl (v_ixN ?_ (j := k))
                  refine nT rfl rfl rfl (v_ldC ?_)
                  refine nT rfl rfl rfl (v_move ?_)
                  refine nT rfl rfl rfl (v_move ?_)
                  refine nT rfl rfl rfl (v_ixN ?_ (j := i))
                  refine nT rfl rfl rfl (v_ldC ?_)
                  refine nT rfl rfl rfl (v_call Tryz.call108 (rless (((rlTo l i)).getD k cl0) (l.getD i cl0) om_ om_) (fun x46 => ?_))
                  refine n0 rfl (v_pickT ?_)
                  refine NV.done ?_
                  refine rg_nil ?_
                  exact hK _ ⟨rfl, rfl, rfl, rfl, dn_, trivial⟩
                · have g37 : (decide ((k : Int) < (((rlTo l i)).length : Int))) = false := hg37
                  try simp only [sC, bne_iff_ne, beq_iff_eq, ne_eq] at g37
                  refine nF rfl rfl rfl ?_
                  refine nF rfl rfl rfl ?_
                  refine nF rfl rfl rfl ?_
                  refine nF rfl rfl rfl ?_
                  refine nF rfl rfl rfl ?_
                  refine nF rfl rfl rfl ?_
                  refine nF rfl rfl rfl ?_
                  refine nF rfl rfl rfl ?_
                  refine n0 rfl (v_pickF ?_)
                  refine NV.done ?_
                  refine rg_nil ?_
                  exact hK _ ⟨rfl, rfl, rfl, rfl, dn_, trivial⟩
              · refine go_condI (fun h47 => ?_) (fun h47 => ?_)
                · have c47 : ((decide ((k : Int) < (((rlTo l i)).length : Int))) && (lessC (((rlTo l i)).getD k cl0) (l.getD i cl0))) = true := h47
                  try simp only [sC, bne_iff_ne, beq_iff_eq, ne_eq] at c47
                  refine go_skip ?_
                  refine go_block ?_
                  refine go_region ⟨_, Tryz.func84⟩ rfl ?_
                  refine q0 rfl (o_move ?_)
                  refine q0 rfl (o_add ?_)
                  refine q0 rfl (o_assign ?_)
                  refine rg_nil ?_
                  refine go_inBlock ?_
                  refine go_state (fun w hs => ?_) (next2 (k + 1) _ (⟨by omega, succ_inv hk2 c47.2⟩) (by omega) ⟨rfl, rfl, rfl, rfl, trivial⟩)
                  exact (hs.less (by simp +contextual))
                · have c47 : ((decide ((k : Int) < (((rlTo l i)).length : Int))) && (lessC (((rlTo l i)).getD k cl0) (l.getD i cl0))) = false := h47
                  try simp only [sC, bne_iff_ne, beq_iff_eq, ne_eq] at c47
                  have hlast : k < (rlTo l i).length → lessC ((rlTo l i).getD k cl0) (l.getD i cl0) = false := fun hlt => by simpa [hlt] using h47
                  refine go_exit rfl ?_
                  refine go_seq ?_
                  refine go_cutS ([(0, sl a_l (l.length)), (5, sl a (((rlTo l i)).length)), (6, .int .i64 ((i : Int))), (7, .int .i64 ((k : Int))), (64, .bool ((decide ((k : Int) = (((rlTo l i)).length : Int))) || (!decide ((((rlTo l i)).getD k cl0) = (l.getD i cl0)))))]) (fun hK => ?_) (fun base => ?_)
                  · refine go_draw (pn := 1000000) (tn := false) (A := [0, 0, 2, 7, 15, 31, 31, 127, 255, 31, 31, 1567, 3615, 8191, 16383]) (l := [0, 1, 2, 3, 4, 5, 6, 7, 8, 9, 10, 11, 12, 13, 14]) (fin := []) Tab.mixed ⟨_, Tryz.func84⟩ (by rfl) ?_
                    refine n0 rfl (v_move ?_)
                    refine n0 rfl (v_move ?_)
                    refine n0 rfl (v_len ?_)
                    refine n0 rfl (v_eqI ?_)
                    refine n0 rfl (v_move ?_)
                    refine nI rfl rfl rfl wl_ (fun hg54 => ?_) (fun hg54 => ?_)
                    · have g54 : (decide ((k : Int) = (((rlTo l i)).length : Int))) = false := hg54
                      try simp only [sC, bne_iff_ne, beq_iff_eq, ne_eq] at g54
                      refine v_move ?_
                      refine nT rfl rfl rfl (v_move ?_)
                      obtain ⟨bk6, o6, hav6⟩ := hA3 (by omega)
                      refine nT rfl rfl rfl (v_ixN ?_ (j := k))
                      refine nT rfl rfl rfl (v_ldC ?_)
                      refine nT rfl rfl rfl (v_move ?_)
                      refine nT rfl rfl rfl (v_move ?_)
                      refine nT rfl rfl rfl (v_ixN ?_ (j := i))
                      refine nT rfl rfl rfl (v_ldC ?_)
                      refine nT rfl rfl rfl (v_neC ?_ (c := (((rlTo l i)).getD k cl0)) (c' := (l.getD i cl0)))
                      refine n0 rfl (v_pickF ?_)
                      refine NV.done ?_
                      refine rg_nil ?_
                      exact hK _ ⟨rfl, rfl, rfl, rfl, dn_, trivial⟩
                    · have g54 : (decide ((k : Int) = (((rlTo l i)).length : Int))) = true := hg54
                      try simp only [sC, bne_iff_ne, beq_iff_eq, ne_eq] at g54
                      refine nF rfl rfl rfl ?_
                      refine nF rfl rfl rfl ?_
                      refine nF rfl rfl rfl ?_
                      refine nF rfl rfl rfl ?_
                      refine nF rfl rfl rfl ?_
                      refine nF rfl rfl rfl ?_
                      refine nF rfl rfl rfl ?_
                      refine nF rfl rfl rfl ?_
                      refine n0 rfl (v_pickT ?_)
                      refine NV.done ?_
                      refine rg_nil ?_
                      exact hK _ ⟨rfl, rfl, rfl, rfl, dn_, trivial⟩
                  · refine go_condI (fun h64 => ?_) (fun h64 => ?_)
                    · have c64 : ((decide ((k : Int) = (((rlTo l i)).length : Int))) || (!decide ((((rlTo l i)).getD k cl0) = (l.getD i cl0)))) = true := h64
                      try simp only [sC, bne_iff_ne, beq_iff_eq, ne_eq] at c64
                      have hcase : ¬ (k < (rlTo l i).length ∧ (rlTo l i).getD k cl0 = l.getD i cl0) := by rintro ⟨h1, h2⟩; rcases c64 with h3 | h3; omega; exact h3 h2
                      refine go_state (fun w hs => (hs.takeCL (l := rlTo l i) (a := a) k (by simp) (by omega))) ?_
                      refine go_state (fun w hs => (hs.dropCL (l := rlTo l i) (a := a) k (by simp) (by omega))) ?_
                      refine go_know (p := (rlTo l i).length ≤ a.2) (fun w hs => hs.capCL (by simp)) (fun hcap => ?_)
                      have htl : ((rlTo l i).take k).length = k := by simp; omega
                      have hdl : ((rlTo l i).drop k).length = (rlTo l i).length - k := by simp
                      refine go_draw (pn := 1000000) (tn := true) (A := [0, 0, 0, 6, 15, 0, 0, 96, 224, 480, 1023, 0, 0, 6144, 16383, 32767]) (l := [1, 2, 3, 5, 6, 7, 8, 11, 12, 13, 0, 4, 9, 10, 14, 15]) (fin := []) Tab.mixed ⟨_, Tryz.func84⟩ (by rfl) ?_
                      refine n0 rfl (v_move ?_)
                      refine n0 rfl (v_move ?_)
                      refine n0 rfl (v_sliceHi ?_ (k := k))
                      refine n0 rfl (v_move ?_)
                      refine n0 rfl (v_move ?_)
                      refine n0 rfl (v_ixN ?_ (j := i))
                      refine n0 rfl (f_ldC ?_)
                      refine n0 rfl (v_move ?_)
                      refine n0 rfl (v_move ?_)
                      refine n0 rfl (v_sliceLo ?_ (k := k) (a := a))
                      refine n0 rfl (v_lit0 fun b65 => ?_)
                      refine nv_conv [_] [_] (fun _ _ _ hs => hs.boxRow (sz := 2) (m := 0) rfl (by decide)) ?_
                      refine n0 rfl (t_appCL (fun a69 => ?_) (by simp) (a := (some ⟨b65, 0, none⟩, 0)) (n' := 0) (b := a) (ls := ((rlTo l i).take k)) (hy := (by rw [List.length_take, Nat.min_eq_left (by omega)]; rfl)))
                      refine nv_conv [_] [_] (fun _ _ _ hs => hs.appFlatC (l := []) (m := ((rlTo l i).take k))) ?_
                      refine n0 rfl (v_lit1 fun b74 => ?_)
                      refine n0 rfl (t_appS (fun a75 => ?_) (a := a69) (n' := 0 + ((rlTo l i).take k).length))
                      refine nv_conv [_, _] [_] (fun _ _ _ hs => ((hs.perm perm1).drop).snocC (c := (l.getD i cl0))) ?_
                      refine n0 rfl (t_appCL (fun a79 => ?_) (by simp) (a := a75) (n' := 0 + ((rlTo l i).take k).length + 1) (b := (dropSH a 2 k)) (ls := ((rlTo l i).drop k)) (hy := (by rw [List.length_drop]; rfl)))
                      refine nv_conv [_] [_] (fun _ _ _ hs => hs.appFlatC (l := (([] ++ ((rlTo l i).take k)) ++ [(l.getD i cl0)])) (m := ((rlTo l i).drop k))) ?_
                      refine n0 rfl (v_assign ?_)
                      refine NV.done ?_
                      refine rg_nil ?_
                      refine go_inBlock ?_
                      refine go_region ⟨_, Tryz.func84⟩ rfl ?_
                      refine q0 rfl (o_move ?_)
                      refine q0 rfl (o_add ?_)
                      refine q0 rfl (o_assign ?_)
                      refine rg_nil ?_
                      have hnx : rlTo l (i + 1) = (rlTo l i).take k ++ [l.getD i cl0] ++ (rlTo l i).drop k := by rw [rlTo_succ (by omega), if_neg (by simpa using h32), insC_at (k := k) (by omega) hk2 hlast, if_neg hcase]
                      have hnl := rlTo_len l (i + 1)
                      have hll : (rlTo l (i + 1)).length = 0 + ((rlTo l i).take k).length + 1 + ((rlTo l i).drop k).length := by rw [hnx]; simp; omega
                      refine go_state (fun w hs => ?_) (next1 (i + 1, a79) _ (by omega) (by (try simp only); omega) ⟨rfl, (by (conv => lhs; whnf); rw [hll]; rfl), rfl, trivial⟩)
                      refine ((hs.settleCL (l := rlTo l (i + 1)) hB (by rw [hnx]; simp) (by rw [hll]) (by unfold reach at *; omega) (fun c hc => hU1 c (rlTo_in hc))).less (by simp +contextual))
                    · have c64 : ((decide ((k : Int) = (((rlTo l i)).length : Int))) || (!decide ((((rlTo l i)).getD k cl0) = (l.getD i cl0)))) = false := h64
                      try simp only [sC, bne_iff_ne, beq_iff_eq, ne_eq] at c64
                      have hcase : k < (rlTo l i).length ∧ (rlTo l i).getD k cl0 = l.getD i cl0 := by have h9 := h64; simp at h9; exact ⟨by omega, h9.2⟩
                      refine go_skip ?_
                      refine go_inBlock ?_
                      refine go_region ⟨_, Tryz.func84⟩ rfl ?_
                      refine q0 rfl (o_move ?_)
                      refine q0 rfl (o_add ?_)
                      refine q0 rfl (o_assign ?_)
                      refine rg_nil ?_
                      have hnx : rlTo l (i + 1) = rlTo l i := by rw [rlTo_succ (by omega), if_neg (by simpa using h32), insC_at (k := k) (by omega) hk2 hlast, if_pos hcase]
                      refine go_state (fun w hs => ?_) (next1 (i + 1, a) _ (by omega) (by (try simp only); omega) ⟨rfl, (by (conv => lhs; whnf); simp [sl, hnx]), rfl, trivial⟩)
                      rw [hnx]; exact (hs.less (by simp +contextual))
        · have c23 : (decide ((i : Int) < (l.length : Int))) = false := h23
          try simp only [sC, bne_iff_ne, beq_iff_eq, ne_eq] at c23
          have he : i = l.length := by omega
          have hrw : rlTo l i = refLeast l := by rw [he, rlTo_all]
          refine go_exit rfl ?_
          refine go_seq ?_
          refine go_seq ?_
          refine go_region ⟨_, Tryz.func84⟩ rfl ?_
          refine q0 rfl (o_move ?_)
          refine q0 rfl (o_len ?_)
          refine q0 rfl (o_gtr ?_)
          refine rg_nil ?_
          refine go_condI (fun h82 => ?_) (fun h82 => ?_)
          · have c82 : (decide (64 < (((rlTo l i)).length : Int))) = true := h82
            try simp only [sC, bne_iff_ne, beq_iff_eq, ne_eq] at c82
            have hlf : leastF l = (3, []) := by rw [leastF, if_neg (by rw [hall]; decide), if_pos (by rw [← hrw]; omega)]
            refine go_seq ?_
            refine go_region ⟨_, Tryz.func84⟩ rfl ?_
            refine q0 rfl (o_assign ?_)
            refine q0 rfl (o_assign ?_)
            refine rg_nil ?_
            refine ret2 Tryz.func84 Tryz.results84 wn_ wn_ (none, 0) (by rw [hlf]; rfl) (fun w hs => by rw [hlf]; exact (hs.nilCL 0).bare.less (by simp))
          · have c82 : (decide (64 < (((rlTo l i)).length : Int))) = false := h82
            try simp only [sC, bne_iff_ne, beq_iff_eq, ne_eq] at c82
            have hlf : leastF l = (0, refLeast l) := by rw [leastF, if_neg (by rw [hall]; decide), if_neg (by rw [← hrw]; omega)]
            refine go_skip ?_
            refine go_seq ?_
            refine go_region ⟨_, Tryz.func84⟩ rfl ?_
            refine q0 rfl (o_move ?_)
            refine q0 rfl (o_assign ?_)
            refine q0 rfl (o_assign ?_)
            refine rg_nil ?_
            refine ret2 Tryz.func84 Tryz.results84 wn_ wn_ a (by rw [hlf, ← hrw]; rfl) (fun w hs => by rw [hlf, ← hrw]; exact hs.bare.less (by simp))
theorem rfright (l : List Cl) (a_l : SH)  : Spec Tryz.prog 67 #[sl a_l (l.length)] [CL l a_l] [] (fun _ : Unit => .bool ((fRight l))) (fun _ : Unit => []) (fun _ : Unit => []) := by
  refine spec_go (args := [sl a_l (l.length)]) Tryz.func67 Tryz.ntmps67 rfl (by exact Nat.le_of_ble_eq_true rfl) fun B hB => ?_
  refine go_openCL (l := l) (a := a_l) (fun hl1 hA1 hU1 => ?_)
  refine go_seq ?_
  refine go_region ⟨_, Tryz.func67⟩ rfl ?_
  refine q0 rfl (o_assign ?_)
  refine rg_nil ?_
  refine go_seq ?_
  refine go_region ⟨_, Tryz.func67⟩ rfl ?_
  refine q0 rfl (o_move ?_)
  refine q0 rfl (o_call Tryz.call84 (rleast l a_l ) (fun x7 => ?_))
  refine q0 rfl (o_move ?_)
  refine q0 rfl (o_extract ?_)
  refine q0 rfl (o_extract ?_)
  refine q0 rfl (o_assign ?_)
  refine q0 rfl (o_assign ?_)
  refine rg_nil ?_
  refine go_seq ?_
  refine go_cutS ([(2, .bool ((decide (((leastF l).1) = 0)) && (decide (((leastF l).2) = l))))]) (fun hK => ?_) (fun base => ?_)
  · refine go_region ⟨_, Tryz.func67⟩ rfl ?_
    refine q0 rfl (o_move ?_)
    refine q0 rfl (o_eqI ?_)
    refine q0 rfl (o_move ?_)
    refine qI rfl rfl rfl wl_ (fun hg12 => ?_) (fun hg12 => ?_)
    · have g12 : (decide (((leastF l).1) = 0)) = true := hg12
      try simp only [sC, bne_iff_ne, beq_iff_eq, ne_eq] at g12
      refine o_move ?_
      refine qT rfl rfl rfl (o_move ?_)
      refine qT rfl rfl rfl (o_call Tryz.call26 (rsameC ((leastF l).2) x7 l a_l ) (fun x15 => ?_))
      refine q0 rfl (o_pickT ?_)
      refine q0 rfl (o_assign ?_)
      refine rg_nil ?_
      exact hK _ ⟨dn_, trivial⟩
    · have g12 : (decide (((leastF l).1) = 0)) = false := hg12
      try simp only [sC, bne_iff_ne, beq_iff_eq, ne_eq] at g12
      refine qF rfl rfl rfl ?_
      refine qF rfl rfl rfl ?_
      refine q0 rfl (o_pickF ?_)
      refine q0 rfl (o_assign ?_)
      refine rg_nil ?_
      exact hK _ ⟨dn_, trivial⟩
  · refine ret1 Tryz.func67 Tryz.results67 wn_ () (by rw [← leastF_right]) (fun w hs => hs.none)
theorem rfaceright (l : List Cl) (a_l : SH)  : Spec Tryz.prog 68 #[sl a_l (l.length)] [CL l a_l] [] (fun _ : Unit => .bool ((faceRight l))) (fun _ : Unit => []) (fun _ : Unit => []) := by
  refine spec_go (args := [sl a_l (l.length)]) Tryz.func68 Tryz.ntmps68 rfl (by exact Nat.le_of_ble_eq_true rfl) fun B hB => ?_
  refine go_openCL (l := l) (a := a_l) (fun hl1 hA1 hU1 => ?_)
  refine go_seq ?_
  refine go_region ⟨_, Tryz.func68⟩ rfl ?_
  refine q0 rfl (o_assign ?_)
  refine rg_nil ?_
  refine go_seq ?_
  refine go_seq ?_
  refine go_region ⟨_, Tryz.func68⟩ rfl ?_
  refine q0 rfl (o_move ?_)
  refine q0 rfl (o_call Tryz.call67 (rfright l a_l ) (fun x5 => ?_))
  refine q0 rfl (o_not ?_)
  refine rg_nil ?_
  refine go_condI (fun h6 => ?_) (fun h6 => ?_)
  · have c6 : (!(fRight l)) = true := h6
    try simp only [sC, bne_iff_ne, beq_iff_eq, ne_eq] at c6
    refine go_seq ?_
    refine go_region ⟨_, Tryz.func68⟩ rfl ?_
    refine q0 rfl (o_assign ?_)
    refine rg_nil ?_
    refine ret1 Tryz.func68 Tryz.results68 wn_ () (by rw [faceRight, show fRight l = false by simpa using h6]; rfl) (fun w hs => hs.none)
  · have c6 : (!(fRight l)) = false := h6
    try simp only [sC, bne_iff_ne, beq_iff_eq, ne_eq] at c6
    have hfr : fRight l = true := by simpa using h6
    have hal : l.all right24 = true := by unfold fRight at hfr; simp only [Bool.and_eq_true] at hfr; exact hfr.1.1.1
    refine go_skip ?_
    refine go_seq ?_
    refine go_seq ?_
    refine go_region ⟨_, Tryz.func68⟩ rfl ?_
    refine q0 rfl (o_assign ?_)
    refine rg_nil ?_
    refine go_block ?_
    refine go_loopE (X := Nat) (fun s_ => s_ ≤ l.length ∧ ∀ j, j < s_ → clash (l.getD j cl0) = false) (fun s_ => [(0, sl a_l (l.length)), (3, .int .i64 ((s_ : Int)))]) (fun s_ G_ => G_) (fun s_ => []) (fun s_ => l.length - s_) (0) (⟨by omega, fun j hj => by omega⟩) (by exact ⟨rfl, rfl, trivial⟩) ?_ ?_
    · exact fun w hs => hs
    · intro i base0 ⟨hi, hok⟩ next0
      refine go_seq ?_
      refine go_seq ?_
      refine go_region ⟨_, Tryz.func68⟩ rfl ?_
      refine q0 rfl (o_move ?_)
      refine q0 rfl (o_move ?_)
      refine q0 rfl (o_len ?_)
      refine q0 rfl (o_lss ?_)
      refine rg_nil ?_
      refine go_condI (fun h10 => ?_) (fun h10 => ?_)
      · have c10 : (decide ((i : Int) < (l.length : Int))) = true := h10
        try simp only [sC, bne_iff_ne, beq_iff_eq, ne_eq] at c10
        have hu := hU1 _ (getD_mem (d := cl0) (show i < l.length by omega))
        have hu1 := hu.1
        have hu2 := hu.2
        have hr24 : right24 (l.getD i cl0) = true := List.all_eq_true.mp hal _ (getD_mem (by omega))
        refine go_skip ?_
        refine go_seq ?_
        refine go_block ?_
        refine go_seq ?_
        refine go_region ⟨_, Tryz.func68⟩ rfl ?_
        refine q0 rfl (o_move ?_)
        refine q0 rfl (o_move ?_)
        obtain ⟨bk2, o2, hav2⟩ := hA1 (by omega)
        refine q0 rfl (o_ixN ?_ (j := i))
        refine q0 rfl (o_ldC ?_)
        refine q0 rfl (o_call Tryz.call85 (rclash_spec (l.getD i cl0) om_) (fun x17 => ?_))
        refine rg_nil ?_
        refine go_condI (fun h17 => ?_) (fun h17 => ?_)
        · have c17 : ((rclash (l.getD i cl0))) = true := h17
          try simp only [sC, bne_iff_ne, beq_iff_eq, ne_eq] at c17
          refine go_seq ?_
          refine go_region ⟨_, Tryz.func68⟩ rfl ?_
          refine q0 rfl (o_assign ?_)
          refine rg_nil ?_
          have hb : clash (l.getD i cl0) = true := by rw [← rclash_eq hr24]; simpa using h17
          refine ret1 Tryz.func68 Tryz.results68 wn_ () (by rw [faceRight, any_true_at (d := cl0) (i := i) (by omega) hb]; simp) (fun w hs => hs.none)
        · have c17 : ((rclash (l.getD i cl0))) = false := h17
          try simp only [sC, bne_iff_ne, beq_iff_eq, ne_eq] at c17
          refine go_skip ?_
          refine go_inBlock ?_
          refine go_region ⟨_, Tryz.func68⟩ rfl ?_
          refine q0 rfl (o_move ?_)
          refine q0 rfl (o_add ?_)
          refine q0 rfl (o_assign ?_)
          refine rg_nil ?_
          have hb : clash (l.getD i cl0) = false := by rw [← rclash_eq hr24]; simpa using h17
          refine go_state (fun w hs => ?_) (next0 (i + 1) _ (⟨by omega, succ_inv hok hb⟩) (by omega) ⟨rfl, rfl, trivial⟩)
          exact (hs.less (by simp +contextual))
      · have c10 : (decide ((i : Int) < (l.length : Int))) = false := h10
        try simp only [sC, bne_iff_ne, beq_iff_eq, ne_eq] at c10
        refine go_exit rfl ?_
        refine go_seq ?_
        refine go_region ⟨_, Tryz.func68⟩ rfl ?_
        refine q0 rfl (o_assign ?_)
        refine rg_nil ?_
        refine ret1 Tryz.func68 Tryz.results68 wn_ () (by rw [faceRight, hfr, any_false_of (d := cl0) (fun j hj => hok j (by omega))]; rfl) (fun w hs => hs.none)
def dimsB (l : List Cl) (i k : Nat) : Bool := (orUpto l k).testBit i
theorem dimsB_zero (l : List Cl) (i : Nat) : dimsB l i 0 = false := by simp [dimsB, orUpto]
theorem dimsB_succ {l : List Cl} {i k : Nat} (hi : i < 24) (h : k < l.length) : dimsB l i (k + 1) = ((dimsB l i k || hasM (l.getD k cl0).pos (i : Int)) || hasM (l.getD k cl0).neg (i : Int)) := by
  unfold dimsB; rw [orUpto_succ h, Nat.testBit_or, Nat.testBit_or]; simp only [hasM]; rw [decide_eq_true (show (0 : Int) ≤ (i : Int) by omega), decide_eq_true (show (i : Int) < 24 by omega)]; simp [Bool.or_assoc]
theorem rfdims (l : List Cl) (a_l : SH)  : Spec Tryz.prog 87 #[sl a_l (l.length)] [CL l a_l] [] (fun _ : Unit => .int .u32 (((fDims l) : Nat) : Int)) (fun _ : Unit => []) (fun _ : Unit => []) := by
  refine spec_go (args := [sl a_l (l.length)]) Tryz.func87 Tryz.ntmps87 rfl (by exact Nat.le_of_ble_eq_true rfl) fun B hB => ?_
  refine go_openCL (l := l) (a := a_l) (fun hl1 hA1 hU1 => ?_)
  refine go_seq ?_
  refine go_region ⟨_, Tryz.func87⟩ rfl ?_
  refine q0 rfl (o_assign ?_)
  refine rg_nil ?_
  refine go_seq ?_
  refine go_region ⟨_, Tryz.func87⟩ rfl ?_
  refine q0 rfl (o_assign ?_)
  refine rg_nil ?_
  refine go_seq ?_
  refine go_seq ?_
  refine go_region ⟨_, Tryz.func87⟩ rfl ?_
  refine q0 rfl (o_assign ?_)
  refine rg_nil ?_
  refine go_block ?_
  refine go_loopE (X := Nat × SH) (fun s_ => s_.1 ≤ 24) (fun s_ => [(0, sl a_l (l.length)), (3, sl s_.2 ((listTo (orUpto l l.length) s_.1).length)), (4, .int .i64 ((s_.1 : Int)))]) (fun s_ G_ => G_) (fun s_ => [rowS 1 3 s_.2 ((listTo (orUpto l l.length) s_.1).length) (intFlat (listTo (orUpto l l.length) s_.1))]) (fun s_ => 24 - s_.1) (0, (none, 0)) (by omega) (by exact ⟨rfl, rfl, rfl, trivial⟩) ?_ ?_
  · exact fun w hs => (hs.rowS0 1 3)
  · intro ⟨i, a⟩ base0 hi0 next0
    dsimp only at hi0 next0 ⊢
    have hln := listTo_len (orUpto l l.length) i
    refine go_seq ?_
    refine go_seq ?_
    refine go_region ⟨_, Tryz.func87⟩ rfl ?_
    refine q0 rfl (o_move ?_)
    refine q0 rfl (o_lss ?_)
    refine rg_nil ?_
    refine go_condI (fun h8 => ?_) (fun h8 => ?_)
    · have c8 : (decide ((i : Int) < 24)) = true := h8
      try simp only [sC, bne_iff_ne, beq_iff_eq, ne_eq] at c8
      refine go_skip ?_
      refine go_seq ?_
      refine go_block ?_
      refine go_seq ?_
      refine go_region ⟨_, Tryz.func87⟩ rfl ?_
      refine q0 rfl (o_assign ?_)
      refine rg_nil ?_
      refine go_seq ?_
      refine go_seq ?_
      refine go_region ⟨_, Tryz.func87⟩ rfl ?_
      refine q0 rfl (o_assign ?_)
      refine rg_nil ?_
      refine go_block ?_
      refine go_loopE (X := Nat) (fun s_ => s_ ≤ l.length) (fun s_ => [(0, sl a_l (l.length)), (3, sl a ((listTo (orUpto l l.length) i).length)), (4, .int .i64 ((i : Int))), (5, .bool ((dimsB l i s_))), (6, .int .i64 ((s_ : Int)))]) (fun s_ G_ => G_) (fun s_ => [rowS 1 3 a ((listTo (orUpto l l.length) i).length) (intFlat (listTo (orUpto l l.length) i))]) (fun s_ => l.length - s_) (0) (by omega) (by exact ⟨rfl, rfl, rfl, (by rw [dimsB_zero]; rfl), rfl, trivial⟩) ?_ ?_
      · exact fun w hs => hs
      · intro k base1 hi1 next1
        refine go_seq ?_
        refine go_seq ?_
        refine go_region ⟨_, Tryz.func87⟩ rfl ?_
        refine q0 rfl (o_move ?_)
        refine q0 rfl (o_move ?_)
        refine q0 rfl (o_len ?_)
        refine q0 rfl (o_lss ?_)
        refine rg_nil ?_
        refine go_condI (fun h14 => ?_) (fun h14 => ?_)
        · have c14 : (decide ((k : Int) < (l.length : Int))) = true := h14
          try simp only [sC, bne_iff_ne, beq_iff_eq, ne_eq] at c14
          have hu := hU1 _ (getD_mem (d := cl0) (show k < l.length by omega))
          have hu1 := hu.1
          have hu2 := hu.2
          refine go_skip ?_
          refine go_seq ?_
          refine go_block ?_
          refine go_cutS ([(0, sl a_l (l.length)), (3, sl a ((listTo (orUpto l l.length) i).length)), (4, .int .i64 ((i : Int))), (5, .bool (((dimsB l i k) || (hasM ((l.getD k cl0).pos) (i : Int))) || (hasM ((l.getD k cl0).neg) (i : Int)))), (6, .int .i64 ((k : Int)))]) (fun hK => ?_) (fun base => ?_)
          · refine go_region ⟨_, Tryz.func87⟩ rfl ?_
            refine q0 rfl (o_move ?_)
            refine q0 rfl (o_move ?_)
            refine qI rfl rfl rfl wl_ (fun hg18 => ?_) (fun hg18 => ?_)
            · have g18 : ((dimsB l i k)) = false := hg18
              try simp only [sC, bne_iff_ne, beq_iff_eq, ne_eq] at g18
              refine o_move ?_
              refine qT rfl rfl rfl (o_move ?_)
              obtain ⟨bk2, o2, hav2⟩ := hA1 (by omega)
              refine qT rfl rfl rfl (o_ixN ?_ (j := k))
              refine qT rfl rfl rfl (o_fa ?_)
              refine qT rfl rfl rfl (o_ldCf ?_)
              refine qT rfl rfl rfl (o_move ?_)
              refine qT rfl rfl rfl (o_call Tryz.call109 (rhas ((l.getD k cl0).pos) (i : Int) om_) (fun x25 => ?_))
              refine q0 rfl (o_pickF ?_)
              refine q0 rfl (o_move ?_)
              refine qI rfl rfl rfl wl_ (fun hg27 => ?_) (fun hg27 => ?_)
              · have g27 : ((hasM ((l.getD k cl0).pos) (i : Int))) = false := hg27
                try simp only [sC, bne_iff_ne, beq_iff_eq, ne_eq] at g27
                refine o_move ?_
                refine qT rfl rfl rfl (o_move ?_)
                refine qT rfl rfl rfl (o_ixN ?_ (j := k))
                refine qT rfl rfl rfl (o_fa ?_)
                refine qT rfl rfl rfl (o_ldCf ?_)
                refine qT rfl rfl rfl (o_move ?_)
                refine qT rfl rfl rfl (o_call Tryz.call109 (rhas ((l.getD k cl0).neg) (i : Int) om_) (fun x34 => ?_))
                refine q0 rfl (o_pickF ?_)
                refine q0 rfl (o_assign ?_)
                refine rg_nil ?_
                exact hK _ ⟨rfl, rfl, rfl, dn_, rfl, trivial⟩
              · have g27 : ((hasM ((l.getD k cl0).pos) (i : Int))) = true := hg27
                try simp only [sC, bne_iff_ne, beq_iff_eq, ne_eq] at g27
                refine qF rfl rfl rfl ?_
                refine qF rfl rfl rfl ?_
                refine qF rfl rfl rfl ?_
                refine qF rfl rfl rfl ?_
                refine qF rfl rfl rfl ?_
                refine qF rfl rfl rfl ?_
                refine q0 rfl (o_pickT ?_)
                refine q0 rfl (o_assign ?_)
                refine rg_nil ?_
                exact hK _ ⟨rfl, rfl, rfl, dn_, rfl, trivial⟩
            · have g18 : ((dimsB l i k)) = true := hg18
              try simp only [sC, bne_iff_ne, beq_iff_eq, ne_eq] at g18
              refine qF rfl rfl rfl ?_
              refine qF rfl rfl rfl ?_
              refine qF rfl rfl rfl ?_
              refine qF rfl rfl rfl ?_
              refine qF rfl rfl rfl ?_
              refine qF rfl rfl rfl ?_
              refine q0 rfl (o_pickT ?_)
              refine q0 rfl (o_move ?_)
              refine qF rfl rfl rfl ?_
              refine qF rfl rfl rfl ?_
              refine qF rfl rfl rfl ?_
              refine qF rfl rfl rfl ?_
              refine qF rfl rfl rfl ?_
              refine qF rfl rfl rfl ?_
              refine qF rfl rfl rfl ?_
              refine q0 rfl (o_pickT ?_)
              refine q0 rfl (o_assign ?_)
              refine rg_nil ?_
              exact hK _ ⟨rfl, rfl, rfl, dn_, rfl, trivial⟩
          · refine go_inBlock ?_
            refine go_region ⟨_, Tryz.func87⟩ rfl ?_
            refine q0 rfl (o_move ?_)
            refine q0 rfl (o_add ?_)
            refine q0 rfl (o_assign ?_)
            refine rg_nil ?_
            refine go_state (fun w hs => ?_) (next1 (k + 1) _ (by omega) (by omega) ⟨rfl, rfl, rfl, (by (conv => lhs; whnf); rw [dimsB_succ (by omega) (by omega)]), rfl, trivial⟩)
            exact (hs.less (by simp +contextual))
        · have c14 : (decide ((k : Int) < (l.length : Int))) = false := h14
          try simp only [sC, bne_iff_ne, beq_iff_eq, ne_eq] at c14
          have he : k = l.length := by omega
          refine go_exit rfl ?_
          refine go_seq ?_
          refine go_region ⟨_, Tryz.func87⟩ rfl ?_
          refine q0 rfl (o_move ?_)
          refine rg_nil ?_
          refine go_condI (fun h36 => ?_) (fun h36 => ?_)
          · have c36 : ((dimsB l i k)) = true := h36
            try simp only [sC, bne_iff_ne, beq_iff_eq, ne_eq] at c36
            refine go_region ⟨_, Tryz.func87⟩ rfl ?_
            refine q0 rfl (o_move ?_)
            refine q0 rfl (o_move ?_)
            refine q0 rfl (o_lit1 fun b39 => ?_)
            refine q0 rfl (o_appS (fun a40 => ?_) (a := a) (n' := (listTo (orUpto l l.length) i).length))
            refine rg_state (fun w hs => ((hs.perm perm1).drop).snocI) ?_
            refine q0 rfl (o_assign ?_)
            refine rg_nil ?_
            refine go_inBlock ?_
            refine go_region ⟨_, Tryz.func87⟩ rfl ?_
            refine q0 rfl (o_move ?_)
            refine q0 rfl (o_add ?_)
            refine q0 rfl (o_assign ?_)
            refine rg_nil ?_
            have hnx : listTo (orUpto l l.length) (i + 1) = listTo (orUpto l l.length) i ++ [(i : Int)] := by rw [listTo_succ, if_pos (show (orUpto l l.length).testBit i = true by rw [← he]; exact h36)]
            refine go_state (fun w hs => ?_) (next0 (i + 1, a40) _ (by omega) (by (try simp only); omega) ⟨rfl, (by (conv => lhs; whnf); simp [sl, hnx]), rfl, trivial⟩)
            rw [hnx]; simpa using (hs.less (by simp +contextual))
          · have c36 : ((dimsB l i k)) = false := h36
            try simp only [sC, bne_iff_ne, beq_iff_eq, ne_eq] at c36
            refine go_skip ?_
            refine go_inBlock ?_
            refine go_region ⟨_, Tryz.func87⟩ rfl ?_
            refine q0 rfl (o_move ?_)
            refine q0 rfl (o_add ?_)
            refine q0 rfl (o_assign ?_)
            refine rg_nil ?_
            have hnx : listTo (orUpto l l.length) (i + 1) = listTo (orUpto l l.length) i := by rw [listTo_succ, if_neg]; rw [show (orUpto l l.length).testBit i = false by rw [← he]; exact h36]; decide
            refine go_state (fun w hs => ?_) (next0 (i + 1, a) _ (by omega) (by (try simp only); omega) ⟨rfl, (by (conv => lhs; whnf); simp [sl, hnx]), rfl, trivial⟩)
            rw [hnx]; exact (hs.less (by simp +contextual))
    · have c8 : (decide ((i : Int) < 24)) = false := h8
      try simp only [sC, bne_iff_ne, beq_iff_eq, ne_eq] at c8
      have he : i = 24 := by omega
      subst he
      refine go_state (fun w hs => (hs.settleIL hB rfl rfl (by unfold reach; omega) (fun c hc => by have := listTo_in hc; unfold in64; omega))) ?_
      refine go_exit rfl ?_
      refine go_seq ?_
      refine go_region ⟨_, Tryz.func87⟩ rfl ?_
      refine q0 rfl (o_move ?_)
      refine q0 rfl (o_call Tryz.call110 (rset (listTo (orUpto l l.length) 24) a (by omega) (fun x hx => by have := listTo_in hx; omega)) (fun x42 => ?_))
      refine q0 rfl (o_assign ?_)
      refine rg_nil ?_
      refine ret1 Tryz.func87 Tryz.results87 wn_ () (by rw [setM_listM, fDims_eq]) (fun w hs => hs.none)
end Go.Hy
