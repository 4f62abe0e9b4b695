/- Contracts of this program's functions and the laws that they need: a separation logic over the machine's rules, one theorem each (partly printed by a program of this repository). -/
import Derived.Shelf.SlSortCmp.WholeK
import Derived.Shelf.SlGeneric
import Derived.Ground.SlsfProg
import Derived.Test.YtceegbilhbhibaaGreatProg
import Derived.Tactics2
import Derived.Shelf.SlSortCmp.NoneTotal
import Derived.Test.YtceegbilhbhibaaGreatP2
import Derived.Test.YtceegbilhbhibaaGreatP3
import Derived.Test.YtceegbilhbhibaaGreatP4
import Derived.Test.YtceegbilhbhibaaGreatP5
import Derived.Test.YtceegbilhbhibaaGreatP6
set_option linter.unusedVariables false
set_option linter.unusedSimpArgs false
set_option linter.unusedSectionVars false
namespace Go.Hy
/-! ### A contract whose result is only known to be so and so -/
theorem Spec.hide {P : Program} {k : FuncId} {args : Array Value} {pre : List Fact} {Ms0 : List Res} {α X : Type} (r : α) {val : α → X → Value} {N : α → X → List Fact} {Ms1 : α → X → List Res} (h : Spec P k args pre Ms0 (val r) (N r) (Ms1 r)) :
    Spec P k args pre Ms0 (fun x : {x : α × X // x.1 = r} => val x.1.1 x.1.2) (fun x => N x.1.1 x.1.2) (fun x => Ms1 x.1.1 x.1.2) := fun ok w hk hs => (h ok w hk hs).mono fun e w' hh => by
  obtain ⟨x, he, hs'⟩ := hh
  exact ⟨⟨(r, x), rfl⟩, he, hs'⟩
/-! ### What a way tells of the parts -/
section
variable {C : Type} {A : Tr C}
theorem travL_at {k : Int} {c : C} : ∀ {ts us : List T} {i : Nat}, travL A k i ts c = .ok us → us.length = ts.length ∧ ∀ j, j < us.length → ∃ c', A.kid c (binds k ((i + j : Nat) : Int)) = .ok c' ∧ trav A (ts.getD j t0) c' = .ok (us.getD j t0)
  | [], us, i, h => by rw [travL_nil] at h; injection h with h; subst h; exact ⟨rfl, fun j hj => absurd hj (by simp)⟩
  | t :: ts, us, i, h => by
    rw [travL_cons] at h
    obtain ⟨c', h1, h⟩ := Res1.bind_ok h
    obtain ⟨t', h2, h⟩ := Res1.bind_ok h
    obtain ⟨ts', h3, h⟩ := Res1.bind_ok h
    injection h with h
    subst h
    obtain ⟨h4, h5⟩ := travL_at h3
    refine ⟨by simp [h4], fun j hj => ?_⟩
    cases j with
    | zero => exact ⟨c', by simpa using h1, by simpa using h2⟩
    | succ j =>
      obtain ⟨d, h6, h7⟩ := h5 j (by simpa using hj)
      exact ⟨d, by rw [show i + (j + 1) = i + 1 + j by omega]; exact h6, by rw [List.getD_cons_succ, List.getD_cons_succ]; exact h7⟩
theorem travS_at {k : Int} {c : C} : ∀ {ts us : List T}, travS A k ts c = .ok us → us.length = ts.length ∧ ∀ j, j < us.length → ∃ c', A.kid c (0, more k) = .ok c' ∧ trav A (ts.getD j t0) c' = .ok (us.getD j t0)
  | [], us, h => by rw [travS_nil] at h; injection h with h; subst h; exact ⟨rfl, fun j hj => absurd hj (by simp)⟩
  | t :: ts, us, h => by
    rw [travS_cons] at h
    obtain ⟨c', h1, h⟩ := Res1.bind_ok h
    obtain ⟨t', h2, h⟩ := Res1.bind_ok h
    obtain ⟨ts', h3, h⟩ := Res1.bind_ok h
    injection h with h
    subst h
    obtain ⟨h4, h5⟩ := travS_at h3
    refine ⟨by simp [h4], fun j hj => ?_⟩
    cases j with
    | zero => exact ⟨c', h1, by simpa using h2⟩
    | succ j =>
      obtain ⟨d, h6, h7⟩ := h5 j (by simpa using hj)
      exact ⟨d, h6, by rw [List.getD_cons_succ, List.getD_cons_succ]; exact h7⟩
theorem travB_at {k : Int} {c : C} : ∀ {bs us : List Br}, travB A k bs c = .ok us → us.length ≤ bs.length ∧ ∀ u, u ∈ us → ∃ b, b ∈ bs ∧ A.face c b.face = .ok (some u.face) ∧ travS A k b.kids c = .ok u.kids
  | [], us, h => by rw [travB_nil] at h; injection h with h; subst h; exact ⟨Nat.le_refl _, fun u hu => (by cases hu)⟩
  | b :: bs, us, h => by
    rw [travB_cons] at h
    obtain ⟨o, h1, h⟩ := Res1.bind_ok h
    cases o with
    | none =>
      obtain ⟨h4, h5⟩ := travB_at h
      exact ⟨by simp only [List.length_cons]; omega, fun u hu => by obtain ⟨x, hx, h6⟩ := h5 u hu; exact ⟨x, List.mem_cons_of_mem _ hx, h6⟩⟩
    | some f' =>
      obtain ⟨ks', h2, h⟩ := Res1.bind_ok h
      obtain ⟨bs', h3, h⟩ := Res1.bind_ok h
      injection h with h
      subst h
      obtain ⟨h4, h5⟩ := travB_at h3
      refine ⟨by simp only [List.length_cons]; omega, fun u hu => ?_⟩
      rcases List.mem_cons.mp hu with rfl | hu
      · exact ⟨b, List.mem_cons_self, h1, h2⟩
      · obtain ⟨x, hx, h6⟩ := h5 u hu; exact ⟨x, List.mem_cons_of_mem _ hx, h6⟩
theorem mem_getD {α : Type} {d x : α} {l : List α} (h : x ∈ l) : ∃ i, i < l.length ∧ l.getD i d = x := by
  obtain ⟨i, hi, e⟩ := List.mem_iff_getElem.mp h
  exact ⟨i, hi, by rw [getD_get (d := d) hi]; exact e⟩
theorem trav_out {t u : T} {c : C} (h : trav A t c = .ok u) : A.own c t.kind t.n t.name t.r = .ok (.inl u) ∨ ∃ p, A.own c t.kind t.n t.name t.r = .ok (.inr p) ∧ (u.kind = t.kind ∧ u.n = p.1 ∧ u.name = t.name ∧ u.r = p.2) ∧
    (∀ q, q ∈ parts u → ∃ p, p ∈ parts t ∧ p.2 = q.2 ∧ ∃ c', A.kid c p.2 = .ok c' ∧ trav A p.1 c' = .ok q.1) ∧ ∀ b', b' ∈ u.sys → ∃ b, b ∈ t.sys ∧ A.face c b.face = .ok (some b'.face) := by
  rw [trav_eq] at h
  obtain ⟨o, h1, h⟩ := Res1.bind_ok h
  cases o with
  | inl v => injection h with h; subst h; exact .inl h1
  | inr p =>
    obtain ⟨ks', h2, h⟩ := Res1.bind_ok h
    obtain ⟨ss', h3, h⟩ := Res1.bind_ok h
    injection h with h
    subst h
    obtain ⟨l1, l2⟩ := travL_at h2
    obtain ⟨b1, b2⟩ := travB_at h3
    refine .inr ⟨p, h1, ⟨rfl, rfl, rfl, rfl⟩, fun q hq => ?_, fun b' hb' => ?_⟩
    · rcases part_cases hq with ⟨i, hi, rfl⟩ | ⟨s, j, hs, hj, rfl⟩
      · simp only [T.kids, T.kind] at hi ⊢
        obtain ⟨c', h4, h5⟩ := l2 i hi
        exact ⟨_, List.mem_of_getElem? (parts_kid t i (by omega)), rfl, c', by rw [Nat.zero_add] at h4; exact h4, h5⟩
      · simp only [T.sys, T.kind] at hs hj ⊢
        obtain ⟨b, hb, _, h6⟩ := b2 _ (getD_mem (d := br0) hs)
        obtain ⟨h7, h8⟩ := travS_at h6
        obtain ⟨c', h9, h10⟩ := h8 j hj
        obtain ⟨s', hs', e⟩ := mem_getD (d := br0) hb
        refine ⟨_, List.mem_of_getElem? (parts_sys t s' j hs' (by rw [e]; omega)), rfl, c', h9, ?_⟩
        rw [e]; exact h10
    · obtain ⟨b, hb, h6, _⟩ := b2 b' hb'
      exact ⟨b, hb, h6⟩
theorem bind_bad_of {α β : Type} {x : Res1 α} {k : α → Res1 β} {e : Int} (h : x.bind k = .bad e) : x = .bad e ∨ ∃ a, x = .ok a ∧ k a = .bad e := by
  cases x with
  | ok a => exact .inr ⟨a, rfl, h⟩
  | bad e' => injection h with h; subst h; exact .inl rfl
theorem travL_why {k : Int} {c : C} {e : Int} : ∀ {ts : List T} {i : Nat}, travL A k i ts c = .bad e → ∃ j, j < ts.length ∧ (A.kid c (binds k ((i + j : Nat) : Int)) = .bad e ∨ ∃ c', A.kid c (binds k ((i + j : Nat) : Int)) = .ok c' ∧ trav A (ts.getD j t0) c' = .bad e)
  | [], i, h => by rw [travL_nil] at h; cases h
  | t :: ts, i, h => by
    rw [travL_cons] at h
    rcases bind_bad_of h with h | ⟨c', h1, h⟩
    · exact ⟨0, by simp, .inl (by simpa using h)⟩
    · rcases bind_bad_of h with h | ⟨t', h2, h⟩
      · exact ⟨0, by simp, .inr ⟨c', by simpa using h1, by simpa using h⟩⟩
      · rcases bind_bad_of h with h | ⟨ts', h3, h⟩
        · obtain ⟨j, hj, h4⟩ := travL_why h
          refine ⟨j + 1, by simpa using hj, ?_⟩
          rw [List.getD_cons_succ, show i + (j + 1) = i + 1 + j by omega]; exact h4
        · cases h
theorem travS_why {k : Int} {c : C} {e : Int} : ∀ {ts : List T}, travS A k ts c = .bad e → ∃ j, j < ts.length ∧ (A.kid c (0, more k) = .bad e ∨ ∃ c', A.kid c (0, more k) = .ok c' ∧ trav A (ts.getD j t0) c' = .bad e)
  | [], h => by rw [travS_nil] at h; cases h
  | t :: ts, h => by
    rw [travS_cons] at h
    rcases bind_bad_of h with h | ⟨c', h1, h⟩
    · exact ⟨0, by simp, .inl h⟩
    · rcases bind_bad_of h with h | ⟨t', h2, h⟩
      · exact ⟨0, by simp, .inr ⟨c', h1, by simpa using h⟩⟩
      · rcases bind_bad_of h with h | ⟨ts', h3, h⟩
        · obtain ⟨j, hj, h4⟩ := travS_why h
          exact ⟨j + 1, by simpa using hj, by rw [List.getD_cons_succ]; exact h4⟩
        · cases h
theorem travB_why {k : Int} {c : C} {e : Int} : ∀ {bs : List Br}, travB A k bs c = .bad e → ∃ b, b ∈ bs ∧ (A.face c b.face = .bad e ∨ travS A k b.kids c = .bad e)
  | [], h => by rw [travB_nil] at h; cases h
  | b :: bs, h => by
    rw [travB_cons] at h
    rcases bind_bad_of h with h | ⟨o, h1, h⟩
    · exact ⟨b, List.mem_cons_self, .inl h⟩
    · cases o with
      | none => obtain ⟨x, hx, h⟩ := travB_why h; exact ⟨x, List.mem_cons_of_mem _ hx, h⟩
      | some f' =>
        rcases bind_bad_of h with h | ⟨ks, h2, h⟩
        · exact ⟨b, List.mem_cons_self, .inr h⟩
        · rcases bind_bad_of h with h | ⟨us, h3, h⟩
          · obtain ⟨x, hx, h⟩ := travB_why h; exact ⟨x, List.mem_cons_of_mem _ hx, h⟩
          · cases h
theorem trav_why {t : T} {c : C} {e : Int} (h : trav A t c = .bad e) : A.own c t.kind t.n t.name t.r = .bad e ∨ (∃ b, b ∈ t.sys ∧ A.face c b.face = .bad e) ∨ ∃ p, p ∈ parts t ∧ (A.kid c p.2 = .bad e ∨ ∃ c', A.kid c p.2 = .ok c' ∧ trav A p.1 c' = .bad e) := by
  rw [trav_eq] at h
  rcases bind_bad_of h with h | ⟨o, h1, h⟩
  · exact .inl h
  · cases o with
    | inl u => cases h
    | inr p =>
      rcases bind_bad_of h with h | ⟨ks, h2, h⟩
      · obtain ⟨j, hj, h3⟩ := travL_why h
        rw [Nat.zero_add] at h3
        exact .inr (.inr ⟨_, List.mem_of_getElem? (parts_kid t j hj), h3⟩)
      · rcases bind_bad_of h with h | ⟨ss, h3, h⟩
        · obtain ⟨b, hb, h4⟩ := travB_why h
          rcases h4 with h4 | h4
          · exact .inr (.inl ⟨b, hb, h4⟩)
          · obtain ⟨j, hj, h5⟩ := travS_why h4
            obtain ⟨s, hs, e2⟩ := mem_getD (d := br0) hb
            refine .inr (.inr ⟨_, List.mem_of_getElem? (parts_sys t s j hs (by rw [e2]; exact hj)), ?_⟩)
            rw [e2]; exact h5
        · cases h
end
end Go.Hy
namespace Go.Hy
/-! ### What a lift does to the bits -/
theorem maskLift_from {s : Nat} {f b : Int} (h : (maskLift s f b).1 = 0) (i : Nat) (hi : (maskLift s f b).2.testBit i = true) : ∃ j, j < 24 ∧ s.testBit j = true ∧ (((j : Int) < f ∧ i = j) ∨ (f ≤ (j : Int) ∨ 24 ≤ j) ∧ (i : Int) = j + b) := by
  obtain ⟨h0, h1, h2⟩ := maskLift_bit h i
  rw [h2, Bool.or_eq_true, Bool.and_eq_true, Bool.and_eq_true, decide_eq_true_eq, decide_eq_true_eq, and24_bit, and24_bit, Bool.and_eq_true, Bool.and_eq_true, decide_eq_true_eq, decide_eq_true_eq] at hi
  rcases hi with ⟨h3, h4, h5⟩ | ⟨h3, h4, h5⟩
  · exact ⟨i, h4, h5, .inl ⟨by omega, rfl⟩⟩
  · exact ⟨i - b.toNat, h4, h5, .inr ⟨by omega, by omega⟩⟩
theorem fine_row {t : T} (h : fineT t) : fRight t.r = true := by
  obtain ⟨_, _, _, _, h13, h14, h0⟩ := (fineT_iff.mp h).1
  by_cases h1 : t.kind = 13 ∨ t.kind = 21 ∨ t.kind = 26
  · exact h13 h1
  · by_cases h2 : t.kind = 14
    · have := h14 h2
      unfold faceRight at this
      rw [Bool.and_eq_true] at this
      exact this.1
    · rw [h0 (by omega)]; exact fRight_nil
theorem fine_face {t : T} (h : fineT t) {b : Br} (hb : b ∈ t.sys) : faceRight b.face = true := (fineB_iff.mp (fineT_iff.mp h).2.2.2.2 b hb).2.1
theorem fine_part {t : T} (h : fineT t) {p : Part} (hp : p ∈ parts t) : fineT p.1 := (fine_parts.mp h).2 p hp
theorem face_row {l : List Cl} (h : faceRight l = true) : fRight l = true := by
  unfold faceRight at h
  rw [Bool.and_eq_true] at h
  exact h.1
end Go.Hy
namespace Go.Hy
theorem St.litI {B : Base} {Γ : List Fact} {Ms : List Res} {w : World} {b : Nat} {e : TypeId} {cs : List Value} (l : List Int) (hs : St B Γ (boxR b cs e :: Ms) w) {hBp : Prop} (hB : hBp) (hc : cs = intFlat l) (hn : l.length ≤ 1000) (hu : ∀ c, c ∈ l → in64 c) : St B (IL l (some ⟨b, 0, Option.none⟩, l.length) :: Γ) Ms w :=
  (hs.boxRow (sz := 1) (m := l.length) (by rw [hc, flat_len intCells_len l]) (by unfold maxLen; omega)).settleIL hB hc rfl (by unfold reach; omega) hu
end Go.Hy
namespace Go.Hy
/-! ### The chapter's examples of lifts -/
def vE (n : Int) : T := .mk 1 n ⟨#[]⟩ [] [] []
theorem vars_okT {t : T} {f b : Int} (hb : in64 b) (h : okT t) : okT (varsRes t f b).2 := by
  refine guard_okT' (fun ha u hu => ?_)
  simp only [List.all_cons, List.all_nil, Bool.and_true, Bool.and_eq_true, decide_eq_true_eq] at ha
  exact lift_okT ⟨ha.2.1, most_le hb ha.2.1 ha.2.2⟩ h hu
theorem dims_okT {t : T} {f b : Int} (h : okT t) : okT (dimsRes t f b).2 := guard_okT' (fun _ u hu => lift_okT (by omega) h hu)
theorem guard_size {t : T} {ns : List Int} {r : Res1 T} (h : ∀ u, r = .ok u → size u = size t) : size (guardRes t ns r).2 ≤ size t := by
  have h0 : size t0 ≤ size t := by have := size_pos' t; rw [show size t0 = 1 by decide +kernel]; exact this
  unfold guardRes
  split
  · exact h0
  · split
    · exact h0
    · cases r with
      | ok u => exact Nat.le_of_eq (h u rfl)
      | bad e => exact h0
theorem dims_size (t : T) (f b : Int) : size (dimsRes t f b).2 ≤ size t := guard_size fun u hu => lift_size hu
end Go.Hy
namespace Go.Hy
/-! ### Sizes as sums -/
def sizeL : List T → Nat
  | [] => 0
  | t :: ts => size t + sizeL ts
def sizeB : List Br → Nat
  | [] => 0
  | b :: bs => sizeL b.kids + sizeB bs
theorem foldl_add {α : Type} (f : α → Nat) : ∀ (l : List α) (a : Nat), l.foldl (fun a p => a + f p) a = a + l.foldl (fun a p => a + f p) 0
  | [], a => rfl
  | x :: l, a => by rw [List.foldl_cons, List.foldl_cons, foldl_add f l (a + f x), foldl_add f l (0 + f x)]; omega
theorem size_sumLB (t : T) : size t = 1 + sizeL t.kids + sizeB t.sys := by
  have hk : ∀ (k : Int) (ts : List T) (i : Nat), (kidParts k i ts).foldl (fun a p => a + size p.1) 0 = sizeL ts := by
    intro k ts
    induction ts with
    | nil => intro i; rfl
    | cons t ts ih => intro i; rw [kidParts, List.foldl_cons, foldl_add, ih, sizeL]; simp only; omega
  have hm : ∀ (ts : List T) (b : Int × Int), (ts.map fun k => ((k, b.1, b.2) : Part)).foldl (fun a p => a + size p.1) 0 = sizeL ts := by
    intro ts b
    induction ts with
    | nil => rfl
    | cons t ts ih => rw [List.map_cons, List.foldl_cons, foldl_add, ih, sizeL]; simp only; omega
  have hs : ∀ (k : Int) (bs : List Br), (sysParts k bs).foldl (fun a p => a + size p.1) 0 = sizeB bs := by
    intro k bs
    induction bs with
    | nil => rfl
    | cons b bs ih => rw [sysParts, List.foldl_append, foldl_add, ih, hm b.kids (0, more k), sizeB]
  rw [size_eq, parts, List.foldl_append, foldl_add, hs, foldl_add, hk]
section
variable {t u : T} {n : Int}
end
end Go.Hy
namespace Go.Hy
/-! ### Lifted rows, clause by clause -/
theorem maskLift_iff {s : Nat} {f b : Int} (h : (maskLift s f b).1 = 0) (i : Nat) : (maskLift s f b).2.testBit i = true ↔ ∃ j, j < 24 ∧ s.testBit j = true ∧ (((j : Int) < f ∧ i = j) ∨ (f ≤ (j : Int) ∧ (i : Int) = j + b)) := by
  obtain ⟨h0, h1, h2⟩ := maskLift_bit h i
  constructor
  · intro hi
    obtain ⟨j, h3, h4, h5⟩ := maskLift_from h i hi
    exact ⟨j, h3, h4, by omega⟩
  · rintro ⟨j, h3, h4, h5⟩
    rw [h2, Bool.or_eq_true, Bool.and_eq_true, Bool.and_eq_true, decide_eq_true_eq, decide_eq_true_eq, and24_bit, and24_bit, Bool.and_eq_true, Bool.and_eq_true, decide_eq_true_eq, decide_eq_true_eq]
    rcases h5 with ⟨h5, rfl⟩ | ⟨h5, h6⟩
    · exact .inl ⟨by omega, h3, h4⟩
    · refine .inr ⟨by omega, ?_⟩
      rw [show i - b.toNat = j by omega]
      exact ⟨h3, h4⟩
theorem mask_keep {s : Nat} {f b : Int} (hs : s < 16777216) (h0 : 0 ≤ f) (hb : 0 ≤ b) (h : b = 0 ∨ 24 ≤ f) : maskLift s f b = (0, s) := by
  have hs24 : s &&& 16777215 = s := by rw [and24]; exact Nat.mod_eq_of_lt hs
  have h1 : (maskLift s f b).1 = 0 := by
    unfold maskLift
    rw [if_neg (by omega)]
    split
    · rfl
    · rename_i h2
      rw [if_neg]
      rintro (h3 | h3)
      · rcases h with h | h
        · omega
        · refine h2 ?_
          refine Nat.eq_of_testBit_eq fun i => ?_
          rw [andNot32_bit, mask_bit, Nat.zero_testBit, and24_bit, show min f.toNat 24 = 24 by omega]
          by_cases hi : i < 24 <;> simp [hi]
      · rcases h with h | h
        · subst h
          have := andNot_lt (q := s &&& 16777215) (m := 2 ^ min f.toNat 24 - 1) (and24_lt s)
          simp at h3
          omega
        · refine h2 ?_
          refine Nat.eq_of_testBit_eq fun i => ?_
          rw [andNot32_bit, mask_bit, Nat.zero_testBit, and24_bit, show min f.toNat 24 = 24 by omega]
          by_cases hi : i < 24 <;> simp [hi]
  refine Prod.ext h1 ?_
  refine Nat.eq_of_testBit_eq fun i => ?_
  rw [Bool.eq_iff_iff, maskLift_iff h1]
  have hlt : ∀ j, s.testBit j = true → j < 24 := fun j hj => by
    refine Nat.lt_of_not_le fun hge => ?_
    rw [Nat.testBit_lt_two_pow (Nat.lt_of_lt_of_le hs (Nat.pow_le_pow_right (n := 2) (i := 24) (by omega) hge))] at hj
    cases hj
  constructor
  · rintro ⟨j, h2, h3, h4⟩
    rw [show i = j by omega]; exact h3
  · intro h2
    exact ⟨i, hlt i h2, h2, by have := hlt i h2; omega⟩
theorem fRight_parts {l : List Cl} (h : fRight l = true) : (∀ c, c ∈ l → right24 c = true) ∧ apart l = true := by
  unfold fRight at h
  simp only [Bool.and_eq_true, List.all_eq_true] at h
  exact ⟨h.1.1.1, h.1.2⟩
theorem right24_iff {c : Cl} : right24 c = true ↔ c.pos < 16777216 ∧ c.neg < 16777216 := by unfold right24; rw [Bool.and_eq_true, decide_eq_true_eq, decide_eq_true_eq]
/-! ### Two ways and two others -/
section
variable {CA CB CC CD : Type} {A : Tr CA} {B : Tr CB} {C : Tr CC} {D : Tr CD} (R : CA → CB → CC → CD → Prop)
/-- Where both are told, the one and then the other is the third and then the fourth; no branch is dropped, and only variables become what they become by themselves. -/
structure Sq : Prop where
  leaf : ∀ t a b c x ca cb cc cd, R ca cb cc cd → fineT t → t.kind = 1 → trav A t ca = .ok a → trav B a cb = .ok b → trav C t cc = .ok c → trav D c cd = .ok x → b = x
  nA : ∀ ca k n nm r u, k ≠ 1 → A.own ca k n nm r ≠ .ok (.inl u)
  nB : ∀ ca k n nm r u, k ≠ 1 → B.own ca k n nm r ≠ .ok (.inl u)
  nC : ∀ ca k n nm r u, k ≠ 1 → C.own ca k n nm r ≠ .ok (.inl u)
  nD : ∀ ca k n nm r u, k ≠ 1 → D.own ca k n nm r ≠ .ok (.inl u)
  own : ∀ ca cb cc cd k n nm r pa pb pc pd, R ca cb cc cd → headOK k n nm r → k ≠ 1 → A.own ca k n nm r = .ok (.inr pa) → B.own cb k pa.1 nm pa.2 = .ok (.inr pb) → C.own cc k n nm r = .ok (.inr pc) → D.own cd k pc.1 nm pc.2 = .ok (.inr pd) → pb = pd
  face : ∀ ca cb cc cd f oa oc ob od, R ca cb cc cd → faceRight f = true → A.face ca f = .ok oa → C.face cc f = .ok oc → ∃ fa fc, oa = some fa ∧ oc = some fc ∧ (B.face cb fa = .ok ob → D.face cd fc = .ok od → ∃ g, ob = some g ∧ od = some g)
  kid : ∀ ca cb cc cd b ca' cb' cc' cd', R ca cb cc cd → 0 ≤ b.1 → 0 ≤ b.2 → A.kid ca b = .ok ca' → B.kid cb b = .ok cb' → C.kid cc b = .ok cc' → D.kid cd b = .ok cd' → R ca' cb' cc' cd'
variable {R}
end
end Go.Hy
namespace Go.Hy
/-! ### Terms of a list that a fact tells of, behind one of the call's own -/
def tpsOf (l : List T) (VR VK VS : Nat → SH) : List TP := (List.range l.length).map fun i => (l.getD i t0, VR i, VK i, VS i)
theorem tpsOf_len (l : List T) (VR VK VS : Nat → SH) : (tpsOf l VR VK VS).length = l.length := by simp [tpsOf]
theorem tpsOf_get {l : List T} {VR VK VS : Nat → SH} {i : Nat} (h : i < l.length) : (tpsOf l VR VK VS).getD i tp0 = (l.getD i t0, VR i, VK i, VS i) := by
  unfold tpsOf
  rw [List.getD_eq_getElem?_getD, List.getElem?_map, List.getElem?_range h]
  rfl
theorem tpsOf_map (l : List T) (VR VK VS : Nat → SH) : (tpsOf l VR VK VS).map (·.1) = l := by
  refine List.ext_getElem (by simp [tpsOf]) fun i h1 h2 => ?_
  simp only [tpsOf, List.getElem_map, List.getElem_range]
  exact getD_get (d := t0) h2
theorem tp_one (l : List TP) : oneCells (tpFlat l) = true := by
  unfold oneCells
  rw [List.all_eq_true]
  intro v hv
  obtain ⟨c, _, hc⟩ := List.mem_flatMap.mp hv
  simp only [tpCells, tc, List.mem_cons, List.not_mem_nil, or_false] at hc
  rcases hc with rfl | rfl | rfl | rfl | rfl | rfl <;> rfl
section
variable {P : Program} [Tab P] {B : Base} {σ : Nat → Value} {Γ : List Fact} {Ms Ms2 : List Res} {ty : TypeId} {x y z : Operand} {v : Value}
theorem te_appTL {t e : TypeId} {ts : Array TypeId} {bt n : Nat} {zv : Value} {a b : SH} {xs : List Value} {l : List T} {VR VK VS : Nat → SH} (hm : Ms.Perm (rowS 6 e a n xs :: Ms2)) (hF : TLx l b VR VK VS ∈ Γ) (hx : ev σ x = sl a n) (hy : ev σ y = sl b l.length) (hts : ts = #[t, t]) (hu : Tab.und P t = some (.slice e)) (hi : Tab.inf P e = some (6, bt, zv)) (hzs : zv.cells.size = 6)
    (hb : (n + l.length) * bt ≤ 140737488355328) (hnm : n + l.length ≤ 9223372036854775807) :
    TurnE P B σ Γ Ms (.call { callee := .builtin .append, args := #[x, y], argTypes := ts }) ty (fun a' : SH => sl a' (n + l.length)) (fun _ => Γ) (fun a' => rowS 6 e a' (n + l.length) (xs ++ tpFlat (tpsOf l VR VK VS)) :: Ms2) := by
  obtain ⟨bo, bc⟩ := b
  cases bo with
  | some ad =>
    refine te_appendW hts hu hi hzs (by omega) hx hy hm (fun w hs j u hj => ?_) (by rw [flat_len (F := tpCells) (sz := 6) (fun _ => rfl), tpsOf_len]) (tp_one _) hb hnm
    obtain ⟨h1, h2⟩ := flat_get (F := tpCells) (sz := 6) (fun _ => rfl) tp0 (tpsOf l VR VK VS) j u hj
    rw [tpsOf_len] at h1
    rw [tpsOf_get h1] at h2
    have hcl : tlxAt (okOf B Ms w) l (some ad, bc) VR VK VS w := hs.facts _ hF
    obtain ⟨bk, o, hbk, _, hrow⟩ := hcl.1.2.2 (by omega)
    injection hbk with hbk
    subst hbk
    have := hrow (j / 6) h1 (j % 6) u h2
    rw [Addr.add_lit]
    rwa [show o + j / 6 * 6 + j % 6 = o + j by omega] at this
  | none =>
    intro w hs
    have hs' := hs.perm hm
    have hcl : tlxAt (okOf B Ms w) l (none, bc) VR VK VS w := hs.facts _ hF
    have hl : l.length = 0 := by
      rcases Nat.eq_zero_or_pos l.length with h | h
      · exact h
      · obtain ⟨bk, o, hbk, _⟩ := hcl.1.2.2 h; cases hbk
    have hown : w.ownsRow 0 e 6 (sl a n) n xs := hs'.res _ List.mem_cons_self w (fun _ _ => rfl)
    have hl2 : l = [] := List.eq_nil_of_length_eq_zero hl
    subst hl2
    refine ⟨a, w, ?_, by simpa [tpsOf] using hs'⟩
    subst hts
    have hle : n ≤ a.2 := by
      rcases hown.2 with ⟨h1, h2⟩ | ⟨g, cap, cur, h1, _, _, h3, _⟩
      · omega
      · injection h1 with _ _ h1; omega
    obtain ⟨ao, ac⟩ := a
    simp only at hle
    cases ao with
    | none => simp [opr, execOp, resolve, invoke, builtin, hx, hy, sl, Builtin.append_, run_und0 hu, run_size0 hi, Builtin.lenOf, hle, Builtin.firstCells]
    | some ad => simp [opr, execOp, resolve, invoke, builtin, hx, hy, sl, Builtin.append_, run_und0 hu, run_size0 hi, Builtin.lenOf, hle, Builtin.firstCells, storeCells]
theorem te_appNew {hBp : Prop} (hB : hBp) {t e : TypeId} {ts : Array TypeId} {g bt : Nat} {zv : Value} {b : SH} {u : T} {ur uk us : SH} {l : List T} {VR VK VS : Nat → SH} (hU : RT u ur uk us ∈ Γ) (hF : TLx l b VR VK VS ∈ Γ) (hx : ev σ x = .slice (some ⟨g, 0, none⟩) 1 1) (hy : ev σ y = sl b l.length) (hts : ts = #[t, t]) (hu : Tab.und P t = some (.slice e)) (hi : Tab.inf P e = some (6, bt, zv)) (hzs : zv.cells.size = 6)
    (hb : (1 + l.length) * bt ≤ 140737488355328) (hnm : (1 + l.length) * 104 ≤ reach) (M : List Res) :
    TurnE P B σ Γ ([boxR g (tc u ur uk us) e] ++ M) (.call { callee := .builtin .append, args := #[x, y], argTypes := ts }) ty (fun a' : SH => sl a' (1 + l.length)) (fun a' => [TL (u :: l) a'] ++ Γ) (fun _ => [] ++ M) := fun w hs => by
  have hs0 : St B Γ (boxR g (tc u ur uk us) e :: M) w := hs
  have h1 : St B Γ (rowS 6 e (some ⟨g, 0, none⟩, 1) 1 (tc u ur uk us) :: M) w := hs0.boxRow (sz := 6) (m := 1) rfl (by decide)
  obtain ⟨a', w', hr, h2⟩ := te_appTL (P := P) (ty := ty) (List.Perm.refl _) hF hx hy hts hu hi hzs hb (by unfold reach at hnm; omega) w h1
  refine ⟨a', w', hr, ?_⟩
  have h3 : St B (AP ((u, ur, uk, us) :: tpsOf l VR VK VS) :: Γ) (rowS 6 e a' (1 + l.length) (tc u ur uk us ++ tpFlat (tpsOf l VR VK VS)) :: M) w' := h2.add (fun p hp => by
    rcases List.mem_cons.mp hp with rfl | hp
    · exact h2.facts _ hU
    · obtain ⟨i, hi, rfl⟩ := List.mem_map.mp hp
      have hi := List.mem_range.mp hi
      have hA : tlxAt _ l b VR VK VS w' := h2.facts _ hF
      exact allAt_get hA.2 (by rw [List.getElem?_eq_getElem hi, getD_get (d := t0) hi]))
  have h4 := h3.settleTL (ps := (u, ur, uk, us) :: tpsOf l VR VK VS) (ts := u :: l) hB List.mem_cons_self (by simp [tpFlat, tpCells]) (by rw [List.map_cons, tpsOf_map]) (by rw [List.length_cons, tpsOf_len]; omega) (by exact hnm)
  exact h4.less (by simp +contextual)
end
section
variable {tn : Bool} {pn : Nat} {P : Program} [Tab P] {f : FuncId} {R : Ending → World → Prop} {B : Base} {n : Fz} {K : List Item} {ops : Array Oper} {i : Nat} {l fin : List Nat} {σ : Nat → Value} {Γ : List Fact} {Ms Ms2 : List Res}
variable {dst : Option Tmp} {op : Op} {ty : TypeId} {x y : Operand}
theorem w_appNew {hBp : Prop} (hB : hBp) {t e : TypeId} {ts : Array TypeId} {g bt : Nat} {zv : Value} {b : SH} (u : T) (ur uk us : SH) (ls : List T) (VR VK VS : Nat → SH) (k_ : ∀ a' : SH, NV tn pn P f R B n K ops fin l (putS σ dst (sl a' (1 + ls.length))) ([TL (u :: ls) a'] ++ Γ) ([] ++ Ms2)) (hm : Ms.Perm ([boxR g (tc u ur uk us) e] ++ Ms2)) (hU : RT u ur uk us ∈ Γ) (hF : TLx ls b VR VK VS ∈ Γ) (hnm : (1 + ls.length) * 104 ≤ reach) (hb : (1 + ls.length) * bt ≤ 140737488355328) (hx : ev σ x = .slice (some ⟨g, 0, none⟩) 1 1 := by rfl) (hy : ev σ y = sl b ls.length := by rfl) (hts : ts = #[t, t] := by rfl) (hu : Tab.und P t = some (.slice e) := by rfl) (hi : Tab.inf P e = some (6, bt, zv) := by rfl) (hzs : zv.cells.size = 6 := by rfl) (hd : dstOk n dst = true := by rfl) (hz : Nat.beq pn 1000002 = true := by rfl) : NvT tn pn P f R B n K ops fin i l dst (.call { callee := .builtin .append, args := #[x, y], argTypes := ts }) ty σ Γ Ms :=
  nv_turnF (F := fun a' => [TL (u :: ls) a']) (r := [boxR g (tc u ur uk us) e]) (r' := fun _ => []) (fun M => te_appNew hB hU hF hx hy hts hu hi hzs hb hnm M) rfl hd hm hz k_
end
end Go.Hy
namespace Go.Hy
/-! ### Contexts -/
/-- What is wrong with the types, each in those behind it. -/
def ctxErr (d : Int) : List T → Int
  | [] => 0
  | t :: ts => if rightP t ts.length d ≠ 0 then rightP t ts.length d else ctxErr d ts
def ctxRight (ts : List T) (d : Int) : Int := if d < 0 ∨ 24 < d then 2 else if 200 < ts.length then 62 else ctxErr d ts
theorem ctxErr_bad {d : Int} : ∀ {ts : List T} {i : Nat}, i < ts.length → (∀ j, j < i → rightP (ts.getD j t0) ((ts.length : Int) - 1 - j) d = 0) → rightP (ts.getD i t0) ((ts.length : Int) - 1 - i) d ≠ 0 → ctxErr d ts = rightP (ts.getD i t0) ((ts.length : Int) - 1 - i) d
  | [], i, h, _, _ => absurd h (by simp)
  | t :: ts, 0, h, _, h2 => by
    simp only [List.getD_cons_zero, List.length_cons] at h2 ⊢
    rw [show ((ts.length + 1 : Nat) : Int) - 1 - ((0 : Nat) : Int) = ts.length by omega] at h2 ⊢
    rw [ctxErr, if_pos h2]
  | t :: ts, i + 1, h, h1, h2 => by
    have h0 := h1 0 (by omega)
    simp only [List.getD_cons_zero, List.length_cons] at h0
    rw [show ((ts.length + 1 : Nat) : Int) - 1 - ((0 : Nat) : Int) = ts.length by omega] at h0
    rw [ctxErr, if_neg (by simp [h0])]
    simp only [List.getD_cons_succ, List.length_cons] at h2 ⊢
    rw [show ((ts.length + 1 : Nat) : Int) - 1 - ((i + 1 : Nat) : Int) = ts.length - 1 - i by omega] at h2 ⊢
    refine ctxErr_bad (by simpa using h) (fun j hj => ?_) h2
    have := h1 (j + 1) (by omega)
    simp only [List.getD_cons_succ, List.length_cons] at this
    rwa [show ((ts.length + 1 : Nat) : Int) - 1 - ((j + 1 : Nat) : Int) = ts.length - 1 - j by omega] at this
theorem ctxErr_ok {d : Int} : ∀ {ts : List T}, (∀ j, j < ts.length → rightP (ts.getD j t0) ((ts.length : Int) - 1 - j) d = 0) ↔ ctxErr d ts = 0
  | [] => by simp [ctxErr]
  | t :: ts => by
    have e0 : ((ts.length + 1 : Nat) : Int) - 1 - ((0 : Nat) : Int) = ts.length := by omega
    constructor
    · intro h
      have h0 := h 0 (by simp)
      simp only [List.getD_cons_zero, List.length_cons] at h0
      rw [e0] at h0
      rw [ctxErr, if_neg (by simp [h0])]
      refine ctxErr_ok.mp fun j hj => ?_
      have := h (j + 1) (by simpa using hj)
      simp only [List.getD_cons_succ, List.length_cons] at this
      rwa [show ((ts.length + 1 : Nat) : Int) - 1 - ((j + 1 : Nat) : Int) = ts.length - 1 - j by omega] at this
    · intro h j hj
      rw [ctxErr] at h
      by_cases h0 : rightP t ts.length d ≠ 0
      · rw [if_pos h0] at h; exact absurd h h0
      · rw [if_neg h0] at h
        cases j with
        | zero => simp only [List.getD_cons_zero, List.length_cons]; rw [e0]; omega
        | succ j =>
          simp only [List.getD_cons_succ, List.length_cons]
          rw [show ((ts.length + 1 : Nat) : Int) - 1 - ((j + 1 : Nat) : Int) = ts.length - 1 - j by omega]
          exact ctxErr_ok.mpr h j (by simpa using hj)
theorem ctxRight_zero {ts : List T} {d : Int} : ctxRight ts d = 0 ↔ 0 ≤ d ∧ d ≤ 24 ∧ ts.length ≤ 200 ∧ ctxErr d ts = 0 := by
  unfold ctxRight
  split
  · omega
  · split <;> omega
/-- Types, one by one. -/
def eachR (r : T → Int × T) : List T → Int × List T
  | [] => (0, [])
  | t :: ts => if (r t).1 ≠ 0 then ((r t).1, []) else if (eachR r ts).1 ≠ 0 then ((eachR r ts).1, []) else (0, (r t).2 :: (eachR r ts).2)
theorem eachR_ok {r : T → Int × T} : ∀ {ts : List T}, (∀ j, j < ts.length → (r (ts.getD j t0)).1 = 0) → eachR r ts = (0, ts.map fun t => (r t).2)
  | [], _ => rfl
  | t :: ts, h => by
    have h0 := h 0 (by simp)
    rw [List.getD_cons_zero] at h0
    have ih := eachR_ok (r := r) (ts := ts) fun j hj => by have := h (j + 1) (by simpa using hj); rwa [List.getD_cons_succ] at this
    rw [eachR, if_neg (by simp [h0]), ih, if_neg (by simp)]
    rfl
theorem eachR_bad {r : T → Int × T} : ∀ {ts : List T} {i : Nat}, i < ts.length → (∀ j, j < i → (r (ts.getD j t0)).1 = 0) → (r (ts.getD i t0)).1 ≠ 0 → eachR r ts = ((r (ts.getD i t0)).1, [])
  | [], i, h, _, _ => absurd h (by simp)
  | t :: ts, 0, h, _, h2 => by
    rw [List.getD_cons_zero] at h2 ⊢
    rw [eachR, if_pos h2]
  | t :: ts, i + 1, h, h1, h2 => by
    have h0 := h1 0 (by omega)
    rw [List.getD_cons_zero] at h0
    rw [List.getD_cons_succ] at h2 ⊢
    have ih := eachR_bad (r := r) (ts := ts) (i := i) (by simpa using h) (fun j hj => by have := h1 (j + 1) (by omega); rwa [List.getD_cons_succ] at this) h2
    rw [eachR, if_neg (by simp [h0]), ih, if_pos h2]
abbrev Cx : Type := Int × List T × Int
def doneR9 (ts : List T) (d : Int) : Cx := if ctxRight ts d ≠ 0 then (ctxRight ts d, [], 0) else (0, ts, d)
def pushR (ts : List T) (d : Int) (t : T) : Cx := if ctxRight ts d ≠ 0 then (ctxRight ts d, [], 0) else if rightP t ts.length d ≠ 0 then (rightP t ts.length d, [], 0) else doneR9 (t :: ts) d
def typeR (ts : List T) (d n : Int) : Int × T := if ctxRight ts d ≠ 0 then (ctxRight ts d, t0) else if n < 0 ∨ (ts.length : Int) ≤ n then (90, t0) else varsRes (ts.getD n.toNat t0) 0 (n + 1)
end Go.Hy
namespace Go.Hy
def uE : T := .mk 3 0 ⟨#[]⟩ [] [] []
def aE (t u : T) : T := .mk 6 0 ⟨#[]⟩ [] [t, u] []
end Go.Hy
namespace Go.Hy
theorem sizeL_mem {t : T} : ∀ {ts : List T}, t ∈ ts → size t ≤ sizeL ts
  | [], h => by cases h
  | a :: ts, h => by
    rw [sizeL]
    rcases List.mem_cons.mp h with rfl | h
    · omega
    · have := sizeL_mem h; omega
theorem sizeL_len : ∀ ts : List T, ts.length ≤ sizeL ts
  | [] => by simp [sizeL]
  | a :: ts => by
    rw [sizeL, List.length_cons]
    have := sizeL_len ts
    have := size_pos' a
    omega
def nodeT (ts : List T) : T := .mk 0 0 ⟨#[]⟩ [] ts []
theorem node_bulk {ts : List T} {m : Nat} (h : bulk (nodeT ts) ≤ m) : (∀ t, t ∈ ts → size t ≤ m) ∧ ts.length ≤ m := by
  have h1 := size_le_bulk (nodeT ts)
  have h2 := size_sumLB (nodeT ts)
  have h3 : (nodeT ts).kids = ts := rfl
  rw [h3] at h2
  have h4 := sizeL_len ts
  exact ⟨fun t ht => by have := sizeL_mem ht; omega, by omega⟩
theorem ex_ctx0 : typeR [vE 0, uE] 0 0 = (0, vE 1) := by decide +kernel
theorem ex_ctx1 : typeR [vE 0, uE] 0 1 = (0, uE) := by decide +kernel
theorem ex_ctx0a : (typeR [vE 0, uE] 0 ((0 : Nat) : Int)).1 = 0 := by rw [show ((0 : Nat) : Int) = 0 from rfl, ex_ctx0]
theorem ex_ctx0b : (typeR [vE 0, uE] 0 ((0 : Nat) : Int)).2 = vE 1 := by rw [show ((0 : Nat) : Int) = 0 from rfl, ex_ctx0]
theorem ex_ctx1a : (typeR [vE 0, uE] 0 ((1 : Nat) : Int)).1 = 0 := by rw [show ((1 : Nat) : Int) = 1 from rfl, ex_ctx1]
theorem ex_ctx1b : (typeR [vE 0, uE] 0 ((1 : Nat) : Int)).2 = uE := by rw [show ((1 : Nat) : Int) = 1 from rfl, ex_ctx1]
theorem ex_ctx_size : ∀ t, t ∈ [vE 0, uE] → size t ≤ 1152921504606846 := by
  intro t ht
  have h : size (vE 0) = 1 ∧ size uE = 1 := by decide +kernel
  rcases List.mem_cons.mp ht with rfl | ht
  · omega
  · rcases List.mem_cons.mp ht with rfl | ht
    · omega
    · cases ht
end Go.Hy
namespace Go.Hy
/-! ### A list of terms of the caller's own -/
def listR (y : Tys) (a : SH) (hs : List HT) : List Res := rowS 6 y.t a hs.length (tpFlat (hs.map HT.tp)) :: kidsR y hs
section
variable {B : Base} {Γ LF : List Fact} {Ms : List Res} {w : World}
/-- A call that only reads what is owned. -/
theorem Spec.lend {P : Program} {k : FuncId} {args : Array Value} {pre : List Fact} {m : Res} {X : Type} {val : X → Value} (hl : Lends m LF) (h : Spec P k args (LF ++ pre) [] val (fun _ => []) (fun _ => [])) : Spec P k args pre [m] val (fun _ => []) (fun _ => [m]) := fun ok w hok hst => by
  have hs1 : St ⟨ok, domAll [m], w⟩ pre ([] ++ [m]) w := hst
  have hmm : m ∈ ([] ++ [m] : List Res) := List.mem_singleton.mpr rfl
  have hs2 : St ⟨fun b => okOf ⟨ok, domAll [m], w⟩ ([] ++ [m]) w b ∨ m.dom b, domAll [], w⟩ (LF ++ pre) [] w := by
    refine ⟨Chg.refl _ _, fun F hF => ?_, fun m' h' => (by cases h'), fun m' h' => (by cases h'), List.Pairwise.nil⟩
    rcases List.mem_append.mp hF with hF | hF
    · refine F.mono _ _ _ (fun b hb => ⟨.inl (.inr hb), (hs1.lt m hmm b hb).1, ?_⟩) (hl w (hs1.res m hmm) (fun b hb => (hs1.lt m hmm b hb).1) F hF)
      rintro ⟨m', h', _⟩
      cases h'
    · exact F.mono _ _ _ (fun b hb => ⟨.inl (.inl hb), hb.2.1, fun ⟨m', h', _⟩ => (by cases h')⟩) (hs1.facts F hF)
  refine (h _ w (fun b hb => ⟨?_, fun ⟨m', h', _⟩ => (by cases h')⟩) hs2).mono fun e w' hh => ?_
  · rcases hb with hb | hb
    · exact hb.2.1
    · exact (hs1.lt m hmm b hb).1
  · obtain ⟨x, he, hs'⟩ := hh
    exact ⟨x, he, (hs1.frame (N := []) (St.reok hs')).less (fun F hF => by cases hF)⟩
theorem lends_list (y : Tys) (a : SH) (hs : List HT) (hok : okL (hs.map HT.er)) (hlen : hs.length * 104 ≤ reach) : Lends (bigR (listR y a hs)) [TL (hs.map HT.er) a] := by
  intro w hh hlt F hF
  rw [List.mem_singleton] at hF
  subst hF
  have hb0 := hh w (fun _ _ => rfl)
  obtain ⟨C, hC⟩ : ∃ C : Res, C = ⟨fun b => b < w.heap.size ∧ ¬ domAll (listR y a hs) b, fun _ => True⟩ := ⟨_, rfl⟩
  have hst : St ⟨fun _ => False, fun _ => False, { w with heap := #[] }⟩ [] (listR y a hs ++ [C]) w := by
    refine ⟨⟨rfl, rfl, rfl, Nat.zero_le _, fun k hk _ => absurd hk (Nat.not_lt_zero _)⟩, fun _ hF => (by cases hF), ?_, ?_, ?_⟩
    · intro m hm w' hw
      rcases List.mem_append.mp hm with hm | hm
      · exact hb0.1 m hm w' hw
      · rw [List.mem_singleton] at hm; subst hm; subst hC; trivial
    · intro m hm b hb
      rcases List.mem_append.mp hm with hm | hm
      · exact ⟨hlt b ⟨m, hm, hb⟩, .inr (Nat.zero_le _)⟩
      · rw [List.mem_singleton] at hm; subst hm; subst hC; exact ⟨hb.1, .inr (Nat.zero_le _)⟩
    · refine List.pairwise_append.mpr ⟨hb0.2, List.pairwise_singleton _ _, fun m hm m' hm' b hb hb' => ?_⟩
      rw [List.mem_singleton] at hm'; subst hm'; subst hC
      exact hb'.2 ⟨m, hm, hb⟩
  have h1 := (((hst.rowS0 2 y.b).rowS0 2 y.c))
  have h2 : St ⟨fun _ => False, fun _ => False, { w with heap := #[] }⟩ [] (treeR y (.mk 0 0 ⟨#[]⟩ [] (none, 0) hs a [] (none, 0)) ++ [C]) w := by
    simp only [treeR, brsR, List.append_nil, List.cons_append, List.length_nil, List.flatMap_nil, List.map_nil]
    simp only [listR, List.cons_append] at h1
    exact h1.perm (List.Perm.cons _ (List.Perm.swap _ _ _))
  have h3 := St.settleT y trivial _ (by simp only [HT.er, okT, HT.erL_eq, HT.erB_eq, List.map_nil, List.length_nil, List.length_map]; exact ⟨by unfold in64; omega, by unfold in64; omega, Nat.zero_le _, ⟨fun c hc => (by cases hc), Nat.zero_le _⟩, hlen, Nat.zero_le _, hok, trivial⟩) h2
  have h4 := h3.facts _ List.mem_cons_self
  simp only [HT.er, HT.vr, HT.vk, HT.vs, HT.erL_eq, HT.erB_eq] at h4
  have h5 : (TL (hs.map HT.er) a).f (okOf ⟨fun _ => False, fun _ => False, { w with heap := #[] }⟩ [C] w) w := by
    have h6 := h4
    simp only [RT] at h6
    unfold termAt at h6
    exact h6.2.2.2.2.1
  refine (TL (hs.map HT.er) a).mono _ _ _ (fun b hb => ?_) h5
  have hc : ¬ C.dom b := fun hc => hb.2.2 ⟨C, List.mem_cons_self, hc⟩
  subst hC
  exact Classical.byContradiction fun hn => hc ⟨hb.2.1, hn⟩
end
end Go.Hy
namespace Go.Hy
/-! ### The document's lift of a mask: its list, number by number -/
theorem sorted_ext : ∀ {l m : List Int}, (l.Pairwise fun a b => a < b) → (m.Pairwise fun a b => a < b) → (∀ x, x ∈ l ↔ x ∈ m) → l = m
  | [], [], _, _, _ => rfl
  | [], b :: m, _, _, h => by have := (h b).mpr List.mem_cons_self; cases this
  | a :: l, [], _, _, h => by have := (h a).mp List.mem_cons_self; cases this
  | a :: l, b :: m, hl, hm, h => by
    obtain ⟨l1, l2⟩ := List.pairwise_cons.mp hl
    obtain ⟨m1, m2⟩ := List.pairwise_cons.mp hm
    have hab : a = b := by
      rcases List.mem_cons.mp ((h a).mp List.mem_cons_self) with h1 | h1
      · exact h1
      · rcases List.mem_cons.mp ((h b).mpr List.mem_cons_self) with h2 | h2
        · exact h2.symm
        · have := l1 b h2; have := m1 a h1; omega
    subst hab
    have : l = m := sorted_ext l2 m2 fun x => by
      constructor
      · intro hx
        rcases List.mem_cons.mp ((h x).mp (List.mem_cons_of_mem _ hx)) with h1 | h1
        · subst h1; have := l1 x hx; omega
        · exact h1
      · intro hx
        rcases List.mem_cons.mp ((h x).mpr (List.mem_cons_of_mem _ hx)) with h1 | h1
        · subst h1; have := m1 x hx; omega
        · exact h1
    rw [this]
def shI (f b x : Int) : Int := if x < f then x else x + b
theorem mask_bad {s : Nat} {f b x : Int} (h0 : 0 ≤ f) (hb : 0 ≤ b) (hx : x ∈ listM s) (hf : f ≤ x) (h : 24 ≤ x + b) : maskLift s f b = (10, 0) := by
  obtain ⟨x0, x1, x2⟩ := listTo_mem.mp hx
  have hbit : (andNot32 (s &&& 16777215) (2 ^ (min f.toNat 24) - 1)).testBit x.toNat = true := by
    rw [andNot32_bit, mask_bit, and24_bit, x2, decide_eq_true (by omega), decide_eq_true (by omega), decide_eq_false (by omega)]; rfl
  have hge := Nat.ge_two_pow_of_testBit hbit
  unfold maskLift
  rw [if_neg (by omega), if_neg (fun h1 => by rw [h1, Nat.zero_testBit] at hbit; cases hbit), if_pos]
  by_cases h24 : 24 ≤ b
  · exact .inl h24
  · right
    have h1 : 2 ^ x.toNat * 2 ^ b.toNat ≤ andNot32 (s &&& 16777215) (2 ^ (min f.toNat 24) - 1) * 2 ^ b.toNat := Nat.mul_le_mul_right _ hge
    rw [← Nat.pow_add] at h1
    have h2 : 2 ^ 24 ≤ 2 ^ (x.toNat + b.toNat) := Nat.pow_le_pow_right (by omega) (by omega)
    have h3 : (2 : Nat) ^ 24 = 16777216 := by decide
    omega
theorem mask_good {s : Nat} {f b : Int} (h0 : 0 ≤ f) (hb : 0 ≤ b) (h : ∀ x, x ∈ listM s → x < f ∨ x + b < 24) : maskLift s f b = (0, setM ((listM s).map (shI f b))) := by
  have h1 : (maskLift s f b).1 = 0 := by
    unfold maskLift
    rw [if_neg (by omega)]
    split
    · rfl
    · rename_i h2
      rw [if_neg]
      have hbits : ∀ i, (andNot32 (s &&& 16777215) (2 ^ (min f.toNat 24) - 1)).testBit i = true → (i : Int) + b < 24 := fun i hi => by
        rw [andNot32_bit, mask_bit, and24_bit] at hi
        simp only [Bool.and_eq_true, decide_eq_true_eq, Bool.not_eq_true', decide_eq_false_iff_not] at hi
        have hm : (i : Int) ∈ listM s := listTo_mem.mpr ⟨by omega, by omega, by simpa using hi.1.2.2⟩
        rcases h _ hm with h3 | h3 <;> omega
      obtain ⟨i, hi⟩ : ∃ i, (andNot32 (s &&& 16777215) (2 ^ (min f.toNat 24) - 1)).testBit i = true := by
        refine Classical.byContradiction fun hn => h2 (Nat.eq_of_testBit_eq fun i => ?_)
        rw [Nat.zero_testBit]
        cases hh : (andNot32 (s &&& 16777215) (2 ^ (min f.toNat 24) - 1)).testBit i with
        | false => rfl
        | true => exact absurd ⟨i, hh⟩ hn
      have hb24 := hbits i hi
      have hlt : andNot32 (s &&& 16777215) (2 ^ (min f.toNat 24) - 1) < 2 ^ (24 - b.toNat) := Nat.lt_pow_two_of_testBit _ fun j hj => by
        cases hh : (andNot32 (s &&& 16777215) (2 ^ (min f.toNat 24) - 1)).testBit j with
        | false => rfl
        | true => have := hbits j hh; omega
      rintro (h3 | h3)
      · omega
      · have h4 : andNot32 (s &&& 16777215) (2 ^ (min f.toNat 24) - 1) * 2 ^ b.toNat < 2 ^ (24 - b.toNat) * 2 ^ b.toNat := Nat.mul_lt_mul_of_pos_right hlt (Nat.pow_pos (by omega))
        rw [← Nat.pow_add, show 24 - b.toNat + b.toNat = 24 by omega] at h4
        have h5 : (2 : Nat) ^ 24 = 16777216 := by decide
        omega
  refine Prod.ext h1 ?_
  have hlt := maskLift_lt s f b
  have e1 : (maskLift s f b).2 = setM (listM (maskLift s f b).2) := by rw [setM_listM, and24]; exact (Nat.mod_eq_of_lt hlt).symm
  rw [e1]
  show setM _ = setM _
  congr 1
  refine sorted_ext (listTo_sorted _ _) ?_ fun x => ?_
  · rw [List.pairwise_map]
    refine (listTo_sorted s 24).imp fun {a c} hac => ?_
    unfold shI
    split <;> split <;> omega
  · rw [List.mem_map]
    constructor
    · intro hx
      obtain ⟨x0, x1, x2⟩ := listTo_mem.mp hx
      obtain ⟨j, h2, h3, h4⟩ := (maskLift_iff h1 x.toNat).mp x2
      refine ⟨(j : Int), listTo_mem.mpr ⟨by omega, by omega, by simpa using h3⟩, ?_⟩
      unfold shI
      split <;> omega
    · rintro ⟨y, hy, rfl⟩
      obtain ⟨y0, y1, y2⟩ := listTo_mem.mp hy
      have hsh : 0 ≤ shI f b y ∧ shI f b y < 24 := by
        unfold shI
        rcases h y hy with h2 | h2 <;> split <;> omega
      refine listTo_mem.mpr ⟨hsh.1, hsh.2, (maskLift_iff h1 _).mpr ⟨y.toNat, by omega, y2, ?_⟩⟩
      unfold shI at hsh ⊢
      split <;> omega
end Go.Hy
namespace Go.Hy
theorem formLift_keep {l : List Cl} {f b : Int} (hl : fRight l = true) (h0 : 0 ≤ f) (hb : 0 ≤ b) (h : b = 0 ∨ 24 ≤ f) : formLift l f b = (0, l) := by
  obtain ⟨hr, _⟩ := fRight_parts hl
  have key : ∀ c, c ∈ l → clLift c f b = (0, c) := fun c hc => by
    obtain ⟨h2, h3⟩ := right24_iff.mp (hr c hc)
    unfold clLift
    rw [if_neg (by rw [hr c hc]; simp), mask_keep h2 h0 hb h, mask_keep h3 h0 hb h]
    simp
  have hf : foldC (fun c => clLift c f b) l = (0, l) := by
    unfold foldC
    rw [List.find?_eq_none.mpr (fun c hc => by show ¬ decide ((clLift c f b).1 ≠ 0) = true; rw [key c hc]; simp)]
    simp only
    congr 1
    conv => rhs; rw [← List.map_id l]
    exact List.map_congr_left (fun c hc => by rw [key c hc]; rfl)
  unfold formLift
  rw [if_neg (by rw [hl]; simp), hf, if_neg (by simp)]
  have := leastF_right l
  rw [hl, Bool.and_eq_true, decide_eq_true_eq, decide_eq_true_eq] at this
  exact Prod.ext this.1 this.2
theorem rowLift_form {l : List Cl} {f b : Int} (hl : fRight l = true) (h0 : 0 ≤ f) (hb : 0 ≤ b) : rowLift b l f = if (formLift l f b).1 = 0 then .ok (formLift l f b).2 else .bad (formLift l f b).1 := by
  unfold rowLift
  by_cases h : b = 0 ∨ 24 ≤ f
  · rw [if_pos h, formLift_keep hl h0 hb h]; rfl
  · rw [if_neg h]
theorem form_pos {l : List Cl} {f b : Int} : 0 ≤ (formLift l f b).1 := by
  have hl : ∀ m : List Cl, 0 ≤ (leastF m).1 := fun m => by rcases leastF_cases m with h | h | h <;> omega
  unfold formLift
  split
  · exact (show (0 : Int) ≤ 2 by omega)
  · split
    · unfold foldC
      split
      · rename_i c _
        rcases clLift_err c f b with h | h | h <;> (simp only; omega)
      · exact Int.le_refl 0
    · exact hl _
theorem form_le {l : List Cl} {f b : Int} : (formLift l f b).1 ≤ 10 := by
  have hl : ∀ m : List Cl, (leastF m).1 ≤ 10 := fun m => by rcases leastF_cases m with h | h | h <;> omega
  unfold formLift
  split
  · exact (show (2 : Int) ≤ 10 by omega)
  · split
    · unfold foldC
      split
      · rename_i c _
        rcases clLift_err c f b with h | h | h <;> (simp only; omega)
      · exact (show (0 : Int) ≤ 10 by omega)
    · exact hl _
def refT (e : Int) : T := .mk (-e) 0 ⟨#[]⟩ [] [] []
def liftRes (vb db : Int) (t : T) (v d : Int) : T := match trav (liftTr vb db) t (v, d) with
  | .ok u => u
  | .bad e => refT e
theorem liftRes_ok {vb db : Int} {t u : T} {v d : Int} (h : trav (liftTr vb db) t (v, d) = .ok u) : liftRes vb db t v d = u := by unfold liftRes; rw [h]
theorem liftRes_bad {vb db : Int} {t : T} {v d e : Int} (h : trav (liftTr vb db) t (v, d) = .bad e) : liftRes vb db t v d = refT e := by unfold liftRes; rw [h]
theorem rowLift_pos {l : List Cl} {f b e : Int} (h : rowLift b l f = .bad e) : 0 < e := by
  unfold rowLift at h
  split at h
  · cases h
  · split at h
    · cases h
    · rename_i h2
      injection h with h
      have := form_pos (l := l) (f := f) (b := b)
      omega
theorem lift_bad_pos {vb db : Int} : ∀ (t : T) {c : Int × Int} {e : Int}, trav (liftTr vb db) t c = .bad e → 0 < e := T.ind fun t ih c e h => by
  rcases trav_why h with h1 | ⟨b, _, h1⟩ | ⟨p, hp, h1 | ⟨c', _, h2⟩⟩
  · rw [lift_own_eq] at h1
    rcases bind_bad_of h1 with h2 | ⟨g, _, h2⟩
    · exact rowLift_pos h2
    · split at h2
      · injection h2 with h2; omega
      · cases h2
  · rw [lift_face_def] at h1
    rcases bind_bad_of h1 with h2 | ⟨g, _, h2⟩
    · exact rowLift_pos h2
    · cases h2
  · cases h1
  · exact ih p hp h2
theorem fine_kind {t : T} (h : fineT t) : 0 ≤ t.kind := by
  have h2 := (fineT_iff.mp h).2.1
  unfold kidsN at h2
  repeat' split at h2
  all_goals omega
theorem lift_kind {vb db : Int} {t u : T} {c : Int × Int} (h : trav (liftTr vb db) t c = .ok u) : u.kind = t.kind := by
  rcases trav_out h with h1 | ⟨p, _, h1, _⟩
  · exact absurd h1 lift_own_inl
  · exact h1.1
theorem liftRes_alt {vb db : Int} {t : T} {v d : Int} (hf : fineT t) : (trav (liftTr vb db) t (v, d) = .ok (liftRes vb db t v d) ∧ 0 ≤ (liftRes vb db t v d).kind) ∨ ∃ e, 0 < e ∧ trav (liftTr vb db) t (v, d) = .bad e ∧ liftRes vb db t v d = refT e := by
  cases h : trav (liftTr vb db) t (v, d) with
  | ok u =>
    rw [liftRes_ok h]
    exact .inl ⟨rfl, by rw [lift_kind h]; exact fine_kind hf⟩
  | bad e => exact .inr ⟨e, lift_bad_pos t h, rfl, liftRes_bad h⟩
theorem refT_kind {e : Int} (h : 0 < e) : (refT e).kind < 0 := by show -e < 0; omega
end Go.Hy
namespace Go.Hy
theorem lift_bad_le {vb db : Int} : ∀ (t : T) {c : Int × Int} {e : Int}, trav (liftTr vb db) t c = .bad e → e ≤ 100 := T.ind fun t ih c e h => by
  have hr : ∀ {l : List Cl} {f e : Int}, rowLift db l f = .bad e → e ≤ 100 := fun {l f e} h => by
    unfold rowLift at h
    split at h
    · cases h
    · split at h
      · cases h
      · injection h with h
        have := form_le (l := l) (f := f) (b := db)
        omega
  rcases trav_why h with h1 | ⟨b, _, h1⟩ | ⟨p, hp, h1 | ⟨c', _, h2⟩⟩
  · rw [lift_own_eq] at h1
    rcases bind_bad_of h1 with h2 | ⟨g, _, h2⟩
    · exact hr h2
    · split at h2
      · injection h2 with h2; omega
      · cases h2
  · rw [lift_face_def] at h1
    rcases bind_bad_of h1 with h2 | ⟨g, _, h2⟩
    · exact hr h2
    · cases h2
  · cases h1
  · exact ih p hp h2
end Go.Hy
namespace Go.Hy
/-! ### The document's contexts -/
def rdoneC (ts : List T) (d : Int) : Cx := match ts.find? (fun t => decide (t.kind < 0)) with
  | some t => (-t.kind, [], 0)
  | none => doneR9 ts d
theorem rdone_bad {ts : List T} {d : Int} {i : Nat} (hi : i < ts.length) (h0 : ∀ j, j < i → ¬ (ts.getD j t0).kind < 0) (h : (ts.getD i t0).kind < 0) : rdoneC ts d = (-(ts.getD i t0).kind, [], 0) := by
  have : ts.find? (fun t => decide (t.kind < 0)) = some (ts.getD i t0) := by
    rw [List.find?_eq_some_iff_getElem]
    rw [getD_get (d := t0) hi] at h ⊢
    refine ⟨by simpa using h, i, hi, rfl, fun j hj => ?_⟩
    have := h0 j hj
    rw [getD_get (d := t0) (show j < ts.length by omega)] at this
    simpa using this
  unfold rdoneC
  rw [this]
theorem rdone_ok {ts : List T} {d : Int} (h0 : ∀ j, j < ts.length → ¬ (ts.getD j t0).kind < 0) : rdoneC ts d = doneR9 ts d := by
  have : ts.find? (fun t => decide (t.kind < 0)) = none := by
    rw [List.find?_eq_none]
    intro t ht
    obtain ⟨i, hi, rfl⟩ := mem_getD (d := t0) ht
    simpa using h0 i hi
  unfold rdoneC
  rw [this]
theorem right_kind {t : T} {v d : Int} (hv : 0 ≤ v ∧ v ≤ 1000000000000) (h : rightP t v d = 0) : fineT t ∧ 0 ≤ t.kind ∧ mayT t v d ∧ formedP t = 0 := by
  obtain ⟨_, _, h1, h2, h3⟩ := (right_may hv.1 hv.2).mp h
  exact ⟨h2, fine_kind h2, h3, formed_fine.mpr ⟨h1, h2⟩⟩
theorem ctx_types {ts : List T} {d : Int} (h : ctxRight ts d = 0) : ∀ j, j < ts.length → rightP (ts.getD j t0) ((ts.length : Int) - 1 - j) d = 0 := ctxErr_ok.mpr (ctxRight_zero.mp h).2.2.2
def pushC (ts : List T) (d : Int) (t : T) : Cx := if ctxRight ts d ≠ 0 then (ctxRight ts d, [], 0) else if rightP t ts.length d ≠ 0 then (rightP t ts.length d, [], 0) else rdoneC (t :: ts) d
theorem push_same (ts : List T) (d : Int) (t : T) : pushC ts d t = pushR ts d t := by
  unfold pushC pushR
  split
  · rfl
  · rename_i h1
    split
    · rfl
    · rename_i h2
      refine rdone_ok fun j hj => ?_
      cases j with
      | zero =>
        rw [List.getD_cons_zero]
        have := (right_kind ⟨by omega, by have := (ctxRight_zero.mp (show ctxRight ts d = 0 by omega)).2.2.1; omega⟩ (show rightP t ts.length d = 0 by omega)).2.1
        omega
      | succ j =>
        rw [List.getD_cons_succ]
        have hl := (ctxRight_zero.mp (show ctxRight ts d = 0 by omega)).2.2.1
        have := (right_kind ⟨by simp at hj; omega, by omega⟩ (ctx_types (show ctxRight ts d = 0 by omega) j (by simpa using hj))).2.1
        omega
/-- Up: variables, then dimensions. -/
def upRes (t : T) (v d : Int) : T := if t.kind < 0 then t else if (liftRes v 0 t 0 0).kind < 0 then liftRes v 0 t 0 0 else liftRes 0 d (liftRes v 0 t 0 0) 0 0
def eachD (ts : List T) : Int × List T := eachR (fun t => dimsRes t 0 1) ts
def pushDimR (ts : List T) (d : Int) : Cx := if ctxRight ts d ≠ 0 then (ctxRight ts d, [], 0) else if d = 24 then (10, [], 0) else if (eachD ts).1 ≠ 0 then ((eachD ts).1, [], 0) else doneR9 (eachD ts).2 (d + 1)
def pushDimC (ts : List T) (d : Int) : Cx := if ctxRight ts d ≠ 0 then (ctxRight ts d, [], 0) else if d = 24 then (10, [], 0) else rdoneC (ts.map fun t => upRes t 0 1) (d + 1)
theorem up_one {t : T} {v d : Int} (hv : 0 ≤ v ∧ v ≤ 1000000) (hz : size t ≤ 20000) (h : rightP t v d = 0) : (0 ≤ (upRes t 0 1).kind ∧ dimsRes t 0 1 = (0, upRes t 0 1)) ∨ ∃ e, 0 < e ∧ upRes t 0 1 = refT e ∧ dimsRes t 0 1 = (e, t0) := by
  obtain ⟨hf, hk, hm, hfm⟩ := right_kind ⟨hv.1, by omega⟩ h
  have h0 : trav (liftTr 0 0) t (0, 0) = .ok t := by
    rcases lift_none (t := t) (c := (0, 0)) hf with h1 | ⟨h1, _⟩
    · exact h1
    · obtain ⟨w, hw⟩ := var_told (a := 0) (by decide) t v d (0, 0) hm (by omega)
      rw [h1] at hw; cases hw
  have h1 : liftRes 0 0 t 0 0 = t := liftRes_ok h0
  have h2 : upRes t 0 1 = liftRes 0 1 t 0 0 := by
    unfold upRes
    rw [if_neg (by omega), h1, if_neg (by omega)]
  have h3 : dimsRes t 0 1 = asRes (trav (liftTr 0 1) t (0, 0)) := dims_as hfm (by decide)
  rw [h2, h3]
  rcases liftRes_alt (vb := 0) (db := 1) (v := 0) (d := 0) hf with ⟨h4, h5⟩ | ⟨e, h4, h5, h6⟩
  · left; refine ⟨h5, ?_⟩; rw [h4]; rfl
  · right; refine ⟨e, h4, h6, ?_⟩; rw [h5]; rfl
theorem pushDim_same {ts : List T} {d : Int} (hz : ∀ t, t ∈ ts → size t ≤ 20000) : pushDimC ts d = pushDimR ts d := by
  unfold pushDimC pushDimR
  split
  · rfl
  · rename_i h1
    split
    · rfl
    · rename_i h2
      have hc : ctxRight ts d = 0 := by omega
      obtain ⟨c1, c2, c3, c4⟩ := ctxRight_zero.mp hc
      have hone : ∀ j, j < ts.length → (0 ≤ (upRes (ts.getD j t0) 0 1).kind ∧ dimsRes (ts.getD j t0) 0 1 = (0, upRes (ts.getD j t0) 0 1)) ∨ ∃ e, 0 < e ∧ upRes (ts.getD j t0) 0 1 = refT e ∧ dimsRes (ts.getD j t0) 0 1 = (e, t0) := fun j hj => up_one (by omega) (hz _ (getD_mem hj)) (ctx_types hc j hj)
      have hget : ∀ j, j < ts.length → (ts.map fun t => upRes t 0 1).getD j t0 = upRes (ts.getD j t0) 0 1 := fun j hj => by
        rw [getD_get (d := t0) (by simpa using hj), List.getElem_map, getD_get (d := t0) hj]
      by_cases hall : ∀ j, j < ts.length → (dimsRes (ts.getD j t0) 0 1).1 = 0
      · have he : eachD ts = (0, ts.map fun t => (dimsRes t 0 1).2) := eachR_ok hall
        rw [he, if_neg (by simp)]
        have hm : (ts.map fun t => upRes t 0 1) = ts.map fun t => (dimsRes t 0 1).2 := by
          refine List.map_congr_left fun t ht => ?_
          obtain ⟨j, hj, rfl⟩ := mem_getD (d := t0) ht
          rcases hone j hj with ⟨_, h3⟩ | ⟨e, h3, _, h4⟩
          · rw [h3]
          · have := hall j hj; rw [h4] at this; simp only at this; omega
        rw [← hm]
        refine rdone_ok fun j hj => ?_
        have hj : j < ts.length := by simpa using hj
        rw [hget j hj]
        rcases hone j hj with ⟨h3, _⟩ | ⟨e, h3, _, h4⟩
        · omega
        · have := hall j hj; rw [h4] at this; simp only at this; omega
      · have hex : ∃ j, j < ts.length ∧ (dimsRes (ts.getD j t0) 0 1).1 ≠ 0 := Classical.byContradiction fun hn => hall fun j hj => Decidable.byContradiction fun h9 => hn ⟨j, hj, h9⟩
        have hmin : ∃ i, i < ts.length ∧ (dimsRes (ts.getD i t0) 0 1).1 ≠ 0 ∧ ∀ j, j < i → (dimsRes (ts.getD j t0) 0 1).1 = 0 := by
          have key : ∀ n, (∃ j, j < n ∧ j < ts.length ∧ (dimsRes (ts.getD j t0) 0 1).1 ≠ 0) → ∃ i, i < ts.length ∧ (dimsRes (ts.getD i t0) 0 1).1 ≠ 0 ∧ ∀ j, j < i → (dimsRes (ts.getD j t0) 0 1).1 = 0 := by
            intro n
            induction n with
            | zero => rintro ⟨j, hj, _⟩; omega
            | succ n ih =>
              rintro ⟨j, hj, hj2, hj3⟩
              by_cases hp : ∃ j, j < n ∧ j < ts.length ∧ (dimsRes (ts.getD j t0) 0 1).1 ≠ 0
              · exact ih hp
              · refine ⟨j, hj2, hj3, fun k hk => Decidable.byContradiction fun h9 => hp ⟨k, by omega, by omega, h9⟩⟩
          obtain ⟨j, hj, hj2⟩ := hex
          exact key ts.length ⟨j, hj, hj, hj2⟩
        obtain ⟨i, hi, hbad, hmn⟩ := hmin
        have he : eachD ts = ((dimsRes (ts.getD i t0) 0 1).1, []) := eachR_bad hi hmn hbad
        rw [he, if_pos hbad]
        rcases hone i hi with ⟨_, h3⟩ | ⟨e, h3, h4, h5⟩
        · rw [h3] at hbad; exact absurd rfl hbad
        · rw [rdone_bad (i := i) (by simpa using hi) (fun j hj => ?_) (by rw [hget i hi, h4]; exact refT_kind h3), hget i hi, h4, h5]
          · show (-(-e), ([] : List T), (0 : Int)) = (e, [], 0)
            rw [Int.neg_neg]
          · rw [hget j (by omega)]
            rcases hone j (by omega) with ⟨h6, _⟩ | ⟨e2, h6, _, h7⟩
            · omega
            · have := hmn j hj; rw [h7] at this; simp only at this; omega
theorem eachR_mem {r : T → Int × T} : ∀ {ts : List T} {u : T}, u ∈ (eachR r ts).2 → ∃ t, t ∈ ts ∧ u = (r t).2
  | [], u, h => by cases h
  | t :: ts, u, h => by
    rw [eachR] at h
    split at h
    · cases h
    · split at h
      · cases h
      · rcases List.mem_cons.mp h with rfl | h
        · exact ⟨t, List.mem_cons_self, rfl⟩
        · obtain ⟨x, hx, e⟩ := eachR_mem h
          exact ⟨x, List.mem_cons_of_mem _ hx, e⟩
theorem eachD_size {ts : List T} (hz : ∀ t, t ∈ ts → size t ≤ 20000) : ∀ u, u ∈ (eachD ts).2 → size u ≤ 20000 := fun u hu => by
  obtain ⟨t, ht, rfl⟩ := eachR_mem hu
  have := dims_size t 0 1
  have := hz t ht
  omega
theorem pushDim_bad {ts : List T} {d : Int} {r : Int × List T} (h0 : ctxRight ts d = 0) (h1 : ¬ d = 24) (h2 : r = eachD ts) (h3 : r.1 ≠ 0) : pushDimR ts d = (r.1, [], 0) := by
  subst h2
  unfold pushDimR
  rw [if_neg (by simp [h0]), if_neg h1, if_pos h3]
theorem pushDim_ok {ts : List T} {d : Int} {r : Int × List T} (h0 : ctxRight ts d = 0) (h1 : ¬ d = 24) (h2 : r = eachD ts) (h3 : r.1 = 0) : pushDimR ts d = doneR9 r.2 ((if r.1 = 0 then d else 0) + 1) := by
  subst h2
  unfold pushDimR
  rw [if_neg (by simp [h0]), if_neg h1, if_neg (by simp [h3]), if_pos h3]
theorem up_eq {t : T} {v d : Int} (hv : 0 ≤ v ∧ v ≤ 1000000) (hz : size t ≤ 20000) (h : rightP t v d = 0) : upRes t 0 1 = liftRes 0 1 t 0 0 := by
  obtain ⟨hf, hk, hm, hfm⟩ := right_kind ⟨hv.1, by omega⟩ h
  have h0 : trav (liftTr 0 0) t (0, 0) = .ok t := by
    rcases lift_none (t := t) (c := (0, 0)) hf with h1 | ⟨h1, _⟩
    · exact h1
    · obtain ⟨w, hw⟩ := var_told (a := 0) (by decide) t v d (0, 0) hm (by omega)
      rw [h1] at hw; cases hw
  have h1 : liftRes 0 0 t 0 0 = t := liftRes_ok h0
  unfold upRes
  rw [if_neg (by omega), h1, if_neg (by omega)]
theorem up_sizes {ts : List T} {d : Int} (hz : ∀ t, t ∈ ts → size t ≤ 20000) (h : ctxRight ts d = 0) : ∀ u, u ∈ ts.map (fun t => upRes t 0 1) → size u ≤ 1000000 ∧ -1000000 ≤ u.kind := fun u hu => by
  obtain ⟨t, ht, rfl⟩ := List.mem_map.mp hu
  obtain ⟨j, hj, rfl⟩ := mem_getD (d := t0) ht
  obtain ⟨c1, c2, c3, c4⟩ := ctxRight_zero.mp h
  have hr := ctx_types h j hj
  have hzj := hz _ ht
  rw [up_eq (by omega) hzj hr]
  rcases liftRes_alt (vb := 0) (db := 1) (v := 0) (d := 0) (right_kind (by omega) hr).1 with ⟨h4, h5⟩ | ⟨e, h4, h5, h6⟩
  · have := lift_size h4; omega
  · have h7 := lift_bad_le _ h5
    rw [h6]
    refine ⟨?_, by show -1000000 ≤ -e; omega⟩
    rw [size_sumLB]
    show 1 + sizeL [] + sizeB [] ≤ 1000000
    simp [sizeL, sizeB]
end Go.Hy
namespace Go.Hy
/-! ### Own lists of terms: packed and opened -/
section
variable {B : Base} {Γ : List Fact} {Ms : List Res} {w : World}
theorem St.joinL {y : Tys} {hs : List HT} {a : SH} {n : Nat} {l : List Value} (e1 : n = hs.length) (e2 : l = tpFlat (hs.map HT.tp)) (h : St B Γ (rowS 6 y.t a n l :: bigR (kidsR y hs) :: Ms) w) : St B Γ (bigR (listR y a hs) :: Ms) w := by
  subst e1; subst e2
  have h1 := (h.perm (List.Perm.swap _ _ _)).unpack
  exact St.pack (by unfold listR; exact h1.perm List.perm_middle)
theorem St.openL {y : Tys} {hs : List HT} {a : SH} (h : St B Γ (bigR (listR y a hs) :: Ms) w) : St B Γ (rowS 6 y.t a hs.length (tpFlat (hs.map HT.tp)) :: bigR (kidsR y hs) :: Ms) w := by
  have h1 := h.unpack
  unfold listR at h1
  exact (St.pack (h1.perm List.perm_middle.symm)).perm (List.Perm.swap _ _ _)
theorem St.nilL (y : Tys) (h : St B Γ Ms w) : St B Γ (bigR (listR y (Option.none, 0) []) :: Ms) w := St.joinL (hs := []) rfl rfl ((h.bigNil).rowS0 6 y.t)
end
theorem okL_cons {t : T} {ts : List T} (h : okT t) (h2 : okL ts) : okL (t :: ts) := by
  rw [okL_iff] at h2 ⊢
  intro u hu
  rcases List.mem_cons.mp hu with rfl | hu
  · exact h
  · exact h2 u hu
theorem okL_TL {ok : Nat → Prop} {ts : List T} {a : SH} {w : World} (h : tlAt ok ts a w) : okL ts := by
  obtain ⟨VR, VK, VS, h2⟩ := h
  exact okL_of h2.2
theorem okL_nil : okL [] := by simp [okL]
theorem doneR9_alt (ts : List T) (d : Int) : (ctxRight ts d ≠ 0 ∧ doneR9 ts d = (ctxRight ts d, [], 0)) ∨ (ctxRight ts d = 0 ∧ doneR9 ts d = (0, ts, d)) := by
  unfold doneR9
  by_cases h : ctxRight ts d ≠ 0
  · exact .inl ⟨h, if_pos h⟩
  · exact .inr ⟨by omega, if_neg h⟩
theorem push_alt (ts : List T) (d : Int) (t : T) : (pushR ts d t).2.1 = [] ∨ (pushR ts d t).2.1 = t :: ts ∧ ts.length ≤ 200 := by
  unfold pushR
  split
  · exact .inl rfl
  · rename_i h1
    split
    · exact .inl rfl
    · rcases doneR9_alt (t :: ts) d with ⟨_, h⟩ | ⟨_, h⟩
      · rw [h]; exact .inl rfl
      · rw [h]; exact .inr ⟨rfl, (ctxRight_zero.mp (show ctxRight ts d = 0 by omega)).2.2.1⟩
theorem push_okL {ts : List T} {d : Int} {t : T} (h : okT t) (h2 : okL ts) : okL (pushR ts d t).2.1 := by
  rcases push_alt ts d t with e | ⟨e, _⟩
  · rw [e]; exact okL_nil
  · rw [e]; exact okL_cons h h2
theorem push_len (ts : List T) (d : Int) (t : T) : (pushR ts d t).2.1.length ≤ 201 := by
  rcases push_alt ts d t with e | ⟨e, h⟩
  · rw [e]; simp
  · rw [e, List.length_cons]; omega
end Go.Hy
namespace Go.Hy
/-! A field of a struct that is no variable. -/
section
variable {tn : Bool} {pn : Nat} {P : Program} [Tab P] {f : FuncId} {R : Ending → World → Prop} {B : Base} {n : Fz} {K : List Item} {ops : Array Oper} {i : Nat} {l fin : List Nat} {σ : Nat → Value} {Γ : List Fact} {Ms Ms2 : List Res}
variable {dst : Option Tmp} {op : Op} {ty : TypeId} {pos : String} {after : Array Edge} {v : Value} {x y z : Operand}
/-- The field j of the type t is a list, and lies at o. -/
def FieldL (P : Program) [Tab P] (t : TypeId) (j o : Nat) : Prop := ∃ fs fl e, P.underlying t = some (.struct fs) ∧ fs[j]? = some fl ∧ fl.offset = o ∧ Tab.und P fl.type = some (.slice e)
theorem pe_field {t : TypeId} {j o : Nat} {cs : Array Value} (hf : FieldL P t j o) (hx : ev σ x = .agg cs) (hv : cs[o]? = some v) : PureE P σ (.field t x j) ty v := fun w => by
  obtain ⟨fs, fl, e, h1, h2, h3, h4⟩ := hf
  subst h3
  have h5 : (isAgg fl.type).run P w = .ok false w := by
    unfold isAgg
    rw [bind_ok (run_und0 h4 w)]
    rfl
  have h6 : (Instr.field t (.agg cs) j).run P w = .ok v w := by
    unfold Instr.field
    rw [bind_ok (run_underlying h1 w)]
    show (match fs[j]? with | some f => _ | none => _ : Sem Value).run P w = _
    rw [h2]
    show ((asAgg (.agg cs)) >>= fun a => part fl.type a fl.offset).run P w = _
    rw [bind_ok (s := asAgg (.agg cs)) (a := cs) (w' := w) rfl]
    unfold part
    rw [bind_ok h5]
    rw [if_neg (by decide), hv]
    rfl
  simp only [opr, execOp, hx]
  rw [Sem.run_bind, h6]
  rfl
theorem v_field {t : TypeId} {j o : Nat} {cs : Array Value} (hf : FieldL P t j o) (k_ : NV tn pn P f R B n K ops fin l (putS σ dst v) Γ Ms) (hx : ev σ x = .agg cs := by exact wn_) (hv : cs[o]? = some v := by exact wn_) (hd : dstOk n dst = true := by rfl) : NvT tn pn P f R B n K ops fin i l dst (.field t x j) ty σ Γ Ms := nv_pure (pe_field hf hx hv) hd k_
end
end Go.Hy
namespace Go.Hy
open Go.Proofs
set_option maxRecDepth 100000
theorem dimension_spec (i : Int) : Spec Tryz.prog 136 #[.int .i64 i] [] [] (fun _ : Unit => .bool (decide (0 ≤ i) && decide (i < 24))) (fun _ => []) (fun _ => []) := by
  refine spec_go (args := [.int .i64 i]) Tryz.func136 Tryz.ntmps136 rfl (by exact Nat.le_of_ble_eq_true rfl) fun B hB => ?_
  refine go_seq ?_; refine go_region ⟨_, Tryz.func136⟩ rfl ?_; refine q0 rfl (o_assign ?_); refine rg_nil ?_; refine go_seq ?_; refine go_region ⟨_, Tryz.func136⟩ rfl ?_; refine q0 rfl (o_move ?_); refine q0 rfl (o_geq ?_); refine q0 rfl (o_move ?_); refine qI rfl rfl rfl wl_ (fun hg5 => o_move ?_) (fun hg5 => ?_)
  · refine qT rfl rfl rfl (o_lss ?_); refine q0 rfl (o_pickT ?_); refine q0 rfl (o_assign ?_); refine rg_nil ?_; refine ret1 Tryz.func136 Tryz.results136 wn_ () (by first | (simp_all; done) | (simp_all; omega)) (fun w hs => hs.none)
  · refine qF rfl rfl rfl ?_; refine q0 rfl (o_pickF ?_); refine q0 rfl (o_assign ?_); refine rg_nil ?_; refine ret1 Tryz.func136 Tryz.results136 wn_ () (by first | (simp_all; done) | (simp_all; omega)) (fun w hs => hs.none)
theorem maskRight_spec (s : Nat) (hs : s < 4294967296) : Spec Tryz.prog 114 #[.int .u32 (s : Int)] [] [] (fun _ : Unit => .bool (decide (s < 16777216))) (fun _ => []) (fun _ => []) := by
  refine spec_go (args := [.int .u32 (s : Int)]) Tryz.func114 Tryz.ntmps114 rfl (by exact Nat.le_of_ble_eq_true rfl) fun B hB => ?_
  refine go_seq ?_; refine go_region ⟨_, Tryz.func114⟩ rfl ?_; refine q0 rfl (o_assign ?_); refine rg_nil ?_; refine go_seq ?_; refine go_region ⟨_, Tryz.func114⟩ rfl ?_; refine q0 rfl (o_move ?_); refine q0 rfl (o_andNotU32 ?_ (b := 16777215)); refine q0 rfl (o_eqI ?_ (b := 0)); refine q0 rfl (o_assign ?_); refine rg_nil ?_; refine ret1 Tryz.func114 Tryz.results114 wn_ () (by rw [andNot_zero hs]) (fun w hs => hs.none)
theorem withoutNone_spec (s : Nat) (hs : s < 4294967296) : Spec Tryz.prog 124 #[.int .u32 (s : Int), .int .i64 (-1)] [] [] (fun _ : Unit => .int .u32 ((s &&& 16777215 : Nat) : Int)) (fun _ => []) (fun _ => []) := by
  refine spec_go (args := [.int .u32 (s : Int), .int .i64 (-1)]) Tryz.func124 Tryz.ntmps124 rfl (by exact Nat.le_of_ble_eq_true rfl) fun B hB => ?_
  refine go_seq ?_; refine go_region ⟨_, Tryz.func124⟩ rfl ?_; refine q0 rfl (o_assign ?_); refine rg_nil ?_; refine go_seq ?_; refine go_region ⟨_, Tryz.func124⟩ rfl ?_; refine q0 rfl (o_move ?_); refine q0 rfl (o_andU32 ?_ (b := 16777215)); refine q0 rfl (o_assign ?_); refine rg_nil ?_; refine go_seq ?_; refine go_seq ?_; refine go_region ⟨_, Tryz.func124⟩ rfl ?_; refine q0 rfl (o_move ?_); refine q0 rfl (o_call Tryz.call136 (dimension_spec (-1)) (fun x8 => ?_)); refine q0 rfl (o_not ?_); refine rg_nil ?_; refine go_condI (fun h9 => ?_) (fun h9 => ?_)
  · refine go_seq ?_; refine go_region ⟨_, Tryz.func124⟩ rfl ?_; refine q0 rfl (o_move ?_); refine q0 rfl (o_assign ?_); refine rg_nil ?_; refine ret1 Tryz.func124 Tryz.results124 wn_ () rfl (fun w hs => hs.none)
  · exact absurd h9 (by decide)
theorem fDims_spec : FDims := by
  intro l a; refine spec_go (args := [sl a l.length]) Tryz.func112 Tryz.ntmps112 rfl (by exact Nat.le_of_ble_eq_true rfl) fun B hB => ?_
  refine go_openCL (l := l) (a := a) (fun hl1 hA1 hU1 => ?_); refine go_seq ?_; refine go_region ⟨_, Tryz.func112⟩ rfl ?_; refine q0 rfl (o_assign ?_); refine rg_nil ?_; refine go_seq ?_; refine go_region ⟨_, Tryz.func112⟩ rfl ?_; refine q0 rfl (o_assign ?_); refine rg_nil ?_; refine go_seq ?_; refine go_seq ?_; refine go_region ⟨_, Tryz.func112⟩ rfl ?_; refine q0 rfl (o_move ?_); refine q0 rfl (o_len ?_); refine q0 rfl (o_move ?_); refine rg_nil ?_; refine go_block ?_; refine go_loopI (X := Nat) (fun i => i ≤ l.length) (fun i => [(3, .int .u32 (orUpto l i : Int)), (6, sl a l.length), (7, .int .i64 (l.length : Int)), (8, .int .i64 (i : Int))]) (fun i => [CL l a]) (fun i => []) (fun i => l.length - i) (0) (Nat.zero_le _) (by exact ⟨rfl, rfl, rfl, rfl, trivial⟩) ?_ ?_
  · exact fun w hs => hs.less (by simp)
  · intro i base0 hi next0; refine go_seq ?_; refine go_region ⟨_, Tryz.func112⟩ rfl ?_; refine q0 rfl (o_lss ?_); refine rg_nil ?_; refine go_seq ?_; refine go_condI (fun h9 => ?_) (fun h9 => ?_)
    · have hlt : i < l.length := by have := of_decide_eq_true h9; omega
      obtain ⟨bk, o, hav⟩ := hA1 (by omega); have hu := hU1 _ (getD_mem (d := cl0) hlt); have hup := orUpto_lt hU1 i; have hor : (l.getD i cl0).pos ||| (l.getD i cl0).neg < 4294967296 := Nat.or_lt_two_pow (n := 32) hu.1 hu.2; refine go_skip ?_; refine go_seq ?_; refine go_block ?_; refine go_seq ?_; refine go_region ⟨_, Tryz.func112⟩ rfl ?_; refine q0 rfl (o_ixN ?_); refine q0 rfl (o_ldC ?_); refine q0 rfl (o_new fun b5 => ?_); refine q0 rfl (o_st ?_); refine rg_nil ?_; refine go_region ⟨_, Tryz.func112⟩ rfl ?_; refine q0 rfl (o_move ?_); refine q0 rfl (o_fa ?_); refine q0 rfl (o_ld ?_); refine q0 rfl (o_fa ?_); refine q0 rfl (o_ld ?_); refine q0 rfl (o_orU32 ?_ (a := (l.getD i cl0).pos) (b := (l.getD i cl0).neg) (ha := hu.1) (hb := hu.2)); refine q0 rfl (o_orU32 ?_ (a := orUpto l i) (b := (l.getD i cl0).pos ||| (l.getD i cl0).neg)); refine q0 rfl (o_assign ?_); refine rg_nil ?_; refine go_inBlock ?_; refine go_region ⟨_, Tryz.func112⟩ rfl ?_; refine q0 rfl (o_add ?_); refine q0 rfl (o_move ?_); refine rg_nil ?_; refine go_state (fun w hs => ?_) (next0 (i + 1) _ hlt (by omega) ⟨by rw [orUpto_succ hlt]; rfl, rfl, rfl, rfl, trivial⟩); exact (hs.less (by simp)).bare
    · have hge : i = l.length := by have := of_decide_eq_false h9; omega
      refine go_exit rfl ?_; refine go_seq ?_; refine go_region ⟨_, Tryz.func112⟩ rfl ?_; refine q0 rfl (o_move ?_); refine q0 rfl (o_call Tryz.call124 (withoutNone_spec (orUpto l i) (orUpto_lt hU1 i)) (fun x21 => ?_)); refine q0 rfl (o_assign ?_); refine rg_nil ?_; refine ret1 Tryz.func112 Tryz.results112 wn_ () (by rw [fDims_eq, ← hge]) (fun w hs => hs.none)
theorem clauseRight_spec (c : Cl) (hc : u32 c) : Spec Tryz.prog 97 #[.agg (clCells c).toArray] [] [] (fun _ : Unit => .bool (right24 c)) (fun _ => []) (fun _ => []) := by
  refine spec_go (args := [.agg (clCells c).toArray]) Tryz.func97 Tryz.ntmps97 rfl (by exact Nat.le_of_ble_eq_true rfl) fun B hB => ?_
  refine go_seq ?_; refine go_region ⟨_, Tryz.func97⟩ rfl ?_; refine q0 rfl (o_box fun b1 => ?_); refine q0 rfl (o_assign ?_); refine rg_nil ?_; refine go_seq ?_; refine go_region ⟨_, Tryz.func97⟩ rfl ?_; refine q0 rfl (o_fa ?_); refine q0 rfl (o_ld ?_); refine q0 rfl (o_call Tryz.call114 (maskRight_spec c.pos hc.1) (fun x5 => ?_)); refine q0 rfl (o_move ?_); refine qI rfl rfl rfl wl_ (fun hg6 => o_fa ?_) (fun hg6 => ?_)
  · refine qT rfl rfl rfl (o_ld ?_); refine qT rfl rfl rfl (o_call Tryz.call114 (maskRight_spec c.neg hc.2) (fun x9 => ?_)); refine q0 rfl (o_pickT ?_); refine q0 rfl (o_assign ?_); refine rg_nil ?_; refine ret1 Tryz.func97 Tryz.results97 wn_ () (by first | (simp_all [right24]; done) | (simp_all [right24]; intros; omega)) (fun w hs => hs.none)
  · refine qF rfl rfl rfl ?_; refine qF rfl rfl rfl ?_; refine q0 rfl (o_pickF ?_); refine q0 rfl (o_assign ?_); refine rg_nil ?_; refine ret1 Tryz.func97 Tryz.results97 wn_ () (by first | (simp_all [right24]; done) | (simp_all [right24]; intros; omega)) (fun w hs => hs.none)
theorem clash_spec (c : Cl) (hc : u32 c) : Spec Tryz.prog 113 #[.agg (clCells c).toArray] [] [] (fun _ : Unit => .bool (clash c)) (fun _ => []) (fun _ => []) := by
  refine spec_go (args := [.agg (clCells c).toArray]) Tryz.func113 Tryz.ntmps113 rfl (by exact Nat.le_of_ble_eq_true rfl) fun B hB => ?_
  refine go_seq ?_; refine go_region ⟨_, Tryz.func113⟩ rfl ?_; refine q0 rfl (o_box fun b1 => ?_); refine q0 rfl (o_assign ?_); refine rg_nil ?_; refine go_seq ?_; refine go_region ⟨_, Tryz.func113⟩ rfl ?_; refine q0 rfl (o_fa ?_); refine q0 rfl (o_ld ?_); refine q0 rfl (o_fa ?_); refine q0 rfl (o_ld ?_); refine q0 rfl (o_andU32 ?_ (a := c.pos) (b := c.neg) (ha := hc.1) (hb := hc.2)); refine q0 rfl (o_neI ?_ (b := 0)); refine q0 rfl (o_assign ?_); refine rg_nil ?_; refine ret1 Tryz.func113 Tryz.results113 wn_ () (by simp only [clash]; congr 1; apply decide_eq_decide.mpr; omega) (fun w hs => hs.none)
theorem meet_spec (c d : Cl) (hc : u32 c) (hd : u32 d) : Spec Tryz.prog 117 #[.agg (clCells c).toArray, .agg (clCells d).toArray] [] [] (fun _ : Unit => .agg (clCells (meetC c d)).toArray) (fun _ => []) (fun _ => []) := by
  refine spec_go (args := [.agg (clCells c).toArray, .agg (clCells d).toArray]) Tryz.func117 Tryz.ntmps117 rfl (by exact Nat.le_of_ble_eq_true rfl) fun B hB => ?_
  refine go_seq ?_; refine go_region ⟨_, Tryz.func117⟩ rfl ?_; refine q0 rfl (o_box fun b2 => ?_); refine q0 rfl (o_box fun b3 => ?_); refine q0 rfl (o_new fun b4 => ?_); refine rg_nil ?_; refine go_seq ?_; refine go_region ⟨_, Tryz.func117⟩ rfl ?_; refine q0 rfl (o_fa ?_); refine q0 rfl (o_ld ?_); refine q0 rfl (o_fa ?_); refine q0 rfl (o_ld ?_); refine q0 rfl (o_orU32 ?_ (a := c.pos) (b := d.pos) (ha := hc.1) (hb := hd.1)); refine q0 rfl (o_fa ?_); refine q0 rfl (o_ld ?_); refine q0 rfl (o_fa ?_); refine q0 rfl (o_ld ?_); refine q0 rfl (o_orU32 ?_ (a := c.neg) (b := d.neg) (ha := hc.2) (hb := hd.2)); refine q0 rfl (o_build (cs := clCells (meetC c d)) ?_); refine q0 rfl (o_st ?_); refine rg_nil ?_; refine retC Tryz.func117 Tryz.results117 () rfl mm_ rfl rfl rfl rfl (fun w hs => hs.none)
theorem below_spec (c d : Cl) (hc : u32 c) (hd : u32 d) : Spec Tryz.prog 102 #[.agg (clCells c).toArray, .agg (clCells d).toArray] [] [] (fun _ : Unit => .bool (below c d)) (fun _ => []) (fun _ => []) := by
  refine spec_go (args := [.agg (clCells c).toArray, .agg (clCells d).toArray]) Tryz.func102 Tryz.ntmps102 rfl (by exact Nat.le_of_ble_eq_true rfl) fun B hB => ?_
  refine go_seq ?_; refine go_region ⟨_, Tryz.func102⟩ rfl ?_; refine q0 rfl (o_box fun b2 => ?_); refine q0 rfl (o_box fun b3 => ?_); refine q0 rfl (o_assign ?_); refine rg_nil ?_; refine go_seq ?_; refine go_draw (pn := 1000000) (tn := false) (A := [0, 0, 3, 0, 15, 31]) (l := [0, 1, 3, 2, 4, 5]) (fin := []) Tab.mixed ⟨_, Tryz.func102⟩ (by rfl) ?_; refine n0 rfl (v_lds ?_); refine n0 rfl (v_lds ?_); refine n0 rfl (v_lds ?_); refine n0 rfl (v_call Tryz.call117 (meet_spec c d hc hd) (fun x7 => ?_)); refine n0 rfl (v_eqC ?_ (c := meetC c d) (c' := c)); refine n0 rfl (v_assign ?_); refine NV.done ?_; refine rg_nil ?_; refine ret1 Tryz.func102 Tryz.results102 wn_ () (by rw [below_meet]) (fun w hs => hs.none)
end Go.Hy
/-
  DERIVED: THE SHELF's CONTRACTS AT THIS DUMP, IN PLAIN WORDS (tools/lay-plain.mjs out of 'TryzSort.lean', which tools/lay-shelf.mjs wrote): THE SAME DECLARATIONS UNDER THE SAME NAMES: 'import', 'namespace', 'open', 'def', 'theorem' AND NOTHING ELSE: no command of the shelf's: FOR A HAND-IN. Each laying: the table of numbers ('.._ren') and one theorem, a field a fact of the dump's own or the kernel's comparison; each contract: ONE APPLICATION.
-/
namespace Go.Proofs
open Go.Shelf
def Tryz.sortL_ren : Go.Shelf.Ren := ⟨fun | 6 => 103 | 15 => 119 | 14 => 118 | 28 => 133 | 29 => 134 | 20 => 125 | 21 => 126 | 22 => 127 | 23 => 128 | 24 => 129 | 25 => 130 | 26 => 131 | 27 => 132 | 46 => 137 | 47 => 138 | 48 => 139 | 49 => 140 | 50 => 141 | 57 => 142 | n => n, fun | 22 => 22 | 24 => 55 | 25 => 115 | 3 => 3 | 39 => 121 | 0 => 0 | 53 => 53 | 55 => 124 | 4 => 4 | 46 => 133 | 45 => 132 | 50 => 137 | 5 => 5 | 9 => 9 | 66 => 142 | 70 => 146 | 76 => 148 | 77 => 77 | n => n, fun | n => n⟩
theorem Tryz.sortL : Go.Proofs.SlLaysF0.n6 Tryz.prog Tryz.sortL_ren := {
  mixed := by kernel_rfl
  f6 := ⟨Tryz.f103.name, by decide, Tryz.func103.trans (congrArg some (by kernel_rfl))⟩
  f14 := ⟨Tryz.f118.name, by decide, Tryz.func118.trans (congrArg some (by kernel_rfl))⟩
  f15 := Tryz.func119.trans (congrArg some (by kernel_rfl))
  f20 := ⟨Tryz.f125.name, by decide, Tryz.func125.trans (congrArg some (by kernel_rfl))⟩
  f21 := ⟨Tryz.f126.name, by decide, Tryz.func126.trans (congrArg some (by kernel_rfl))⟩
  f22 := ⟨Tryz.f127.name, by decide, Tryz.func127.trans (congrArg some (by kernel_rfl))⟩
  f23 := ⟨Tryz.f128.name, by decide, Tryz.func128.trans (congrArg some (by kernel_rfl))⟩
  f24 := ⟨Tryz.f129.name, by decide, Tryz.func129.trans (congrArg some (by kernel_rfl))⟩
  f25 := ⟨Tryz.f130.name, by decide, Tryz.func130.trans (congrArg some (by kernel_rfl))⟩
  f26 := ⟨Tryz.f131.name, by decide, Tryz.func131.trans (congrArg some (by kernel_rfl))⟩
  f27 := ⟨Tryz.f132.name, by decide, Tryz.func132.trans (congrArg some (by kernel_rfl))⟩
  f28 := Tryz.func133.trans (congrArg some (by kernel_rfl))
  f29 := Tryz.func134.trans (congrArg some (by kernel_rfl))
  f46 := ⟨Tryz.f137.name, by decide, Tryz.func137.trans (congrArg some (by kernel_rfl))⟩
  f47 := Tryz.func138.trans (congrArg some (by kernel_rfl))
  f48 := Tryz.func139.trans (congrArg some (by kernel_rfl))
  f49 := ⟨Tryz.f140.name, by decide, Tryz.func140.trans (congrArg some (by kernel_rfl))⟩
  f50 := ⟨Tryz.f141.name, by decide, Tryz.func141.trans (congrArg some (by kernel_rfl))⟩
  f57 := ⟨Tryz.f142.name, by decide, Tryz.func142.trans (congrArg some (by kernel_rfl))⟩
  t0 := Tryz.underlying0
  a0 := Tryz.isAgg0
  z0 := Tryz.sizeOf0
  v0 := Tryz.zeroValue0
  t3 := Tryz.underlying3
  a3 := Tryz.isAgg3
  z3 := Tryz.sizeOf3
  v3 := Tryz.zeroValue3
  t4 := Tryz.underlying4
  a4 := Tryz.isAgg4
  z4 := Tryz.sizeOf4
  v4 := Tryz.zeroValue4
  t5 := Tryz.underlying5
  a5 := Tryz.isAgg5
  z5 := Tryz.sizeOf5
  v5 := Tryz.zeroValue5
  t9 := Tryz.underlying9
  a9 := Tryz.isAgg9
  z9 := Tryz.sizeOf9
  v9 := Tryz.zeroValue9
  t22 := Tryz.underlying22
  a22 := Tryz.isAgg22
  z22 := Tryz.sizeOf22
  v22 := Tryz.zeroValue22
  t25 := Tryz.underlying115
  a25 := Tryz.isAgg115
  z25 := Tryz.sizeOf115
  v25 := Tryz.zeroValue115
  t39 := Tryz.underlying121
  a39 := Tryz.isAgg121
  z39 := Tryz.sizeOf121
  v39 := Tryz.zeroValue121
  t45 := Tryz.underlying132
  a45 := Tryz.isAgg132
  z45 := Tryz.sizeOf132
  v45 := Tryz.zeroValue132
  t46 := Tryz.underlying133
  a46 := Tryz.isAgg133
  z46 := Tryz.sizeOf133
  v46 := Tryz.zeroValue133
  t50 := Tryz.underlying137
  a50 := Tryz.isAgg137
  z50 := Tryz.sizeOf137
  v50 := Tryz.zeroValue137
  t53 := Tryz.underlying53
  a53 := Tryz.isAgg53
  z53 := Tryz.sizeOf53
  v53 := Tryz.zeroValue53
  t55 := Tryz.underlying124
  a55 := Tryz.isAgg124
  z55 := Tryz.sizeOf124
  v55 := Tryz.zeroValue124
  t66 := Tryz.underlying142
  a66 := Tryz.isAgg142
  z66 := Tryz.sizeOf142
  v66 := Tryz.zeroValue142
  t70 := Tryz.underlying146
  a70 := Tryz.isAgg146
  z70 := Tryz.sizeOf146
  v70 := Tryz.zeroValue146
  t76 := Tryz.underlying148
  a76 := Tryz.isAgg148
  z76 := Tryz.sizeOf148
  v76 := Tryz.zeroValue148
  t77 := Tryz.underlying77
  a77 := Tryz.isAgg77
  z77 := Tryz.sizeOf77
  v77 := Tryz.zeroValue77 }
end Go.Proofs
namespace Go.Hy
open Go.Proofs
set_option maxRecDepth 100000
open Go.Shelf Go.RowKit Go.Lib Go.Sort
theorem isNaN_k (a : Int) (W : World) : Calls Tryz.prog 135 #[.int .u32 a] W fun e w' => e = .returned (.bool false) ∧ w' = W := by
  go_enter Tryz.func135, Tryz.ntmps135
  go_wp2
  go_ret
  exact ⟨by simp, rfl⟩
theorem compare_k (a b : Int) (W : World) : Calls Tryz.prog 120 #[.int .u32 a, .int .u32 b] W fun e w' => e = .returned (.int .i64 (compareInt a b)) ∧ w' = W := by
  go_enter Tryz.func120, Tryz.ntmps120
  go_wp2_with (go_at_call 135; refine (isNaN_k _ _).mono ?_; rintro e w' ⟨rfl, rfl⟩)
  all_goals (go_ret; refine ⟨?_, rfl⟩; unfold Lib.compareInt; (repeat' split) <;> first | rfl | (exfalso; omega))
def cmpC (c d : Cl) : Int := if c.pos = d.pos then compareInt c.neg d.neg else compareInt c.pos d.pos
set_option maxHeartbeats 1000000 in
theorem cmp_k (c d : Cl) (W : World) : Calls Tryz.prog 104 #[.agg #[.int .u32 c.pos, .int .u32 c.neg], .agg #[.int .u32 d.pos, .int .u32 d.neg]] W fun e w' => e = .returned (.int .i64 (cmpC c d)) ∧ ∃ q os', w' = grow (W.drewN q) os' := by
  have hcon := fun a b W' => compare_k a b W'
  have e1 : cmpC c d = if (c.pos : Int) = d.pos then compareInt c.neg d.neg else compareInt c.pos d.pos := by unfold cmpC; simp only [Int.ofNat_inj]
  generalize hr : cmpC c d = r at e1 ⊢
  go_enter Tryz.func104, Tryz.ntmps104
  go_wp2_with (go_at_call 120; refine (hcon _ _ _).mono ?_; rintro e w' ⟨rfl, rfl⟩)
  all_goals (go_ret; refine ⟨?_, 0, _, by rw [alloc_eq_grow, alloc_eq_grow, grow_grow]; rfl⟩)
  all_goals (rw [e1]; simp_all)
/-! ### The order of clauses -/
instance : Inhabited Cl := ⟨cl0⟩
theorem cmp_lt (c d : Cl) : ltOf cmpC c d = lessC c d := by
  unfold ltOf cmpC lessC compareInt; by_cases h : c.pos = d.pos
  · simp only [h, if_true]; by_cases h2 : c.neg < d.neg
    · rw [if_pos (by omega)]; simp [h2]
    · rw [if_neg (by omega)]; split <;> simp [h2]
  · simp only [h, if_false]; by_cases h2 : c.pos < d.pos
    · rw [if_pos (by omega)]; simp [h2]
    · rw [if_neg (by omega), if_pos (by omega)]; simp [h2]
theorem cmp_swo : SWO (ltOf cmpC) where
  irrefl x := by rw [cmp_lt]; simp [lessC]
  trans x y z h1 h2 := by
    rw [cmp_lt] at *; simp only [lessC, Bool.or_eq_true, Bool.and_eq_true, decide_eq_true_eq] at *; omega
  ntrans x y z h1 h2 := by
    rw [cmp_lt] at *; simp only [lessC, Bool.or_eq_false_iff, Bool.and_eq_false_iff, decide_eq_false_iff_not] at *; omega
theorem flatK_toList (d : Array Cl) : (flatK clCells 2 d).toList = clFlat d.toList := by
  apply List.ext_getElem?; intro t; have hl : (clFlat d.toList).length = d.size * 2 := by rw [flat_len clCells_len]; simp
  by_cases ht : t < d.size * 2
  · have h1 : (flatK clCells 2 d).toList[t]? = some (clCells d[t / 2]!)[t % 2]! := by
      have hs : t < (flatK clCells 2 d).size := by rw [size_flatK]; exact ht
      rw [Array.getElem?_toList, Array.getElem?_eq_getElem hs]; have := get_flatK clCells 2 d t ht; rw [getElem!_pos _ t hs] at this; rw [this]
    rw [h1]; have hd : t / 2 < d.toList.length := by simp; omega
    have e : d.toList.getD (t / 2) cl0 = d[t / 2]! := by
      have : t / 2 < d.size := by simpa using hd
      rw [getElem!_pos d (t / 2) this, List.getD_eq_getElem?_getD, List.getElem?_eq_getElem hd]; simp
    have h2 : (clCells (d.toList.getD (t / 2) cl0))[t % 2]? = some (clCells d[t / 2]!)[t % 2]! := by
      rw [e]; have : t % 2 < (clCells d[t / 2]!).length := by rw [clCells_len]; omega
      rw [List.getElem?_eq_getElem this, getElem!_pos (clCells d[t / 2]!) (t % 2) this]
    have := flat_at clCells_len cl0 d.toList (t / 2) (t % 2) _ hd h2; rw [show t / 2 * 2 + t % 2 = t by omega] at this; exact this.symm
  · rw [List.getElem?_eq_none (by simp; omega), List.getElem?_eq_none (by omega)]
theorem put_cells (d : Array Cl) (l : List Cl) (rest : List Value) (hs : d.size = l.length) : putCells id 0 (flatK clCells 2 d) (clFlat l ++ rest).toArray = (clFlat d.toList ++ rest).toArray := by
  apply Array.ext_getElem?; intro t; have hl : (clFlat l).length = d.size * 2 := by rw [flat_len clCells_len, hs]
  have hl2 : (clFlat d.toList).length = d.size * 2 := by rw [flat_len clCells_len]; simp
  simp only [putCells, Array.getElem?_mapIdx, List.getElem?_toArray, size_flatK, Nat.zero_add, Nat.zero_le, true_and, Nat.sub_zero, id]; by_cases ht : t < d.size * 2
  · rw [List.getElem?_append_left (by omega), List.getElem?_append_left (by omega)]
    have h1 : (clFlat d.toList)[t]? = some (flatK clCells 2 d)[t]! := by
      rw [← flatK_toList, Array.getElem?_toList]; have hsz : t < (flatK clCells 2 d).size := by rw [size_flatK]; exact ht
      rw [Array.getElem?_eq_getElem hsz, getElem!_pos _ t hsz]
    rw [h1]; obtain ⟨v, hv⟩ : ∃ v, (clFlat l)[t]? = some v := ⟨_, List.getElem?_eq_getElem (by omega)⟩; rw [hv, Option.map_some, if_pos ht]
  · rw [List.getElem?_append_right (by omega), List.getElem?_append_right (by omega), hl, hl2]; cases rest[t - d.size * 2]? with
    | none => rfl
    | some v => rw [Option.map_some, if_neg ht]
/-- slices.SortFunc at clauses, by clause.Cmp: a row of the caller's own. -/
theorem sort_spec (l : List Cl) (g cap : Nat) (rest : List Value) (hn : l.length < 4611686018427387904) :
    Spec Tryz.prog 103 #[.slice (some ⟨g, 0, none⟩) l.length cap, .func (.func 104) #[] #[]] [] [boxR g (clFlat l ++ rest) 55] (fun _ : {l' : List Cl // l'.Perm l ∧ l'.Pairwise fun a b => lessC b a = false} => .tuple #[]) (fun _ => []) (fun x => [boxR g (clFlat x.1 ++ rest) 55]) := by
  intro ok w hok hs; have hg : w.heap[g]? = some (.cells (clFlat l ++ rest).toArray 55 (0, 0)) := hs.res _ List.mem_cons_self w (fun _ _ => rfl); have hlt : g < w.heap.size := (Array.getElem?_eq_some_iff.mp hg).1; have hu : Tryz.prog.underlying 55 = some (.struct (TyF.fC Tryz.prog)) := TyF.uC
  have aE : ∀ w, (isAgg (Tryz.sortL_ren.t 24)).run Tryz.prog w = .ok true w := fun w => by
    show (isAgg 55).run Tryz.prog w = _; simp [isAgg, run_underlying hu]
  have zE : ∀ w, (Go.sizeOf (Tryz.sortL_ren.t 24)).run Tryz.prog w = .ok 2 w := fun w => run_size0 (P := Tryz.prog) (t := 55) rfl w
  have hH : HoldsK clCells 2 w g 0 l.toArray := by
    intro j hj; rw [size_flatK] at hj; have e : (flatK clCells 2 l.toArray).toList = clFlat l := by rw [flatK_toList]
    have hsz : j < (flatK clCells 2 l.toArray).size := by rw [size_flatK]; exact hj
    have h1 : (clFlat l)[j]? = some (flatK clCells 2 l.toArray)[j]! := by
      rw [← e, Array.getElem?_toList, Array.getElem?_eq_getElem hsz, getElem!_pos _ j hsz]
    refine ⟨?_, by simp [World.frozen?, hg]⟩; have hlen : j < (clFlat l).length := (List.getElem?_eq_some_iff.mp h1).1; simp only [World.cell?, hg, Nat.zero_add, Option.isSome_none, Bool.false_eq_true, if_false, List.getElem?_toArray, id]; rw [List.getElem?_append_left hlen]; exact h1
  have hc := AnyQ.slices_SortFunc (P := Tryz.prog) Tryz.sortL 2 aE zE clCells clCells_len (fun x v hv => by
      simp only [clCells, List.mem_cons, List.not_mem_nil, or_false] at hv; rcases hv with rfl | rfl <;> rfl) cmpC cmp_swo 104 #[] g 0 cap l.toArray w Tryz.call104
    (fun m os dk hsz x y => cmp_k x y _) hH hlt (by simpa using hn)
  have hc2 : Calls Tryz.prog 103 #[.slice (some ⟨g, 0, none⟩) l.length cap, .func (.func 104) #[] #[]] w _ := hc; refine hc2.mono ?_; rintro e w' ⟨he, d', n, os, hp, hsd, hw⟩; have hsize : d'.size = l.length := by simpa using hp.1
  have hperm : d'.toList.Perm l := by
    have := hp.2.2; have e1 : d'.extract 0 l.toArray.size = d' := by rw [show l.toArray.size = d'.size by simp [hsize]]; simp
    have e2 : l.toArray.extract 0 l.toArray.size = l.toArray := by simp
    rw [e1, e2] at this; exact this
  have hsorted : d'.toList.Pairwise fun a b => lessC b a = false := by
    rw [List.pairwise_iff_getElem]; intro i j hi hj hij; have hi' : i < d'.size := by simpa using hi
    have hj' : j < d'.size := by simpa using hj
    have := hsd i j (Nat.zero_le _) hij (by simp; omega); rw [cmp_lt, getElem!_pos d' j hj', getElem!_pos d' i hi'] at this; simpa using this
  have hg' : w'.heap[g]? = some (.cells (clFlat d'.toList ++ rest).toArray 55 (0, 0)) := by
    rw [hw]; show ((mapBlock (Go.Sort.ahead w n) g (putCells id 0 (flatK clCells 2 d'))).heap ++ os)[g]? = _; rw [Array.getElem?_append_left (by simp [mapBlock, Go.Sort.ahead]; exact hlt)]; simp only [mapBlock, Go.Sort.ahead, Array.getElem?_modify, if_true, hg, Option.map_some, onCells]; rw [put_cells d' l rest hsize]
  have hold : ∀ b, b < w.heap.size → b ≠ g → w'.heap[b]? = w.heap[b]? := by
    intro b hb hne; rw [hw]; show ((mapBlock (Go.Sort.ahead w n) g (putCells id 0 (flatK clCells 2 d'))).heap ++ os)[b]? = _; rw [Array.getElem?_append_left (by simp [mapBlock, Go.Sort.ahead]; exact hb)]; simp only [mapBlock, Go.Sort.ahead, Array.getElem?_modify, if_neg (Ne.symm hne)]
  have hsz' : w.heap.size ≤ w'.heap.size := by rw [hw]; simp [sortWorldK, putRowK, Go.Sort.ahead]
  refine ⟨⟨d'.toList, hperm, hsorted⟩, he, ?_⟩; have h0 : St ⟨ok, domAll [boxR g (clFlat l ++ rest) 55], w⟩ [] ([boxR g (clFlat l ++ rest) 55]) w := hs
  refine h0.turn (m' := boxR g (clFlat d'.toList ++ rest) 55) ⟨by rw [hw]; rfl, by rw [hw]; rfl, by rw [hw]; rfl, hsz', fun b hb hn => hold b hb hn⟩ (fun w2 hw2 => by
    show w2.heap[g]? = _; rw [hw2 g rfl]; exact hg') (fun b hb => ?_)
  have hb : b = g := hb; subst hb; exact ⟨by omega, .inl rfl⟩
end Go.Hy
namespace Go.Hy
open Go.Proofs
set_option maxRecDepth 100000
theorem permNil {M : List Res} : M.Perm (M ++ []) := by rw [List.append_nil]
theorem index_spec (l : List Cl) (a : SH) (c : FuncId) (cap : List Value) (FΓ : List Fact) (M : List Res) (g : Cl → Bool) (hc : ∀ (args : Array Value) (w : World), (callFunc c args).run Tryz.prog w = .ok (.enter c args) w) (hcl : ∀ x, x ∈ l → Spec Tryz.prog c (keyV x :: cap).toArray FΓ M (fun _ : Unit => .bool (g x)) (fun _ => []) (fun _ => M)) : Spec Tryz.prog 116 #[sl a l.length, .func (.func c) #[] cap.toArray] (CL l a :: FΓ) M (fun _ : Unit => .int .i64 (idxP g l)) (fun _ => []) (fun _ => M) := by
  refine spec_go (args := [sl a l.length, .func (.func c) #[] cap.toArray]) Tryz.func116 Tryz.ntmps116 rfl (by exact Nat.le_of_ble_eq_true rfl) fun B hB => ?_
  refine go_openCL (l := l) (a := a) (fun hl1 hA1 hU1 => ?_); refine go_seq ?_; refine go_region ⟨_, Tryz.func116⟩ rfl ?_; refine q0 rfl (o_assign ?_); refine rg_nil ?_; refine go_seq ?_; refine go_seq ?_; refine go_region ⟨_, Tryz.func116⟩ rfl ?_; refine q0 rfl (o_move ?_); refine q0 rfl (o_len ?_); refine q0 rfl (o_move ?_); refine rg_nil ?_; refine go_block ?_; refine go_loopI (X := Nat) (fun i => i ≤ l.length ∧ ∀ j, j < i → g (l.getD j cl0) = false) (fun i => [(0, sl a l.length), (1, .func (.func c) #[] cap.toArray), (7, .int .i64 (l.length : Int)), (8, .int .i64 (i : Int))]) (fun i => CL l a :: FΓ) (fun i => M) (fun i => l.length - i) (0) (⟨Nat.zero_le _, fun j hj => by omega⟩) (by exact ⟨rfl, rfl, rfl, rfl, trivial⟩) ?_ ?_
  · exact fun w hs => hs
  · intro i base0 ⟨hi, hok⟩ next0; refine go_seq ?_; refine go_region ⟨_, Tryz.func116⟩ rfl ?_; refine q0 rfl (o_lss ?_); refine rg_nil ?_; refine go_seq ?_; refine go_condI (fun h9 => ?_) (fun h9 => ?_)
    · have hlt : i < l.length := by have := of_decide_eq_true h9; omega
      obtain ⟨bk, o, hav⟩ := hA1 (by omega); refine go_skip ?_; refine go_seq ?_; refine go_block ?_; refine go_seq ?_; refine go_region ⟨_, Tryz.func116⟩ rfl ?_; refine q0 rfl (o_move ?_); refine q0 rfl (o_assign ?_); refine rg_nil ?_; refine go_seq ?_; refine go_region ⟨_, Tryz.func116⟩ rfl ?_; refine q0 rfl (o_move ?_); refine q0 rfl (o_move ?_); refine q0 rfl (o_move ?_); refine q0 rfl (o_ixN ?_); refine q0 rfl (o_ldC ?_); refine q0 rfl (o_callC hc (hcl _ (getD_mem hlt)) (cap := cap) (fun x16 => ?_) (hm := permNil)); refine rg_nil ?_; refine go_condI (fun h16 => ?_) (fun h16 => ?_)
      · refine go_seq ?_; refine go_region ⟨_, Tryz.func116⟩ rfl ?_; refine q0 rfl (o_move ?_); refine q0 rfl (o_assign ?_); refine rg_nil ?_; refine ret1 Tryz.func116 Tryz.results116 wn_ () (by rw [idxP_at hlt h16 hok]) (fun w hs => (hs.less (by simp)).dropR)
      · refine go_skip ?_; refine go_inBlock ?_; refine go_region ⟨_, Tryz.func116⟩ rfl ?_; refine q0 rfl (o_add ?_); refine q0 rfl (o_move ?_); refine rg_nil ?_; refine go_state (fun w hs => ?_) (next0 (i + 1) _ ⟨hlt, fun j hj => (by rcases Nat.lt_succ_iff_lt_or_eq.mp hj with h | h; exact hok j h; subst h; exact h16)⟩ (by omega) ⟨rfl, rfl, rfl, rfl, trivial⟩); exact (hs.less (by simp +contextual)).dropR
    · have hge : i = l.length := by have := of_decide_eq_false h9; omega
      refine go_exit rfl ?_; refine go_seq ?_; refine go_region ⟨_, Tryz.func116⟩ rfl ?_; refine q0 rfl (o_assign ?_); refine rg_nil ?_; refine ret1 Tryz.func116 Tryz.results116 wn_ () (by rw [idxP_none (by rw [← hge]; exact hok)]) (fun w hs => hs.less (by simp))
theorem contains_spec (l : List Cl) (a : SH) (c : FuncId) (cap : List Value) (FΓ : List Fact) (M : List Res) (g : Cl → Bool) (hc : ∀ (args : Array Value) (w : World), (callFunc c args).run Tryz.prog w = .ok (.enter c args) w) (hcl : ∀ x, x ∈ l → Spec Tryz.prog c (keyV x :: cap).toArray FΓ M (fun _ : Unit => .bool (g x)) (fun _ => []) (fun _ => M)) : Spec Tryz.prog 100 #[sl a l.length, .func (.func c) #[] cap.toArray] (CL l a :: FΓ) M (fun _ : Unit => .bool (l.any g)) (fun _ => []) (fun _ => M) := by
  refine spec_go (args := [sl a l.length, .func (.func c) #[] cap.toArray]) Tryz.func100 Tryz.ntmps100 rfl (by exact Nat.le_of_ble_eq_true rfl) fun B hB => ?_
  refine go_seq ?_; refine go_region ⟨_, Tryz.func100⟩ rfl ?_; refine q0 rfl (o_assign ?_); refine rg_nil ?_; refine go_seq ?_; refine go_region ⟨_, Tryz.func100⟩ rfl ?_; refine q0 rfl (o_move ?_); refine q0 rfl (o_move ?_); refine q0 rfl (o_call Tryz.call116 (index_spec l a c cap FΓ M g hc hcl) (fun x7 => ?_) (hm := permNil)); refine q0 rfl (o_geq ?_); refine q0 rfl (o_assign ?_); refine rg_nil ?_; refine ret1 Tryz.func100 Tryz.results100 wn_ () (by rw [idxP_nonneg]) (fun w hs => (hs.less (by simp)).dropR)
theorem least11_spec (c d : Cl) (hc : u32 c) (hd : u32 d) (b : Nat) : Spec Tryz.prog 101 #[keyV d, .pointer (some ⟨b, 0, none⟩)] [] [boxR b (clCells c) 55] (fun _ : Unit => .bool (!decide (c = d) && below c d)) (fun _ => []) (fun _ => [boxR b (clCells c) 55]) := by
  refine spec_go (args := [keyV d, .pointer (some ⟨b, 0, none⟩)]) Tryz.func101 Tryz.ntmps101 rfl (by exact Nat.le_of_ble_eq_true rfl) fun B hB => ?_
  refine go_seq ?_; refine go_region ⟨_, Tryz.func101⟩ rfl ?_; refine q0 rfl (o_box fun b2 => ?_); refine q0 rfl (o_assign ?_); refine rg_nil ?_; refine go_seq ?_; refine go_region ⟨_, Tryz.func101⟩ rfl ?_; refine q0 rfl (o_lds ?_); refine q0 rfl (o_lds ?_); refine q0 rfl (o_neC ?_ (c := c) (c' := d)); refine q0 rfl (o_move ?_); refine qI rfl rfl rfl wl_ (fun hg7 => o_lds ?_) (fun hg7 => ?_)
  · refine qT rfl rfl rfl (o_lds ?_); refine qT rfl rfl rfl (o_call Tryz.call102 (below_spec c d hc hd) (fun x10 => ?_)); refine q0 rfl (o_pickT ?_); refine q0 rfl (o_assign ?_); refine rg_nil ?_; refine ret1 Tryz.func101 Tryz.results101 wn_ () (by simp_all) (fun w hs => (hs.less (by simp)).drop)
  · refine qF rfl rfl rfl ?_; refine qF rfl rfl rfl ?_; refine q0 rfl (o_pickF ?_); refine q0 rfl (o_assign ?_); refine rg_nil ?_; refine ret1 Tryz.func101 Tryz.results101 wn_ () (by simp_all) (fun w hs => (hs.less (by simp)).drop)
theorem least1_spec (l : List Cl) (a : SH) (c : Cl) (hc : u32 c) (b : Nat) : Spec Tryz.prog 99 #[keyV c, .pointer (some ⟨b, 0, none⟩)] [CL l a] [boxR b [sl a l.length] 22] (fun _ : Unit => .bool (needless l c)) (fun _ => []) (fun _ => [boxR b [sl a l.length] 22]) := by
  refine spec_go (args := [keyV c, .pointer (some ⟨b, 0, none⟩)]) Tryz.func99 Tryz.ntmps99 rfl (by exact Nat.le_of_ble_eq_true rfl) fun B hB => ?_
  refine go_openCL (l := l) (a := a) (fun hl1 hA1 hU1 => ?_); refine go_seq ?_; refine go_region ⟨_, Tryz.func99⟩ rfl ?_; refine q0 rfl (o_box fun b2 => ?_); refine q0 rfl (o_assign ?_); refine rg_nil ?_; refine go_seq ?_; refine go_region ⟨_, Tryz.func99⟩ rfl ?_; refine q0 rfl (o_ld ?_); refine q0 rfl (o_func ?_); refine q0 rfl (o_call Tryz.call100 (contains_spec l a 101 [.pointer (some ⟨b2, 0, none⟩)] [] [boxR b2 (clCells c) 55] (fun d => !decide (c = d) && below c d) Tryz.call101 (fun d hd => least11_spec c d hc (hU1 d hd) b2)) (fun x6 => ?_)); refine q0 rfl (o_assign ?_); refine rg_nil ?_; refine ret1 Tryz.func99 Tryz.results99 wn_ () rfl (fun w hs => (hs.less (by simp)).drop)
end Go.Hy
namespace Go.Hy
open Go.Proofs
set_option maxRecDepth 100000
theorem clFlat_snoc (l : List Cl) (c : Cl) : clFlat (l ++ [c]) = clFlat l ++ clCells c := by simp [clFlat]
/-- slices.SortFunc at a row of the call's own. -/
theorem sortRow_spec (l : List Cl) (a : SH) (n : Nat) (hn : n = l.length) (hb : n * 8 ≤ reach) :
    Spec Tryz.prog 103 #[sl a n, .func (.func 104) #[] #[]] [] [rowS 2 55 a n (clFlat l)] (fun _ : {l' : List Cl // SortOf l l'} => .tuple #[]) (fun _ => []) (fun x => [rowS 2 55 a n (clFlat x.1)]) := by
  subst hn; intro ok w hok hs; have hown : w.ownsRow 0 55 2 (sl a l.length) l.length (clFlat l) := hs.res _ List.mem_cons_self w (fun _ _ => rfl); rcases hown.2 with ⟨h1, h2⟩ | ⟨g, cap, cur, h1, h2, h3, h4, h5, h6, h7⟩
  · have hl : l = [] := List.eq_nil_of_length_eq_zero h2; subst hl; have hc := AnyF.slices_SortFunc_none (P := Tryz.prog) Tryz.sortL a.1 a.2 (.func (.func 104) #[] #[]) w; have hc2 : Calls Tryz.prog 103 #[sl a 0, .func (.func 104) #[] #[]] w _ := hc; refine hc2.mono ?_; rintro e w' ⟨he, hw⟩; subst hw; exact ⟨⟨[], List.Perm.refl _, List.Pairwise.nil⟩, he, hs⟩
  · obtain ⟨ao, ac⟩ := a; have e1 : ao = some ⟨g, 0, none⟩ := by injection h1
    have e2 : ac = cap := by injection h1
    subst e1; subst e2
    have hfl : cur.toList = clFlat l ++ cur.toList.drop (l.length * 2) := by
      have := List.take_append_drop (l.length * 2) cur.toList; rw [h7] at this; exact this.symm
    have hbox : St ⟨ok, domAll [rowS 2 55 (some ⟨g, 0, none⟩, ac) l.length (clFlat l)], w⟩ [] [boxR g (clFlat l ++ cur.toList.drop (l.length * 2)) 55] w := by
      refine hs.turn (m' := boxR g (clFlat l ++ cur.toList.drop (l.length * 2)) 55) (Chg.refl _ _) (fun w2 hw2 => ?_) (fun b hb => ?_)
      · show w2.heap[g]? = _; rw [hw2 g rfl, ← hfl, Array.toArray_toList]; exact h3
      · have hb : b = g := hb; subst hb; exact ⟨(Array.getElem?_eq_some_iff.mp h3).1, .inl rfl⟩
    have hdom : ∀ b, domAll [rowS 2 55 (some ⟨g, 0, none⟩, ac) l.length (clFlat l)] b ↔ domAll [boxR g (clFlat l ++ cur.toList.drop (l.length * 2)) 55] b := by
      intro b; rw [domAll_cons, domAll_cons]
      have : (rowS 2 55 (some ⟨g, 0, none⟩, ac) l.length (clFlat l)).dom b ↔ b = g := by
        show (sl (some ⟨g, 0, none⟩, ac) l.length).ownBlock = some b ↔ b = g; simp only [sl, Value.ownBlock, Option.some.injEq]; exact eq_comm
      rw [this]; rfl
    have hd2 : domAll [rowS 2 55 (some ⟨g, 0, none⟩, ac) l.length (clFlat l)] = domAll [boxR g (clFlat l ++ cur.toList.drop (l.length * 2)) 55] := funext fun b => propext (hdom b)
    rw [hd2] at hbox; refine (sort_spec l g ac (cur.toList.drop (l.length * 2)) (by unfold reach at hb; omega) ok w (fun b hb => ⟨(hok b hb).1, by rw [← hd2]; exact (hok b hb).2⟩) hbox).mono ?_; rintro e w' ⟨x, he, hs'⟩; refine ⟨⟨x.1, x.2.1, x.2.2⟩, he, ?_⟩; rw [hd2]; have hlen : x.1.length = l.length := x.2.1.length_eq; have hg : w'.heap[g]? = some (.cells (clFlat x.1 ++ cur.toList.drop (l.length * 2)).toArray 55 (0, 0)) := hs'.res _ List.mem_cons_self w' (fun _ _ => rfl); have hfl2 : (clFlat x.1).length = l.length * 2 := by rw [flat_len clCells_len, hlen]
    refine hs'.turn (m' := rowS 2 55 (some ⟨g, 0, none⟩, ac) l.length (clFlat x.1)) (Chg.refl _ _) (fun w2 hw2 => ⟨hfl2, .inr ⟨g, ac, (clFlat x.1 ++ cur.toList.drop (l.length * 2)).toArray, rfl, Nat.zero_le _, ?_, h4, h5, ?_, ?_⟩⟩) (fun b hb => ?_)
    · rw [hw2 g rfl]; exact hg
    · have h8 : cur.toList.length = ac * 2 := by simpa using h6
      simp only [List.size_toArray, List.length_append, List.length_drop, hfl2, h8]; omega
    · rw [← hfl2, List.take_left]
    · have hb : (sl (some ⟨g, 0, none⟩, ac) l.length).ownBlock = some b := hb; simp only [sl, Value.ownBlock, Option.some.injEq] at hb; subst hb; exact ⟨(Array.getElem?_eq_some_iff.mp hg).1, .inl rfl⟩
theorem least_own (l : List Cl) (a : SH) : Spec Tryz.prog 82 #[sl a l.length] [CL l a] [] (fun x : {x : SH × Int × List Cl // LeastIs l x.2} => .tuple #[sl x.1.1 x.1.2.2.length, .int .i64 x.1.2.1]) (fun _ => []) (fun x => [rowS 2 55 x.1.1 x.1.2.2.length (clFlat x.1.2.2)]) := by
  refine spec_go (args := [sl a l.length]) Tryz.func82 Tryz.ntmps82 rfl (by exact Nat.le_of_ble_eq_true rfl) fun B hB => ?_
  refine go_openCL (l := l) (a := a) (fun hl1 hA1 hU1 => ?_); refine go_seq ?_; refine go_region ⟨_, Tryz.func82⟩ rfl ?_; refine q0 rfl (o_assign ?_); refine q0 rfl (o_assign ?_); refine rg_nil ?_; refine go_seq ?_; refine go_region ⟨_, Tryz.func82⟩ rfl ?_; refine q0 rfl (o_makeMap fun b12 => ?_); refine q0 rfl (o_assign ?_); refine rg_nil ?_; refine go_seq ?_; refine go_region ⟨_, Tryz.func82⟩ rfl ?_; refine q0 rfl (o_new fun b5 => ?_); refine rg_nil ?_; refine go_seq ?_; refine go_seq ?_; refine go_region ⟨_, Tryz.func82⟩ rfl ?_; refine q0 rfl (o_move ?_); refine q0 rfl (o_len ?_); refine q0 rfl (o_move ?_); refine rg_nil ?_; refine go_block ?_; refine go_loopI (X := Nat × SH) (fun s => s.1 ≤ l.length ∧ ∀ j, j < s.1 → right24 (l.getD j cl0) = true) (fun s => [(4, .map (some b12)), (5, .pointer (some ⟨b5, 0, none⟩)), (13, sl a l.length), (14, .int .i64 (l.length : Int)), (15, .int .i64 (s.1 : Int))]) (fun s => [CL l a]) (fun s => [mapR b12 (once (l.take s.1)), boxR b5 [sl s.2 (once (l.take s.1)).length] 22, rowS 2 55 s.2 (once (l.take s.1)).length (clFlat (once (l.take s.1)))]) (fun s => l.length - s.1) ((0, (none, 0))) (⟨Nat.zero_le _, fun j hj => absurd hj (Nat.not_lt_zero _)⟩) (by exact ⟨rfl, rfl, rfl, rfl, rfl, trivial⟩) ?_ ?_
  · exact fun w hs => ((hs.less (by simp)).rowS0 2 55).perm (perm2.trans ((List.Perm.swap _ _ _).cons _))
  · intro ⟨i, aO⟩ base0 ⟨hi, hok⟩ next0; dsimp only at hi hok next0 ⊢; refine go_seq ?_; refine go_region ⟨_, Tryz.func82⟩ rfl ?_; refine q0 rfl (o_lss ?_); refine rg_nil ?_; refine go_seq ?_; refine go_condI (fun h16 => ?_) (fun h16 => ?_)
    · have hlt : i < l.length := by have := of_decide_eq_true h16; omega
      obtain ⟨bk, o, hav⟩ := hA1 (by omega); have hu := hU1 _ (getD_mem (d := cl0) hlt); have hol := once_take_len l i; refine go_skip ?_; refine go_seq ?_; refine go_block ?_; refine go_seq ?_; refine go_region ⟨_, Tryz.func82⟩ rfl ?_; refine q0 rfl (o_ixN ?_); refine q0 rfl (o_ldC ?_); refine q0 rfl (o_new fun b7 => ?_); refine q0 rfl (o_st ?_); refine rg_nil ?_; refine go_seq ?_; refine go_seq ?_; refine go_region ⟨_, Tryz.func82⟩ rfl ?_; refine q0 rfl (o_lds ?_); refine q0 rfl (o_call Tryz.call97 (clauseRight_spec (l.getD i cl0) hu) (fun x20 => ?_)); refine q0 rfl (o_not ?_); refine rg_nil ?_; refine go_condI (fun h21 => ?_) (fun h21 => ?_)
      · have hr : right24 (l.getD i cl0) = false := by simpa using h21
        refine go_seq ?_; refine go_region ⟨_, Tryz.func82⟩ rfl ?_; refine q0 rfl (o_assign ?_); refine q0 rfl (o_assign ?_); refine rg_nil ?_; refine ret2 Tryz.func82 Tryz.results82 wn_ wn_ ⟨((none, 0), 2, []), by (unfold LeastIs; rw [all_not hlt hr]; rfl)⟩ rfl (fun w hs => (hs.less (Γ' := []) (by simp)).bare.rowS0 2 55)
      · have hr : right24 (l.getD i cl0) = true := by simpa using h21
        refine go_skip ?_; refine go_seq ?_; refine go_region ⟨_, Tryz.func82⟩ rfl ?_; refine q0 rfl (o_move ?_); refine q0 rfl (o_lds ?_); refine q0 rfl (o_lookupM ?_); refine q0 rfl (o_not ?_); refine rg_nil ?_; refine go_condI (fun h25 => ?_) (fun h25 => ?_)
        · have hnin : l.getD i cl0 ∉ once (l.take i) := by simpa using h25
          refine go_seq ?_; refine go_region ⟨_, Tryz.func82⟩ rfl ?_; refine q0 rfl (o_move ?_); refine q0 rfl (o_lds ?_); refine q0 rfl (o_mapUpd ?_); refine rg_nil ?_; refine go_region ⟨_, Tryz.func82⟩ rfl ?_; refine q0 rfl (o_ld ?_); refine q0 rfl (o_lds ?_); refine q0 rfl (o_lit1 fun b30 => ?_); refine q0 rfl (o_appS (fun a31 => ?_)  ); refine q0 rfl (o_st ?_); refine rg_nil ?_; refine go_inBlock ?_; refine go_region ⟨_, Tryz.func82⟩ rfl ?_; refine q0 rfl (o_add ?_); refine q0 rfl (o_move ?_); refine rg_nil ?_; have hst := once_take_succ hlt; rw [if_neg hnin] at hst; have hlen' : (once (l.take (i + 1))).length = (once (l.take i)).length + 1 := by rw [hst]; simp
          refine go_state (fun w hs => ?_) (next0 (i + 1, a31) _ ⟨hlt, fun j hj => (by rcases Nat.lt_succ_iff_lt_or_eq.mp hj with h | h; exact hok j h; subst h; exact hr)⟩ (by simp only; omega) ⟨rfl, rfl, rfl, rfl, rfl, trivial⟩); dsimp only; rw [hlen', hst, clFlat_snoc]; exact ((hs.less (by simp)).perm perm3).dropR (A := [_, _, _])
        · refine go_skip ?_; refine go_inBlock ?_; refine go_region ⟨_, Tryz.func82⟩ rfl ?_; refine q0 rfl (o_add ?_); refine q0 rfl (o_move ?_); refine rg_nil ?_; have hin : l.getD i cl0 ∈ once (l.take i) := by simpa using h25
          have hst := once_take_succ hlt; rw [if_pos hin] at hst; refine go_state (fun w hs => ?_) (next0 (i + 1, aO) _ ⟨hlt, fun j hj => (by rcases Nat.lt_succ_iff_lt_or_eq.mp hj with h | h; exact hok j h; subst h; exact hr)⟩ (by simp only; omega) ⟨rfl, rfl, rfl, rfl, rfl, trivial⟩); dsimp only; rw [hst]; exact (hs.less (by simp)).drop
    · have hge : i = l.length := by have := of_decide_eq_false h16; omega
      have hall : l.all right24 = true := all_of (by rw [← hge]; exact hok); subst hge; rw [List.take_length]; have hUo : ∀ c, c ∈ once l → u32 c := fun c hc => hU1 c ((once_mem c l).mp hc)
      have hol := once_len l; refine go_state (fun w hs => ((hs.perm perm2).settleCL hB rfl rfl (by omega) hUo)) ?_; refine go_exit rfl ?_; refine go_seq ?_; refine go_region ⟨_, Tryz.func82⟩ rfl ?_; refine q0 rfl (o_func ?_); refine q0 rfl (o_assign ?_); refine rg_nil ?_; refine go_seq ?_; refine go_region ⟨_, Tryz.func82⟩ rfl ?_; refine q0 rfl (o_assign ?_); refine rg_nil ?_; refine go_seq ?_; refine go_seq ?_; refine go_region ⟨_, Tryz.func82⟩ rfl ?_; refine q0 rfl (o_ld ?_); refine q0 rfl (o_len ?_); refine q0 rfl (o_move ?_); refine rg_nil ?_; refine go_block ?_; refine go_loopI (X := Nat × SH) (fun s => s.1 ≤ (once l).length) (fun s => [(8, .func (.func 99) #[] [.pointer (some ⟨b5, 0, none⟩)].toArray), (9, sl s.2 (keptUpto l s.1).length), (34, sl aO (once l).length), (35, .int .i64 ((once l).length : Int)), (36, .int .i64 (s.1 : Int))]) (fun s => [CL (once l) aO]) (fun s => [boxR b5 [sl aO (once l).length] 22, rowS 2 55 s.2 (keptUpto l s.1).length (clFlat (keptUpto l s.1))]) (fun s => (once l).length - s.1) ((0, (none, 0))) (Nat.zero_le _) (by exact ⟨rfl, rfl, rfl, rfl, rfl, trivial⟩) ?_ ?_
      · exact fun w hs => (((hs.less (by simp +contextual)).rowS0 2 55).perm perm2).dropR (A := [_, _])
      · intro ⟨i, aK⟩ base1 hi next1; dsimp only at hi next1 ⊢; refine go_seq ?_; refine go_region ⟨_, Tryz.func82⟩ rfl ?_; refine q0 rfl (o_lss ?_); refine rg_nil ?_; refine go_seq ?_; refine go_condI (fun h37 => ?_) (fun h37 => ?_)
        · have hlt : i < (once l).length := by have := of_decide_eq_true h37; omega
          refine go_openCL (l := once l) (a := aO) (fun _ hA2 _ => ?_); obtain ⟨bk, o, hav⟩ := hA2 (by omega); have hu := hUo _ (getD_mem (d := cl0) hlt); have hkl := keptUpto_len l i; refine go_skip ?_; refine go_seq ?_; refine go_block ?_; refine go_seq ?_; refine go_region ⟨_, Tryz.func82⟩ rfl ?_; refine q0 rfl (o_ixN ?_); refine q0 rfl (o_ldC ?_); refine q0 rfl (o_new fun b11 => ?_); refine q0 rfl (o_st ?_); refine rg_nil ?_; refine go_seq ?_; refine go_region ⟨_, Tryz.func82⟩ rfl ?_; refine q0 rfl (o_move ?_); refine q0 rfl (o_lds ?_); refine q0 rfl (o_callC Tryz.call99 (least1_spec (once l) aO ((once l).getD i cl0) hu b5) (cap := [.pointer (some ⟨b5, 0, none⟩)]) (fun x42 => ?_)); refine q0 rfl (o_not ?_); refine rg_nil ?_; refine go_condI (fun h43 => ?_) (fun h43 => ?_)
          · refine go_region ⟨_, Tryz.func82⟩ rfl ?_; refine q0 rfl (o_move ?_); refine q0 rfl (o_lds ?_); refine q0 rfl (o_lit1 fun b46 => ?_); refine q0 rfl (o_appS (fun a47 => ?_)  ); refine q0 rfl (o_assign ?_); refine rg_nil ?_; refine go_inBlock ?_; refine go_region ⟨_, Tryz.func82⟩ rfl ?_; refine q0 rfl (o_add ?_); refine q0 rfl (o_move ?_); refine rg_nil ?_; have hnd : needless (once l) ((once l).getD i cl0) = false := by simpa using h43
            have hst := keptUpto_succ hlt; rw [hnd, if_neg (by decide)] at hst; have hlen' : (keptUpto l (i + 1)).length = (keptUpto l i).length + 1 := by rw [hst]; simp
            refine go_state (fun w hs => ?_) (next1 (i + 1, a47) _ hlt (by simp only; omega) ⟨rfl, by rw [hlen']; rfl, rfl, rfl, rfl, trivial⟩); dsimp only; rw [hlen', hst, clFlat_snoc]; exact ((hs.less (by simp)).perm perm2).dropR (A := [_, _])
          · refine go_skip ?_; refine go_inBlock ?_; refine go_region ⟨_, Tryz.func82⟩ rfl ?_; refine q0 rfl (o_add ?_); refine q0 rfl (o_move ?_); refine rg_nil ?_; have hnd : needless (once l) ((once l).getD i cl0) = true := by simpa using h43
            have hst := keptUpto_succ hlt; rw [hnd, if_pos rfl] at hst; refine go_state (fun w hs => ?_) (next1 (i + 1, aK) _ hlt (by simp only; omega) ⟨rfl, by rw [hst]; rfl, rfl, rfl, rfl, trivial⟩); dsimp only; rw [hst]; exact (hs.less (by simp)).dropR (A := [_, _])
        · have hge2 : i = (once l).length := by have := of_decide_eq_false h37; omega
          subst hge2; rw [keptUpto_all]; refine go_exit rfl ?_; refine go_seq ?_; refine go_seq ?_; refine go_region ⟨_, Tryz.func82⟩ rfl ?_; refine q0 rfl (o_move ?_); refine q0 rfl (o_len ?_); refine q0 rfl (o_gtr ?_); refine rg_nil ?_; refine go_condI (fun h51 => ?_) (fun h51 => ?_)
          · have h64 : 64 < (kept l).length := by have := of_decide_eq_true h51; omega
            refine go_seq ?_; refine go_region ⟨_, Tryz.func82⟩ rfl ?_; refine q0 rfl (o_assign ?_); refine q0 rfl (o_assign ?_); refine rg_nil ?_; refine ret2 Tryz.func82 Tryz.results82 wn_ wn_ ⟨((none, 0), 3, []), by (unfold LeastIs; rw [hall, if_neg (by decide), if_pos h64])⟩ rfl (fun w hs => (hs.less (Γ' := []) (by simp)).bare.rowS0 2 55)
          · have h64 : ¬ 64 < (kept l).length := by have := of_decide_eq_false h51; omega
            refine go_skip ?_; refine go_seq ?_; refine go_region ⟨_, Tryz.func82⟩ rfl ?_; refine q0 rfl (o_move ?_); refine q0 rfl (o_call Tryz.call103 (sortRow_spec (kept l) aK (kept l).length rfl (by unfold reach; omega)) (fun x53 => ?_)); refine rg_nil ?_; refine go_seq ?_; refine go_region ⟨_, Tryz.func82⟩ rfl ?_; refine q0 rfl (o_move ?_); refine q0 rfl (o_assign ?_); refine q0 rfl (o_assign ?_); refine rg_nil ?_; have hpl : x53.1.length = (kept l).length := x53.2.1.length_eq; refine ret2 Tryz.func82 Tryz.results82 wn_ wn_ ⟨(aK, 0, x53.1), by (unfold LeastIs; rw [hall, if_neg (by decide), if_neg h64]; exact ⟨rfl, x53.2⟩)⟩ (by rw [hpl]; rfl) (fun w hs => ?_); have h := (hs.less (Γ' := []) (by simp)).dropR (A := [_]); rw [← hpl] at h; exact h
theorem least_spec (l : List Cl) (a : SH) : Spec Tryz.prog 82 #[sl a l.length] [CL l a] [] (fun x : {x : SH × Int × List Cl // LeastIs l x.2} => .tuple #[sl x.1.1 x.1.2.2.length, .int .i64 x.1.2.1]) (fun x => [CL x.1.2.2 x.1.1]) (fun _ => []) := fun ok w hok hs => (least_own l a ok w hok hs).mono fun e w' h => by
  obtain ⟨x, he, hs'⟩ := h; have hu := (hs.facts _ List.mem_cons_self).2
  have hx : x.1.2.2.length ≤ 64 ∧ ∀ c, c ∈ x.1.2.2 → u32 c := by
    have h := x.2; unfold LeastIs at h; split at h
    · rw [h]; exact ⟨Nat.zero_le _, fun c hc => by cases hc⟩
    · split at h
      · rw [h]; exact ⟨Nat.zero_le _, fun c hc => by cases hc⟩
      · rename_i h64; exact ⟨by rw [h.2.1.length_eq]; omega, fun c hc => hu c (kept_mem (h.2.1.mem_iff.mp hc))⟩
  exact ⟨x, he, (hs'.settleCL trivial rfl rfl (by unfold reach; omega) hx.2).less (by simp)⟩
end Go.Hy
namespace Go.Hy
open Go.Proofs
set_option maxRecDepth 100000
theorem equal_spec (l m : List Cl) (a b : SH) : Spec Tryz.prog 111 #[sl a l.length, sl b m.length] [CL l a, CL m b] [] (fun _ : Unit => .bool (decide (l = m))) (fun _ => []) (fun _ => []) := by
  refine spec_go (args := [sl a l.length, sl b m.length]) Tryz.func111 Tryz.ntmps111 rfl (by exact Nat.le_of_ble_eq_true rfl) fun B hB => ?_
  refine go_openCL (l := l) (a := a) (fun hl1 hA1 hU1 => ?_); refine go_openCL (l := m) (a := b) (fun hl2 hA2 hU2 => ?_); refine go_seq ?_; refine go_region ⟨_, Tryz.func111⟩ rfl ?_; refine q0 rfl (o_assign ?_); refine rg_nil ?_; refine go_seq ?_; refine go_seq ?_; refine go_region ⟨_, Tryz.func111⟩ rfl ?_; refine q0 rfl (o_move ?_); refine q0 rfl (o_len ?_); refine q0 rfl (o_move ?_); refine q0 rfl (o_len ?_); refine q0 rfl (o_neI ?_); refine rg_nil ?_; refine go_condI (fun h10 => ?_) (fun h10 => ?_)
  · have hne : ¬ l = m := fun e => by subst e; simp at h10
    refine go_seq ?_; refine go_region ⟨_, Tryz.func111⟩ rfl ?_; refine q0 rfl (o_assign ?_); refine rg_nil ?_; refine ret1 Tryz.func111 Tryz.results111 wn_ () (by rw [decide_eq_false hne]) (fun w hs => hs.none)
  · have hlen : l.length = m.length := by simp at h10; omega
    refine go_skip ?_; refine go_seq ?_; refine go_seq ?_; refine go_region ⟨_, Tryz.func111⟩ rfl ?_; refine q0 rfl (o_move ?_); refine q0 rfl (o_len ?_); refine q0 rfl (o_move ?_); refine rg_nil ?_; refine go_block ?_; refine go_loopI (X := Nat) (fun i => i ≤ l.length ∧ ∀ j, j < i → l.getD j cl0 = m.getD j cl0) (fun i => [(0, sl a l.length), (1, sl b m.length), (12, .int .i64 (l.length : Int)), (13, .int .i64 (i : Int))]) (fun i => [CL l a, CL m b]) (fun i => []) (fun i => l.length - i) (0) (⟨Nat.zero_le _, fun j hj => by omega⟩) (by exact ⟨rfl, rfl, rfl, rfl, trivial⟩) ?_ ?_
    · exact fun w hs => hs.less (by simp +contextual)
    · intro i base0 ⟨hi, hok⟩ next0; refine go_seq ?_; refine go_region ⟨_, Tryz.func111⟩ rfl ?_; refine q0 rfl (o_lss ?_); refine rg_nil ?_; refine go_seq ?_; refine go_condI (fun h14 => ?_) (fun h14 => ?_)
      · have hlt : i < l.length := by have := of_decide_eq_true h14; omega
        have hlt2 : i < m.length := by omega
        obtain ⟨bk, o, hav⟩ := hA1 (by omega); obtain ⟨bk2, o2, hav2⟩ := hA2 (by omega); refine go_skip ?_; refine go_seq ?_; refine go_block ?_; refine go_seq ?_; refine go_region ⟨_, Tryz.func111⟩ rfl ?_; refine q0 rfl (o_move ?_); refine q0 rfl (o_assign ?_); refine rg_nil ?_; refine go_seq ?_; refine go_draw (pn := 1000000) (tn := false) (A := [0, 0, 3, 7, 0, 0, 48, 112, 255]) (l := [0, 1, 2, 3, 4, 5, 6, 7, 8]) (fin := []) Tab.mixed ⟨_, Tryz.func111⟩ (by rfl) ?_; refine n0 rfl (v_move ?_); refine n0 rfl (v_move ?_); refine n0 rfl (v_ixN ?_); refine n0 rfl (v_ldC ?_); refine n0 rfl (v_move ?_); refine n0 rfl (v_move ?_); refine n0 rfl (v_ixN ?_); refine n0 rfl (v_ldC ?_); refine n0 rfl (v_neC ?_); refine NV.done ?_; refine rg_nil ?_; refine go_condI (fun h24 => ?_) (fun h24 => ?_)
        · refine go_seq ?_; refine go_region ⟨_, Tryz.func111⟩ rfl ?_; refine q0 rfl (o_assign ?_); refine rg_nil ?_; refine ret1 Tryz.func111 Tryz.results111 wn_ () (by rw [decide_eq_false (fun e => by subst e; simp at h24)]) (fun w hs => hs.none)
        · refine go_skip ?_; refine go_inBlock ?_; refine go_region ⟨_, Tryz.func111⟩ rfl ?_; refine q0 rfl (o_add ?_); refine q0 rfl (o_move ?_); refine rg_nil ?_; have hb : l.getD i cl0 = m.getD i cl0 := by simpa using h24
          refine go_state (fun w hs => ?_) (next0 (i + 1) _ ⟨hlt, fun j hj => (by rcases Nat.lt_succ_iff_lt_or_eq.mp hj with h | h; exact hok j h; subst h; exact hb)⟩ (by omega) ⟨rfl, rfl, rfl, rfl, trivial⟩); exact hs
      · have hge : i = l.length := by have := of_decide_eq_false h14; omega
        refine go_exit rfl ?_; refine go_seq ?_; refine go_region ⟨_, Tryz.func111⟩ rfl ?_; refine q0 rfl (o_assign ?_); refine rg_nil ?_; refine ret1 Tryz.func111 Tryz.results111 wn_ () (by rw [decide_eq_true (list_eq_of hlen (by rw [← hge]; exact hok))]) (fun w hs => hs.none)
end Go.Hy
namespace Go.Hy
open Go.Proofs
set_option maxRecDepth 100000
theorem formRight_spec : FRight := by
  intro l a; refine spec_go (args := [sl a l.length]) Tryz.func94 Tryz.ntmps94 rfl (by exact Nat.le_of_ble_eq_true rfl) fun B hB => ?_
  refine go_know (p := True) (fun _ _ => trivial) (fun _ => ?_); refine go_seq ?_; refine go_region ⟨_, Tryz.func94⟩ rfl ?_; refine q0 rfl (o_assign ?_); refine rg_nil ?_; refine go_seq ?_; refine go_region ⟨_, Tryz.func94⟩ rfl ?_; refine q0 rfl (o_move ?_); refine q0 rfl (o_call Tryz.call82 (least_spec l a) (fun x7 => ?_)); refine q0 rfl (o_move ?_); refine q0 rfl (o_extract ?_); refine q0 rfl (o_extract ?_); refine q0 rfl (o_assign ?_); refine q0 rfl (o_assign ?_); refine rg_nil ?_; refine go_seq ?_; refine go_region ⟨_, Tryz.func94⟩ rfl ?_; refine q0 rfl (o_move ?_); refine q0 rfl (o_eqI ?_); refine q0 rfl (o_move ?_); refine qI rfl rfl rfl wl_ (fun hg12 => o_move ?_) (fun hg12 => ?_)
  · refine qT rfl rfl rfl (o_move ?_); refine qT rfl rfl rfl (o_call Tryz.call111 (equal_spec x7.1.2.2 l x7.1.1 a) (fun x15 => ?_)); refine q0 rfl (o_pickT ?_); refine q0 rfl (o_assign ?_); refine rg_nil ?_; have hlr := least_right x7.2; refine ret1 Tryz.func94 Tryz.results94 wn_ () (by rw [← hlr]; simp_all) (fun w hs => hs.none)
  · refine qF rfl rfl rfl ?_; refine qF rfl rfl rfl ?_; refine q0 rfl (o_pickF ?_); refine q0 rfl (o_assign ?_); refine rg_nil ?_; have hlr := least_right x7.2; refine ret1 Tryz.func94 Tryz.results94 wn_ () (by rw [← hlr]; simp_all) (fun w hs => hs.none)
theorem faceRight_spec : FaceRight := by
  intro l a; refine spec_go (args := [sl a l.length]) Tryz.func96 Tryz.ntmps96 rfl (by exact Nat.le_of_ble_eq_true rfl) fun B hB => ?_
  refine go_openCL (l := l) (a := a) (fun hl1 hA1 hU1 => ?_); refine go_seq ?_; refine go_region ⟨_, Tryz.func96⟩ rfl ?_; refine q0 rfl (o_assign ?_); refine rg_nil ?_; refine go_seq ?_; refine go_region ⟨_, Tryz.func96⟩ rfl ?_; refine q0 rfl (o_move ?_); refine q0 rfl (o_call Tryz.call94 (formRight_spec l a) (fun x4 => ?_)); refine q0 rfl (o_move ?_); refine qI rfl rfl rfl wl_ (fun hg5 => o_move ?_) (fun hg5 => ?_)
  · refine qT rfl rfl rfl (o_call Tryz.call100 (contains_spec l a 113 [] [] [] clash Tryz.call113 (fun x hx => clash_spec x (hU1 x hx))) (fun x7 => ?_)); refine qT rfl rfl rfl (o_not ?_); refine q0 rfl (o_pickT ?_); refine q0 rfl (o_assign ?_); refine rg_nil ?_; refine ret1 Tryz.func96 Tryz.results96 wn_ () (by simp_all [faceRight]) (fun w hs => hs.none)
  · refine qF rfl rfl rfl ?_; refine qF rfl rfl rfl ?_; refine q0 rfl (o_pickF ?_); refine q0 rfl (o_assign ?_); refine rg_nil ?_; refine ret1 Tryz.func96 Tryz.results96 wn_ () (by simp_all [faceRight]) (fun w hs => hs.none)
theorem form_spec : FORM := ⟨formRight_spec, faceRight_spec, fDims_spec⟩
end Go.Hy
namespace Go.Hy
open Go.Proofs
set_option maxRecDepth 100000
theorem pow24 {m : Nat} (h : m ≤ 24) : 2 ^ m ≤ 16777216 := Nat.pow_le_pow_right (n := 2) (j := 24) (by omega) h
theorem below24 (i : Int) (h0 : 0 ≤ i) : Spec Tryz.prog 115 #[.int .i64 (i)] [] [] (fun _ : Unit => .int .u32 (((2 ^ (min i.toNat 24) - 1) : Nat) : Int)) (fun _ : Unit => []) (fun _ : Unit => []) := by
  refine spec_go (args := [.int .i64 (i)]) Tryz.func115 Tryz.ntmps115 rfl (by exact Nat.le_of_ble_eq_true rfl) fun B hB => ?_
  have hp := pow24 (m := min i.toNat 24) (by omega); have hpos : 0 < 2 ^ (min i.toNat 24) := Nat.pow_pos (by omega); refine go_seq ?_; refine go_region ⟨_, Tryz.func115⟩ rfl ?_; refine q0 rfl (o_assign ?_); refine rg_nil ?_; refine go_seq ?_; refine go_region ⟨_, Tryz.func115⟩ rfl ?_; refine q0 rfl (o_move ?_); refine q0 rfl (o_min ?_); refine q0 rfl (o_convI6 ?_ (m := min i.toNat 24) (ha := by split <;> omega)); refine q0 rfl (o_shl6 ?_ (a := 1) (m := min i.toNat 24) (hm := by omega) (hb := by omega)); refine q0 rfl (o_sub6 ?_ (a := 1 * 2 ^ (min i.toNat 24)) (b := 1) (h := by omega) (ha := by omega)); refine q0 rfl (o_conv6U ?_ (a := 1 * 2 ^ (min i.toNat 24) - 1) (ha := by omega)); refine q0 rfl (o_assign ?_); refine rg_nil ?_; refine ret1 Tryz.func115 Tryz.results115 wn_ () (by rw [Nat.one_mul]) (fun w hs => hs.none)
end Go.Hy
namespace Go.Hy
open Go.Proofs
set_option maxRecDepth 100000
theorem rpower (n : Int) (h0 : 0 ≤ n) (hn : n ≤ 40) : Spec Tryz.prog 123 #[.int .i64 (n)] [] [] (fun _ : Unit => .int .i64 (((2 ^ n.toNat : Nat) : Int))) (fun _ : Unit => []) (fun _ : Unit => []) := by
  refine spec_go (args := [.int .i64 (n)]) Tryz.func123 Tryz.ntmps123 rfl (by exact Nat.le_of_ble_eq_true rfl) fun B hB => ?_
  refine go_seq ?_; refine go_region ⟨_, Tryz.func123⟩ rfl ?_; refine q0 rfl (o_assign ?_); refine rg_nil ?_; refine go_seq ?_; refine go_region ⟨_, Tryz.func123⟩ rfl ?_; refine q0 rfl (o_assign ?_); refine rg_nil ?_; refine go_seq ?_; refine go_seq ?_; refine go_region ⟨_, Tryz.func123⟩ rfl ?_; refine q0 rfl (o_assign ?_); refine rg_nil ?_; refine go_block ?_; refine go_loopE (X := Nat) (fun s_ => (s_ : Int) ≤ n) (fun s_ => [(0, .int .i64 (n)), (3, .int .i64 (((2 ^ s_ : Nat) : Int))), (4, .int .i64 ((s_ : Int)))]) (fun s_ G_ => G_) (fun s_ => []) (fun s_ => n.toNat - s_) (0) (by simpa using h0) (by exact ⟨rfl, rfl, rfl, trivial⟩) ?_ ?_
  · exact fun w hs => hs
  · intro i base0 hi0 next0; have hpw : 2 ^ i ≤ 2 ^ 40 := Nat.pow_le_pow_right (by omega) (by omega); have hpz : (0 : Int) ≤ ((2 ^ i : Nat) : Int) := Int.natCast_nonneg _; refine go_seq ?_; refine go_seq ?_; refine go_region ⟨_, Tryz.func123⟩ rfl ?_; refine q0 rfl (o_move ?_); refine q0 rfl (o_move ?_); refine q0 rfl (o_lss ?_); refine rg_nil ?_; refine go_condI (fun h7 => ?_) (fun h7 => ?_)
    · have c7 : (decide ((i : Int) < n)) = true := h7
      try simp only [sC, bne_iff_ne, beq_iff_eq, ne_eq] at c7
      refine go_skip ?_; refine go_seq ?_; refine go_block ?_; refine go_region ⟨_, Tryz.func123⟩ rfl ?_; refine q0 rfl (o_move ?_); refine q0 rfl (o_mul ?_); refine q0 rfl (o_assign ?_); refine rg_nil ?_; refine go_inBlock ?_; refine go_region ⟨_, Tryz.func123⟩ rfl ?_; refine q0 rfl (o_move ?_); refine q0 rfl (o_add ?_); refine q0 rfl (o_assign ?_); refine rg_nil ?_; refine go_state (fun w hs => ?_) (next0 (i + 1) _ (by omega) (by omega) ⟨rfl, (by (conv => lhs; whnf); rw [Nat.pow_succ]; push_cast; rfl), rfl, trivial⟩); exact (hs.less (by simp +contextual))
    · have c7 : (decide ((i : Int) < n)) = false := h7
      try simp only [sC, bne_iff_ne, beq_iff_eq, ne_eq] at c7
      have he : n.toNat = i := by omega
      refine go_exit rfl ?_; refine go_seq ?_; refine go_region ⟨_, Tryz.func123⟩ rfl ?_; refine q0 rfl (o_move ?_); refine q0 rfl (o_assign ?_); refine rg_nil ?_; refine ret1 Tryz.func123 Tryz.results123 wn_ () (by rw [he]) (fun w hs => hs.none)
theorem rhas (s : Nat) (i : Int) (hs : s < 4294967296) : Spec Tryz.prog 109 #[.int .u32 ((s : Nat) : Int), .int .i64 (i)] [] [] (fun _ : Unit => .bool ((hasM s i))) (fun _ : Unit => []) (fun _ : Unit => []) := by
  refine spec_go (args := [.int .u32 ((s : Nat) : Int), .int .i64 (i)]) Tryz.func109 Tryz.ntmps109 rfl (by exact Nat.le_of_ble_eq_true rfl) fun B hB => ?_
  refine go_seq ?_; refine go_region ⟨_, Tryz.func109⟩ rfl ?_; refine q0 rfl (o_assign ?_); refine rg_nil ?_; refine go_seq ?_; refine go_cutS ([(4, .bool (((decide (0 ≤ i)) && (decide (i < 24))) && (decide (((s / 2 ^ i.toNat % 2 : Nat) : Int) = 1))))]) (fun hK => ?_) (fun base => ?_)
  · refine go_region ⟨_, Tryz.func109⟩ rfl ?_; refine q0 rfl (o_move ?_); refine q0 rfl (o_geq ?_); refine q0 rfl (o_move ?_); refine qI rfl rfl rfl wl_ (fun hg7 => ?_) (fun hg7 => ?_)
    · have g7 : (decide (0 ≤ i)) = true := hg7
      try simp only [sC, bne_iff_ne, beq_iff_eq, ne_eq] at g7
      refine o_move ?_; refine qT rfl rfl rfl (o_lss ?_); refine q0 rfl (o_pickT ?_); refine q0 rfl (o_move ?_); refine qI rfl rfl rfl wl_ (fun hg11 => ?_) (fun hg11 => ?_)
      · have g11 : (decide (i < 24)) = true := hg11
        try simp only [sC, bne_iff_ne, beq_iff_eq, ne_eq] at g11
        refine o_move ?_; refine qT rfl rfl rfl (o_convUI ?_); refine qT rfl rfl rfl (o_move ?_); refine qT rfl rfl rfl (o_call Tryz.call123 (rpower i om_ om_) (fun x15 => ?_)); refine qT rfl rfl rfl (o_quoN ?_ (a := s) (b := 2 ^ i.toNat)); refine qT rfl rfl rfl (o_remN ?_ (a := s / 2 ^ i.toNat) (b := 2)); refine qT rfl rfl rfl (o_eqI ?_ (a := ((s / 2 ^ i.toNat % 2 : Nat) : Int)) (b := 1)); refine q0 rfl (o_pickT ?_); refine q0 rfl (o_assign ?_); refine rg_nil ?_; exact hK _ ⟨(by first | rfl | ((conv => lhs; whnf); first | (simp_all [hasM_eq]; done) | (simp_all [hasM_eq]; omega))), trivial⟩
      · have g11 : (decide (i < 24)) = false := hg11
        try simp only [sC, bne_iff_ne, beq_iff_eq, ne_eq] at g11
        refine qF rfl rfl rfl ?_; refine qF rfl rfl rfl ?_; refine qF rfl rfl rfl ?_; refine qF rfl rfl rfl ?_; refine qF rfl rfl rfl ?_; refine qF rfl rfl rfl ?_; refine q0 rfl (o_pickF ?_); refine q0 rfl (o_assign ?_); refine rg_nil ?_; exact hK _ ⟨(by first | rfl | ((conv => lhs; whnf); first | (simp_all [hasM_eq]; done) | (simp_all [hasM_eq]; omega))), trivial⟩
    · have g7 : (decide (0 ≤ i)) = false := hg7
      try simp only [sC, bne_iff_ne, beq_iff_eq, ne_eq] at g7
      refine qF rfl rfl rfl ?_; refine q0 rfl (o_pickF ?_); refine q0 rfl (o_move ?_); refine qF rfl rfl rfl ?_; refine qF rfl rfl rfl ?_; refine qF rfl rfl rfl ?_; refine qF rfl rfl rfl ?_; refine qF rfl rfl rfl ?_; refine qF rfl rfl rfl ?_; refine qF rfl rfl rfl ?_; refine q0 rfl (o_pickF ?_); refine q0 rfl (o_assign ?_); refine rg_nil ?_; exact hK _ ⟨(by first | rfl | ((conv => lhs; whnf); first | (simp_all [hasM_eq]; done) | (simp_all [hasM_eq]; omega))), trivial⟩
  · refine ret1 Tryz.func109 Tryz.results109 wn_ () (congrArg Value.bool (by rw [hasM_eq, show decide (((s / 2 ^ i.toNat % 2 : Nat) : Int) = 1) = decide (s / 2 ^ i.toNat % 2 = 1) from decide_eq_decide.mpr (by omega)])) (fun w hs => hs.none)
theorem p24 : (2 ^ (24 : Int).toNat : Nat) = 16777216 := by decide +kernel
theorem rmright (s : Nat) (hs : s < 4294967296) : Spec Tryz.prog 121 #[.int .u32 ((s : Nat) : Int)] [] [] (fun _ : Unit => .bool ((decide (s < 16777216)))) (fun _ : Unit => []) (fun _ : Unit => []) := by
  refine spec_go (args := [.int .u32 ((s : Nat) : Int)]) Tryz.func121 Tryz.ntmps121 rfl (by exact Nat.le_of_ble_eq_true rfl) fun B hB => ?_
  refine go_seq ?_; refine go_region ⟨_, Tryz.func121⟩ rfl ?_; refine q0 rfl (o_assign ?_); refine rg_nil ?_; refine go_seq ?_; refine go_region ⟨_, Tryz.func121⟩ rfl ?_; refine q0 rfl (o_move ?_); refine q0 rfl (o_convUI ?_); refine q0 rfl (o_call Tryz.call123 (rpower 24 om_ om_) (fun x5 => ?_)); refine q0 rfl (o_lss ?_); refine q0 rfl (o_assign ?_); refine rg_nil ?_; refine ret1 Tryz.func121 Tryz.results121 wn_ () (congrArg Value.bool (decide_eq_decide.mpr (by rw [p24]; omega))) (fun w hs => hs.none)
theorem rlist (s : Nat) (hs : s < 4294967296) : Spec Tryz.prog 86 #[.int .u32 ((s : Nat) : Int)] [] [] (fun x : SH => sl x (listM s).length) (fun x : SH => [IL (listM s) x]) (fun x : SH => []) := by
  refine spec_go (args := [.int .u32 ((s : Nat) : Int)]) Tryz.func86 Tryz.ntmps86 rfl (by exact Nat.le_of_ble_eq_true rfl) fun B hB => ?_
  refine go_seq ?_; refine go_region ⟨_, Tryz.func86⟩ rfl ?_; refine q0 rfl (o_assign ?_); refine rg_nil ?_; refine go_seq ?_; refine go_region ⟨_, Tryz.func86⟩ rfl ?_; refine q0 rfl (o_assign ?_); refine rg_nil ?_; refine go_seq ?_; refine go_seq ?_; refine go_region ⟨_, Tryz.func86⟩ rfl ?_; refine q0 rfl (o_assign ?_); refine rg_nil ?_; refine go_block ?_; refine go_loopE (X := Nat × SH) (fun s_ => s_.1 ≤ 24) (fun s_ => [(0, .int .u32 ((s : Nat) : Int)), (3, sl s_.2 ((listTo s s_.1).length)), (4, .int .i64 ((s_.1 : Int)))]) (fun s_ G_ => G_) (fun s_ => [rowS 1 3 s_.2 ((listTo s s_.1).length) (intFlat (listTo s s_.1))]) (fun s_ => 24 - s_.1) (0, (none, 0)) (by omega) (by exact ⟨rfl, rfl, rfl, trivial⟩) ?_ ?_
  · exact fun w hs => (hs.rowS0 1 3)
  · intro ⟨i, a⟩ base0 hi0 next0; dsimp only at hi0 next0 ⊢; have hln := listTo_len s i; refine go_seq ?_; refine go_seq ?_; refine go_region ⟨_, Tryz.func86⟩ rfl ?_; refine q0 rfl (o_move ?_); refine q0 rfl (o_lss ?_); refine rg_nil ?_; refine go_condI (fun h6 => ?_) (fun h6 => ?_)
    · have c6 : (decide ((i : Int) < 24)) = true := h6
      try simp only [sC, bne_iff_ne, beq_iff_eq, ne_eq] at c6
      refine go_skip ?_; refine go_seq ?_; refine go_block ?_; refine go_seq ?_; refine go_region ⟨_, Tryz.func86⟩ rfl ?_; refine q0 rfl (o_move ?_); refine q0 rfl (o_move ?_); refine q0 rfl (o_call Tryz.call109 (rhas s (i : Int) om_) (fun x11 => ?_)); refine rg_nil ?_; refine go_condI (fun h11 => ?_) (fun h11 => ?_)
      · have c11 : ((hasM s (i : Int))) = true := h11
        try simp only [sC, bne_iff_ne, beq_iff_eq, ne_eq] at c11
        refine go_region ⟨_, Tryz.func86⟩ rfl ?_; refine q0 rfl (o_move ?_); refine q0 rfl (o_move ?_); refine q0 rfl (o_lit1 fun b14 => ?_); refine q0 rfl (o_appS (fun a15 => ?_) (a := a) (n' := (listTo s i).length)); refine rg_state (fun w hs => ((hs.perm perm1).drop).snocI) ?_; refine q0 rfl (o_assign ?_); refine rg_nil ?_; refine go_inBlock ?_; refine go_region ⟨_, Tryz.func86⟩ rfl ?_; refine q0 rfl (o_move ?_); refine q0 rfl (o_add ?_); refine q0 rfl (o_assign ?_); refine rg_nil ?_; have hnx : listTo s (i + 1) = listTo s i ++ [(i : Int)] := by rw [listTo_succ, if_pos]; simp [hasM] at c11; exact c11.2
        refine go_state (fun w hs => ?_) (next0 (i + 1, a15) _ (by omega) (by (try simp only); omega) ⟨rfl, (by (conv => lhs; whnf); simp [sl, hnx]), rfl, trivial⟩); rw [hnx]; simpa using (hs.less (by simp +contextual))
      · have c11 : ((hasM s (i : Int))) = false := h11
        try simp only [sC, bne_iff_ne, beq_iff_eq, ne_eq] at c11
        refine go_skip ?_; refine go_inBlock ?_; refine go_region ⟨_, Tryz.func86⟩ rfl ?_; refine q0 rfl (o_move ?_); refine q0 rfl (o_add ?_); refine q0 rfl (o_assign ?_); refine rg_nil ?_; have hnx : listTo s (i + 1) = listTo s i := by rw [listTo_succ, if_neg]; simp [hasM] at c11; simp [c11 (by omega)]
        refine go_state (fun w hs => ?_) (next0 (i + 1, a) _ (by omega) (by (try simp only); omega) ⟨rfl, (by (conv => lhs; whnf); simp [sl, hnx]), rfl, trivial⟩); rw [hnx]; exact (hs.less (by simp +contextual))
    · have c6 : (decide ((i : Int) < 24)) = false := h6
      try simp only [sC, bne_iff_ne, beq_iff_eq, ne_eq] at c6
      refine go_exit rfl ?_; refine go_seq ?_; refine go_region ⟨_, Tryz.func86⟩ rfl ?_; refine q0 rfl (o_move ?_); refine q0 rfl (o_assign ?_); refine rg_nil ?_; have he : i = 24 := by omega
      subst he; refine ret1 Tryz.func86 Tryz.results86 wn_ a rfl (fun w hs => (hs.settleIL hB rfl rfl (by unfold reach; omega) (fun c hc => by have := listTo_in hc; unfold in64; omega)).less (by simp))
theorem rset (l : List Int) (a_l : SH) (hl : l.length ≤ 64) (hx : ∀ x, x ∈ l → 0 ≤ x ∧ x < 24) : Spec Tryz.prog 110 #[sl a_l (l.length)] [IL l a_l] [] (fun _ : Unit => .int .u32 (((setM l) : Nat) : Int)) (fun _ : Unit => []) (fun _ : Unit => []) := by
  refine spec_go (args := [sl a_l (l.length)]) Tryz.func110 Tryz.ntmps110 rfl (by exact Nat.le_of_ble_eq_true rfl) fun B hB => ?_
  refine go_openIL (l := l) (a := a_l) (fun hl1 hA1 hU1 => ?_); refine go_seq ?_; refine go_region ⟨_, Tryz.func110⟩ rfl ?_; refine q0 rfl (o_assign ?_); refine rg_nil ?_; refine go_seq ?_; refine go_region ⟨_, Tryz.func110⟩ rfl ?_; refine q0 rfl (o_assign ?_); refine rg_nil ?_; refine go_seq ?_; refine go_seq ?_; refine go_region ⟨_, Tryz.func110⟩ rfl ?_; refine q0 rfl (o_assign ?_); refine rg_nil ?_; refine go_block ?_; refine go_loopE (X := Nat) (fun s_ => s_ ≤ l.length) (fun s_ => [(0, sl a_l (l.length)), (3, .int .i64 (((setTo l s_ : Nat) : Int))), (4, .int .i64 ((s_ : Int)))]) (fun s_ G_ => G_) (fun s_ => []) (fun s_ => l.length - s_) (0) (by omega) (by exact ⟨rfl, (by rw [setTo_zero]; rfl), rfl, trivial⟩) ?_ ?_
  · exact fun w hs => hs
  · intro i base0 hi0 next0; have hst := setTo_le hx i; refine go_seq ?_; refine go_seq ?_; refine go_region ⟨_, Tryz.func110⟩ rfl ?_; refine q0 rfl (o_move ?_); refine q0 rfl (o_move ?_); refine q0 rfl (o_len ?_); refine q0 rfl (o_lss ?_); refine rg_nil ?_; refine go_condI (fun h8 => ?_) (fun h8 => ?_)
    · have c8 : (decide ((i : Int) < (l.length : Int))) = true := h8
      try simp only [sC, bne_iff_ne, beq_iff_eq, ne_eq] at c8
      have hgx := hx _ (getD_mem (d := 0) (show i < l.length by omega)); have hg2 : 2 ^ (l.getD i 0).toNat ≤ 2 ^ 24 := Nat.pow_le_pow_right (by omega) (by omega); have hpz : (0 : Int) ≤ ((2 ^ (l.getD i 0).toNat : Nat) : Int) := Int.natCast_nonneg _; refine go_skip ?_; refine go_seq ?_; refine go_block ?_; refine go_region ⟨_, Tryz.func110⟩ rfl ?_; refine q0 rfl (o_move ?_); refine q0 rfl (o_move ?_); refine q0 rfl (o_move ?_); obtain ⟨bk2, o2, hav2⟩ := hA1 (by omega); refine q0 rfl (o_ixN ?_ (j := i)); refine q0 rfl (o_ldI ?_); refine q0 rfl (o_call Tryz.call123 (rpower (l.getD i 0) om_ om_) (fun x16 => ?_)); refine q0 rfl (o_add ?_); refine q0 rfl (o_assign ?_); refine rg_nil ?_; refine go_inBlock ?_; refine go_region ⟨_, Tryz.func110⟩ rfl ?_; refine q0 rfl (o_move ?_); refine q0 rfl (o_add ?_); refine q0 rfl (o_assign ?_); refine rg_nil ?_; refine go_state (fun w hs => ?_) (next0 (i + 1) _ (by omega) (by omega) ⟨rfl, (by (conv => lhs; whnf); rw [setTo_succ (by omega)]; push_cast; rfl), rfl, trivial⟩); exact (hs.less (by simp +contextual))
    · have c8 : (decide ((i : Int) < (l.length : Int))) = false := h8
      try simp only [sC, bne_iff_ne, beq_iff_eq, ne_eq] at c8
      have he : i = l.length := by omega
      subst he; rw [setTo_all] at hst ⊢; refine go_exit rfl ?_; refine go_seq ?_; refine go_region ⟨_, Tryz.func110⟩ rfl ?_; refine q0 rfl (o_move ?_); refine q0 rfl (o_convIU ?_ (a := setM l)); refine q0 rfl (o_assign ?_); refine rg_nil ?_; refine ret1 Tryz.func110 Tryz.results110 wn_ () (by first | rfl | (simp_all; done) | (simp_all; omega)) (fun w hs => hs.none)
end Go.Hy
