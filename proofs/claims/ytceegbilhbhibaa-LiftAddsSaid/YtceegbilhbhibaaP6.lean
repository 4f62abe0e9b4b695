/- Contracts of this program's functions and the laws that they need: a separation logic over the machine's rules, one theorem each (partly printed by a program of this repository). -/
import Derived.Shelf.SlSortCmp.WholeK
import Derived.Shelf.SlGeneric
import Derived.Ground.SlsfProg
import Derived.Test.YtceegbilhbhibaaProg
import Derived.Tactics2
import Derived.Shelf.SlSortCmp.NoneTotal
import Derived.Test.YtceegbilhbhibaaP2
import Derived.Test.YtceegbilhbhibaaP3
import Derived.Test.YtceegbilhbhibaaP4
import Derived.Test.YtceegbilhbhibaaP5
namespace Go.Hy
set_option linter.unusedVariables false
set_option linter.unusedSimpArgs false
set_option linter.unusedSectionVars false
set_option linter.unusedVariables false
set_option linter.unusedSimpArgs false
/-! ### A term of which every node is as it may be -/
def headOK (k n : Int) (nm : ByteArray) (r : List Cl) : Prop :=
  (k ≠ 1 → n = 0) ∧ (k ≠ 2 → nm.toList = (ByteArray.mk #[]).toList) ∧ (k = 1 → r = [] ∧ 0 ≤ n) ∧ (k = 2 → r = [] ∧ nameOK nm = true) ∧ (k = 13 ∨ k = 21 ∨ k = 26 → fRight r = true) ∧ (k = 14 → faceRight r = true) ∧ (k ≠ 13 ∧ k ≠ 21 ∧ k ≠ 26 ∧ k ≠ 14 → r = [])
mutual
def fineT : T → Prop
  | .mk k n nm r ks ss => headOK k n nm r ∧ kidsN k = (ks.length : Int) ∧ (partsN k = 0 → ss = []) ∧ fineL ks ∧ fineB k ss
def fineL : List T → Prop
  | [] => True
  | t :: ts => fineT t ∧ fineL ts
def fineB (k : Int) : List Br → Prop
  | [] => True
  | .mk f ks :: bs => (ks.length : Int) = partsN k ∧ faceRight f = true ∧ fineL ks ∧ fineB k bs
end
theorem partsN_zero {k : Int} (h : k = 1 ∨ k = 2 ∨ k = 13 ∨ k = 21 ∨ k = 26 ∨ k = 14) : partsN k = 0 := by
  unfold partsN
  rcases h with h | h | h | h | h | h <;> subst h <;> decide
theorem within_24 (l : List Cl) {d : Int} (h : 24 ≤ d) : within l d = true := by unfold within; rw [decide_eq_true h]; rfl
theorem len_nil {α : Type} {l : List α} : ((l.length : Int) = 0) ↔ l = [] := by
  constructor
  · intro h; exact List.eq_nil_of_length_eq_zero (by omega)
  · rintro rfl; rfl
theorem own24_iff {k n : Int} {nm : ByteArray} {r : List Cl} {ks : List T} {ss : List Br} {d : Int} (hd : 24 ≤ d) : ownP (.mk k n nm r ks ss) (-1) d = true ↔ headOK k n nm r ∧ kidsN k = (ks.length : Int) ∧ (partsN k = 0 → ss = []) ∧ ∀ b, b ∈ ss → (b.kids.length : Int) = partsN k ∧ faceRight b.face = true := by
  have hB : ∀ b : Br, ownB (.mk k n nm r ks ss) d b = (decide ((b.kids.length : Int) = partsN k) && faceRight b.face) := fun b => by
    unfold ownB; rw [within_24 _ hd, Bool.and_true]; rfl
  have hL : (0 : Int) < (ss.length : Int) ↔ ss ≠ [] := by
    constructor
    · intro h e; subst e; simp at h
    · intro h; have := List.length_pos_iff.mpr h; omega
  have hs : ∀ p : Bool, (ss.all (ownB (.mk k n nm r ks ss) d) = true) ↔ ∀ b, b ∈ ss → (b.kids.length : Int) = partsN k ∧ faceRight b.face = true := fun _ => by
    rw [List.all_eq_true]
    exact forall_congr' fun b => forall_congr' fun _ => by rw [hB]; simp
  unfold ownP own1 headOK
  simp only [T.kind, T.n, T.name, T.r, T.kids, T.sys, within_24 _ hd, Bool.and_true, Bool.and_eq_true, Bool.not_eq_true', Bool.or_eq_false_iff, Bool.and_eq_false_iff, decide_eq_false_iff_not, Decidable.not_not, ne_eq, Int.not_lt, Bool.not_eq_false', beq_iff_eq]
  constructor
  · rintro ⟨⟨⟨⟨h1, h2⟩, h3⟩, h4⟩, h5⟩
    replace h1 : kidsN k = (ks.length : Int) := Decidable.not_not.mp (of_decide_eq_false h1)
    replace h2 : k = 1 ∨ n = 0 := h2.imp (fun h => Decidable.not_not.mp (of_decide_eq_false h)) (fun h => Decidable.not_not.mp (of_decide_eq_false h))
    replace h3 : k = 2 ∨ nm.toList = (ByteArray.mk #[]).toList := h3.imp (fun h => Decidable.not_not.mp (of_decide_eq_false h)) id
    replace h4 : ¬ partsN k = 0 ∨ ¬ (0 : Int) < (ss.length : Int) := h4.imp (fun h => of_decide_eq_false h) (fun h => of_decide_eq_false h)
    have hss : partsN k = 0 → ss = [] := by
      intro h
      rcases h4 with h4 | h4
      · exact absurd h h4
      · exact List.eq_nil_of_length_eq_zero (by omega)
    split at h5
    · rename_i hk
      have he := hss (partsN_zero (by omega))
      subst he
      simp only [Bool.and_eq_true, decide_eq_true_eq] at h5
      exact ⟨⟨by omega, fun _ => h3.resolve_left (by omega), fun _ => ⟨len_nil.mp (of_decide_eq_true h5.1.1), of_decide_eq_true h5.1.2⟩, by omega, by omega, by omega, fun _ => len_nil.mp (of_decide_eq_true h5.1.1)⟩, h1, hss, fun b hb => by cases hb⟩
    · split at h5
      · rename_i hk1 hk
        have he := hss (partsN_zero (by omega))
        subst he
        simp only [Bool.and_eq_true, decide_eq_true_eq] at h5
        exact ⟨⟨by omega, fun h => absurd hk h, by omega, fun _ => ⟨len_nil.mp (of_decide_eq_true h5.1), h5.2⟩, by omega, by omega, fun _ => len_nil.mp (of_decide_eq_true h5.1)⟩, h1, hss, fun b hb => by cases hb⟩
      · split at h5
        · rename_i hk1 hk2 hk
          have he := hss (partsN_zero (by omega))
          subst he
          exact ⟨⟨by omega, fun _ => h3.resolve_left (by omega), by omega, by omega, fun _ => h5, by omega, by omega⟩, h1, hss, fun b hb => by cases hb⟩
        · split at h5
          · rename_i hk1 hk2 hk3 hk
            have he := hss (partsN_zero (by omega))
            subst he
            exact ⟨⟨by omega, fun _ => h3.resolve_left (by omega), by omega, by omega, by omega, fun _ => h5, by omega⟩, h1, hss, fun b hb => by cases hb⟩
          · rename_i hk1 hk2 hk3 hk4
            simp only [Bool.and_eq_true, decide_eq_true_eq] at h5
            exact ⟨⟨by omega, fun _ => h3.resolve_left (by omega), by omega, by omega, by omega, by omega, fun _ => len_nil.mp (of_decide_eq_true h5.2)⟩, h1, hss, (hs true).mp h5.1⟩
  · rintro ⟨⟨a1, a2, a3, a4, a5, a6, a7⟩, b1, b2, b3⟩
    refine ⟨⟨⟨⟨decide_eq_false (Decidable.not_not.mpr b1), ?_⟩, ?_⟩, ?_⟩, ?_⟩
    · by_cases h : k = 1
      · exact .inl (decide_eq_false (Decidable.not_not.mpr h))
      · exact .inr (decide_eq_false (Decidable.not_not.mpr (a1 h)))
    · by_cases h : k = 2
      · exact .inl (decide_eq_false (Decidable.not_not.mpr h))
      · exact .inr (a2 h)
    · by_cases h : partsN k = 0
      · exact .inr (decide_eq_false (by rw [b2 h]; decide))
      · exact .inl (decide_eq_false h)
    · split
      · rename_i h; simp [(a3 h).1, (a3 h).2]
      · split
        · rename_i h; simp [(a4 h).1, (a4 h).2]
        · split
          · rename_i h; exact a5 h
          · split
            · rename_i h; exact a6 h
            · rename_i h1 h2 h3 h4
              rw [Bool.and_eq_true, (hs true)]
              exact ⟨b3, by simp [a7 (by omega)]⟩
theorem fineL_iff : ∀ {ts : List T}, fineL ts ↔ ∀ t, t ∈ ts → fineT t
  | [] => by simp [fineL]
  | t :: ts => by simp [fineL, fineL_iff (ts := ts)]
theorem fineB_iff {k : Int} : ∀ {bs : List Br}, fineB k bs ↔ ∀ b, b ∈ bs → (b.kids.length : Int) = partsN k ∧ faceRight b.face = true ∧ fineL b.kids
  | [] => by simp [fineB]
  | .mk f ks :: bs => by
    simp only [fineB, fineB_iff (bs := bs), List.forall_mem_cons, Br.kids, Br.face]
    constructor
    · rintro ⟨h1, h2, h3, h4⟩; exact ⟨⟨h1, h2, h3⟩, h4⟩
    · rintro ⟨⟨h1, h2, h3⟩, h4⟩; exact ⟨h1, h2, h3, h4⟩
theorem fineT_iff {t : T} : fineT t ↔ headOK t.kind t.n t.name t.r ∧ kidsN t.kind = (t.kids.length : Int) ∧ (partsN t.kind = 0 → t.sys = []) ∧ fineL t.kids ∧ fineB t.kind t.sys := by
  obtain ⟨k, n, nm, r, ks, ss⟩ := t
  simp only [fineT, T.kind, T.n, T.name, T.r, T.kids, T.sys]
theorem fine_parts {t : T} : fineT t ↔ (∀ d : Int, 24 ≤ d → ownP t (-1) d = true) ∧ ∀ p, p ∈ parts t → fineT p.1 := by
  rw [fineT_iff, fineL_iff, fineB_iff]
  have ho : ∀ d : Int, 24 ≤ d → (ownP t (-1) d = true ↔ headOK t.kind t.n t.name t.r ∧ kidsN t.kind = (t.kids.length : Int) ∧ (partsN t.kind = 0 → t.sys = []) ∧ ∀ b, b ∈ t.sys → (b.kids.length : Int) = partsN t.kind ∧ faceRight b.face = true) := by
    intro d hd
    obtain ⟨k, n, nm, r, ks, ss⟩ := t
    exact own24_iff hd
  constructor
  · rintro ⟨h1, h2, h3, h4, h5⟩
    refine ⟨fun d hd => (ho d hd).mpr ⟨h1, h2, h3, fun b hb => ⟨(h5 b hb).1, (h5 b hb).2.1⟩⟩, fun p hp => ?_⟩
    rcases part_cases hp with ⟨i, hi, rfl⟩ | ⟨s, k, hs, hk, rfl⟩
    · exact h4 _ (getD_mem hi)
    · exact fineL_iff.mp (h5 _ (getD_mem hs)).2.2 _ (getD_mem hk)
  · rintro ⟨h1, h2⟩
    obtain ⟨a1, a2, a3, a4⟩ := (ho 24 (by omega)).mp (h1 24 (by omega))
    refine ⟨a1, a2, a3, fun k hk => ?_, fun b hb => ⟨(a4 b hb).1, (a4 b hb).2, fineL_iff.mpr fun k hk => ?_⟩⟩
    · obtain ⟨p, hp, e⟩ := kid_mem_parts hk; exact e ▸ h2 p hp
    · obtain ⟨p, hp, e⟩ := sys_mem_parts hb hk; exact e ▸ h2 p hp
theorem all_fine : ∀ (t : T) (d : Int), 24 ≤ d → (allP t (-1) d false = true ↔ fineT t) := T.ind fun t ih d hd => by
  rw [all_iff, fine_parts]
  have hw : ∀ p : Part, IntKind.i64.wrap (-1 + if (-1 : Int) < 0 then 0 else p.2.1) = -1 := fun p => by rw [if_pos (by decide)]; decide
  constructor
  · rintro ⟨_, h2, h3⟩
    refine ⟨fun d' hd' => ?_, fun p hp => ?_⟩
    · obtain ⟨k, n, nm, r, ks, ss⟩ := t
      exact (own24_iff hd').mpr ((own24_iff hd).mp h2)
    · have h4 := h3 p hp
      rw [hw] at h4
      have h5 := parts_01 hp
      exact (ih p hp (d + p.2.2) (by omega)).mp h4
  · rintro ⟨h1, h2⟩
    refine ⟨by simp, h1 d hd, fun p hp => ?_⟩
    rw [hw]
    have h5 := parts_01 hp
    exact (ih p hp (d + p.2.2) (by omega)).mpr (h2 p hp)
theorem formed_fine {t : T} : formedP t = 0 ↔ sized t = 0 ∧ fineT t := by rw [formed_zero, all_fine t 24 (by omega)]
/-! ### What a way keeps -/
section
variable {C : Type} {A : Tr C}
mutual
theorem trav_fine (ho : ∀ c k n nm r p, headOK k n nm r → A.own c k n nm r = .ok (.inr p) → headOK k p.1 nm p.2) (hi : ∀ c k n nm r u, headOK k n nm r → A.own c k n nm r = .ok (.inl u) → fineT u) (hf : ∀ c f f', faceRight f = true → A.face c f = .ok (some f') → faceRight f' = true) : ∀ {t : T} {c : C} {u : T}, fineT t → trav A t c = .ok u → fineT u
  | .mk k n nm r ks ss, c, u, h, hu => by
    simp only [fineT] at h
    obtain ⟨h1, h2, h3, h4, h5⟩ := h
    rw [trav_eq] at hu
    simp only [T.kind, T.n, T.name, T.r, T.kids, T.sys] at hu
    obtain ⟨o, h9, hu⟩ := Res1.bind_ok hu
    cases o with
    | inl v => injection hu with hu; subst hu; exact hi _ _ _ _ _ _ h1 h9
    | inr p =>
      obtain ⟨ks', h10, hu⟩ := Res1.bind_ok hu
      obtain ⟨ss', h11, hu⟩ := Res1.bind_ok hu
      injection hu with hu
      subst hu
      simp only [fineT]
      refine ⟨ho _ _ _ _ _ _ h1 h9, by rw [travL_len h10]; exact h2, fun h => ?_, travL_fine ho hi hf h4 h10, travB_fine ho hi hf h5 h11⟩
      have h12 := travB_len h11
      rw [h3 h] at h12
      exact List.eq_nil_of_length_eq_zero (Nat.le_zero.mp h12)
theorem travL_fine (ho : ∀ c k n nm r p, headOK k n nm r → A.own c k n nm r = .ok (.inr p) → headOK k p.1 nm p.2) (hi : ∀ c k n nm r u, headOK k n nm r → A.own c k n nm r = .ok (.inl u) → fineT u) (hf : ∀ c f f', faceRight f = true → A.face c f = .ok (some f') → faceRight f' = true) {kd : Int} : ∀ {ts : List T} {i : Nat} {c : C} {us : List T}, fineL ts → travL A kd i ts c = .ok us → fineL us
  | [], i, c, us, h, hu => by rw [travL_nil] at hu; injection hu with hu; subst hu; simp only [fineL]
  | t :: ts, i, c, us, h, hu => by
    simp only [fineL] at h
    rw [travL_cons] at hu
    obtain ⟨c', _, hu⟩ := Res1.bind_ok hu
    obtain ⟨t', h2, hu⟩ := Res1.bind_ok hu
    obtain ⟨ts', h3, hu⟩ := Res1.bind_ok hu
    injection hu with hu
    subst hu
    simp only [fineL]
    exact ⟨trav_fine ho hi hf h.1 h2, travL_fine ho hi hf h.2 h3⟩
theorem travS_fine (ho : ∀ c k n nm r p, headOK k n nm r → A.own c k n nm r = .ok (.inr p) → headOK k p.1 nm p.2) (hi : ∀ c k n nm r u, headOK k n nm r → A.own c k n nm r = .ok (.inl u) → fineT u) (hf : ∀ c f f', faceRight f = true → A.face c f = .ok (some f') → faceRight f' = true) {kd : Int} : ∀ {ts : List T} {c : C} {us : List T}, fineL ts → travS A kd ts c = .ok us → fineL us
  | [], c, us, h, hu => by rw [travS_nil] at hu; injection hu with hu; subst hu; simp only [fineL]
  | t :: ts, c, us, h, hu => by
    simp only [fineL] at h
    rw [travS_cons] at hu
    obtain ⟨c', _, hu⟩ := Res1.bind_ok hu
    obtain ⟨t', h2, hu⟩ := Res1.bind_ok hu
    obtain ⟨ts', h3, hu⟩ := Res1.bind_ok hu
    injection hu with hu
    subst hu
    simp only [fineL]
    exact ⟨trav_fine ho hi hf h.1 h2, travS_fine ho hi hf h.2 h3⟩
theorem travB_fine (ho : ∀ c k n nm r p, headOK k n nm r → A.own c k n nm r = .ok (.inr p) → headOK k p.1 nm p.2) (hi : ∀ c k n nm r u, headOK k n nm r → A.own c k n nm r = .ok (.inl u) → fineT u) (hf : ∀ c f f', faceRight f = true → A.face c f = .ok (some f') → faceRight f' = true) {kd : Int} : ∀ {bs : List Br} {c : C} {us : List Br}, fineB kd bs → travB A kd bs c = .ok us → fineB kd us
  | [], c, us, h, hu => by rw [travB_nil] at hu; injection hu with hu; subst hu; simp only [fineB]
  | .mk f ks :: bs, c, us, h, hu => by
    simp only [fineB] at h
    obtain ⟨h1, h2, h3, h4⟩ := h
    rw [travB_cons] at hu
    simp only [Br.face, Br.kids] at hu
    obtain ⟨o, h5, hu⟩ := Res1.bind_ok hu
    cases o with
    | none => exact travB_fine ho hi hf h4 hu
    | some f' =>
      obtain ⟨ks', h6, hu⟩ := Res1.bind_ok hu
      obtain ⟨bs', h7, hu⟩ := Res1.bind_ok hu
      injection hu with hu
      subst hu
      simp only [fineB]
      exact ⟨by rw [travS_len h6]; exact h1, hf _ _ _ h2 h5, travS_fine ho hi hf h3 h6, travB_fine ho hi hf h4 h7⟩
end
end
/-! ### One way, and then another one -/
section
variable {CA CB CC : Type} {A : Tr CA} {B : Tr CB} {D : Tr CC} (R : CA → CB → CC → Prop)
structure Fuse : Prop where
  inl : ∀ ca cb cc k n nm r u, R ca cb cc → headOK k n nm r → A.own ca k n nm r = .ok (.inl u) → D.own cc k n nm r = (trav B u cb).bind fun w => .ok (.inl w)
  inr : ∀ ca cb cc k n nm r p, R ca cb cc → headOK k n nm r → A.own ca k n nm r = .ok (.inr p) → B.own cb k p.1 nm p.2 = D.own cc k n nm r
  none : ∀ ca cb cc f, R ca cb cc → faceRight f = true → A.face ca f = .ok none → D.face cc f = .ok none
  some : ∀ ca cb cc f f', R ca cb cc → faceRight f = true → A.face ca f = .ok (some f') → B.face cb f' = D.face cc f
  kid : ∀ ca cb cc b ca', R ca cb cc → A.kid ca b = .ok ca' → (∃ cb' cc', B.kid cb b = .ok cb' ∧ D.kid cc b = .ok cc' ∧ R ca' cb' cc') ∨ ∃ e, B.kid cb b = .bad e ∧ D.kid cc b = .bad e
variable {R}
mutual
theorem fuse (F : Fuse (A := A) (B := B) (D := D) R) : ∀ {t u : T} {ca : CA} {cb : CB} {cc : CC}, fineT t → R ca cb cc → trav A t ca = .ok u → trav B u cb = trav D t cc
  | .mk k n nm r ks ss, u, ca, cb, cc, h, hr, hu => by
    simp only [fineT] at h
    obtain ⟨h1, h2, h3, h4, h5⟩ := h
    rw [trav_eq] at hu
    simp only [T.kind, T.n, T.name, T.r, T.kids, T.sys] at hu
    obtain ⟨o, h9, hu⟩ := Res1.bind_ok hu
    cases o with
    | inl v =>
      injection hu with hu
      subst hu
      conv => rhs; rw [trav_eq]
      simp only [T.kind, T.n, T.name, T.r, T.kids, T.sys]
      rw [F.inl _ _ _ _ _ _ _ _ hr h1 h9]
      cases trav B v cb <;> rfl
    | inr p =>
      obtain ⟨ks', h10, hu⟩ := Res1.bind_ok hu
      obtain ⟨ss', h11, hu⟩ := Res1.bind_ok hu
      injection hu with hu
      subst hu
      rw [trav_eq, trav_eq]
      simp only [T.kind, T.n, T.name, T.r, T.kids, T.sys]
      rw [F.inr _ _ _ _ _ _ _ _ hr h1 h9, fuseL F h4 hr h10, fuseB F h5 hr h11]
theorem fuseL (F : Fuse (A := A) (B := B) (D := D) R) {kd : Int} : ∀ {ts us : List T} {i : Nat} {ca : CA} {cb : CB} {cc : CC}, fineL ts → R ca cb cc → travL A kd i ts ca = .ok us → travL B kd i us cb = travL D kd i ts cc
  | [], us, i, ca, cb, cc, h, hr, hu => by rw [travL_nil] at hu; injection hu with hu; subst hu; rw [travL_nil, travL_nil]
  | t :: ts, us, i, ca, cb, cc, h, hr, hu => by
    simp only [fineL] at h
    rw [travL_cons] at hu
    obtain ⟨c', h1, hu⟩ := Res1.bind_ok hu
    obtain ⟨t', h2, hu⟩ := Res1.bind_ok hu
    obtain ⟨ts', h3, hu⟩ := Res1.bind_ok hu
    injection hu with hu
    subst hu
    rw [travL_cons, travL_cons]
    rcases F.kid _ _ _ _ _ hr h1 with ⟨cb', cc', e1, e2, hr'⟩ | ⟨e, e1, e2⟩
    · rw [e1, e2]
      simp only [Res1.bind]
      rw [fuse F h.1 hr' h2, fuseL F h.2 hr h3]
    · rw [e1, e2]; rfl
theorem fuseS (F : Fuse (A := A) (B := B) (D := D) R) {kd : Int} : ∀ {ts us : List T} {ca : CA} {cb : CB} {cc : CC}, fineL ts → R ca cb cc → travS A kd ts ca = .ok us → travS B kd us cb = travS D kd ts cc
  | [], us, ca, cb, cc, h, hr, hu => by rw [travS_nil] at hu; injection hu with hu; subst hu; rw [travS_nil, travS_nil]
  | t :: ts, us, ca, cb, cc, h, hr, hu => by
    simp only [fineL] at h
    rw [travS_cons] at hu
    obtain ⟨c', h1, hu⟩ := Res1.bind_ok hu
    obtain ⟨t', h2, hu⟩ := Res1.bind_ok hu
    obtain ⟨ts', h3, hu⟩ := Res1.bind_ok hu
    injection hu with hu
    subst hu
    rw [travS_cons, travS_cons]
    rcases F.kid _ _ _ _ _ hr h1 with ⟨cb', cc', e1, e2, hr'⟩ | ⟨e, e1, e2⟩
    · rw [e1, e2]
      simp only [Res1.bind]
      rw [fuse F h.1 hr' h2, fuseS F h.2 hr h3]
    · rw [e1, e2]; rfl
theorem fuseB (F : Fuse (A := A) (B := B) (D := D) R) {kd : Int} : ∀ {bs us : List Br} {ca : CA} {cb : CB} {cc : CC}, fineB kd bs → R ca cb cc → travB A kd bs ca = .ok us → travB B kd us cb = travB D kd bs cc
  | [], us, ca, cb, cc, h, hr, hu => by rw [travB_nil] at hu; injection hu with hu; subst hu; rw [travB_nil, travB_nil]
  | .mk f ks :: bs, us, ca, cb, cc, h, hr, hu => by
    simp only [fineB] at h
    obtain ⟨h1, h2, h3, h4⟩ := h
    rw [travB_cons] at hu
    simp only [Br.face, Br.kids] at hu
    obtain ⟨o, h5, hu⟩ := Res1.bind_ok hu
    cases o with
    | none =>
      rw [fuseB F h4 hr hu]
      conv => rhs; rw [travB_cons]
      simp only [Br.face, Br.kids]
      rw [F.none _ _ _ _ hr h2 h5]
      rfl
    | some f' =>
      obtain ⟨ks', h6, hu⟩ := Res1.bind_ok hu
      obtain ⟨bs', h7, hu⟩ := Res1.bind_ok hu
      injection hu with hu
      subst hu
      rw [travB_cons, travB_cons]
      simp only [Br.face, Br.kids]
      rw [F.some _ _ _ _ _ hr h2 h5, fuseS F h3 hr h6, fuseB F h4 hr h7]
end
end
/-! ### Where one way is told, another one is -/
section
variable {CA CC : Type} {A : Tr CA} {D : Tr CC} (R : CA → CC → Prop)
structure Told : Prop where
  inl : ∀ ca cc k n nm r u, R ca cc → headOK k n nm r → A.own ca k n nm r = .ok (.inl u) → ∃ w, D.own cc k n nm r = .ok (.inl w)
  inr : ∀ ca cc k n nm r p, R ca cc → headOK k n nm r → A.own ca k n nm r = .ok (.inr p) → ∃ w, D.own cc k n nm r = .ok w
  none : ∀ ca cc f, R ca cc → faceRight f = true → A.face ca f = .ok none → D.face cc f = .ok none
  some : ∀ ca cc f f', R ca cc → faceRight f = true → A.face ca f = .ok (some f') → ∃ w, D.face cc f = .ok w
  kid : ∀ ca cc b ca', R ca cc → A.kid ca b = .ok ca' → ∃ cc', D.kid cc b = .ok cc' ∧ R ca' cc'
variable {R}
theorem Res1.bind_ex {α β : Type} {x : Res1 α} {k : α → Res1 β} (h : ∃ a, x = .ok a) (h2 : ∀ a, x = .ok a → ∃ b, k a = .ok b) : ∃ b, x.bind k = .ok b := by
  obtain ⟨a, ha⟩ := h
  obtain ⟨b, hb⟩ := h2 a ha
  exact ⟨b, by rw [ha]; exact hb⟩
mutual
theorem told (F : Told (A := A) (D := D) R) : ∀ {t u : T} {ca : CA} {cc : CC}, fineT t → R ca cc → trav A t ca = .ok u → ∃ w, trav D t cc = .ok w
  | .mk k n nm r ks ss, u, ca, cc, h, hr, hu => by
    simp only [fineT] at h
    obtain ⟨h1, h2, h3, h4, h5⟩ := h
    rw [trav_eq] at hu
    simp only [T.kind, T.n, T.name, T.r, T.kids, T.sys] at hu
    obtain ⟨o, h9, hu⟩ := Res1.bind_ok hu
    rw [trav_eq]
    simp only [T.kind, T.n, T.name, T.r, T.kids, T.sys]
    cases o with
    | inl v =>
      obtain ⟨w, hw⟩ := F.inl _ _ _ _ _ _ _ hr h1 h9
      exact ⟨w, by rw [hw]; rfl⟩
    | inr p =>
      obtain ⟨ks', h10, hu⟩ := Res1.bind_ok hu
      obtain ⟨ss', h11, hu⟩ := Res1.bind_ok hu
      refine Res1.bind_ex (F.inr _ _ _ _ _ _ _ hr h1 h9) (fun o _ => ?_)
      cases o with
      | inl v => exact ⟨v, rfl⟩
      | inr q =>
        refine Res1.bind_ex (toldL F h4 hr h10) (fun a _ => Res1.bind_ex (toldB F h5 hr h11) (fun b _ => ⟨_, rfl⟩))
theorem toldL (F : Told (A := A) (D := D) R) {kd : Int} : ∀ {ts us : List T} {i : Nat} {ca : CA} {cc : CC}, fineL ts → R ca cc → travL A kd i ts ca = .ok us → ∃ w, travL D kd i ts cc = .ok w
  | [], us, i, ca, cc, h, hr, hu => ⟨[], travL_nil _ _ _⟩
  | t :: ts, us, i, ca, cc, h, hr, hu => by
    simp only [fineL] at h
    rw [travL_cons] at hu
    obtain ⟨c', h1, hu⟩ := Res1.bind_ok hu
    obtain ⟨t', h2, hu⟩ := Res1.bind_ok hu
    obtain ⟨ts', h3, hu⟩ := Res1.bind_ok hu
    obtain ⟨cc', e2, hr'⟩ := F.kid _ _ _ _ hr h1
    rw [travL_cons]
    refine Res1.bind_ex ⟨cc', e2⟩ (fun a9 ha => ?_)
    rw [e2] at ha
    injection ha with ha
    subst ha
    exact Res1.bind_ex (told F h.1 hr' h2) (fun a _ => Res1.bind_ex (toldL F h.2 hr h3) (fun b _ => ⟨_, rfl⟩))
theorem toldS (F : Told (A := A) (D := D) R) {kd : Int} : ∀ {ts us : List T} {ca : CA} {cc : CC}, fineL ts → R ca cc → travS A kd ts ca = .ok us → ∃ w, travS D kd ts cc = .ok w
  | [], us, ca, cc, h, hr, hu => ⟨[], travS_nil _ _⟩
  | t :: ts, us, ca, cc, h, hr, hu => by
    simp only [fineL] at h
    rw [travS_cons] at hu
    obtain ⟨c', h1, hu⟩ := Res1.bind_ok hu
    obtain ⟨t', h2, hu⟩ := Res1.bind_ok hu
    obtain ⟨ts', h3, hu⟩ := Res1.bind_ok hu
    obtain ⟨cc', e2, hr'⟩ := F.kid _ _ _ _ hr h1
    rw [travS_cons]
    refine Res1.bind_ex ⟨cc', e2⟩ (fun a9 ha => ?_)
    rw [e2] at ha
    injection ha with ha
    subst ha
    exact Res1.bind_ex (told F h.1 hr' h2) (fun a _ => Res1.bind_ex (toldS F h.2 hr h3) (fun b _ => ⟨_, rfl⟩))
theorem toldB (F : Told (A := A) (D := D) R) {kd : Int} : ∀ {bs us : List Br} {ca : CA} {cc : CC}, fineB kd bs → R ca cc → travB A kd bs ca = .ok us → ∃ w, travB D kd bs cc = .ok w
  | [], us, ca, cc, h, hr, hu => ⟨[], travB_nil _ _⟩
  | .mk f ks :: bs, us, ca, cc, h, hr, hu => by
    simp only [fineB] at h
    obtain ⟨h1, h2, h3, h4⟩ := h
    rw [travB_cons] at hu
    simp only [Br.face, Br.kids] at hu
    obtain ⟨o, h5, hu⟩ := Res1.bind_ok hu
    rw [travB_cons]
    simp only [Br.face, Br.kids]
    cases o with
    | none =>
      rw [F.none _ _ _ hr h2 h5]
      exact toldB F h4 hr hu
    | some f' =>
      obtain ⟨ks', h6, hu⟩ := Res1.bind_ok hu
      obtain ⟨bs', h7, hu⟩ := Res1.bind_ok hu
      refine Res1.bind_ex (F.some _ _ _ _ hr h2 h5) (fun o _ => ?_)
      cases o with
      | none => exact toldB F h4 hr h7
      | some q => exact Res1.bind_ex (toldS F h3 hr h6) (fun a _ => Res1.bind_ex (toldB F h4 hr h7) (fun b _ => ⟨_, rfl⟩))
end
end
end Go.Hy
namespace Go.Hy
set_option linter.unusedVariables false
set_option linter.unusedSimpArgs false
set_option linter.unusedSectionVars false
set_option linter.unusedVariables false
end Go.Hy
namespace Go.Hy
set_option linter.unusedVariables false
set_option linter.unusedSimpArgs false
set_option linter.unusedSectionVars false
theorem formed_size {t : T} (h : formedP t = 0) : size t ≤ 20000 := by
  unfold formedP at h
  split at h
  · rename_i hs; exact absurd h hs
  · rename_i hs
    simp only [ne_eq, Decidable.not_not, sized] at hs
    split at hs
    · cases hs
    · split at hs
      · cases hs
      · omega
end Go.Hy
namespace Go.Hy
set_option linter.unusedVariables false
set_option linter.unusedSimpArgs false
set_option linter.unusedSectionVars false
set_option linter.unusedVariables false
/-! What a term that is formed is of itself. -/
theorem formed_kind {t : T} (h : formedP t = 0) : 0 < t.kind := by
  have h1 := (formed_zero.mp h).2
  rw [allP_eq] at h1
  simp only [Bool.and_eq_true, Bool.not_eq_true', Bool.or_eq_false_iff] at h1
  have h2 := h1.1.2
  simp only [ownP, Bool.not_eq_false', Bool.and_eq_true, Bool.not_eq_true', own1, Bool.or_eq_false_iff, decide_eq_false_iff_not, ne_eq, Decidable.not_not] at h2
  have h3 := h2.1.1.1.1
  unfold kidsN at h3
  apply Classical.byContradiction
  intro hn
  have e : ¬ (t.kind = 1 ∨ t.kind = 2 ∨ t.kind = 3 ∨ t.kind = 19 ∨ t.kind = 20 ∨ t.kind = 24 ∨ t.kind = 25 ∨ t.kind = 21) := by omega
  have e2 : ¬ (t.kind = 5 ∨ t.kind = 9 ∨ t.kind = 10 ∨ t.kind = 23 ∨ t.kind = 12 ∨ t.kind = 16 ∨ t.kind = 17 ∨ t.kind = 18 ∨ t.kind = 26) := by omega
  have e3 : ¬ (t.kind = 4 ∨ t.kind = 7 ∨ t.kind = 6 ∨ t.kind = 8 ∨ t.kind = 14 ∨ t.kind = 15 ∨ t.kind = 28) := by omega
  have e4 : ¬ (t.kind = 11 ∨ t.kind = 13) := by omega
  rw [if_neg e, if_neg e2, if_neg e3, if_neg e4, if_neg (by omega), if_neg (by omega)] at h3
  omega
end Go.Hy
namespace Go.Hy
set_option linter.unusedVariables false
set_option linter.unusedSimpArgs false
set_option linter.unusedSectionVars false
set_option linter.unusedVariables false
set_option linter.unusedSimpArgs false
/-! ### Masks, bit by bit -/
theorem maskLift_bit {s : Nat} {f b : Int} (h : (maskLift s f b).1 = 0) (i : Nat) : 0 ≤ f ∧ 0 ≤ b ∧ (maskLift s f b).2.testBit i = ((decide (i < min f.toNat 24) && (s &&& 16777215).testBit i) || (decide (min f.toNat 24 + b.toNat ≤ i) && (s &&& 16777215).testBit (i - b.toNat))) := by
  by_cases h0 : f < 0 ∨ b < 0
  · rw [maskLift, if_pos h0] at h; cases h
  · have hq : ∀ j, (s &&& 16777215).testBit j = true → j < 24 := fun j hj => by rw [and24_bit, Bool.and_eq_true, decide_eq_true_eq] at hj; exact hj.1
    refine ⟨by omega, by omega, ?_⟩
    generalize hF : min f.toNat 24 = F at *
    by_cases h1 : andNot32 (s &&& 16777215) (2 ^ (min f.toNat 24) - 1) = 0
    · rw [maskLift, if_neg h0, if_pos h1]
      show ((s &&& 16777215) &&& (2 ^ (min f.toNat 24) - 1)).testBit i = _
      rw [hF] at h1 ⊢
      rw [Nat.testBit_and, mask_bit]
      have h2 : (decide (F + b.toNat ≤ i) && (s &&& 16777215).testBit (i - b.toNat)) = false := by
        cases h3 : (s &&& 16777215).testBit (i - b.toNat) with
        | false => rw [Bool.and_false]
        | true =>
          rw [Bool.and_true]
          refine decide_eq_false (fun h4 => ?_)
          have h5 : (andNot32 (s &&& 16777215) (2 ^ F - 1)).testBit (i - b.toNat) = true := by
            rw [andNot32_bit, mask_bit, h3, decide_eq_true (by have := hq _ h3; omega), decide_eq_false (by omega)]; rfl
          rw [h1, Nat.zero_testBit] at h5
          cases h5
      rw [h2, Bool.or_false, Bool.and_comm]
    · by_cases h2 : 24 ≤ b ∨ 16777215 < andNot32 (s &&& 16777215) (2 ^ (min f.toNat 24) - 1) * 2 ^ b.toNat
      · rw [maskLift, if_neg h0, if_neg h1, if_pos h2] at h; cases h
      · rw [maskLift, if_neg h0, if_neg h1, if_neg h2]
        show (((s &&& 16777215) &&& (2 ^ (min f.toNat 24) - 1)) ||| (andNot32 (s &&& 16777215) (2 ^ (min f.toNat 24) - 1) * 2 ^ b.toNat)).testBit i = _
        rw [hF, Nat.testBit_or, Nat.testBit_and, mask_bit, Nat.testBit_mul_two_pow, andNot32_bit, mask_bit]
        cases h3 : (s &&& 16777215).testBit (i - b.toNat) with
        | false => simp [Bool.and_comm]
        | true =>
          have h4 := hq _ h3
          rw [decide_eq_true (show i - b.toNat < 32 by omega)]
          simp only [Bool.and_true, Bool.true_and]
          rw [Bool.and_comm]
          congr 1
          by_cases h5 : F + b.toNat ≤ i
          · rw [decide_eq_true (show b.toNat ≤ i by omega), decide_eq_false (show ¬ i - b.toNat < F by omega), decide_eq_true h5]; rfl
          · rw [decide_eq_false h5]
            by_cases h6 : b.toNat ≤ i
            · rw [decide_eq_true h6, decide_eq_true (show i - b.toNat < F by omega)]; rfl
            · rw [decide_eq_false h6]; rfl
theorem maskLift_clash {p q : Nat} {f b : Int} (hp : (maskLift p f b).1 = 0) (hq : (maskLift q f b).1 = 0) (h : p &&& q = 0) : (maskLift p f b).2 &&& (maskLift q f b).2 = 0 := by
  refine Nat.eq_of_testBit_eq (fun i => ?_)
  have hb : ∀ j, (p &&& 16777215).testBit j = true → (q &&& 16777215).testBit j = true → False := fun j h1 h2 => by
    rw [and24_bit, Bool.and_eq_true] at h1 h2
    have : (p &&& q).testBit j = true := by rw [Nat.testBit_and, h1.2, h2.2]; rfl
    rw [h, Nat.zero_testBit] at this
    cases this
  rw [Nat.testBit_and, (maskLift_bit hp i).2.2, (maskLift_bit hq i).2.2, Nat.zero_testBit]
  cases h1 : (p &&& 16777215).testBit i <;> cases h2 : (q &&& 16777215).testBit i <;> cases h3 : (p &&& 16777215).testBit (i - b.toNat) <;> cases h4 : (q &&& 16777215).testBit (i - b.toNat) <;> first
    | exact (hb _ h1 h2).elim
    | exact (hb _ h3 h4).elim
    | (simp only [Bool.and_true, Bool.and_false, Bool.or_false, Bool.false_or, Bool.and_eq_false_iff, decide_eq_false_iff_not]; done)
    | (by_cases h5 : i < min f.toNat 24
       · rw [decide_eq_true h5, decide_eq_false (show ¬ min f.toNat 24 + b.toNat ≤ i by omega)]; simp
       · rw [decide_eq_false h5]; simp)
/-! ### Clauses, formulas -/
theorem clLift_ok {c : Cl} {f b : Int} (h : (clLift c f b).1 = 0) : right24 c = true ∧ (maskLift c.pos f b).1 = 0 ∧ (maskLift c.neg f b).1 = 0 ∧ (clLift c f b).2 = ⟨(maskLift c.pos f b).2, (maskLift c.neg f b).2⟩ := by
  unfold clLift at h ⊢
  split at h
  · cases h
  · rename_i h1
    split at h
    · rename_i h2; exact absurd h h2
    · rename_i h2
      split at h
      · rename_i h3; exact absurd h h3
      · rename_i h3
        rw [if_neg h1, if_neg h2, if_neg h3]
        exact ⟨by simpa using h1, Decidable.not_not.mp h2, Decidable.not_not.mp h3, rfl⟩
theorem clLift_clash {c : Cl} {f b : Int} (h : (clLift c f b).1 = 0) (hc : clash c = false) : clash (clLift c f b).2 = false := by
  obtain ⟨_, h1, h2, h3⟩ := clLift_ok h
  rw [h3]
  unfold clash at hc ⊢
  have h4 : c.pos &&& c.neg = 0 := Decidable.not_not.mp (of_decide_eq_false hc)
  exact decide_eq_false (Decidable.not_not.mpr (maskLift_clash h1 h2 h4))
theorem leastF_cases (l : List Cl) : ((leastF l).1 = 0 ∧ l.all right24 = true ∧ (leastF l).2 = refLeast l ∧ (refLeast l).length ≤ 64) ∨ (leastF l).1 = 2 ∨ (leastF l).1 = 3 := by
  unfold leastF
  split
  · exact .inr (.inl rfl)
  · rename_i h1
    split
    · exact .inr (.inr rfl)
    · rename_i h2
      exact .inl ⟨rfl, by simpa using h1, rfl, by omega⟩
theorem leastF_fR {l : List Cl} (h : (leastF l).1 = 0) : fRight (leastF l).2 = true := by
  rcases leastF_cases l with ⟨_, h1, h2, h3⟩ | h1 | h1
  · rw [h2]
    unfold fRight
    rw [Bool.and_eq_true, Bool.and_eq_true, Bool.and_eq_true]
    refine ⟨⟨⟨List.all_eq_true.mpr fun c hc => List.all_eq_true.mp h1 c (refLeast_mem.mp hc).1, sortedC_iff.mpr (refLeast_sorted l)⟩, apart_iff.mpr fun a ha b hb => needless_iff.mp (refLeast_mem.mp ha).2 b (refLeast_mem.mp hb).1⟩, decide_eq_true h3⟩
  · rw [h1] at h; cases h
  · rw [h1] at h; cases h
theorem leastF_sub {l : List Cl} (h : (leastF l).1 = 0) {c : Cl} (hc : c ∈ (leastF l).2) : c ∈ l := by
  rcases leastF_cases l with ⟨_, h1, h2, h3⟩ | h1 | h1
  · rw [h2] at hc; exact (refLeast_mem.mp hc).1
  · rw [h1] at h; cases h
  · rw [h1] at h; cases h
theorem formLift_cases {l : List Cl} {f b : Int} (h : (formLift l f b).1 = 0) : fRight l = true ∧ (∀ c, c ∈ l → (clLift c f b).1 = 0) ∧ formLift l f b = leastF (l.map fun c => (clLift c f b).2) := by
  unfold formLift at h ⊢
  split at h
  · cases h
  · rename_i h1
    split at h
    · rename_i h2; exact absurd h h2
    · rename_i h2
      have h3 : (foldC (fun c => clLift c f b) l).1 = 0 := Decidable.not_not.mp h2
      rw [if_neg h1, if_neg h2]
      exact ⟨by simpa using h1, foldC_iff.mp h3, by rw [foldC_map h3]⟩
theorem formLift_fR {l : List Cl} {f b : Int} (h : (formLift l f b).1 = 0) : fRight (formLift l f b).2 = true := by
  obtain ⟨_, _, h3⟩ := formLift_cases h
  rw [h3] at h ⊢
  exact leastF_fR h
theorem formLift_face {l : List Cl} {f b : Int} (h : (formLift l f b).1 = 0) (hl : faceRight l = true) : faceRight (formLift l f b).2 = true := by
  obtain ⟨_, h2, h3⟩ := formLift_cases h
  have hf := formLift_fR h
  unfold faceRight at hl ⊢
  rw [Bool.and_eq_true, Bool.not_eq_true'] at hl ⊢
  refine ⟨hf, ?_⟩
  rw [List.any_eq_false]
  intro c hc
  rw [h3] at h hc
  obtain ⟨d, hd, rfl⟩ := List.mem_map.mp (leastF_sub h hc)
  have h4 := List.any_eq_false.mp hl.2 d hd
  rw [Bool.not_eq_true] at h4 ⊢
  exact clLift_clash (h2 d hd) h4
theorem rowLift_fR {l g : List Cl} {f b : Int} (h : rowLift b l f = .ok g) (hl : fRight l = true) : fRight g = true := by
  unfold rowLift at h
  split at h
  · injection h with h; subst h; exact hl
  · split at h
    · rename_i h2; injection h with h; subst h; exact formLift_fR h2
    · cases h
theorem rowLift_face {l g : List Cl} {f b : Int} (h : rowLift b l f = .ok g) (hl : faceRight l = true) : faceRight g = true := by
  unfold rowLift at h
  split at h
  · injection h with h; subst h; exact hl
  · split at h
    · rename_i h2; injection h with h; subst h; exact formLift_face h2 hl
    · cases h
theorem fRight_nil : fRight [] = true := by decide
theorem formLift_nil (f b : Int) : formLift [] f b = (0, []) := by
  unfold formLift
  rw [if_neg (by rw [fRight_nil]; decide)]
  have h : foldC (fun c => clLift c f b) [] = (0, []) := rfl
  rw [h, if_neg (by decide)]
  exact leastF_fRight.mp fRight_nil
theorem rowLift_nil (f b : Int) : rowLift b [] f = .ok [] := by
  unfold rowLift
  rw [formLift_nil]
  simp
/-! ### Lifted terms are formed -/
theorem lift_fine {vb db : Int} (hv : 0 ≤ vb) {t u : T} {c : Int × Int} (h : fineT t) (hu : trav (liftTr vb db) t c = .ok u) : fineT u := by
  refine trav_fine (A := liftTr vb db) ?_ ?_ ?_ h hu
  · intro c k n nm r p h ho
    obtain ⟨h1, h2, h3, h4, h5, h6, h7⟩ := h
    obtain ⟨g, hg, ho⟩ := Res1.bind_ok (x := rowLift db r c.2) ho
    have hnil : r = [] → g = [] := fun e => by rw [e, rowLift_nil] at hg; injection hg with hg; exact hg.symm
    have key : ∀ n', (k ≠ 1 → n' = n) → (k = 1 → 0 ≤ n') → headOK k n' nm g := fun n' e1 e2 =>
      ⟨fun hk => by rw [e1 hk]; exact h1 hk, h2, fun hk => ⟨hnil (h3 hk).1, e2 hk⟩, fun hk => ⟨hnil (h4 hk).1, (h4 hk).2⟩, fun hk => rowLift_fR hg (h5 hk), fun hk => rowLift_face hg (h6 hk), fun hk => hnil (h7 hk)⟩
    split at ho
    · rename_i hk
      split at ho
      · cases ho
      · injection ho with ho; injection ho with ho; subst ho
        exact key _ (fun h => absurd hk.1 h) (fun h => by have := (h3 h).2; dsimp only; omega)
    · injection ho with ho; injection ho with ho; subst ho
      exact key _ (fun _ => rfl) (fun h => (h3 h).2)
  · intro c k n nm r u _ ho
    exact absurd ho lift_own_inl
  · intro c f f' hf ho
    obtain ⟨g, hg, ho⟩ := Res1.bind_ok (x := rowLift db f c.2) ho
    injection ho with ho; injection ho with ho; subst ho
    exact rowLift_face hg hf
section
variable {C : Type} {A : Tr C}
theorem travL_of {k : Int} {c : C} : ∀ {ts us : List T} {i : Nat}, travL A k i ts c = .ok us → ∀ u, u ∈ us → ∃ t, t ∈ ts ∧ ∃ c', trav A t c' = .ok u
  | [], us, i, h, u, hu => by rw [travL_nil] at h; injection h with h; subst h; cases hu
  | t :: ts, us, i, h, u, hu => by
    rw [travL_cons] at h
    obtain ⟨c', _, h⟩ := Res1.bind_ok h
    obtain ⟨t', h2, h⟩ := Res1.bind_ok h
    obtain ⟨ts', h3, h⟩ := Res1.bind_ok h
    injection h with h
    subst h
    rcases List.mem_cons.mp hu with rfl | hu
    · exact ⟨t, List.mem_cons_self, c', h2⟩
    · obtain ⟨t9, h9, h10⟩ := travL_of h3 u hu
      exact ⟨t9, List.mem_cons_of_mem _ h9, h10⟩
theorem travS_of {k : Int} {c : C} : ∀ {ts us : List T}, travS A k ts c = .ok us → ∀ u, u ∈ us → ∃ t, t ∈ ts ∧ ∃ c', trav A t c' = .ok u
  | [], us, h, u, hu => by rw [travS_nil] at h; injection h with h; subst h; cases hu
  | t :: ts, us, h, u, hu => by
    rw [travS_cons] at h
    obtain ⟨c', _, h⟩ := Res1.bind_ok h
    obtain ⟨t', h2, h⟩ := Res1.bind_ok h
    obtain ⟨ts', h3, h⟩ := Res1.bind_ok h
    injection h with h
    subst h
    rcases List.mem_cons.mp hu with rfl | hu
    · exact ⟨t, List.mem_cons_self, c', h2⟩
    · obtain ⟨t9, h9, h10⟩ := travS_of h3 u hu
      exact ⟨t9, List.mem_cons_of_mem _ h9, h10⟩
theorem travB_of {k : Int} {c : C} : ∀ {bs us : List Br}, travB A k bs c = .ok us → ∀ u, u ∈ us → ∃ b, b ∈ bs ∧ ∀ x, x ∈ u.kids → ∃ t, t ∈ b.kids ∧ ∃ c', trav A t c' = .ok x
  | [], us, h, u, hu => by rw [travB_nil] at h; injection h with h; subst h; cases hu
  | .mk f ks :: bs, us, h, u, hu => by
    rw [travB_cons] at h
    obtain ⟨o, h1, h⟩ := Res1.bind_ok h
    cases o with
    | none =>
      obtain ⟨b, hb, h9⟩ := travB_of (bs := bs) h u hu
      exact ⟨b, List.mem_cons_of_mem _ hb, h9⟩
    | some f' =>
      obtain ⟨ks', h2, h⟩ := Res1.bind_ok h
      obtain ⟨bs', h3, h⟩ := Res1.bind_ok h
      injection h with h
      subst h
      rcases List.mem_cons.mp hu with rfl | hu
      · exact ⟨.mk f ks, List.mem_cons_self, fun x hx => travS_of h2 x hx⟩
      · obtain ⟨b, hb, h9⟩ := travB_of h3 u hu
        exact ⟨b, List.mem_cons_of_mem _ hb, h9⟩
end
theorem lift_depth {vb db : Int} : ∀ (t : T) {u : T} {c : Int × Int}, trav (liftTr vb db) t c = .ok u → depth u ≤ depth t := T.ind fun t ih u c hu => by
  have h0 := depth_pos t
  rw [show depth t = (depth t - 1) + 1 by omega, depth_le_iff]
  rw [trav_eq] at hu
  obtain ⟨o, h9, hu⟩ := Res1.bind_ok hu
  cases o with
  | inl v => exact absurd h9 lift_own_inl
  | inr p =>
    obtain ⟨ks', h10, hu⟩ := Res1.bind_ok hu
    obtain ⟨ss', h11, hu⟩ := Res1.bind_ok hu
    injection hu with hu
    subst hu
    intro q hq
    rcases part_cases hq with ⟨i, hi, rfl⟩ | ⟨s, k, hs, hk, rfl⟩
    · obtain ⟨x, hx, c', h12⟩ := travL_of h10 _ (getD_mem (d := t0) hi)
      obtain ⟨p', hp', e⟩ := kid_mem_parts hx
      have h13 := part_depth hp'
      have h14 := ih p' hp' (c := c') (by rw [e]; exact h12)
      exact Nat.le_trans h14 (by omega)
    · obtain ⟨b, hb, h12⟩ := travB_of h11 _ (getD_mem (d := br0) hs)
      obtain ⟨x, hx, c', h13⟩ := h12 _ (getD_mem (d := t0) hk)
      obtain ⟨p', hp', e⟩ := sys_mem_parts hb hx
      have h14 := part_depth hp'
      have h15 := ih p' hp' (c := c') (by rw [e]; exact h13)
      exact Nat.le_trans h15 (by omega)
theorem lift_formed {vb db : Int} (hv : 0 ≤ vb) {t u : T} {c : Int × Int} (h : formedP t = 0) (hu : trav (liftTr vb db) t c = .ok u) : formedP u = 0 := by
  obtain ⟨h1, h2⟩ := formed_fine.mp h
  obtain ⟨h3, h4⟩ := sized_zero.mp h1
  exact formed_fine.mpr ⟨sized_zero.mpr ⟨Nat.le_trans (lift_depth t hu) h3, by rw [lift_size hu]; exact h4⟩, lift_fine hv h2 hu⟩
/-! ### Lifts, one behind the other -/
theorem rowLift_zero (l : List Cl) (f : Int) : rowLift 0 l f = .ok l := by unfold rowLift; rw [if_pos (.inl rfl)]
/-- What liftTr makes of a node. -/
theorem lift_own_eq {vb db : Int} {c : Int × Int} {k n : Int} {nm : ByteArray} {r : List Cl} : (liftTr vb db).own c k n nm r = (rowLift db r c.2).bind fun r' => if k = 1 ∧ c.1 ≤ n ∧ 1000000000 - vb < n then .bad 100 else .ok (.inr (liftN vb c.1 k n, r')) := by
  simp only [liftTr, liftN]
  congr 1
  funext g
  by_cases h1 : k = 1 ∧ c.1 ≤ n
  · rw [if_pos h1, if_pos h1]
    by_cases h2 : 1000000000 - vb < n
    · rw [if_pos h2, if_pos ⟨h1.1, h1.2, h2⟩]
    · rw [if_neg h2, if_neg (fun h => h2 h.2.2)]
  · rw [if_neg h1, if_neg h1, if_neg (fun h => h1 ⟨h.1, h.2.1⟩)]
theorem lift_own_ok {vb db : Int} {c : Int × Int} {k n : Int} {nm : ByteArray} {r : List Cl} {p : Int × List Cl} (h : (liftTr vb db).own c k n nm r = .ok (.inr p)) : rowLift db r c.2 = .ok p.2 ∧ ¬ (k = 1 ∧ c.1 ≤ n ∧ 1000000000 - vb < n) ∧ p.1 = liftN vb c.1 k n := by
  rw [lift_own_eq] at h
  obtain ⟨g, hg, h⟩ := Res1.bind_ok h
  split at h
  · cases h
  · rename_i h1
    injection h with h; injection h with h; subst h
    exact ⟨hg, h1, rfl⟩
theorem lift_face_eq {vb db : Int} {c : Int × Int} {f f' : List Cl} (h : (liftTr vb db).face c f = .ok (some f')) : rowLift db f c.2 = .ok f' := by
  obtain ⟨g, hg, h⟩ := Res1.bind_ok (x := rowLift db f c.2) h
  injection h with h; injection h with h; subst h; exact hg
theorem lift_face_none {vb db : Int} {c : Int × Int} {f : List Cl} : (liftTr vb db).face c f ≠ .ok none := fun h => by
  obtain ⟨g, hg, h⟩ := Res1.bind_ok (x := rowLift db f c.2) h
  injection h with h; cases h
abbrev Vl (a : Int) (t : T) : Res1 T := trav (liftTr a 0) t (0, 0)
abbrev Dl (b : Int) (t : T) : Res1 T := trav (liftTr 0 b) t (0, 0)
abbrev Ll (a b : Int) (t : T) : Res1 T := trav (liftTr a b) t (0, 0)
def R3 (a b c : Int × Int) : Prop := a = b ∧ b = c
theorem liftN_add {a c v k n : Int} (ha : 0 ≤ a) : liftN c v k (liftN a v k n) = liftN (a + c) v k n := by
  unfold liftN
  by_cases h : k = 1 ∧ v ≤ n
  · rw [if_pos h, if_pos h, if_pos ⟨h.1, by omega⟩]; omega
  · rw [if_neg h, if_neg h, if_neg h]
theorem liftN_zero {v k n : Int} : liftN 0 v k n = n := by unfold liftN; split <;> omega
theorem lift_face_def {vb db : Int} {c : Int × Int} {f : List Cl} : (liftTr vb db).face c f = (rowLift db f c.2).bind fun f' => .ok (some f') := rfl
/-- Dimensions behind variables: both at once. -/
theorem fuse_VD {a b : Int} (ha : 0 ≤ a) : Fuse (A := liftTr a 0) (B := liftTr 0 b) (D := liftTr a b) R3 where
  inl := fun ca cb cc k n nm r u _ _ h => absurd h lift_own_inl
  inr := by
    rintro ca cb cc k n nm r p ⟨rfl, rfl⟩ _ h
    obtain ⟨h1, h2, h3⟩ := lift_own_ok h
    rw [rowLift_zero] at h1
    injection h1 with h1
    rw [lift_own_eq, lift_own_eq, ← h1, h3]
    congr 1
    funext g
    have h4 : liftN 0 ca.1 k (liftN a ca.1 k n) = liftN a ca.1 k n := liftN_zero
    rw [h4, if_neg h2, if_neg]
    unfold liftN
    rintro ⟨h5, h6, h7⟩
    split at h6 <;> split at h7 <;> omega
  none := fun ca cb cc f _ _ h => absurd h lift_face_none
  some := by
    rintro ca cb cc f f' ⟨rfl, rfl⟩ _ h
    have h1 := lift_face_eq h
    rw [rowLift_zero] at h1
    injection h1 with h1
    rw [← h1]; rfl
  kid := by
    rintro ca cb cc b' ca' ⟨rfl, rfl⟩ h
    injection h with h; subst h
    exact .inl ⟨_, _, rfl, rfl, rfl, rfl⟩
/-- Variables behind dimensions. -/
theorem fuse_DV {a b : Int} (ha : 0 ≤ a) : Fuse (A := liftTr 0 b) (B := liftTr a 0) (D := liftTr a b) R3 where
  inl := fun ca cb cc k n nm r u _ _ h => absurd h lift_own_inl
  inr := by
    rintro ca cb cc k n nm r p ⟨rfl, rfl⟩ _ h
    obtain ⟨h1, h2, h3⟩ := lift_own_ok h
    have h4 : liftN 0 ca.1 k n = n := liftN_zero
    rw [lift_own_eq, lift_own_eq, h1, rowLift_zero, h3, h4]
  none := fun ca cb cc f _ _ h => absurd h lift_face_none
  some := by
    rintro ca cb cc f f' ⟨rfl, rfl⟩ _ h
    have h1 := lift_face_eq h
    rw [lift_face_def, lift_face_def, h1, rowLift_zero]
  kid := by
    rintro ca cb cc b' ca' ⟨rfl, rfl⟩ h
    injection h with h; subst h
    exact .inl ⟨_, _, rfl, rfl, rfl, rfl⟩
/-- More variables. -/
theorem fuse_LV {a b c : Int} (ha : 0 ≤ a) (hc : 0 ≤ c) : Fuse (A := liftTr a b) (B := liftTr c 0) (D := liftTr (a + c) b) R3 where
  inl := fun ca cb cc k n nm r u _ _ h => absurd h lift_own_inl
  inr := by
    rintro ca cb cc k n nm r p ⟨rfl, rfl⟩ _ h
    obtain ⟨h1, h2, h3⟩ := lift_own_ok h
    rw [lift_own_eq, lift_own_eq, h1, rowLift_zero, h3]
    simp only [Res1.bind]
    have h4 : liftN c ca.1 k (liftN a ca.1 k n) = liftN (a + c) ca.1 k n := liftN_add ha
    rw [h4]
    have h5 : (k = 1 ∧ ca.1 ≤ liftN a ca.1 k n ∧ 1000000000 - c < liftN a ca.1 k n) ↔ (k = 1 ∧ ca.1 ≤ n ∧ 1000000000 - (a + c) < n) := by
      unfold liftN; split <;> omega
    by_cases h6 : k = 1 ∧ ca.1 ≤ n ∧ 1000000000 - (a + c) < n
    · rw [if_pos h6, if_pos (h5.mpr h6)]
    · rw [if_neg h6, if_neg (fun h => h6 (h5.mp h))]
  none := fun ca cb cc f _ _ h => absurd h lift_face_none
  some := by
    rintro ca cb cc f f' ⟨rfl, rfl⟩ _ h
    have h1 := lift_face_eq h
    rw [lift_face_def, lift_face_def, h1, rowLift_zero]
  kid := by
    rintro ca cb cc b' ca' ⟨rfl, rfl⟩ h
    injection h with h; subst h
    exact .inl ⟨_, _, rfl, rfl, rfl, rfl⟩
/-- By nothing. -/
theorem fuse_L0 {a b : Int} (ha : 0 ≤ a) : Fuse (A := liftTr a b) (B := liftTr 0 0) (D := liftTr a b) R3 where
  inl := fun ca cb cc k n nm r u _ _ h => absurd h lift_own_inl
  inr := by
    rintro ca cb cc k n nm r p ⟨rfl, rfl⟩ _ h
    obtain ⟨h1, h2, h3⟩ := lift_own_ok h
    rw [lift_own_eq, lift_own_eq, h1, rowLift_zero, h3]
    simp only [Res1.bind]
    have h4 : liftN 0 ca.1 k (liftN a ca.1 k n) = liftN a ca.1 k n := liftN_zero
    rw [h4, if_neg h2, if_neg]
    unfold liftN
    rintro ⟨h5, h6, h7⟩
    split at h6 <;> split at h7 <;> omega
  none := fun ca cb cc f _ _ h => absurd h lift_face_none
  some := by
    rintro ca cb cc f f' ⟨rfl, rfl⟩ _ h
    have h1 := lift_face_eq h
    rw [lift_face_def, lift_face_def, h1, rowLift_zero]
  kid := by
    rintro ca cb cc b' ca' ⟨rfl, rfl⟩ h
    injection h with h; subst h
    exact .inl ⟨_, _, rfl, rfl, rfl, rfl⟩
/-- By less. -/
theorem told_less {a b a' b' : Int} (ha : 0 ≤ a') (hl : a' ≤ a) (hb : b' = b ∨ b' = 0) : Told (A := liftTr a b) (D := liftTr a' b') (fun x y => x = y) where
  inl := fun ca cc k n nm r u _ _ h => absurd h lift_own_inl
  inr := by
    rintro ca cc k n nm r p rfl _ h
    obtain ⟨h1, h2, h3⟩ := lift_own_ok h
    rw [lift_own_eq]
    refine Res1.bind_ex ?_ (fun g _ => ⟨_, if_neg (by omega)⟩)
    rcases hb with rfl | rfl
    · exact ⟨_, h1⟩
    · exact ⟨_, rowLift_zero _ _⟩
  none := fun ca cc f _ _ h => absurd h lift_face_none
  some := by
    rintro ca cc f f' rfl _ h
    have h1 := lift_face_eq h
    rcases hb with rfl | rfl
    · exact ⟨_, h⟩
    · exact ⟨some f, by show (rowLift 0 f ca.2).bind _ = _; rw [rowLift_zero]; rfl⟩
  kid := fun ca cc b ca' hr h => ⟨_, rfl, by rw [← hr]; injection h with h; exact h.symm⟩
/-! ### LiftAdds -/
mutual
def farT : T → Bool
  | .mk k n nm r ks ss => (decide (k = 1) && decide (1000000000 < n)) || farL ks || farB ss
def farL : List T → Bool
  | [] => false
  | t :: ts => farT t || farL ts
def farB : List Br → Bool
  | [] => false
  | .mk f ks :: bs => farL ks || farB bs
end
mutual
theorem lift_none : ∀ {t : T} {c : Int × Int}, fineT t → (trav (liftTr 0 0) t c = .ok t) ∨ (trav (liftTr 0 0) t c = .bad 100 ∧ farT t = true)
  | .mk k n nm r ks ss, c, h => by
    simp only [fineT] at h
    obtain ⟨h1, h2, h3, h4, h5⟩ := h
    rw [trav_eq]
    simp only [T.kind, T.n, T.name, T.r, T.kids, T.sys, farT]
    rw [lift_own_eq, rowLift_zero, liftN_zero]
    simp only [Res1.bind]
    by_cases h6 : k = 1 ∧ c.1 ≤ n ∧ 1000000000 - 0 < n
    · rw [if_pos h6]
      exact .inr ⟨rfl, by rw [decide_eq_true h6.1, decide_eq_true (show (1000000000 : Int) < n by omega)]; rfl⟩
    · rw [if_neg h6]
      simp only
      rcases liftL_none (i := 0) (c := c) (k := k) h4 with e | ⟨e, e2⟩
      · rw [e]
        simp only
        rcases liftB_none (c := c) h5 with e | ⟨e, e2⟩
        · rw [e]; exact .inl rfl
        · rw [e]; exact .inr ⟨rfl, by rw [e2, Bool.or_true]⟩
      · rw [e]; exact .inr ⟨rfl, by rw [e2, Bool.or_true, Bool.true_or]⟩
theorem liftL_none {k : Int} : ∀ {ts : List T} {i : Nat} {c : Int × Int}, fineL ts → (travL (liftTr 0 0) k i ts c = .ok ts) ∨ (travL (liftTr 0 0) k i ts c = .bad 100 ∧ farL ts = true)
  | [], i, c, h => .inl (travL_nil _ _ _)
  | t :: ts, i, c, h => by
    simp only [fineL] at h
    rw [travL_cons, lift_kid]
    simp only [Res1.bind, farL]
    rcases lift_none (c := (c.1 + (binds k i).1, c.2 + (binds k i).2)) h.1 with e | ⟨e, e2⟩
    · rw [e]
      simp only
      rcases liftL_none (i := i + 1) (c := c) (k := k) h.2 with e | ⟨e, e2⟩
      · rw [e]; exact .inl rfl
      · rw [e]; exact .inr ⟨rfl, by rw [e2, Bool.or_true]⟩
    · rw [e]; exact .inr ⟨rfl, by rw [e2, Bool.true_or]⟩
theorem liftS_none {k : Int} : ∀ {ts : List T} {c : Int × Int}, fineL ts → (travS (liftTr 0 0) k ts c = .ok ts) ∨ (travS (liftTr 0 0) k ts c = .bad 100 ∧ farL ts = true)
  | [], c, h => .inl (travS_nil _ _)
  | t :: ts, c, h => by
    simp only [fineL] at h
    rw [travS_cons, lift_kid]
    simp only [Res1.bind, farL]
    rcases lift_none (c := (c.1 + 0, c.2 + more k)) h.1 with e | ⟨e, e2⟩
    · rw [e]
      simp only
      rcases liftS_none (c := c) (k := k) h.2 with e | ⟨e, e2⟩
      · rw [e]; exact .inl rfl
      · rw [e]; exact .inr ⟨rfl, by rw [e2, Bool.or_true]⟩
    · rw [e]; exact .inr ⟨rfl, by rw [e2, Bool.true_or]⟩
theorem liftB_none {k : Int} : ∀ {bs : List Br} {c : Int × Int}, fineB k bs → (travB (liftTr 0 0) k bs c = .ok bs) ∨ (travB (liftTr 0 0) k bs c = .bad 100 ∧ farB bs = true)
  | [], c, h => .inl (travB_nil _ _)
  | .mk f ks :: bs, c, h => by
    simp only [fineB] at h
    obtain ⟨h1, h2, h3, h4⟩ := h
    rw [travB_cons, lift_face_def]
    simp only [Br.face, Br.kids, farB]
    rw [rowLift_zero]
    simp only [Res1.bind]
    rcases liftS_none (c := c) (k := k) h3 with e | ⟨e, e2⟩
    · rw [e]
      simp only
      rcases liftB_none (c := c) h4 with e | ⟨e, e2⟩
      · rw [e]; exact .inl rfl
      · rw [e]; exact .inr ⟨rfl, by rw [e2, Bool.or_true]⟩
    · rw [e]; exact .inr ⟨rfl, by rw [e2, Bool.true_or]⟩
end
/-! Lifting variables is refused for one reason alone. -/
mutual
theorem var_bad {a : Int} : ∀ {t : T} {c : Int × Int} {e : Int}, trav (liftTr a 0) t c = .bad e → e = 100
  | .mk k n nm r ks ss, c, e, h => by
    rw [trav_eq] at h
    simp only [T.kind, T.n, T.name, T.r, T.kids, T.sys] at h
    rw [lift_own_eq, rowLift_zero] at h
    simp only [Res1.bind] at h
    by_cases h6 : k = 1 ∧ c.1 ≤ n ∧ 1000000000 - a < n
    · rw [if_pos h6] at h; injection h with h; exact h.symm
    · rw [if_neg h6] at h
      simp only at h
      cases h1 : travL (liftTr a 0) k 0 ks c with
      | bad e' => rw [h1] at h; injection h with h; exact h ▸ varL_bad h1
      | ok x =>
        rw [h1] at h
        simp only at h
        cases h2 : travB (liftTr a 0) k ss c with
        | bad e' => rw [h2] at h; injection h with h; exact h ▸ varB_bad h2
        | ok y => rw [h2] at h; cases h
theorem varL_bad {a k : Int} : ∀ {ts : List T} {i : Nat} {c : Int × Int} {e : Int}, travL (liftTr a 0) k i ts c = .bad e → e = 100
  | [], i, c, e, h => by rw [travL_nil] at h; cases h
  | t :: ts, i, c, e, h => by
    rw [travL_cons, lift_kid] at h
    simp only [Res1.bind] at h
    cases h1 : trav (liftTr a 0) t (c.1 + (binds k i).1, c.2 + (binds k i).2) with
    | bad e' => rw [h1] at h; injection h with h; exact h ▸ var_bad h1
    | ok x =>
      rw [h1] at h
      simp only at h
      cases h2 : travL (liftTr a 0) k (i + 1) ts c with
      | bad e' => rw [h2] at h; injection h with h; exact h ▸ varL_bad h2
      | ok y => rw [h2] at h; cases h
theorem varS_bad {a k : Int} : ∀ {ts : List T} {c : Int × Int} {e : Int}, travS (liftTr a 0) k ts c = .bad e → e = 100
  | [], c, e, h => by rw [travS_nil] at h; cases h
  | t :: ts, c, e, h => by
    rw [travS_cons, lift_kid] at h
    simp only [Res1.bind] at h
    cases h1 : trav (liftTr a 0) t (c.1 + 0, c.2 + more k) with
    | bad e' => rw [h1] at h; injection h with h; exact h ▸ var_bad h1
    | ok x =>
      rw [h1] at h
      simp only at h
      cases h2 : travS (liftTr a 0) k ts c with
      | bad e' => rw [h2] at h; injection h with h; exact h ▸ varS_bad h2
      | ok y => rw [h2] at h; cases h
theorem varB_bad {a k : Int} : ∀ {bs : List Br} {c : Int × Int} {e : Int}, travB (liftTr a 0) k bs c = .bad e → e = 100
  | [], c, e, h => by rw [travB_nil] at h; cases h
  | .mk f ks :: bs, c, e, h => by
    rw [travB_cons, lift_face_def] at h
    simp only [Br.face, Br.kids] at h
    rw [rowLift_zero] at h
    simp only [Res1.bind] at h
    cases h1 : travS (liftTr a 0) k ks c with
    | bad e' => rw [h1] at h; injection h with h; exact h ▸ varS_bad h1
    | ok x =>
      rw [h1] at h
      simp only at h
      cases h2 : travB (liftTr a 0) k bs c with
      | bad e' => rw [h2] at h; injection h with h; exact h ▸ varB_bad h2
      | ok y => rw [h2] at h; cases h
end
def asRes (r : Res1 T) : Int × T := match r with
  | .ok u => (0, u)
  | .bad e => (e, t0)
theorem guard_as {t : T} {ns : List Int} {r : Res1 T} (h : formedP t = 0) (h2 : ns.all (fun n => decide (0 ≤ n)) = true) : guardRes t ns r = asRes r := by
  cases r with
  | ok u => exact guard_ok h h2 rfl
  | bad e => exact guard_bad h h2 rfl
theorem most_in64 {b : Int} (h0 : 0 ≤ b) (h1 : b ≤ 1000000) : 0 ≤ most b := by rw [most_of (by unfold in64; omega) h0]; omega
theorem both_as {t : T} {v d : Int} (h : formedP t = 0) (hv : 0 ≤ v ∧ v ≤ 1000000) (hd : 0 ≤ d) : bothRes t v d = asRes ((Vl v t).bind fun u => Dl d u) :=
  guard_as h (by have := most_in64 hv.1 hv.2; simp [hv.1, hd, this])
theorem vars_as {t : T} {b : Int} (h : formedP t = 0) (hv : 0 ≤ b ∧ b ≤ 1000000) : varsRes t 0 b = asRes (Vl b t) := by
  have := most_in64 hv.1 hv.2
  exact guard_as h (by simp [hv.1, this])
theorem dims_as {t : T} {b : Int} (h : formedP t = 0) (hv : 0 ≤ b) : dimsRes t 0 b = asRes (Dl b t) := guard_as h (by simp [hv])
theorem unformed {t : T} {ns : List Int} {r : Res1 T} (h : formedP t ≠ 0) : (guardRes t ns r).1 ≠ 0 ∧ (guardRes t ns r).2 = t0 := by rw [guard_form h]; exact ⟨h, rfl⟩
theorem formed_t0 : formedP t0 ≠ 0 := by
  intro h
  have := formed_kind h
  simp [t0, T.kind] at this
theorem rowLift_bad {l : List Cl} {f b e : Int} (h : rowLift b l f = .bad e) : e ≠ 0 := by
  unfold rowLift at h
  split at h
  · cases h
  · split at h
    · cases h
    · rename_i h2; injection h with h; exact h ▸ h2
mutual
theorem lift_bad_ne' {vb db : Int} : ∀ {t : T} {c : Int × Int} {e : Int}, trav (liftTr vb db) t c = .bad e → e ≠ 0
  | .mk k n nm r ks ss, c, e, h => by
    rw [trav_eq] at h
    simp only [T.kind, T.n, T.name, T.r, T.kids, T.sys] at h
    rw [lift_own_eq] at h
    cases h0 : rowLift db r c.2 with
    | bad e' => rw [h0] at h; injection h with h; exact h ▸ rowLift_bad h0
    | ok g =>
      rw [h0] at h
      simp only [Res1.bind] at h
      by_cases h6 : k = 1 ∧ c.1 ≤ n ∧ 1000000000 - vb < n
      · rw [if_pos h6] at h; injection h with h; subst h; decide
      · rw [if_neg h6] at h
        simp only at h
        cases h1 : travL (liftTr vb db) k 0 ks c with
        | bad e' => rw [h1] at h; injection h with h; exact h ▸ liftL_bad_ne h1
        | ok x =>
          rw [h1] at h
          simp only at h
          cases h2 : travB (liftTr vb db) k ss c with
          | bad e' => rw [h2] at h; injection h with h; exact h ▸ liftB_bad_ne h2
          | ok y => rw [h2] at h; cases h
theorem liftL_bad_ne {vb db k : Int} : ∀ {ts : List T} {i : Nat} {c : Int × Int} {e : Int}, travL (liftTr vb db) k i ts c = .bad e → e ≠ 0
  | [], i, c, e, h => by rw [travL_nil] at h; cases h
  | t :: ts, i, c, e, h => by
    rw [travL_cons, lift_kid] at h
    simp only [Res1.bind] at h
    cases h1 : trav (liftTr vb db) t (c.1 + (binds k i).1, c.2 + (binds k i).2) with
    | bad e' => rw [h1] at h; injection h with h; exact h ▸ lift_bad_ne' h1
    | ok x =>
      rw [h1] at h
      simp only at h
      cases h2 : travL (liftTr vb db) k (i + 1) ts c with
      | bad e' => rw [h2] at h; injection h with h; exact h ▸ liftL_bad_ne h2
      | ok y => rw [h2] at h; cases h
theorem liftS_bad_ne {vb db k : Int} : ∀ {ts : List T} {c : Int × Int} {e : Int}, travS (liftTr vb db) k ts c = .bad e → e ≠ 0
  | [], c, e, h => by rw [travS_nil] at h; cases h
  | t :: ts, c, e, h => by
    rw [travS_cons, lift_kid] at h
    simp only [Res1.bind] at h
    cases h1 : trav (liftTr vb db) t (c.1 + 0, c.2 + more k) with
    | bad e' => rw [h1] at h; injection h with h; exact h ▸ lift_bad_ne' h1
    | ok x =>
      rw [h1] at h
      simp only at h
      cases h2 : travS (liftTr vb db) k ts c with
      | bad e' => rw [h2] at h; injection h with h; exact h ▸ liftS_bad_ne h2
      | ok y => rw [h2] at h; cases h
theorem liftB_bad_ne {vb db k : Int} : ∀ {bs : List Br} {c : Int × Int} {e : Int}, travB (liftTr vb db) k bs c = .bad e → e ≠ 0
  | [], c, e, h => by rw [travB_nil] at h; cases h
  | .mk f ks :: bs, c, e, h => by
    rw [travB_cons, lift_face_def] at h
    simp only [Br.face, Br.kids] at h
    cases h0 : rowLift db f c.2 with
    | bad e' => rw [h0] at h; injection h with h; exact h ▸ rowLift_bad h0
    | ok g =>
      rw [h0] at h
      simp only [Res1.bind] at h
      cases h1 : travS (liftTr vb db) k ks c with
      | bad e' => rw [h1] at h; injection h with h; exact h ▸ liftS_bad_ne h1
      | ok x =>
        rw [h1] at h
        simp only at h
        cases h2 : travB (liftTr vb db) k bs c with
        | bad e' => rw [h2] at h; injection h with h; exact h ▸ liftB_bad_ne h2
        | ok y => rw [h2] at h; cases h
end
theorem lift_bad_ne {vb db : Int} {t : T} {c : Int × Int} {e : Int} (h : trav (liftTr vb db) t c = .bad e) : (asRes (.bad e)).1 ≠ 0 := lift_bad_ne' h
theorem adds_none {t : T} (h : formedP t = 0) : ((bothRes t 0 0).1 = 0 ∧ (bothRes t 0 0).2 = t) ∨ ((bothRes t 0 0).1 = 100 ∧ farT t = true) := by
  rw [both_as h (by omega) (by omega)]
  have hf := (formed_fine.mp h).2
  rcases lift_none (c := (0, 0)) hf with e | ⟨e, e2⟩
  · refine .inl ?_
    have : ((Vl 0 t).bind fun u => Dl 0 u) = .ok t := by rw [show Vl 0 t = .ok t from e]; exact e
    rw [this]; exact ⟨rfl, rfl⟩
  · refine .inr ?_
    have : ((Vl 0 t).bind fun u => Dl 0 u) = .bad 100 := by rw [show Vl 0 t = .bad 100 from e]; rfl
    rw [this]; exact ⟨rfl, e2⟩
theorem both_L {t : T} {a b : Int} (hf : fineT t) (ha : 0 ≤ a) : ((Vl a t).bind fun u => Dl b u) = (Vl a t).bind fun _ => Ll a b t := by
  cases h : Vl a t with
  | bad e => rfl
  | ok u => exact fuse (fuse_VD ha) hf ⟨rfl, rfl⟩ h
theorem L_V {t u : T} {a b : Int} (hf : fineT t) (ha : 0 ≤ a) (h : Ll a b t = .ok u) : ∃ w, Vl a t = .ok w := told (told_less ha (by omega) (.inr rfl)) hf rfl h
theorem adds_adds {t : T} {a b c : Int} (h : formedP t = 0) (ha : 0 ≤ a ∧ a ≤ 20) (hb : 0 ≤ b ∧ b ≤ 20) (hc : 0 ≤ c ∧ c ≤ 20) :
    ((bothRes t a b).1 = 0 → (bothRes (bothRes t a b).2 c 0).1 = (bothRes t (a + c) b).1 ∧ (bothRes (bothRes t a b).2 c 0).2 = (bothRes t (a + c) b).2) ∧ ((bothRes t a b).1 ≠ 0 → (bothRes t (a + c) b).1 ≠ 0) := by
  have hf := (formed_fine.mp h).2
  rw [both_as (v := a) h (by omega) (by omega), both_as (v := a + c) h (by omega) (by omega), both_L hf ha.1, both_L (a := a + c) hf (by omega)]
  cases hV : Vl a t with
  | bad e =>
    have e1 := var_bad hV
    subst e1
    refine ⟨fun h0 => (by cases h0), fun _ => ?_⟩
    cases hL : (Vl (a + c) t).bind fun _ => Ll (a + c) b t with
    | bad e =>
      cases hW : Vl (a + c) t with
      | bad e2 => rw [hW] at hL; injection hL with hL; have := var_bad hW; subst hL; rw [this]; decide
      | ok w =>
        exfalso
        obtain ⟨w2, h2⟩ := told (told_less (a := a + c) (a' := a) (b := 0) ha.1 (by omega) (.inr rfl)) hf rfl hW
        rw [show trav (liftTr a 0) t (0, 0) = _ from hV] at h2; cases h2
    | ok w =>
      obtain ⟨x, hx, _⟩ := Res1.bind_ok hL
      obtain ⟨w2, h2⟩ := told (told_less (a := a + c) (a' := a) (b := 0) ha.1 (by omega) (.inr rfl)) hf rfl hx
      rw [show trav (liftTr a 0) t (0, 0) = _ from hV] at h2; cases h2
  | ok u =>
    simp only [Res1.bind]
    cases hL : Ll a b t with
    | bad e =>
      refine ⟨fun h0 => ?_, fun _ => ?_⟩
      · -- the error's number is 0: then nothing of it is a refusal at all
        exact absurd h0 (lift_bad_ne hL)
      · intro h0
        cases hW : Vl (a + c) t with
        | bad e2 => rw [hW] at h0; have := var_bad hW; subst this; cases h0
        | ok w =>
          rw [hW] at h0
          cases hM : Ll (a + c) b t with
          | bad e3 => rw [hM] at h0; exact absurd h0 (lift_bad_ne hM)
          | ok x =>
            obtain ⟨w2, h2⟩ := told (told_less (a := a + c) (a' := a) (b := b) ha.1 (by omega) (.inl rfl)) hf rfl hM
            rw [show trav (liftTr a b) t (0, 0) = _ from hL] at h2; cases h2
    | ok x =>
      refine ⟨fun _ => ?_, fun h0 => absurd rfl h0⟩
      have hx := lift_formed ha.1 h hL
      show (bothRes x c 0).1 = _ ∧ (bothRes x c 0).2 = _
      rw [both_as hx (by omega) (by omega)]
      have e1 : Vl c x = Ll (a + c) b t := fuse (fuse_LV ha.1 hc.1) hf ⟨rfl, rfl⟩ hL
      rw [e1]
      cases hM : Ll (a + c) b t with
      | ok y =>
        have e2 : Dl 0 y = .ok y := by rw [show Dl 0 y = Ll (a + c) b t from fuse (fuse_L0 (a := a + c) (by omega)) hf ⟨rfl, rfl⟩ hM, hM]
        obtain ⟨w, hw⟩ := L_V hf (by omega) hM
        rw [hw]
        simp only [Res1.bind]
        rw [e2]
        exact ⟨rfl, rfl⟩
      | bad e3 =>
        have e4 : e3 = 100 := var_bad (e1.trans hM)
        subst e4
        cases hW : Vl (a + c) t with
        | bad e2 => have := var_bad hW; subst this; exact ⟨rfl, rfl⟩
        | ok w => exact ⟨rfl, rfl⟩
theorem adds_order {t : T} {a b : Int} (h : formedP t = 0) (ha : 0 ≤ a ∧ a ≤ 20) (hb : 0 ≤ b ∧ b ≤ 20) (hh : (varsRes t 0 a).1 = 0) :
    ((dimsRes (varsRes t 0 a).2 0 b).1 = 0 ↔ ((dimsRes t 0 b).1 = 0 ∧ (varsRes (dimsRes t 0 b).2 0 a).1 = 0)) ∧ (dimsRes (varsRes t 0 a).2 0 b).2 = (varsRes (dimsRes t 0 b).2 0 a).2 ∧ (dimsRes (varsRes t 0 a).2 0 b).2 = (bothRes t a b).2 := by
  have hf := (formed_fine.mp h).2
  rw [vars_as h (by omega)] at hh ⊢
  rw [dims_as h hb.1, both_as h (by omega) hb.1, both_L hf ha.1]
  cases hV : Vl a t with
  | bad e => rw [hV] at hh; have := var_bad hV; subst this; cases hh
  | ok u =>
    have hu := lift_formed ha.1 h hV
    show ((dimsRes u 0 b).1 = 0 ↔ _) ∧ (dimsRes u 0 b).2 = _ ∧ (dimsRes u 0 b).2 = (asRes (Ll a b t)).2
    rw [dims_as hu hb.1, show Dl b u = Ll a b t from fuse (fuse_VD ha.1) hf ⟨rfl, rfl⟩ hV]
    cases hD : Dl b t with
    | bad e =>
      have h1 := unformed (ns := [0, a, most a]) (r := varsR t0 0 a) formed_t0
      cases hL : Ll a b t with
      | bad e2 =>
        refine ⟨⟨fun h0 => absurd h0 (lift_bad_ne hL), fun h0 => absurd h0.1 (lift_bad_ne hD)⟩, ?_, rfl⟩
        exact h1.2.symm
      | ok x =>
        obtain ⟨w2, h2⟩ := told (told_less (a := a) (a' := 0) (b := b) (by omega) ha.1 (.inl rfl)) hf rfl hL
        rw [show trav (liftTr 0 b) t (0, 0) = _ from hD] at h2; cases h2
    | ok p =>
      have hp := lift_formed (vb := 0) (by omega) h hD
      show (_ ↔ (0 : Int) = 0 ∧ (varsRes p 0 a).1 = 0) ∧ _ = (varsRes p 0 a).2 ∧ _
      rw [vars_as hp (by omega), show Vl a p = Ll a b t from fuse (fuse_DV ha.1) hf ⟨rfl, rfl⟩ hD]
      exact ⟨⟨fun h => ⟨rfl, h⟩, fun h => h.2⟩, rfl, rfl⟩
theorem far_eq (t : T) : farT t = ((decide (t.kind = 1) && decide (1000000000 < t.n)) || farL t.kids || farB t.sys) := by
  obtain ⟨k, n, nm, r, ks, ss⟩ := t
  rw [farT]; rfl
theorem farL_any : ∀ l : List T, farL l = l.any farT
  | [] => by simp [farL]
  | t :: l => by simp [farL, farL_any l]
theorem farB_any : ∀ l : List Br, farB l = l.any fun b => farL b.kids
  | [] => by simp [farB]
  | .mk f ks :: l => by simp [farB, farB_any l, Br.kids]
theorem far_own {t : T} (h : t.kind = 1 ∧ 1000000000 < t.n) : farT t = true := by rw [far_eq, decide_eq_true h.1, decide_eq_true h.2]; rfl
theorem far_kid {t : T} {i : Nat} (hi : i < t.kids.length) (h : farT (t.kids.getD i t0) = true) : farT t = true := by
  rw [far_eq, farL_any, List.any_eq_true.mpr ⟨_, getD_mem hi, h⟩, Bool.or_true]; rfl
theorem far_sys {t : T} {s k : Nat} (hs : s < t.sys.length) (hk : k < (t.sys.getD s br0).kids.length) (h : farT ((t.sys.getD s br0).kids.getD k t0) = true) : farT t = true := by
  rw [far_eq, farB_any, List.any_eq_true.mpr ⟨_, getD_mem hs, by rw [farL_any, List.any_eq_true.mpr ⟨_, getD_mem hk, h⟩]⟩, Bool.or_true]
theorem farL_none {l : List T} (h : ∀ k, k < l.length → farT (l.getD k t0) = false) : farL l = false := by
  rw [farL_any, List.any_eq_false]
  intro x hx
  obtain ⟨j, hj, e⟩ := List.mem_iff_getElem.mp hx
  have := h j hj
  rw [getD_get (d := t0) hj, e] at this
  rw [this]; decide
theorem far_none {t : T} (h : ¬ (t.kind = 1 ∧ 1000000000 < t.n)) (h2 : ∀ j, j < t.kids.length → farT (t.kids.getD j t0) = false) (h3 : ∀ j, j < t.sys.length → farL (t.sys.getD j br0).kids = false) : farT t = false := by
  rw [far_eq, farL_none h2, farB_any]
  have h4 : (t.sys.any fun b => farL b.kids) = false := by
    rw [List.any_eq_false]
    intro x hx
    obtain ⟨j, hj, e⟩ := List.mem_iff_getElem.mp hx
    have := h3 j hj
    rw [getD_get (d := br0) hj, e] at this
    rw [this]; decide
  rw [h4]
  by_cases h5 : t.kind = 1
  · rw [decide_eq_true h5, decide_eq_false (fun h6 => h ⟨h5, h6⟩)]; rfl
  · rw [decide_eq_false h5]; rfl
theorem adds_last {t : T} {a b : Int} (h : formedP t = 0) (ha : 0 ≤ a ∧ a ≤ 20) (hb : 0 ≤ b ∧ b ≤ 20) :
    (decide ((varsRes t 0 a).1 ≠ 0) || (((decide ((dimsRes (varsRes t 0 a).2 0 b).1 = 0) == (decide ((dimsRes t 0 b).1 = 0) && decide ((varsRes (dimsRes t 0 b).2 0 a).1 = 0))) && decide ((dimsRes (varsRes t 0 a).2 0 b).2 = (varsRes (dimsRes t 0 b).2 0 a).2)) && (decide ((dimsRes (varsRes t 0 a).2 0 b).1 ≠ (bothRes t a b).1) || decide ((dimsRes (varsRes t 0 a).2 0 b).2 = (bothRes t a b).2)))) = true := by
  by_cases q0 : (varsRes t 0 a).1 = 0
  · obtain ⟨q1, q2, q3⟩ := adds_order h ha hb q0
    have e1 : decide ((dimsRes (varsRes t 0 a).2 0 b).1 = 0) = (decide ((dimsRes t 0 b).1 = 0) && decide ((varsRes (dimsRes t 0 b).2 0 a).1 = 0)) := by
      rw [Bool.eq_iff_iff, Bool.and_eq_true, decide_eq_true_iff, decide_eq_true_iff, decide_eq_true_iff]; exact q1
    rw [e1, decide_eq_true q2, decide_eq_true q3]
    simp
  · rw [decide_eq_true q0]; rfl
end Go.Hy
namespace Go.Hy
set_option linter.unusedVariables false
set_option linter.unusedSimpArgs false
set_option linter.unusedSectionVars false
theorem St.litI {B : Base} {Γ : List Fact} {Ms : List Res} {w : World} {b : Nat} {e : TypeId} {cs : List Value} (l : List Int) (hs : St B Γ (boxR b cs e :: Ms) w) {hBp : Prop} (hB : hBp) (hc : cs = intFlat l) (hn : l.length ≤ 1000) (hu : ∀ c, c ∈ l → in64 c) : St B (IL l (some ⟨b, 0, Option.none⟩, l.length) :: Γ) Ms w :=
  (hs.boxRow (sz := 1) (m := l.length) (by rw [hc, flat_len intCells_len l]) (by unfold maxLen; omega)).settleIL hB hc rfl (by unfold reach; omega) hu
end Go.Hy
namespace Go.Hy
set_option linter.unusedVariables false
set_option linter.unusedSimpArgs false
set_option linter.unusedSectionVars false
/-! ### The chapter's examples of lifts -/
def vE (n : Int) : T := .mk 1 n ⟨#[]⟩ [] [] []
def appE : T := .mk 6 0 ⟨#[]⟩ [] [vE 0, vE 1] []
def exL : T := .mk 5 0 ⟨#[]⟩ [] [appE] []
def exA : T := .mk 5 0 ⟨#[]⟩ [] [.mk 6 0 ⟨#[]⟩ [] [vE 0, vE 3] []] []
def loopE : T := .mk 21 0 ⟨#[]⟩ [⟨3, 0⟩] [] []
def exP : T := .mk 12 0 ⟨#[]⟩ [] [loopE] []
def exQ : T := .mk 12 0 ⟨#[]⟩ [] [.mk 21 0 ⟨#[]⟩ [⟨5, 0⟩] [] []] []
theorem ex_vars : varsRes exL 0 2 = (0, exA) := by decide +kernel
theorem ex_dims : dimsRes exP 0 1 = (0, exQ) := by decide +kernel
theorem ex_vars1 : (varsRes exL 0 2).1 = 0 := by rw [ex_vars]
theorem ex_vars2 : (varsRes exL 0 2).2 = exA := by rw [ex_vars]
theorem ex_dims1 : (dimsRes exP 0 1).1 = 0 := by rw [ex_dims]
theorem ex_dims2 : (dimsRes exP 0 1).2 = exQ := by rw [ex_dims]
theorem exL_size : size exL = 4 ∧ size exP = 2 := by decide +kernel
theorem vars_okT {t : T} {f b : Int} (hb : in64 b) (h : okT t) : okT (varsRes t f b).2 := by
  refine guard_okT' (fun ha u hu => ?_)
  simp only [List.all_cons, List.all_nil, Bool.and_true, Bool.and_eq_true, decide_eq_true_eq] at ha
  exact lift_okT ⟨ha.2.1, most_le hb ha.2.1 ha.2.2⟩ h hu
theorem dims_okT {t : T} {f b : Int} (h : okT t) : okT (dimsRes t f b).2 := guard_okT' (fun _ u hu => lift_okT (by omega) h hu)
theorem both_okT {t : T} {v d : Int} (hv : in64 v) (h : okT t) : okT (bothRes t v d).2 := by
  refine guard_okT' (fun ha u hu => ?_)
  simp only [List.all_cons, List.all_nil, Bool.and_true, Bool.and_eq_true, decide_eq_true_eq] at ha
  obtain ⟨x, hx, hu⟩ := Res1.bind_ok hu
  exact lift_okT (by omega) (lift_okT ⟨ha.1, most_le hv ha.1 ha.2.2⟩ h hx) hu
theorem guard_size {t : T} {ns : List Int} {r : Res1 T} (h : ∀ u, r = .ok u → size u = size t) : size (guardRes t ns r).2 ≤ size t := by
  have h0 : size t0 ≤ size t := by have := size_pos' t; rw [show size t0 = 1 by decide +kernel]; exact this
  unfold guardRes
  split
  · exact h0
  · split
    · exact h0
    · cases r with
      | ok u => exact Nat.le_of_eq (h u rfl)
      | bad e => exact h0
theorem vars_size (t : T) (f b : Int) : size (varsRes t f b).2 ≤ size t := guard_size fun u hu => lift_size hu
theorem dims_size (t : T) (f b : Int) : size (dimsRes t f b).2 ≤ size t := guard_size fun u hu => lift_size hu
theorem both_size (t : T) (v d : Int) : size (bothRes t v d).2 ≤ size t := guard_size fun u hu => by
  obtain ⟨x, hx, hu⟩ := Res1.bind_ok hu
  rw [lift_size hu, lift_size hx]
end Go.Hy
namespace Go.Hy
set_option linter.unusedVariables false
set_option linter.unusedSimpArgs false
set_option linter.unusedSectionVars false
open Go.Proofs
set_option linter.unusedVariables false
set_option linter.unusedSimpArgs false
set_option maxRecDepth 100000
theorem dimension_spec (i : Int) : Spec Try.prog 62 #[.int .i64 i] [] [] (fun _ : Unit => .bool (decide (0 ≤ i) && decide (i < 24))) (fun _ => []) (fun _ => []) := by
  refine spec_go (args := [.int .i64 i]) Try.func62 Try.ntmps62 rfl (by exact Nat.le_of_ble_eq_true rfl) fun B hB => ?_
  refine go_seq ?_
  refine go_region ⟨_, Try.func62⟩ rfl ?_
  refine q0 rfl (o_assign ?_)
  refine rg_nil ?_
  refine go_seq ?_
  refine go_region ⟨_, Try.func62⟩ rfl ?_
  refine q0 rfl (o_move ?_)
  refine q0 rfl (o_geq ?_)
  refine q0 rfl (o_move ?_)
  refine qI rfl rfl rfl wl_ (fun hg5 => o_move ?_) (fun hg5 => ?_)
  · refine qT rfl rfl rfl (o_lss ?_)
    refine q0 rfl (o_pickT ?_)
    refine q0 rfl (o_assign ?_)
    refine rg_nil ?_
    refine ret1 Try.func62 Try.results62 wn_ () (by first | (simp_all; done) | (simp_all; omega)) (fun w hs => hs.none)
  · refine qF rfl rfl rfl ?_
    refine q0 rfl (o_pickF ?_)
    refine q0 rfl (o_assign ?_)
    refine rg_nil ?_
    refine ret1 Try.func62 Try.results62 wn_ () (by first | (simp_all; done) | (simp_all; omega)) (fun w hs => hs.none)
theorem maskRight_spec (s : Nat) (hs : s < 4294967296) : Spec Try.prog 96 #[.int .u32 (s : Int)] [] [] (fun _ : Unit => .bool (decide (s < 16777216))) (fun _ => []) (fun _ => []) := by
  refine spec_go (args := [.int .u32 (s : Int)]) Try.func96 Try.ntmps96 rfl (by exact Nat.le_of_ble_eq_true rfl) fun B hB => ?_
  refine go_seq ?_
  refine go_region ⟨_, Try.func96⟩ rfl ?_
  refine q0 rfl (o_assign ?_)
  refine rg_nil ?_
  refine go_seq ?_
  refine go_region ⟨_, Try.func96⟩ rfl ?_
  refine q0 rfl (o_move ?_)
  refine q0 rfl (o_andNotU32 ?_ (b := 16777215))
  refine q0 rfl (o_eqI ?_ (b := 0))
  refine q0 rfl (o_assign ?_)
  refine rg_nil ?_
  refine ret1 Try.func96 Try.results96 wn_ () (by rw [andNot_zero hs]) (fun w hs => hs.none)
theorem withoutNone_spec (s : Nat) (hs : s < 4294967296) : Spec Try.prog 61 #[.int .u32 (s : Int), .int .i64 (-1)] [] [] (fun _ : Unit => .int .u32 ((s &&& 16777215 : Nat) : Int)) (fun _ => []) (fun _ => []) := by
  refine spec_go (args := [.int .u32 (s : Int), .int .i64 (-1)]) Try.func61 Try.ntmps61 rfl (by exact Nat.le_of_ble_eq_true rfl) fun B hB => ?_
  refine go_seq ?_
  refine go_region ⟨_, Try.func61⟩ rfl ?_
  refine q0 rfl (o_assign ?_)
  refine rg_nil ?_
  refine go_seq ?_
  refine go_region ⟨_, Try.func61⟩ rfl ?_
  refine q0 rfl (o_move ?_)
  refine q0 rfl (o_andU32 ?_ (b := 16777215))
  refine q0 rfl (o_assign ?_)
  refine rg_nil ?_
  refine go_seq ?_
  refine go_seq ?_
  refine go_region ⟨_, Try.func61⟩ rfl ?_
  refine q0 rfl (o_move ?_)
  refine q0 rfl (o_call Try.call62 (dimension_spec (-1)) (fun x8 => ?_))
  refine q0 rfl (o_not ?_)
  refine rg_nil ?_
  refine go_condI (fun h9 => ?_) (fun h9 => ?_)
  · refine go_seq ?_
    refine go_region ⟨_, Try.func61⟩ rfl ?_
    refine q0 rfl (o_move ?_)
    refine q0 rfl (o_assign ?_)
    refine rg_nil ?_
    refine ret1 Try.func61 Try.results61 wn_ () rfl (fun w hs => hs.none)
  · exact absurd h9 (by decide)
theorem fDims_spec : FDims := by
  intro l a
  refine spec_go (args := [sl a l.length]) Try.func41 Try.ntmps41 rfl (by exact Nat.le_of_ble_eq_true rfl) fun B hB => ?_
  refine go_openCL (l := l) (a := a) (fun hl1 hA1 hU1 => ?_)
  refine go_seq ?_
  refine go_region ⟨_, Try.func41⟩ rfl ?_
  refine q0 rfl (o_assign ?_)
  refine rg_nil ?_
  refine go_seq ?_
  refine go_region ⟨_, Try.func41⟩ rfl ?_
  refine q0 rfl (o_assign ?_)
  refine rg_nil ?_
  refine go_seq ?_
  refine go_seq ?_
  refine go_region ⟨_, Try.func41⟩ rfl ?_
  refine q0 rfl (o_move ?_)
  refine q0 rfl (o_len ?_)
  refine q0 rfl (o_move ?_)
  refine rg_nil ?_
  refine go_block ?_
  refine go_loopI (X := Nat) (fun i => i ≤ l.length) (fun i => [(3, .int .u32 (orUpto l i : Int)), (6, sl a l.length), (7, .int .i64 (l.length : Int)), (8, .int .i64 (i : Int))]) (fun i => [CL l a]) (fun i => []) (fun i => l.length - i) (0) (Nat.zero_le _) (by exact ⟨rfl, rfl, rfl, rfl, trivial⟩) ?_ ?_
  · exact fun w hs => hs.less (by simp)
  · intro i base0 hi next0
    refine go_seq ?_
    refine go_region ⟨_, Try.func41⟩ rfl ?_
    refine q0 rfl (o_lss ?_)
    refine rg_nil ?_
    refine go_seq ?_
    refine go_condI (fun h9 => ?_) (fun h9 => ?_)
    · have hlt : i < l.length := by have := of_decide_eq_true h9; omega
      obtain ⟨bk, o, hav⟩ := hA1 (by omega)
      have hu := hU1 _ (getD_mem (d := cl0) hlt)
      have hup := orUpto_lt hU1 i
      have hor : (l.getD i cl0).pos ||| (l.getD i cl0).neg < 4294967296 := Nat.or_lt_two_pow (n := 32) hu.1 hu.2
      refine go_skip ?_
      refine go_seq ?_
      refine go_block ?_
      refine go_seq ?_
      refine go_region ⟨_, Try.func41⟩ rfl ?_
      refine q0 rfl (o_ixN ?_)
      refine q0 rfl (o_ldC ?_)
      refine q0 rfl (o_new fun b5 => ?_)
      refine q0 rfl (o_st ?_)
      refine rg_nil ?_
      refine go_region ⟨_, Try.func41⟩ rfl ?_
      refine q0 rfl (o_move ?_)
      refine q0 rfl (o_fa ?_)
      refine q0 rfl (o_ld ?_)
      refine q0 rfl (o_fa ?_)
      refine q0 rfl (o_ld ?_)
      refine q0 rfl (o_orU32 ?_ (a := (l.getD i cl0).pos) (b := (l.getD i cl0).neg) (ha := hu.1) (hb := hu.2))
      refine q0 rfl (o_orU32 ?_ (a := orUpto l i) (b := (l.getD i cl0).pos ||| (l.getD i cl0).neg))
      refine q0 rfl (o_assign ?_)
      refine rg_nil ?_
      refine go_inBlock ?_
      refine go_region ⟨_, Try.func41⟩ rfl ?_
      refine q0 rfl (o_add ?_)
      refine q0 rfl (o_move ?_)
      refine rg_nil ?_
      refine go_state (fun w hs => ?_) (next0 (i + 1) _ hlt (by omega) ⟨by rw [orUpto_succ hlt]; rfl, rfl, rfl, rfl, trivial⟩)
      exact (hs.less (by simp)).bare
    · have hge : i = l.length := by have := of_decide_eq_false h9; omega
      refine go_exit rfl ?_
      refine go_seq ?_
      refine go_region ⟨_, Try.func41⟩ rfl ?_
      refine q0 rfl (o_move ?_)
      refine q0 rfl (o_call Try.call61 (withoutNone_spec (orUpto l i) (orUpto_lt hU1 i)) (fun x21 => ?_))
      refine q0 rfl (o_assign ?_)
      refine rg_nil ?_
      refine ret1 Try.func41 Try.results41 wn_ () (by rw [fDims_eq, ← hge]) (fun w hs => hs.none)
theorem clauseRight_spec (c : Cl) (hc : u32 c) : Spec Try.prog 88 #[.agg (clCells c).toArray] [] [] (fun _ : Unit => .bool (right24 c)) (fun _ => []) (fun _ => []) := by
  refine spec_go (args := [.agg (clCells c).toArray]) Try.func88 Try.ntmps88 rfl (by exact Nat.le_of_ble_eq_true rfl) fun B hB => ?_
  refine go_seq ?_
  refine go_region ⟨_, Try.func88⟩ rfl ?_
  refine q0 rfl (o_box fun b1 => ?_)
  refine q0 rfl (o_assign ?_)
  refine rg_nil ?_
  refine go_seq ?_
  refine go_region ⟨_, Try.func88⟩ rfl ?_
  refine q0 rfl (o_fa ?_)
  refine q0 rfl (o_ld ?_)
  refine q0 rfl (o_call Try.call96 (maskRight_spec c.pos hc.1) (fun x5 => ?_))
  refine q0 rfl (o_move ?_)
  refine qI rfl rfl rfl wl_ (fun hg6 => o_fa ?_) (fun hg6 => ?_)
  · refine qT rfl rfl rfl (o_ld ?_)
    refine qT rfl rfl rfl (o_call Try.call96 (maskRight_spec c.neg hc.2) (fun x9 => ?_))
    refine q0 rfl (o_pickT ?_)
    refine q0 rfl (o_assign ?_)
    refine rg_nil ?_
    refine ret1 Try.func88 Try.results88 wn_ () (by first | (simp_all [right24]; done) | (simp_all [right24]; intros; omega)) (fun w hs => hs.none)
  · refine qF rfl rfl rfl ?_
    refine qF rfl rfl rfl ?_
    refine q0 rfl (o_pickF ?_)
    refine q0 rfl (o_assign ?_)
    refine rg_nil ?_
    refine ret1 Try.func88 Try.results88 wn_ () (by first | (simp_all [right24]; done) | (simp_all [right24]; intros; omega)) (fun w hs => hs.none)
theorem clash_spec (c : Cl) (hc : u32 c) : Spec Try.prog 82 #[.agg (clCells c).toArray] [] [] (fun _ : Unit => .bool (clash c)) (fun _ => []) (fun _ => []) := by
  refine spec_go (args := [.agg (clCells c).toArray]) Try.func82 Try.ntmps82 rfl (by exact Nat.le_of_ble_eq_true rfl) fun B hB => ?_
  refine go_seq ?_
  refine go_region ⟨_, Try.func82⟩ rfl ?_
  refine q0 rfl (o_box fun b1 => ?_)
  refine q0 rfl (o_assign ?_)
  refine rg_nil ?_
  refine go_seq ?_
  refine go_region ⟨_, Try.func82⟩ rfl ?_
  refine q0 rfl (o_fa ?_)
  refine q0 rfl (o_ld ?_)
  refine q0 rfl (o_fa ?_)
  refine q0 rfl (o_ld ?_)
  refine q0 rfl (o_andU32 ?_ (a := c.pos) (b := c.neg) (ha := hc.1) (hb := hc.2))
  refine q0 rfl (o_neI ?_ (b := 0))
  refine q0 rfl (o_assign ?_)
  refine rg_nil ?_
  refine ret1 Try.func82 Try.results82 wn_ () (by simp only [clash]; congr 1; apply decide_eq_decide.mpr; omega) (fun w hs => hs.none)
theorem meet_spec (c d : Cl) (hc : u32 c) (hd : u32 d) : Spec Try.prog 97 #[.agg (clCells c).toArray, .agg (clCells d).toArray] [] [] (fun _ : Unit => .agg (clCells (meetC c d)).toArray) (fun _ => []) (fun _ => []) := by
  refine spec_go (args := [.agg (clCells c).toArray, .agg (clCells d).toArray]) Try.func97 Try.ntmps97 rfl (by exact Nat.le_of_ble_eq_true rfl) fun B hB => ?_
  refine go_seq ?_
  refine go_region ⟨_, Try.func97⟩ rfl ?_
  refine q0 rfl (o_box fun b2 => ?_)
  refine q0 rfl (o_box fun b3 => ?_)
  refine q0 rfl (o_new fun b4 => ?_)
  refine rg_nil ?_
  refine go_seq ?_
  refine go_region ⟨_, Try.func97⟩ rfl ?_
  refine q0 rfl (o_fa ?_)
  refine q0 rfl (o_ld ?_)
  refine q0 rfl (o_fa ?_)
  refine q0 rfl (o_ld ?_)
  refine q0 rfl (o_orU32 ?_ (a := c.pos) (b := d.pos) (ha := hc.1) (hb := hd.1))
  refine q0 rfl (o_fa ?_)
  refine q0 rfl (o_ld ?_)
  refine q0 rfl (o_fa ?_)
  refine q0 rfl (o_ld ?_)
  refine q0 rfl (o_orU32 ?_ (a := c.neg) (b := d.neg) (ha := hc.2) (hb := hd.2))
  refine q0 rfl (o_build (cs := clCells (meetC c d)) ?_)
  refine q0 rfl (o_st ?_)
  refine rg_nil ?_
  refine retC Try.func97 Try.results97 () rfl mm_ rfl rfl rfl rfl (fun w hs => hs.none)
theorem below_spec (c d : Cl) (hc : u32 c) (hd : u32 d) : Spec Try.prog 91 #[.agg (clCells c).toArray, .agg (clCells d).toArray] [] [] (fun _ : Unit => .bool (below c d)) (fun _ => []) (fun _ => []) := by
  refine spec_go (args := [.agg (clCells c).toArray, .agg (clCells d).toArray]) Try.func91 Try.ntmps91 rfl (by exact Nat.le_of_ble_eq_true rfl) fun B hB => ?_
  refine go_seq ?_
  refine go_region ⟨_, Try.func91⟩ rfl ?_
  refine q0 rfl (o_box fun b2 => ?_)
  refine q0 rfl (o_box fun b3 => ?_)
  refine q0 rfl (o_assign ?_)
  refine rg_nil ?_
  refine go_seq ?_
  refine go_draw (pn := 1000000) (tn := false) (A := [0, 0, 3, 0, 15, 31]) (l := [0, 1, 3, 2, 4, 5]) (fin := []) Tab.mixed ⟨_, Try.func91⟩ (by rfl) ?_
  refine n0 rfl (v_lds ?_)
  refine n0 rfl (v_lds ?_)
  refine n0 rfl (v_lds ?_)
  refine n0 rfl (v_call Try.call97 (meet_spec c d hc hd) (fun x7 => ?_))
  refine n0 rfl (v_eqC ?_ (c := meetC c d) (c' := c))
  refine n0 rfl (v_assign ?_)
  refine NV.done ?_
  refine rg_nil ?_
  refine ret1 Try.func91 Try.results91 wn_ () (by rw [below_meet]) (fun w hs => hs.none)
end Go.Hy
/-
  DERIVED: THE SHELF's CONTRACTS AT THIS DUMP, IN PLAIN WORDS (tools/lay-plain.mjs out of 'TrySort.lean', which tools/lay-shelf.mjs wrote): THE SAME DECLARATIONS UNDER THE SAME NAMES: 'import', 'namespace', 'open', 'def', 'theorem' AND NOTHING ELSE: no command of the shelf's: FOR A HAND-IN. Each laying: the table of numbers ('.._ren') and one theorem, a field a fact of the dump's own or the kernel's comparison; each contract: ONE APPLICATION.
-/
namespace Go.Proofs
set_option linter.unusedVariables false
set_option linter.unusedSimpArgs false
set_option linter.unusedSectionVars false
open Go.Shelf
def Try.sortL_ren : Go.Shelf.Ren := ⟨fun | 6 => 92 | 15 => 99 | 14 => 98 | 28 => 109 | 29 => 110 | 20 => 101 | 21 => 102 | 22 => 103 | 23 => 104 | 24 => 105 | 25 => 106 | 26 => 107 | 27 => 108 | 46 => 112 | 47 => 113 | 48 => 114 | 49 => 115 | 50 => 116 | 57 => 117 | n => n, fun | 22 => 22 | 24 => 53 | 25 => 105 | 3 => 3 | 39 => 40 | 0 => 0 | 53 => 38 | 55 => 90 | 4 => 4 | 46 => 117 | 45 => 116 | 50 => 121 | 5 => 5 | 9 => 9 | 66 => 125 | 70 => 129 | 76 => 131 | 77 => 69 | n => n, fun | n => n⟩
theorem Try.sortL : Go.Proofs.SlLaysF0.n6 Try.prog Try.sortL_ren := {
  mixed := by kernel_rfl
  f6 := ⟨Try.f92.name, by decide, Try.func92.trans (congrArg some (by kernel_rfl))⟩
  f14 := ⟨Try.f98.name, by decide, Try.func98.trans (congrArg some (by kernel_rfl))⟩
  f15 := Try.func99.trans (congrArg some (by kernel_rfl))
  f20 := ⟨Try.f101.name, by decide, Try.func101.trans (congrArg some (by kernel_rfl))⟩
  f21 := ⟨Try.f102.name, by decide, Try.func102.trans (congrArg some (by kernel_rfl))⟩
  f22 := ⟨Try.f103.name, by decide, Try.func103.trans (congrArg some (by kernel_rfl))⟩
  f23 := ⟨Try.f104.name, by decide, Try.func104.trans (congrArg some (by kernel_rfl))⟩
  f24 := ⟨Try.f105.name, by decide, Try.func105.trans (congrArg some (by kernel_rfl))⟩
  f25 := ⟨Try.f106.name, by decide, Try.func106.trans (congrArg some (by kernel_rfl))⟩
  f26 := ⟨Try.f107.name, by decide, Try.func107.trans (congrArg some (by kernel_rfl))⟩
  f27 := ⟨Try.f108.name, by decide, Try.func108.trans (congrArg some (by kernel_rfl))⟩
  f28 := Try.func109.trans (congrArg some (by kernel_rfl))
  f29 := Try.func110.trans (congrArg some (by kernel_rfl))
  f46 := ⟨Try.f112.name, by decide, Try.func112.trans (congrArg some (by kernel_rfl))⟩
  f47 := Try.func113.trans (congrArg some (by kernel_rfl))
  f48 := Try.func114.trans (congrArg some (by kernel_rfl))
  f49 := ⟨Try.f115.name, by decide, Try.func115.trans (congrArg some (by kernel_rfl))⟩
  f50 := ⟨Try.f116.name, by decide, Try.func116.trans (congrArg some (by kernel_rfl))⟩
  f57 := ⟨Try.f117.name, by decide, Try.func117.trans (congrArg some (by kernel_rfl))⟩
  t0 := Try.underlying0
  a0 := Try.isAgg0
  z0 := Try.sizeOf0
  v0 := Try.zeroValue0
  t3 := Try.underlying3
  a3 := Try.isAgg3
  z3 := Try.sizeOf3
  v3 := Try.zeroValue3
  t4 := Try.underlying4
  a4 := Try.isAgg4
  z4 := Try.sizeOf4
  v4 := Try.zeroValue4
  t5 := Try.underlying5
  a5 := Try.isAgg5
  z5 := Try.sizeOf5
  v5 := Try.zeroValue5
  t9 := Try.underlying9
  a9 := Try.isAgg9
  z9 := Try.sizeOf9
  v9 := Try.zeroValue9
  t22 := Try.underlying22
  a22 := Try.isAgg22
  z22 := Try.sizeOf22
  v22 := Try.zeroValue22
  t25 := Try.underlying105
  a25 := Try.isAgg105
  z25 := Try.sizeOf105
  v25 := Try.zeroValue105
  t39 := Try.underlying40
  a39 := Try.isAgg40
  z39 := Try.sizeOf40
  v39 := Try.zeroValue40
  t45 := Try.underlying116
  a45 := Try.isAgg116
  z45 := Try.sizeOf116
  v45 := Try.zeroValue116
  t46 := Try.underlying117
  a46 := Try.isAgg117
  z46 := Try.sizeOf117
  v46 := Try.zeroValue117
  t50 := Try.underlying121
  a50 := Try.isAgg121
  z50 := Try.sizeOf121
  v50 := Try.zeroValue121
  t53 := Try.underlying38
  a53 := Try.isAgg38
  z53 := Try.sizeOf38
  v53 := Try.zeroValue38
  t55 := Try.underlying90
  a55 := Try.isAgg90
  z55 := Try.sizeOf90
  v55 := Try.zeroValue90
  t66 := Try.underlying125
  a66 := Try.isAgg125
  z66 := Try.sizeOf125
  v66 := Try.zeroValue125
  t70 := Try.underlying129
  a70 := Try.isAgg129
  z70 := Try.sizeOf129
  v70 := Try.zeroValue129
  t76 := Try.underlying131
  a76 := Try.isAgg131
  z76 := Try.sizeOf131
  v76 := Try.zeroValue131
  t77 := Try.underlying69
  a77 := Try.isAgg69
  z77 := Try.sizeOf69
  v77 := Try.zeroValue69 }
end Go.Proofs
namespace Go.Hy
set_option linter.unusedVariables false
set_option linter.unusedSimpArgs false
set_option linter.unusedSectionVars false
open Go.Proofs
set_option linter.unusedVariables false
set_option linter.unusedSimpArgs false
set_option maxRecDepth 100000
open Go.Shelf Go.RowKit Go.Lib Go.Sort
theorem isNaN_k (a : Int) (W : World) : Calls Try.prog 111 #[.int .u32 a] W fun e w' => e = .returned (.bool false) ∧ w' = W := by
  go_enter Try.func111, Try.ntmps111
  go_wp2
  go_ret
  exact ⟨by simp, rfl⟩
theorem compare_k (a b : Int) (W : World) : Calls Try.prog 100 #[.int .u32 a, .int .u32 b] W fun e w' => e = .returned (.int .i64 (compareInt a b)) ∧ w' = W := by
  go_enter Try.func100, Try.ntmps100
  go_wp2_with (go_at_call 111; refine (isNaN_k _ _).mono ?_; rintro e w' ⟨rfl, rfl⟩)
  all_goals (go_ret; refine ⟨?_, rfl⟩; unfold Lib.compareInt; (repeat' split) <;> first | rfl | (exfalso; omega))
def cmpC (c d : Cl) : Int := if c.pos = d.pos then compareInt c.neg d.neg else compareInt c.pos d.pos
set_option maxHeartbeats 1000000 in
theorem cmp_k (c d : Cl) (W : World) : Calls Try.prog 93 #[.agg #[.int .u32 c.pos, .int .u32 c.neg], .agg #[.int .u32 d.pos, .int .u32 d.neg]] W fun e w' => e = .returned (.int .i64 (cmpC c d)) ∧ ∃ q os', w' = grow (W.drewN q) os' := by
  have hcon := fun a b W' => compare_k a b W'
  have e1 : cmpC c d = if (c.pos : Int) = d.pos then compareInt c.neg d.neg else compareInt c.pos d.pos := by unfold cmpC; simp only [Int.ofNat_inj]
  generalize hr : cmpC c d = r at e1 ⊢
  go_enter Try.func93, Try.ntmps93
  go_wp2_with (go_at_call 100; refine (hcon _ _ _).mono ?_; rintro e w' ⟨rfl, rfl⟩)
  all_goals (go_ret; refine ⟨?_, 0, _, by rw [alloc_eq_grow, alloc_eq_grow, grow_grow]; rfl⟩)
  all_goals (rw [e1]; simp_all)
/-! ### The order of clauses -/
instance : Inhabited Cl := ⟨cl0⟩
theorem cmp_lt (c d : Cl) : ltOf cmpC c d = lessC c d := by
  unfold ltOf cmpC lessC compareInt
  by_cases h : c.pos = d.pos
  · simp only [h, if_true]
    by_cases h2 : c.neg < d.neg
    · rw [if_pos (by omega)]; simp [h2]
    · rw [if_neg (by omega)]
      split <;> simp [h2]
  · simp only [h, if_false]
    by_cases h2 : c.pos < d.pos
    · rw [if_pos (by omega)]; simp [h2]
    · rw [if_neg (by omega), if_pos (by omega)]
      simp [h2]
theorem cmp_swo : SWO (ltOf cmpC) where
  irrefl x := by rw [cmp_lt]; simp [lessC]
  trans x y z h1 h2 := by
    rw [cmp_lt] at *
    simp only [lessC, Bool.or_eq_true, Bool.and_eq_true, decide_eq_true_eq] at *
    omega
  ntrans x y z h1 h2 := by
    rw [cmp_lt] at *
    simp only [lessC, Bool.or_eq_false_iff, Bool.and_eq_false_iff, decide_eq_false_iff_not] at *
    omega
theorem flatK_toList (d : Array Cl) : (flatK clCells 2 d).toList = clFlat d.toList := by
  apply List.ext_getElem?
  intro t
  have hl : (clFlat d.toList).length = d.size * 2 := by rw [flat_len clCells_len]; simp
  by_cases ht : t < d.size * 2
  · have h1 : (flatK clCells 2 d).toList[t]? = some (clCells d[t / 2]!)[t % 2]! := by
      have hs : t < (flatK clCells 2 d).size := by rw [size_flatK]; exact ht
      rw [Array.getElem?_toList, Array.getElem?_eq_getElem hs]
      have := get_flatK clCells 2 d t ht
      rw [getElem!_pos _ t hs] at this
      rw [this]
    rw [h1]
    have hd : t / 2 < d.toList.length := by simp; omega
    have e : d.toList.getD (t / 2) cl0 = d[t / 2]! := by
      have : t / 2 < d.size := by simpa using hd
      rw [getElem!_pos d (t / 2) this, List.getD_eq_getElem?_getD, List.getElem?_eq_getElem hd]; simp
    have h2 : (clCells (d.toList.getD (t / 2) cl0))[t % 2]? = some (clCells d[t / 2]!)[t % 2]! := by
      rw [e]
      have : t % 2 < (clCells d[t / 2]!).length := by rw [clCells_len]; omega
      rw [List.getElem?_eq_getElem this, getElem!_pos (clCells d[t / 2]!) (t % 2) this]
    have := flat_at clCells_len cl0 d.toList (t / 2) (t % 2) _ hd h2
    rw [show t / 2 * 2 + t % 2 = t by omega] at this
    exact this.symm
  · rw [List.getElem?_eq_none (by simp; omega), List.getElem?_eq_none (by omega)]
theorem put_cells (d : Array Cl) (l : List Cl) (rest : List Value) (hs : d.size = l.length) : putCells id 0 (flatK clCells 2 d) (clFlat l ++ rest).toArray = (clFlat d.toList ++ rest).toArray := by
  apply Array.ext_getElem?
  intro t
  have hl : (clFlat l).length = d.size * 2 := by rw [flat_len clCells_len, hs]
  have hl2 : (clFlat d.toList).length = d.size * 2 := by rw [flat_len clCells_len]; simp
  simp only [putCells, Array.getElem?_mapIdx, List.getElem?_toArray, size_flatK, Nat.zero_add, Nat.zero_le, true_and, Nat.sub_zero, id]
  by_cases ht : t < d.size * 2
  · rw [List.getElem?_append_left (by omega), List.getElem?_append_left (by omega)]
    have h1 : (clFlat d.toList)[t]? = some (flatK clCells 2 d)[t]! := by
      rw [← flatK_toList, Array.getElem?_toList]
      have hsz : t < (flatK clCells 2 d).size := by rw [size_flatK]; exact ht
      rw [Array.getElem?_eq_getElem hsz, getElem!_pos _ t hsz]
    rw [h1]
    obtain ⟨v, hv⟩ : ∃ v, (clFlat l)[t]? = some v := ⟨_, List.getElem?_eq_getElem (by omega)⟩
    rw [hv, Option.map_some, if_pos ht]
  · rw [List.getElem?_append_right (by omega), List.getElem?_append_right (by omega), hl, hl2]
    cases rest[t - d.size * 2]? with
    | none => rfl
    | some v => rw [Option.map_some, if_neg ht]
/-- slices.SortFunc at clauses, by clause.Cmp: a row of the caller's own. -/
theorem sort_spec (l : List Cl) (g cap : Nat) (rest : List Value) (hn : l.length < 4611686018427387904) :
    Spec Try.prog 92 #[.slice (some ⟨g, 0, none⟩) l.length cap, .func (.func 93) #[] #[]] [] [boxR g (clFlat l ++ rest) 53] (fun _ : {l' : List Cl // l'.Perm l ∧ l'.Pairwise fun a b => lessC b a = false} => .tuple #[]) (fun _ => []) (fun x => [boxR g (clFlat x.1 ++ rest) 53]) := by
  intro ok w hok hs
  have hg : w.heap[g]? = some (.cells (clFlat l ++ rest).toArray 53 (0, 0)) := hs.res _ List.mem_cons_self w (fun _ _ => rfl)
  have hlt : g < w.heap.size := (Array.getElem?_eq_some_iff.mp hg).1
  have hu : Try.prog.underlying 53 = some (.struct (TyF.fC Try.prog)) := TyF.uC
  have aE : ∀ w, (isAgg (Try.sortL_ren.t 24)).run Try.prog w = .ok true w := fun w => by
    show (isAgg 53).run Try.prog w = _
    simp [isAgg, run_underlying hu]
  have zE : ∀ w, (Go.sizeOf (Try.sortL_ren.t 24)).run Try.prog w = .ok 2 w := fun w => run_size0 (P := Try.prog) (t := 53) rfl w
  have hH : HoldsK clCells 2 w g 0 l.toArray := by
    intro j hj
    rw [size_flatK] at hj
    have e : (flatK clCells 2 l.toArray).toList = clFlat l := by rw [flatK_toList]
    have hsz : j < (flatK clCells 2 l.toArray).size := by rw [size_flatK]; exact hj
    have h1 : (clFlat l)[j]? = some (flatK clCells 2 l.toArray)[j]! := by
      rw [← e, Array.getElem?_toList, Array.getElem?_eq_getElem hsz, getElem!_pos _ j hsz]
    refine ⟨?_, by simp [World.frozen?, hg]⟩
    have hlen : j < (clFlat l).length := (List.getElem?_eq_some_iff.mp h1).1
    simp only [World.cell?, hg, Nat.zero_add, Option.isSome_none, Bool.false_eq_true, if_false, List.getElem?_toArray, id]
    rw [List.getElem?_append_left hlen]; exact h1
  have hc := AnyQ.slices_SortFunc (P := Try.prog) Try.sortL 2 aE zE clCells clCells_len (fun x v hv => by
      simp only [clCells, List.mem_cons, List.not_mem_nil, or_false] at hv; rcases hv with rfl | rfl <;> rfl) cmpC cmp_swo 93 #[] g 0 cap l.toArray w Try.call93
    (fun m os dk hsz x y => cmp_k x y _) hH hlt (by simpa using hn)
  have hc2 : Calls Try.prog 92 #[.slice (some ⟨g, 0, none⟩) l.length cap, .func (.func 93) #[] #[]] w _ := hc
  refine hc2.mono ?_
  rintro e w' ⟨he, d', n, os, hp, hsd, hw⟩
  have hsize : d'.size = l.length := by simpa using hp.1
  have hperm : d'.toList.Perm l := by
    have := hp.2.2
    have e1 : d'.extract 0 l.toArray.size = d' := by rw [show l.toArray.size = d'.size by simp [hsize]]; simp
    have e2 : l.toArray.extract 0 l.toArray.size = l.toArray := by simp
    rw [e1, e2] at this
    exact this
  have hsorted : d'.toList.Pairwise fun a b => lessC b a = false := by
    rw [List.pairwise_iff_getElem]
    intro i j hi hj hij
    have hi' : i < d'.size := by simpa using hi
    have hj' : j < d'.size := by simpa using hj
    have := hsd i j (Nat.zero_le _) hij (by simp; omega)
    rw [cmp_lt, getElem!_pos d' j hj', getElem!_pos d' i hi'] at this
    simpa using this
  have hg' : w'.heap[g]? = some (.cells (clFlat d'.toList ++ rest).toArray 53 (0, 0)) := by
    rw [hw]
    show ((mapBlock (Go.Sort.ahead w n) g (putCells id 0 (flatK clCells 2 d'))).heap ++ os)[g]? = _
    rw [Array.getElem?_append_left (by simp [mapBlock, Go.Sort.ahead]; exact hlt)]
    simp only [mapBlock, Go.Sort.ahead, Array.getElem?_modify, if_true, hg, Option.map_some, onCells]
    rw [put_cells d' l rest hsize]
  have hold : ∀ b, b < w.heap.size → b ≠ g → w'.heap[b]? = w.heap[b]? := by
    intro b hb hne
    rw [hw]
    show ((mapBlock (Go.Sort.ahead w n) g (putCells id 0 (flatK clCells 2 d'))).heap ++ os)[b]? = _
    rw [Array.getElem?_append_left (by simp [mapBlock, Go.Sort.ahead]; exact hb)]
    simp only [mapBlock, Go.Sort.ahead, Array.getElem?_modify, if_neg (Ne.symm hne)]
  have hsz' : w.heap.size ≤ w'.heap.size := by rw [hw]; simp [sortWorldK, putRowK, Go.Sort.ahead]
  refine ⟨⟨d'.toList, hperm, hsorted⟩, he, ?_⟩
  have h0 : St ⟨ok, domAll [boxR g (clFlat l ++ rest) 53], w⟩ [] ([boxR g (clFlat l ++ rest) 53]) w := hs
  refine h0.turn (m' := boxR g (clFlat d'.toList ++ rest) 53) ⟨by rw [hw]; rfl, by rw [hw]; rfl, by rw [hw]; rfl, hsz', fun b hb hn => hold b hb hn⟩ (fun w2 hw2 => by
    show w2.heap[g]? = _
    rw [hw2 g rfl]; exact hg') (fun b hb => ?_)
  have hb : b = g := hb
  subst hb
  exact ⟨by omega, .inl rfl⟩
end Go.Hy
namespace Go.Hy
set_option linter.unusedVariables false
set_option linter.unusedSimpArgs false
set_option linter.unusedSectionVars false
open Go.Proofs
set_option linter.unusedVariables false
set_option linter.unusedSimpArgs false
set_option maxRecDepth 100000
theorem permNil {M : List Res} : M.Perm (M ++ []) := by rw [List.append_nil]
theorem index_spec (l : List Cl) (a : SH) (c : FuncId) (cap : List Value) (FΓ : List Fact) (M : List Res) (g : Cl → Bool) (hc : ∀ (args : Array Value) (w : World), (callFunc c args).run Try.prog w = .ok (.enter c args) w) (hcl : ∀ x, x ∈ l → Spec Try.prog c (keyV x :: cap).toArray FΓ M (fun _ : Unit => .bool (g x)) (fun _ => []) (fun _ => M)) : Spec Try.prog 94 #[sl a l.length, .func (.func c) #[] cap.toArray] (CL l a :: FΓ) M (fun _ : Unit => .int .i64 (idxP g l)) (fun _ => []) (fun _ => M) := by
  refine spec_go (args := [sl a l.length, .func (.func c) #[] cap.toArray]) Try.func94 Try.ntmps94 rfl (by exact Nat.le_of_ble_eq_true rfl) fun B hB => ?_
  refine go_openCL (l := l) (a := a) (fun hl1 hA1 hU1 => ?_)
  refine go_seq ?_
  refine go_region ⟨_, Try.func94⟩ rfl ?_
  refine q0 rfl (o_assign ?_)
  refine rg_nil ?_
  refine go_seq ?_
  refine go_seq ?_
  refine go_region ⟨_, Try.func94⟩ rfl ?_
  refine q0 rfl (o_move ?_)
  refine q0 rfl (o_len ?_)
  refine q0 rfl (o_move ?_)
  refine rg_nil ?_
  refine go_block ?_
  refine go_loopI (X := Nat) (fun i => i ≤ l.length ∧ ∀ j, j < i → g (l.getD j cl0) = false) (fun i => [(0, sl a l.length), (1, .func (.func c) #[] cap.toArray), (7, .int .i64 (l.length : Int)), (8, .int .i64 (i : Int))]) (fun i => CL l a :: FΓ) (fun i => M) (fun i => l.length - i) (0) (⟨Nat.zero_le _, fun j hj => by omega⟩) (by exact ⟨rfl, rfl, rfl, rfl, trivial⟩) ?_ ?_
  · exact fun w hs => hs
  · intro i base0 ⟨hi, hok⟩ next0
    refine go_seq ?_
    refine go_region ⟨_, Try.func94⟩ rfl ?_
    refine q0 rfl (o_lss ?_)
    refine rg_nil ?_
    refine go_seq ?_
    refine go_condI (fun h9 => ?_) (fun h9 => ?_)
    · have hlt : i < l.length := by have := of_decide_eq_true h9; omega
      obtain ⟨bk, o, hav⟩ := hA1 (by omega)
      refine go_skip ?_
      refine go_seq ?_
      refine go_block ?_
      refine go_seq ?_
      refine go_region ⟨_, Try.func94⟩ rfl ?_
      refine q0 rfl (o_move ?_)
      refine q0 rfl (o_assign ?_)
      refine rg_nil ?_
      refine go_seq ?_
      refine go_region ⟨_, Try.func94⟩ rfl ?_
      refine q0 rfl (o_move ?_)
      refine q0 rfl (o_move ?_)
      refine q0 rfl (o_move ?_)
      refine q0 rfl (o_ixN ?_)
      refine q0 rfl (o_ldC ?_)
      refine q0 rfl (o_callC hc (hcl _ (getD_mem hlt)) (cap := cap) (fun x16 => ?_) (hm := permNil))
      refine rg_nil ?_
      refine go_condI (fun h16 => ?_) (fun h16 => ?_)
      · refine go_seq ?_
        refine go_region ⟨_, Try.func94⟩ rfl ?_
        refine q0 rfl (o_move ?_)
        refine q0 rfl (o_assign ?_)
        refine rg_nil ?_
        refine ret1 Try.func94 Try.results94 wn_ () (by rw [idxP_at hlt h16 hok]) (fun w hs => (hs.less (by simp)).dropR)
      · refine go_skip ?_
        refine go_inBlock ?_
        refine go_region ⟨_, Try.func94⟩ rfl ?_
        refine q0 rfl (o_add ?_)
        refine q0 rfl (o_move ?_)
        refine rg_nil ?_
        refine go_state (fun w hs => ?_) (next0 (i + 1) _ ⟨hlt, fun j hj => (by rcases Nat.lt_succ_iff_lt_or_eq.mp hj with h | h; exact hok j h; subst h; exact h16)⟩ (by omega) ⟨rfl, rfl, rfl, rfl, trivial⟩)
        exact (hs.less (by simp +contextual)).dropR
    · have hge : i = l.length := by have := of_decide_eq_false h9; omega
      refine go_exit rfl ?_
      refine go_seq ?_
      refine go_region ⟨_, Try.func94⟩ rfl ?_
      refine q0 rfl (o_assign ?_)
      refine rg_nil ?_
      refine ret1 Try.func94 Try.results94 wn_ () (by rw [idxP_none (by rw [← hge]; exact hok)]) (fun w hs => hs.less (by simp))
theorem contains_spec (l : List Cl) (a : SH) (c : FuncId) (cap : List Value) (FΓ : List Fact) (M : List Res) (g : Cl → Bool) (hc : ∀ (args : Array Value) (w : World), (callFunc c args).run Try.prog w = .ok (.enter c args) w) (hcl : ∀ x, x ∈ l → Spec Try.prog c (keyV x :: cap).toArray FΓ M (fun _ : Unit => .bool (g x)) (fun _ => []) (fun _ => M)) : Spec Try.prog 81 #[sl a l.length, .func (.func c) #[] cap.toArray] (CL l a :: FΓ) M (fun _ : Unit => .bool (l.any g)) (fun _ => []) (fun _ => M) := by
  refine spec_go (args := [sl a l.length, .func (.func c) #[] cap.toArray]) Try.func81 Try.ntmps81 rfl (by exact Nat.le_of_ble_eq_true rfl) fun B hB => ?_
  refine go_seq ?_
  refine go_region ⟨_, Try.func81⟩ rfl ?_
  refine q0 rfl (o_assign ?_)
  refine rg_nil ?_
  refine go_seq ?_
  refine go_region ⟨_, Try.func81⟩ rfl ?_
  refine q0 rfl (o_move ?_)
  refine q0 rfl (o_move ?_)
  refine q0 rfl (o_call Try.call94 (index_spec l a c cap FΓ M g hc hcl) (fun x7 => ?_) (hm := permNil))
  refine q0 rfl (o_geq ?_)
  refine q0 rfl (o_assign ?_)
  refine rg_nil ?_
  refine ret1 Try.func81 Try.results81 wn_ () (by rw [idxP_nonneg]) (fun w hs => (hs.less (by simp)).dropR)
theorem least11_spec (c d : Cl) (hc : u32 c) (hd : u32 d) (b : Nat) : Spec Try.prog 90 #[keyV d, .pointer (some ⟨b, 0, none⟩)] [] [boxR b (clCells c) 53] (fun _ : Unit => .bool (!decide (c = d) && below c d)) (fun _ => []) (fun _ => [boxR b (clCells c) 53]) := by
  refine spec_go (args := [keyV d, .pointer (some ⟨b, 0, none⟩)]) Try.func90 Try.ntmps90 rfl (by exact Nat.le_of_ble_eq_true rfl) fun B hB => ?_
  refine go_seq ?_
  refine go_region ⟨_, Try.func90⟩ rfl ?_
  refine q0 rfl (o_box fun b2 => ?_)
  refine q0 rfl (o_assign ?_)
  refine rg_nil ?_
  refine go_seq ?_
  refine go_region ⟨_, Try.func90⟩ rfl ?_
  refine q0 rfl (o_lds ?_)
  refine q0 rfl (o_lds ?_)
  refine q0 rfl (o_neC ?_ (c := c) (c' := d))
  refine q0 rfl (o_move ?_)
  refine qI rfl rfl rfl wl_ (fun hg7 => o_lds ?_) (fun hg7 => ?_)
  · refine qT rfl rfl rfl (o_lds ?_)
    refine qT rfl rfl rfl (o_call Try.call91 (below_spec c d hc hd) (fun x10 => ?_))
    refine q0 rfl (o_pickT ?_)
    refine q0 rfl (o_assign ?_)
    refine rg_nil ?_
    refine ret1 Try.func90 Try.results90 wn_ () (by simp_all) (fun w hs => (hs.less (by simp)).drop)
  · refine qF rfl rfl rfl ?_
    refine qF rfl rfl rfl ?_
    refine q0 rfl (o_pickF ?_)
    refine q0 rfl (o_assign ?_)
    refine rg_nil ?_
    refine ret1 Try.func90 Try.results90 wn_ () (by simp_all) (fun w hs => (hs.less (by simp)).drop)
theorem least1_spec (l : List Cl) (a : SH) (c : Cl) (hc : u32 c) (b : Nat) : Spec Try.prog 89 #[keyV c, .pointer (some ⟨b, 0, none⟩)] [CL l a] [boxR b [sl a l.length] 22] (fun _ : Unit => .bool (needless l c)) (fun _ => []) (fun _ => [boxR b [sl a l.length] 22]) := by
  refine spec_go (args := [keyV c, .pointer (some ⟨b, 0, none⟩)]) Try.func89 Try.ntmps89 rfl (by exact Nat.le_of_ble_eq_true rfl) fun B hB => ?_
  refine go_openCL (l := l) (a := a) (fun hl1 hA1 hU1 => ?_)
  refine go_seq ?_
  refine go_region ⟨_, Try.func89⟩ rfl ?_
  refine q0 rfl (o_box fun b2 => ?_)
  refine q0 rfl (o_assign ?_)
  refine rg_nil ?_
  refine go_seq ?_
  refine go_region ⟨_, Try.func89⟩ rfl ?_
  refine q0 rfl (o_ld ?_)
  refine q0 rfl (o_func ?_)
  refine q0 rfl (o_call Try.call81 (contains_spec l a 90 [.pointer (some ⟨b2, 0, none⟩)] [] [boxR b2 (clCells c) 53] (fun d => !decide (c = d) && below c d) Try.call90 (fun d hd => least11_spec c d hc (hU1 d hd) b2)) (fun x6 => ?_))
  refine q0 rfl (o_assign ?_)
  refine rg_nil ?_
  refine ret1 Try.func89 Try.results89 wn_ () rfl (fun w hs => (hs.less (by simp)).drop)
end Go.Hy
namespace Go.Hy
set_option linter.unusedVariables false
set_option linter.unusedSimpArgs false
set_option linter.unusedSectionVars false
open Go.Proofs
set_option linter.unusedVariables false
set_option linter.unusedSimpArgs false
set_option maxRecDepth 100000
theorem clFlat_snoc (l : List Cl) (c : Cl) : clFlat (l ++ [c]) = clFlat l ++ clCells c := by simp [clFlat]
/-- slices.SortFunc at a row of the call's own. -/
theorem sortRow_spec (l : List Cl) (a : SH) (n : Nat) (hn : n = l.length) (hb : n * 8 ≤ reach) :
    Spec Try.prog 92 #[sl a n, .func (.func 93) #[] #[]] [] [rowS 2 53 a n (clFlat l)] (fun _ : {l' : List Cl // SortOf l l'} => .tuple #[]) (fun _ => []) (fun x => [rowS 2 53 a n (clFlat x.1)]) := by
  subst hn
  intro ok w hok hs
  have hown : w.ownsRow 0 53 2 (sl a l.length) l.length (clFlat l) := hs.res _ List.mem_cons_self w (fun _ _ => rfl)
  rcases hown.2 with ⟨h1, h2⟩ | ⟨g, cap, cur, h1, h2, h3, h4, h5, h6, h7⟩
  · have hl : l = [] := List.eq_nil_of_length_eq_zero h2
    subst hl
    have hc := AnyF.slices_SortFunc_none (P := Try.prog) Try.sortL a.1 a.2 (.func (.func 93) #[] #[]) w
    have hc2 : Calls Try.prog 92 #[sl a 0, .func (.func 93) #[] #[]] w _ := hc
    refine hc2.mono ?_
    rintro e w' ⟨he, hw⟩
    subst hw
    exact ⟨⟨[], List.Perm.refl _, List.Pairwise.nil⟩, he, hs⟩
  · obtain ⟨ao, ac⟩ := a
    have e1 : ao = some ⟨g, 0, none⟩ := by injection h1
    have e2 : ac = cap := by injection h1
    subst e1; subst e2
    have hfl : cur.toList = clFlat l ++ cur.toList.drop (l.length * 2) := by
      have := List.take_append_drop (l.length * 2) cur.toList
      rw [h7] at this; exact this.symm
    have hbox : St ⟨ok, domAll [rowS 2 53 (some ⟨g, 0, none⟩, ac) l.length (clFlat l)], w⟩ [] [boxR g (clFlat l ++ cur.toList.drop (l.length * 2)) 53] w := by
      refine hs.turn (m' := boxR g (clFlat l ++ cur.toList.drop (l.length * 2)) 53) (Chg.refl _ _) (fun w2 hw2 => ?_) (fun b hb => ?_)
      · show w2.heap[g]? = _
        rw [hw2 g rfl, ← hfl, Array.toArray_toList]; exact h3
      · have hb : b = g := hb
        subst hb
        exact ⟨(Array.getElem?_eq_some_iff.mp h3).1, .inl rfl⟩
    have hdom : ∀ b, domAll [rowS 2 53 (some ⟨g, 0, none⟩, ac) l.length (clFlat l)] b ↔ domAll [boxR g (clFlat l ++ cur.toList.drop (l.length * 2)) 53] b := by
      intro b
      rw [domAll_cons, domAll_cons]
      have : (rowS 2 53 (some ⟨g, 0, none⟩, ac) l.length (clFlat l)).dom b ↔ b = g := by
        show (sl (some ⟨g, 0, none⟩, ac) l.length).ownBlock = some b ↔ b = g
        simp only [sl, Value.ownBlock, Option.some.injEq]
        exact eq_comm
      rw [this]; rfl
    have hd2 : domAll [rowS 2 53 (some ⟨g, 0, none⟩, ac) l.length (clFlat l)] = domAll [boxR g (clFlat l ++ cur.toList.drop (l.length * 2)) 53] := funext fun b => propext (hdom b)
    rw [hd2] at hbox
    refine (sort_spec l g ac (cur.toList.drop (l.length * 2)) (by unfold reach at hb; omega) ok w (fun b hb => ⟨(hok b hb).1, by rw [← hd2]; exact (hok b hb).2⟩) hbox).mono ?_
    rintro e w' ⟨x, he, hs'⟩
    refine ⟨⟨x.1, x.2.1, x.2.2⟩, he, ?_⟩
    rw [hd2]
    have hlen : x.1.length = l.length := x.2.1.length_eq
    have hg : w'.heap[g]? = some (.cells (clFlat x.1 ++ cur.toList.drop (l.length * 2)).toArray 53 (0, 0)) := hs'.res _ List.mem_cons_self w' (fun _ _ => rfl)
    have hfl2 : (clFlat x.1).length = l.length * 2 := by rw [flat_len clCells_len, hlen]
    refine hs'.turn (m' := rowS 2 53 (some ⟨g, 0, none⟩, ac) l.length (clFlat x.1)) (Chg.refl _ _) (fun w2 hw2 => ⟨hfl2, .inr ⟨g, ac, (clFlat x.1 ++ cur.toList.drop (l.length * 2)).toArray, rfl, Nat.zero_le _, ?_, h4, h5, ?_, ?_⟩⟩) (fun b hb => ?_)
    · rw [hw2 g rfl]; exact hg
    · have h8 : cur.toList.length = ac * 2 := by simpa using h6
      simp only [List.size_toArray, List.length_append, List.length_drop, hfl2, h8]
      omega
    · rw [← hfl2, List.take_left]
    · have hb : (sl (some ⟨g, 0, none⟩, ac) l.length).ownBlock = some b := hb
      simp only [sl, Value.ownBlock, Option.some.injEq] at hb
      subst hb
      exact ⟨(Array.getElem?_eq_some_iff.mp hg).1, .inl rfl⟩
theorem least_own (l : List Cl) (a : SH) : Spec Try.prog 79 #[sl a l.length] [CL l a] [] (fun x : {x : SH × Int × List Cl // LeastIs l x.2} => .tuple #[sl x.1.1 x.1.2.2.length, .int .i64 x.1.2.1]) (fun _ => []) (fun x => [rowS 2 53 x.1.1 x.1.2.2.length (clFlat x.1.2.2)]) := by
  refine spec_go (args := [sl a l.length]) Try.func79 Try.ntmps79 rfl (by exact Nat.le_of_ble_eq_true rfl) fun B hB => ?_
  refine go_openCL (l := l) (a := a) (fun hl1 hA1 hU1 => ?_)
  refine go_seq ?_
  refine go_region ⟨_, Try.func79⟩ rfl ?_
  refine q0 rfl (o_assign ?_)
  refine q0 rfl (o_assign ?_)
  refine rg_nil ?_
  refine go_seq ?_
  refine go_region ⟨_, Try.func79⟩ rfl ?_
  refine q0 rfl (o_makeMap fun b12 => ?_)
  refine q0 rfl (o_assign ?_)
  refine rg_nil ?_
  refine go_seq ?_
  refine go_region ⟨_, Try.func79⟩ rfl ?_
  refine q0 rfl (o_new fun b5 => ?_)
  refine rg_nil ?_
  refine go_seq ?_
  refine go_seq ?_
  refine go_region ⟨_, Try.func79⟩ rfl ?_
  refine q0 rfl (o_move ?_)
  refine q0 rfl (o_len ?_)
  refine q0 rfl (o_move ?_)
  refine rg_nil ?_
  refine go_block ?_
  refine go_loopI (X := Nat × SH) (fun s => s.1 ≤ l.length ∧ ∀ j, j < s.1 → right24 (l.getD j cl0) = true) (fun s => [(4, .map (some b12)), (5, .pointer (some ⟨b5, 0, none⟩)), (13, sl a l.length), (14, .int .i64 (l.length : Int)), (15, .int .i64 (s.1 : Int))]) (fun s => [CL l a]) (fun s => [mapR b12 (once (l.take s.1)), boxR b5 [sl s.2 (once (l.take s.1)).length] 22, rowS 2 53 s.2 (once (l.take s.1)).length (clFlat (once (l.take s.1)))]) (fun s => l.length - s.1) ((0, (none, 0))) (⟨Nat.zero_le _, fun j hj => absurd hj (Nat.not_lt_zero _)⟩) (by exact ⟨rfl, rfl, rfl, rfl, rfl, trivial⟩) ?_ ?_
  · exact fun w hs => ((hs.less (by simp)).rowS0 2 53).perm (perm2.trans ((List.Perm.swap _ _ _).cons _))
  · intro ⟨i, aO⟩ base0 ⟨hi, hok⟩ next0
    dsimp only at hi hok next0 ⊢
    refine go_seq ?_
    refine go_region ⟨_, Try.func79⟩ rfl ?_
    refine q0 rfl (o_lss ?_)
    refine rg_nil ?_
    refine go_seq ?_
    refine go_condI (fun h16 => ?_) (fun h16 => ?_)
    · have hlt : i < l.length := by have := of_decide_eq_true h16; omega
      obtain ⟨bk, o, hav⟩ := hA1 (by omega)
      have hu := hU1 _ (getD_mem (d := cl0) hlt)
      have hol := once_take_len l i
      refine go_skip ?_
      refine go_seq ?_
      refine go_block ?_
      refine go_seq ?_
      refine go_region ⟨_, Try.func79⟩ rfl ?_
      refine q0 rfl (o_ixN ?_)
      refine q0 rfl (o_ldC ?_)
      refine q0 rfl (o_new fun b7 => ?_)
      refine q0 rfl (o_st ?_)
      refine rg_nil ?_
      refine go_seq ?_
      refine go_seq ?_
      refine go_region ⟨_, Try.func79⟩ rfl ?_
      refine q0 rfl (o_lds ?_)
      refine q0 rfl (o_call Try.call88 (clauseRight_spec (l.getD i cl0) hu) (fun x20 => ?_))
      refine q0 rfl (o_not ?_)
      refine rg_nil ?_
      refine go_condI (fun h21 => ?_) (fun h21 => ?_)
      · have hr : right24 (l.getD i cl0) = false := by simpa using h21
        refine go_seq ?_
        refine go_region ⟨_, Try.func79⟩ rfl ?_
        refine q0 rfl (o_assign ?_)
        refine q0 rfl (o_assign ?_)
        refine rg_nil ?_
        refine ret2 Try.func79 Try.results79 wn_ wn_ ⟨((none, 0), 2, []), by (unfold LeastIs; rw [all_not hlt hr]; rfl)⟩ rfl (fun w hs => (hs.less (Γ' := []) (by simp)).bare.rowS0 2 53)
      · have hr : right24 (l.getD i cl0) = true := by simpa using h21
        refine go_skip ?_
        refine go_seq ?_
        refine go_region ⟨_, Try.func79⟩ rfl ?_
        refine q0 rfl (o_move ?_)
        refine q0 rfl (o_lds ?_)
        refine q0 rfl (o_lookupM ?_)
        refine q0 rfl (o_not ?_)
        refine rg_nil ?_
        refine go_condI (fun h25 => ?_) (fun h25 => ?_)
        · have hnin : l.getD i cl0 ∉ once (l.take i) := by simpa using h25
          refine go_seq ?_
          refine go_region ⟨_, Try.func79⟩ rfl ?_
          refine q0 rfl (o_move ?_)
          refine q0 rfl (o_lds ?_)
          refine q0 rfl (o_mapUpd ?_)
          refine rg_nil ?_
          refine go_region ⟨_, Try.func79⟩ rfl ?_
          refine q0 rfl (o_ld ?_)
          refine q0 rfl (o_lds ?_)
          refine q0 rfl (o_lit1 fun b30 => ?_)
          refine q0 rfl (o_appS (fun a31 => ?_)  )
          refine q0 rfl (o_st ?_)
          refine rg_nil ?_
          refine go_inBlock ?_
          refine go_region ⟨_, Try.func79⟩ rfl ?_
          refine q0 rfl (o_add ?_)
          refine q0 rfl (o_move ?_)
          refine rg_nil ?_
          have hst := once_take_succ hlt
          rw [if_neg hnin] at hst
          have hlen' : (once (l.take (i + 1))).length = (once (l.take i)).length + 1 := by rw [hst]; simp
          refine go_state (fun w hs => ?_) (next0 (i + 1, a31) _ ⟨hlt, fun j hj => (by rcases Nat.lt_succ_iff_lt_or_eq.mp hj with h | h; exact hok j h; subst h; exact hr)⟩ (by simp only; omega) ⟨rfl, rfl, rfl, rfl, rfl, trivial⟩)
          dsimp only
          rw [hlen', hst, clFlat_snoc]
          exact ((hs.less (by simp)).perm perm3).dropR (A := [_, _, _])
        · refine go_skip ?_
          refine go_inBlock ?_
          refine go_region ⟨_, Try.func79⟩ rfl ?_
          refine q0 rfl (o_add ?_)
          refine q0 rfl (o_move ?_)
          refine rg_nil ?_
          have hin : l.getD i cl0 ∈ once (l.take i) := by simpa using h25
          have hst := once_take_succ hlt
          rw [if_pos hin] at hst
          refine go_state (fun w hs => ?_) (next0 (i + 1, aO) _ ⟨hlt, fun j hj => (by rcases Nat.lt_succ_iff_lt_or_eq.mp hj with h | h; exact hok j h; subst h; exact hr)⟩ (by simp only; omega) ⟨rfl, rfl, rfl, rfl, rfl, trivial⟩)
          dsimp only
          rw [hst]
          exact (hs.less (by simp)).drop
    · have hge : i = l.length := by have := of_decide_eq_false h16; omega
      have hall : l.all right24 = true := all_of (by rw [← hge]; exact hok)
      subst hge
      rw [List.take_length]
      have hUo : ∀ c, c ∈ once l → u32 c := fun c hc => hU1 c ((once_mem c l).mp hc)
      have hol := once_len l
      refine go_state (fun w hs => ((hs.perm perm2).settleCL hB rfl rfl (by omega) hUo)) ?_
      refine go_exit rfl ?_
      refine go_seq ?_
      refine go_region ⟨_, Try.func79⟩ rfl ?_
      refine q0 rfl (o_func ?_)
      refine q0 rfl (o_assign ?_)
      refine rg_nil ?_
      refine go_seq ?_
      refine go_region ⟨_, Try.func79⟩ rfl ?_
      refine q0 rfl (o_assign ?_)
      refine rg_nil ?_
      refine go_seq ?_
      refine go_seq ?_
      refine go_region ⟨_, Try.func79⟩ rfl ?_
      refine q0 rfl (o_ld ?_)
      refine q0 rfl (o_len ?_)
      refine q0 rfl (o_move ?_)
      refine rg_nil ?_
      refine go_block ?_
      refine go_loopI (X := Nat × SH) (fun s => s.1 ≤ (once l).length) (fun s => [(8, .func (.func 89) #[] [.pointer (some ⟨b5, 0, none⟩)].toArray), (9, sl s.2 (keptUpto l s.1).length), (34, sl aO (once l).length), (35, .int .i64 ((once l).length : Int)), (36, .int .i64 (s.1 : Int))]) (fun s => [CL (once l) aO]) (fun s => [boxR b5 [sl aO (once l).length] 22, rowS 2 53 s.2 (keptUpto l s.1).length (clFlat (keptUpto l s.1))]) (fun s => (once l).length - s.1) ((0, (none, 0))) (Nat.zero_le _) (by exact ⟨rfl, rfl, rfl, rfl, rfl, trivial⟩) ?_ ?_
      · exact fun w hs => (((hs.less (by simp +contextual)).rowS0 2 53).perm perm2).dropR (A := [_, _])
      · intro ⟨i, aK⟩ base1 hi next1
        dsimp only at hi next1 ⊢
        refine go_seq ?_
        refine go_region ⟨_, Try.func79⟩ rfl ?_
        refine q0 rfl (o_lss ?_)
        refine rg_nil ?_
        refine go_seq ?_
        refine go_condI (fun h37 => ?_) (fun h37 => ?_)
        · have hlt : i < (once l).length := by have := of_decide_eq_true h37; omega
          refine go_openCL (l := once l) (a := aO) (fun _ hA2 _ => ?_)
          obtain ⟨bk, o, hav⟩ := hA2 (by omega)
          have hu := hUo _ (getD_mem (d := cl0) hlt)
          have hkl := keptUpto_len l i
          refine go_skip ?_
          refine go_seq ?_
          refine go_block ?_
          refine go_seq ?_
          refine go_region ⟨_, Try.func79⟩ rfl ?_
          refine q0 rfl (o_ixN ?_)
          refine q0 rfl (o_ldC ?_)
          refine q0 rfl (o_new fun b11 => ?_)
          refine q0 rfl (o_st ?_)
          refine rg_nil ?_
          refine go_seq ?_
          refine go_region ⟨_, Try.func79⟩ rfl ?_
          refine q0 rfl (o_move ?_)
          refine q0 rfl (o_lds ?_)
          refine q0 rfl (o_callC Try.call89 (least1_spec (once l) aO ((once l).getD i cl0) hu b5) (cap := [.pointer (some ⟨b5, 0, none⟩)]) (fun x42 => ?_))
          refine q0 rfl (o_not ?_)
          refine rg_nil ?_
          refine go_condI (fun h43 => ?_) (fun h43 => ?_)
          · refine go_region ⟨_, Try.func79⟩ rfl ?_
            refine q0 rfl (o_move ?_)
            refine q0 rfl (o_lds ?_)
            refine q0 rfl (o_lit1 fun b46 => ?_)
            refine q0 rfl (o_appS (fun a47 => ?_)  )
            refine q0 rfl (o_assign ?_)
            refine rg_nil ?_
            refine go_inBlock ?_
            refine go_region ⟨_, Try.func79⟩ rfl ?_
            refine q0 rfl (o_add ?_)
            refine q0 rfl (o_move ?_)
            refine rg_nil ?_
            have hnd : needless (once l) ((once l).getD i cl0) = false := by simpa using h43
            have hst := keptUpto_succ hlt
            rw [hnd, if_neg (by decide)] at hst
            have hlen' : (keptUpto l (i + 1)).length = (keptUpto l i).length + 1 := by rw [hst]; simp
            refine go_state (fun w hs => ?_) (next1 (i + 1, a47) _ hlt (by simp only; omega) ⟨rfl, by rw [hlen']; rfl, rfl, rfl, rfl, trivial⟩)
            dsimp only
            rw [hlen', hst, clFlat_snoc]
            exact ((hs.less (by simp)).perm perm2).dropR (A := [_, _])
          · refine go_skip ?_
            refine go_inBlock ?_
            refine go_region ⟨_, Try.func79⟩ rfl ?_
            refine q0 rfl (o_add ?_)
            refine q0 rfl (o_move ?_)
            refine rg_nil ?_
            have hnd : needless (once l) ((once l).getD i cl0) = true := by simpa using h43
            have hst := keptUpto_succ hlt
            rw [hnd, if_pos rfl] at hst
            refine go_state (fun w hs => ?_) (next1 (i + 1, aK) _ hlt (by simp only; omega) ⟨rfl, by rw [hst]; rfl, rfl, rfl, rfl, trivial⟩)
            dsimp only
            rw [hst]
            exact (hs.less (by simp)).dropR (A := [_, _])
        · have hge2 : i = (once l).length := by have := of_decide_eq_false h37; omega
          subst hge2
          rw [keptUpto_all]
          refine go_exit rfl ?_
          refine go_seq ?_
          refine go_seq ?_
          refine go_region ⟨_, Try.func79⟩ rfl ?_
          refine q0 rfl (o_move ?_)
          refine q0 rfl (o_len ?_)
          refine q0 rfl (o_gtr ?_)
          refine rg_nil ?_
          refine go_condI (fun h51 => ?_) (fun h51 => ?_)
          · have h64 : 64 < (kept l).length := by have := of_decide_eq_true h51; omega
            refine go_seq ?_
            refine go_region ⟨_, Try.func79⟩ rfl ?_
            refine q0 rfl (o_assign ?_)
            refine q0 rfl (o_assign ?_)
            refine rg_nil ?_
            refine ret2 Try.func79 Try.results79 wn_ wn_ ⟨((none, 0), 3, []), by (unfold LeastIs; rw [hall, if_neg (by decide), if_pos h64])⟩ rfl (fun w hs => (hs.less (Γ' := []) (by simp)).bare.rowS0 2 53)
          · have h64 : ¬ 64 < (kept l).length := by have := of_decide_eq_false h51; omega
            refine go_skip ?_
            refine go_seq ?_
            refine go_region ⟨_, Try.func79⟩ rfl ?_
            refine q0 rfl (o_move ?_)
            refine q0 rfl (o_call Try.call92 (sortRow_spec (kept l) aK (kept l).length rfl (by unfold reach; omega)) (fun x53 => ?_))
            refine rg_nil ?_
            refine go_seq ?_
            refine go_region ⟨_, Try.func79⟩ rfl ?_
            refine q0 rfl (o_move ?_)
            refine q0 rfl (o_assign ?_)
            refine q0 rfl (o_assign ?_)
            refine rg_nil ?_
            have hpl : x53.1.length = (kept l).length := x53.2.1.length_eq
            refine ret2 Try.func79 Try.results79 wn_ wn_ ⟨(aK, 0, x53.1), by (unfold LeastIs; rw [hall, if_neg (by decide), if_neg h64]; exact ⟨rfl, x53.2⟩)⟩ (by rw [hpl]; rfl) (fun w hs => ?_)
            have h := (hs.less (Γ' := []) (by simp)).dropR (A := [_])
            rw [← hpl] at h
            exact h
theorem least_spec (l : List Cl) (a : SH) : Spec Try.prog 79 #[sl a l.length] [CL l a] [] (fun x : {x : SH × Int × List Cl // LeastIs l x.2} => .tuple #[sl x.1.1 x.1.2.2.length, .int .i64 x.1.2.1]) (fun x => [CL x.1.2.2 x.1.1]) (fun _ => []) := fun ok w hok hs => (least_own l a ok w hok hs).mono fun e w' h => by
  obtain ⟨x, he, hs'⟩ := h
  have hu := (hs.facts _ List.mem_cons_self).2
  have hx : x.1.2.2.length ≤ 64 ∧ ∀ c, c ∈ x.1.2.2 → u32 c := by
    have h := x.2
    unfold LeastIs at h
    split at h
    · rw [h]; exact ⟨Nat.zero_le _, fun c hc => by cases hc⟩
    · split at h
      · rw [h]; exact ⟨Nat.zero_le _, fun c hc => by cases hc⟩
      · rename_i h64
        exact ⟨by rw [h.2.1.length_eq]; omega, fun c hc => hu c (kept_mem (h.2.1.mem_iff.mp hc))⟩
  exact ⟨x, he, (hs'.settleCL trivial rfl rfl (by unfold reach; omega) hx.2).less (by simp)⟩
end Go.Hy
namespace Go.Hy
set_option linter.unusedVariables false
set_option linter.unusedSimpArgs false
set_option linter.unusedSectionVars false
open Go.Proofs
set_option linter.unusedVariables false
set_option linter.unusedSimpArgs false
set_option maxRecDepth 100000
theorem equal_spec (l m : List Cl) (a b : SH) : Spec Try.prog 80 #[sl a l.length, sl b m.length] [CL l a, CL m b] [] (fun _ : Unit => .bool (decide (l = m))) (fun _ => []) (fun _ => []) := by
  refine spec_go (args := [sl a l.length, sl b m.length]) Try.func80 Try.ntmps80 rfl (by exact Nat.le_of_ble_eq_true rfl) fun B hB => ?_
  refine go_openCL (l := l) (a := a) (fun hl1 hA1 hU1 => ?_)
  refine go_openCL (l := m) (a := b) (fun hl2 hA2 hU2 => ?_)
  refine go_seq ?_
  refine go_region ⟨_, Try.func80⟩ rfl ?_
  refine q0 rfl (o_assign ?_)
  refine rg_nil ?_
  refine go_seq ?_
  refine go_seq ?_
  refine go_region ⟨_, Try.func80⟩ rfl ?_
  refine q0 rfl (o_move ?_)
  refine q0 rfl (o_len ?_)
  refine q0 rfl (o_move ?_)
  refine q0 rfl (o_len ?_)
  refine q0 rfl (o_neI ?_)
  refine rg_nil ?_
  refine go_condI (fun h10 => ?_) (fun h10 => ?_)
  · have hne : ¬ l = m := fun e => by subst e; simp at h10
    refine go_seq ?_
    refine go_region ⟨_, Try.func80⟩ rfl ?_
    refine q0 rfl (o_assign ?_)
    refine rg_nil ?_
    refine ret1 Try.func80 Try.results80 wn_ () (by rw [decide_eq_false hne]) (fun w hs => hs.none)
  · have hlen : l.length = m.length := by simp at h10; omega
    refine go_skip ?_
    refine go_seq ?_
    refine go_seq ?_
    refine go_region ⟨_, Try.func80⟩ rfl ?_
    refine q0 rfl (o_move ?_)
    refine q0 rfl (o_len ?_)
    refine q0 rfl (o_move ?_)
    refine rg_nil ?_
    refine go_block ?_
    refine go_loopI (X := Nat) (fun i => i ≤ l.length ∧ ∀ j, j < i → l.getD j cl0 = m.getD j cl0) (fun i => [(0, sl a l.length), (1, sl b m.length), (12, .int .i64 (l.length : Int)), (13, .int .i64 (i : Int))]) (fun i => [CL l a, CL m b]) (fun i => []) (fun i => l.length - i) (0) (⟨Nat.zero_le _, fun j hj => by omega⟩) (by exact ⟨rfl, rfl, rfl, rfl, trivial⟩) ?_ ?_
    · exact fun w hs => hs.less (by simp +contextual)
    · intro i base0 ⟨hi, hok⟩ next0
      refine go_seq ?_
      refine go_region ⟨_, Try.func80⟩ rfl ?_
      refine q0 rfl (o_lss ?_)
      refine rg_nil ?_
      refine go_seq ?_
      refine go_condI (fun h14 => ?_) (fun h14 => ?_)
      · have hlt : i < l.length := by have := of_decide_eq_true h14; omega
        have hlt2 : i < m.length := by omega
        obtain ⟨bk, o, hav⟩ := hA1 (by omega)
        obtain ⟨bk2, o2, hav2⟩ := hA2 (by omega)
        refine go_skip ?_
        refine go_seq ?_
        refine go_block ?_
        refine go_seq ?_
        refine go_region ⟨_, Try.func80⟩ rfl ?_
        refine q0 rfl (o_move ?_)
        refine q0 rfl (o_assign ?_)
        refine rg_nil ?_
        refine go_seq ?_
        refine go_draw (pn := 1000000) (tn := false) (A := [0, 0, 3, 7, 0, 0, 48, 112, 255]) (l := [0, 1, 2, 3, 4, 5, 6, 7, 8]) (fin := []) Tab.mixed ⟨_, Try.func80⟩ (by rfl) ?_
        refine n0 rfl (v_move ?_)
        refine n0 rfl (v_move ?_)
        refine n0 rfl (v_ixN ?_)
        refine n0 rfl (v_ldC ?_)
        refine n0 rfl (v_move ?_)
        refine n0 rfl (v_move ?_)
        refine n0 rfl (v_ixN ?_)
        refine n0 rfl (v_ldC ?_)
        refine n0 rfl (v_neC ?_)
        refine NV.done ?_
        refine rg_nil ?_
        refine go_condI (fun h24 => ?_) (fun h24 => ?_)
        · refine go_seq ?_
          refine go_region ⟨_, Try.func80⟩ rfl ?_
          refine q0 rfl (o_assign ?_)
          refine rg_nil ?_
          refine ret1 Try.func80 Try.results80 wn_ () (by rw [decide_eq_false (fun e => by subst e; simp at h24)]) (fun w hs => hs.none)
        · refine go_skip ?_
          refine go_inBlock ?_
          refine go_region ⟨_, Try.func80⟩ rfl ?_
          refine q0 rfl (o_add ?_)
          refine q0 rfl (o_move ?_)
          refine rg_nil ?_
          have hb : l.getD i cl0 = m.getD i cl0 := by simpa using h24
          refine go_state (fun w hs => ?_) (next0 (i + 1) _ ⟨hlt, fun j hj => (by rcases Nat.lt_succ_iff_lt_or_eq.mp hj with h | h; exact hok j h; subst h; exact hb)⟩ (by omega) ⟨rfl, rfl, rfl, rfl, trivial⟩)
          exact hs
      · have hge : i = l.length := by have := of_decide_eq_false h14; omega
        refine go_exit rfl ?_
        refine go_seq ?_
        refine go_region ⟨_, Try.func80⟩ rfl ?_
        refine q0 rfl (o_assign ?_)
        refine rg_nil ?_
        refine ret1 Try.func80 Try.results80 wn_ () (by rw [decide_eq_true (list_eq_of hlen (by rw [← hge]; exact hok))]) (fun w hs => hs.none)
end Go.Hy
namespace Go.Hy
set_option linter.unusedVariables false
set_option linter.unusedSimpArgs false
set_option linter.unusedSectionVars false
open Go.Proofs
set_option linter.unusedVariables false
set_option linter.unusedSimpArgs false
set_option maxRecDepth 100000
theorem formRight_spec : FRight := by
  intro l a
  refine spec_go (args := [sl a l.length]) Try.func73 Try.ntmps73 rfl (by exact Nat.le_of_ble_eq_true rfl) fun B hB => ?_
  refine go_know (p := True) (fun _ _ => trivial) (fun _ => ?_)
  refine go_seq ?_
  refine go_region ⟨_, Try.func73⟩ rfl ?_
  refine q0 rfl (o_assign ?_)
  refine rg_nil ?_
  refine go_seq ?_
  refine go_region ⟨_, Try.func73⟩ rfl ?_
  refine q0 rfl (o_move ?_)
  refine q0 rfl (o_call Try.call79 (least_spec l a) (fun x7 => ?_))
  refine q0 rfl (o_move ?_)
  refine q0 rfl (o_extract ?_)
  refine q0 rfl (o_extract ?_)
  refine q0 rfl (o_assign ?_)
  refine q0 rfl (o_assign ?_)
  refine rg_nil ?_
  refine go_seq ?_
  refine go_region ⟨_, Try.func73⟩ rfl ?_
  refine q0 rfl (o_move ?_)
  refine q0 rfl (o_eqI ?_)
  refine q0 rfl (o_move ?_)
  refine qI rfl rfl rfl wl_ (fun hg12 => o_move ?_) (fun hg12 => ?_)
  · refine qT rfl rfl rfl (o_move ?_)
    refine qT rfl rfl rfl (o_call Try.call80 (equal_spec x7.1.2.2 l x7.1.1 a) (fun x15 => ?_))
    refine q0 rfl (o_pickT ?_)
    refine q0 rfl (o_assign ?_)
    refine rg_nil ?_
    have hlr := least_right x7.2
    refine ret1 Try.func73 Try.results73 wn_ () (by rw [← hlr]; simp_all) (fun w hs => hs.none)
  · refine qF rfl rfl rfl ?_
    refine qF rfl rfl rfl ?_
    refine q0 rfl (o_pickF ?_)
    refine q0 rfl (o_assign ?_)
    refine rg_nil ?_
    have hlr := least_right x7.2
    refine ret1 Try.func73 Try.results73 wn_ () (by rw [← hlr]; simp_all) (fun w hs => hs.none)
theorem faceRight_spec : FaceRight := by
  intro l a
  refine spec_go (args := [sl a l.length]) Try.func75 Try.ntmps75 rfl (by exact Nat.le_of_ble_eq_true rfl) fun B hB => ?_
  refine go_openCL (l := l) (a := a) (fun hl1 hA1 hU1 => ?_)
  refine go_seq ?_
  refine go_region ⟨_, Try.func75⟩ rfl ?_
  refine q0 rfl (o_assign ?_)
  refine rg_nil ?_
  refine go_seq ?_
  refine go_region ⟨_, Try.func75⟩ rfl ?_
  refine q0 rfl (o_move ?_)
  refine q0 rfl (o_call Try.call73 (formRight_spec l a) (fun x4 => ?_))
  refine q0 rfl (o_move ?_)
  refine qI rfl rfl rfl wl_ (fun hg5 => o_move ?_) (fun hg5 => ?_)
  · refine qT rfl rfl rfl (o_call Try.call81 (contains_spec l a 82 [] [] [] clash Try.call82 (fun x hx => clash_spec x (hU1 x hx))) (fun x7 => ?_))
    refine qT rfl rfl rfl (o_not ?_)
    refine q0 rfl (o_pickT ?_)
    refine q0 rfl (o_assign ?_)
    refine rg_nil ?_
    refine ret1 Try.func75 Try.results75 wn_ () (by simp_all [faceRight]) (fun w hs => hs.none)
  · refine qF rfl rfl rfl ?_
    refine qF rfl rfl rfl ?_
    refine q0 rfl (o_pickF ?_)
    refine q0 rfl (o_assign ?_)
    refine rg_nil ?_
    refine ret1 Try.func75 Try.results75 wn_ () (by simp_all [faceRight]) (fun w hs => hs.none)
theorem form_spec : FORM := ⟨formRight_spec, faceRight_spec, fDims_spec⟩
end Go.Hy
namespace Go.Hy
set_option linter.unusedVariables false
set_option linter.unusedSimpArgs false
set_option linter.unusedSectionVars false
open Go.Proofs
set_option linter.unusedVariables false
set_option linter.unusedSimpArgs false
set_option maxRecDepth 100000
theorem pow24 {m : Nat} (h : m ≤ 24) : 2 ^ m ≤ 16777216 := Nat.pow_le_pow_right (n := 2) (j := 24) (by omega) h
theorem below24 (i : Int) (h0 : 0 ≤ i) : Spec Try.prog 63 #[.int .i64 (i)] [] [] (fun _ : Unit => .int .u32 (((2 ^ (min i.toNat 24) - 1) : Nat) : Int)) (fun _ : Unit => []) (fun _ : Unit => []) := by
  refine spec_go (args := [.int .i64 (i)]) Try.func63 Try.ntmps63 rfl (by exact Nat.le_of_ble_eq_true rfl) fun B hB => ?_
  have hp := pow24 (m := min i.toNat 24) (by omega)
  have hpos : 0 < 2 ^ (min i.toNat 24) := Nat.pow_pos (by omega)
  refine go_seq ?_
  refine go_region ⟨_, Try.func63⟩ rfl ?_
  refine q0 rfl (o_assign ?_)
  refine rg_nil ?_
  refine go_seq ?_
  refine go_region ⟨_, Try.func63⟩ rfl ?_
  refine q0 rfl (o_move ?_)
  refine q0 rfl (o_min ?_)
  refine q0 rfl (o_convI6 ?_ (m := min i.toNat 24) (ha := by split <;> omega))
  refine q0 rfl (o_shl6 ?_ (a := 1) (m := min i.toNat 24) (hm := by omega) (hb := by omega))
  refine q0 rfl (o_sub6 ?_ (a := 1 * 2 ^ (min i.toNat 24)) (b := 1) (h := by omega) (ha := by omega))
  refine q0 rfl (o_conv6U ?_ (a := 1 * 2 ^ (min i.toNat 24) - 1) (ha := by omega))
  refine q0 rfl (o_assign ?_)
  refine rg_nil ?_
  refine ret1 Try.func63 Try.results63 wn_ () (by rw [Nat.one_mul]) (fun w hs => hs.none)
end Go.Hy
namespace Go.Hy
set_option linter.unusedVariables false
set_option linter.unusedSimpArgs false
set_option linter.unusedSectionVars false
open Go.Proofs
set_option linter.unusedVariables false
set_option linter.unusedSimpArgs false
set_option maxRecDepth 100000
theorem rsameC (l : List Cl) (a_l : SH) (m : List Cl) (a_m : SH)  : Spec Try.prog 29 #[sl a_l (l.length), sl a_m (m.length)] [CL l a_l, CL m a_m] [] (fun _ : Unit => .bool ((decide (l = m)))) (fun _ : Unit => []) (fun _ : Unit => []) := by
  refine spec_go (args := [sl a_l (l.length), sl a_m (m.length)]) Try.func29 Try.ntmps29 rfl (by exact Nat.le_of_ble_eq_true rfl) fun B hB => ?_
  refine go_openCL (l := l) (a := a_l) (fun hl1 hA1 hU1 => ?_)
  refine go_openCL (l := m) (a := a_m) (fun hl2 hA2 hU2 => ?_)
  refine go_seq ?_
  refine go_region ⟨_, Try.func29⟩ rfl ?_
  refine q0 rfl (o_assign ?_)
  refine rg_nil ?_
  refine go_seq ?_
  refine go_seq ?_
  refine go_region ⟨_, Try.func29⟩ rfl ?_
  refine q0 rfl (o_move ?_)
  refine q0 rfl (o_len ?_)
  refine q0 rfl (o_move ?_)
  refine q0 rfl (o_len ?_)
  refine q0 rfl (o_neI ?_)
  refine rg_nil ?_
  refine go_condI (fun h10 => ?_) (fun h10 => ?_)
  · have c10 : (decide ((l.length : Int) ≠ (m.length : Int))) = true := h10
    try simp only [sC, bne_iff_ne, beq_iff_eq, ne_eq] at c10
    have hne : ¬ l = m := fun e => by subst e; simp at h10
    refine go_seq ?_
    refine go_region ⟨_, Try.func29⟩ rfl ?_
    refine q0 rfl (o_assign ?_)
    refine rg_nil ?_
    refine ret1 Try.func29 Try.results29 wn_ () (by rw [decide_eq_false hne]) (fun w hs => hs.none)
  · have c10 : (decide ((l.length : Int) ≠ (m.length : Int))) = false := h10
    try simp only [sC, bne_iff_ne, beq_iff_eq, ne_eq] at c10
    have hlen : l.length = m.length := by simp at h10; omega
    refine go_skip ?_
    refine go_seq ?_
    refine go_seq ?_
    refine go_region ⟨_, Try.func29⟩ rfl ?_
    refine q0 rfl (o_assign ?_)
    refine rg_nil ?_
    refine go_block ?_
    refine go_loopE (X := Nat) (fun s_ => s_ ≤ l.length ∧ ∀ j, j < s_ → l.getD j cl0 = m.getD j cl0) (fun s_ => [(0, sl a_l (l.length)), (1, sl a_m (m.length)), (5, .int .i64 ((s_ : Int)))]) (fun s_ G_ => G_) (fun s_ => []) (fun s_ => l.length - s_) (0) (⟨by omega, fun j hj => by omega⟩) (by exact ⟨rfl, rfl, rfl, trivial⟩) ?_ ?_
    · exact fun w hs => hs
    · intro i base0 ⟨hi, hok⟩ next0
      refine go_seq ?_
      refine go_seq ?_
      refine go_region ⟨_, Try.func29⟩ rfl ?_
      refine q0 rfl (o_move ?_)
      refine q0 rfl (o_move ?_)
      refine q0 rfl (o_len ?_)
      refine q0 rfl (o_lss ?_)
      refine rg_nil ?_
      refine go_condI (fun h14 => ?_) (fun h14 => ?_)
      · have c14 : (decide ((i : Int) < (l.length : Int))) = true := h14
        try simp only [sC, bne_iff_ne, beq_iff_eq, ne_eq] at c14
        refine go_skip ?_
        refine go_seq ?_
        refine go_block ?_
        refine go_seq ?_
        refine go_draw (pn := 1000000) (tn := false) (A := [0, 0, 3, 7, 0, 0, 48, 112, 255]) (l := [0, 1, 2, 3, 4, 5, 6, 7, 8]) (fin := []) Tab.mixed ⟨_, Try.func29⟩ (by rfl) ?_
        refine n0 rfl (v_move ?_)
        refine n0 rfl (v_move ?_)
        obtain ⟨bk3, o3, hav3⟩ := hA1 (by omega)
        refine n0 rfl (v_ixN ?_ (j := i))
        refine n0 rfl (v_ldC ?_)
        refine n0 rfl (v_move ?_)
        refine n0 rfl (v_move ?_)
        obtain ⟨bk4, o4, hav4⟩ := hA2 (by omega)
        refine n0 rfl (v_ixN ?_ (j := i))
        refine n0 rfl (v_ldC ?_)
        refine n0 rfl (v_neC ?_ (c := (l.getD i cl0)) (c' := (m.getD i cl0)))
        refine NV.done ?_
        refine rg_nil ?_
        refine go_condI (fun h25 => ?_) (fun h25 => ?_)
        · have c25 : (!decide ((l.getD i cl0) = (m.getD i cl0))) = true := h25
          try simp only [sC, bne_iff_ne, beq_iff_eq, ne_eq] at c25
          refine go_seq ?_
          refine go_region ⟨_, Try.func29⟩ rfl ?_
          refine q0 rfl (o_assign ?_)
          refine rg_nil ?_
          refine ret1 Try.func29 Try.results29 wn_ () (by rw [decide_eq_false (fun e => by subst e; simp at h25)]) (fun w hs => hs.none)
        · have c25 : (!decide ((l.getD i cl0) = (m.getD i cl0))) = false := h25
          try simp only [sC, bne_iff_ne, beq_iff_eq, ne_eq] at c25
          refine go_skip ?_
          refine go_inBlock ?_
          refine go_region ⟨_, Try.func29⟩ rfl ?_
          refine q0 rfl (o_move ?_)
          refine q0 rfl (o_add ?_)
          refine q0 rfl (o_assign ?_)
          refine rg_nil ?_
          have hb : l.getD i cl0 = m.getD i cl0 := by simpa using h25
          refine go_state (fun w hs => ?_) (next0 (i + 1) _ (⟨by omega, succ_inv hok hb⟩) (by omega) ⟨rfl, rfl, rfl, trivial⟩)
          exact (hs.less (by simp +contextual))
      · have c14 : (decide ((i : Int) < (l.length : Int))) = false := h14
        try simp only [sC, bne_iff_ne, beq_iff_eq, ne_eq] at c14
        refine go_exit rfl ?_
        refine go_seq ?_
        refine go_region ⟨_, Try.func29⟩ rfl ?_
        refine q0 rfl (o_assign ?_)
        refine rg_nil ?_
        refine ret1 Try.func29 Try.results29 wn_ () (by rw [decide_eq_true (list_eq_of hlen (fun j hj => hok j (by omega)))]) (fun w hs => hs.none)
end Go.Hy
