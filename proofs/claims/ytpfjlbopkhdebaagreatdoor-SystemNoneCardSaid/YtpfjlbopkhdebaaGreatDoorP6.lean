/- Contracts of this program's functions and the laws that they need: a separation logic over the machine's rules, one theorem each (partly printed by a program of this repository). -/
import Derived.Lib.TrailingZeros
import Derived.LaidMore
import Derived.OpenShut
import Derived.Stop.Joined
import Derived.MakeChecks
import Derived.Shelf.Spec.TrailingZeros
import Derived.RangeFuncNested
import Derived.RangeFuncBound
import Derived.RangeFuncCalls
import Derived.RangeFuncLeaves
import Derived.RangeFuncBox
import Derived.Shelf.Abstract
import Derived.Shelf.RegionOpen
import Derived.WalkKit
import Derived.OwnWalkIn
import Derived.TacticsInMore
import Derived.LoopNIn
import Derived.LoopIn
import Derived.Maps.AppendAt
import Derived.Test.YtpfjlbopkhdebaaGreatDoorP3
import Derived.Test.YtpfjlbopkhdebaaGreatDoorP4
import Derived.Test.YtpfjlbopkhdebaaGreatDoorP5
set_option linter.unusedVariables false
set_option linter.unusedSimpArgs false
set_option linter.unusedSectionVars false
namespace Go.Hy
/-! ### A term of which every node is as it may be -/
def headOK (k n : Int) (nm : ByteArray) (r : List Cl) : Prop :=
  (k ≠ 1 → n = 0) ∧ (k ≠ 2 → nm.toList = (ByteArray.mk #[]).toList) ∧ (k = 1 → r = [] ∧ 0 ≤ n) ∧ (k = 2 → r = [] ∧ nameOK nm = true) ∧ (k = 13 ∨ k = 21 ∨ k = 26 → fRight r = true) ∧ (k = 14 → faceRight r = true) ∧ (k ≠ 13 ∧ k ≠ 21 ∧ k ≠ 26 ∧ k ≠ 14 → r = [])
mutual
def fineT : T → Prop
  | .mk k n nm r ks ss => headOK k n nm r ∧ kidsN k = (ks.length : Int) ∧ (partsN k = 0 → ss = []) ∧ fineL ks ∧ fineB k ss
def fineL : List T → Prop
  | [] => True
  | t :: ts => fineT t ∧ fineL ts
def fineB (k : Int) : List Br → Prop
  | [] => True
  | .mk f ks :: bs => (ks.length : Int) = partsN k ∧ faceRight f = true ∧ fineL ks ∧ fineB k bs
end
theorem partsN_zero {k : Int} (h : k = 1 ∨ k = 2 ∨ k = 13 ∨ k = 21 ∨ k = 26 ∨ k = 14) : partsN k = 0 := by
  unfold partsN
  rcases h with h | h | h | h | h | h <;> subst h <;> decide
theorem within_24 (l : List Cl) {d : Int} (h : 24 ≤ d) : within l d = true := by unfold within; rw [decide_eq_true h]; rfl
theorem len_nil {α : Type} {l : List α} : ((l.length : Int) = 0) ↔ l = [] := by
  constructor
  · intro h; exact List.eq_nil_of_length_eq_zero (by omega)
  · rintro rfl; rfl
theorem own24_iff {k n : Int} {nm : ByteArray} {r : List Cl} {ks : List T} {ss : List Br} {d : Int} (hd : 24 ≤ d) : ownP (.mk k n nm r ks ss) (-1) d = true ↔ headOK k n nm r ∧ kidsN k = (ks.length : Int) ∧ (partsN k = 0 → ss = []) ∧ ∀ b, b ∈ ss → (b.kids.length : Int) = partsN k ∧ faceRight b.face = true := by
  have hB : ∀ b : Br, ownB (.mk k n nm r ks ss) d b = (decide ((b.kids.length : Int) = partsN k) && faceRight b.face) := fun b => by
    unfold ownB; rw [within_24 _ hd, Bool.and_true]; rfl
  have hL : (0 : Int) < (ss.length : Int) ↔ ss ≠ [] := by
    constructor
    · intro h e; subst e; simp at h
    · intro h; have := List.length_pos_iff.mpr h; omega
  have hs : ∀ p : Bool, (ss.all (ownB (.mk k n nm r ks ss) d) = true) ↔ ∀ b, b ∈ ss → (b.kids.length : Int) = partsN k ∧ faceRight b.face = true := fun _ => by
    rw [List.all_eq_true]
    exact forall_congr' fun b => forall_congr' fun _ => by rw [hB]; simp
  unfold ownP own1 headOK
  simp only [T.kind, T.n, T.name, T.r, T.kids, T.sys, within_24 _ hd, Bool.and_true, Bool.and_eq_true, Bool.not_eq_true', Bool.or_eq_false_iff, Bool.and_eq_false_iff, decide_eq_false_iff_not, Decidable.not_not, ne_eq, Int.not_lt, Bool.not_eq_false', beq_iff_eq]
  constructor
  · rintro ⟨⟨⟨⟨h1, h2⟩, h3⟩, h4⟩, h5⟩
    replace h1 : kidsN k = (ks.length : Int) := Decidable.not_not.mp (of_decide_eq_false h1)
    replace h2 : k = 1 ∨ n = 0 := h2.imp (fun h => Decidable.not_not.mp (of_decide_eq_false h)) (fun h => Decidable.not_not.mp (of_decide_eq_false h))
    replace h3 : k = 2 ∨ nm.toList = (ByteArray.mk #[]).toList := h3.imp (fun h => Decidable.not_not.mp (of_decide_eq_false h)) id
    replace h4 : ¬ partsN k = 0 ∨ ¬ (0 : Int) < (ss.length : Int) := h4.imp (fun h => of_decide_eq_false h) (fun h => of_decide_eq_false h)
    have hss : partsN k = 0 → ss = [] := by
      intro h
      rcases h4 with h4 | h4
      · exact absurd h h4
      · exact List.eq_nil_of_length_eq_zero (by omega)
    split at h5
    · rename_i hk
      have he := hss (partsN_zero (by omega))
      subst he
      simp only [Bool.and_eq_true, decide_eq_true_eq] at h5
      exact ⟨⟨by omega, fun _ => h3.resolve_left (by omega), fun _ => ⟨len_nil.mp (of_decide_eq_true h5.1.1), of_decide_eq_true h5.1.2⟩, by omega, by omega, by omega, fun _ => len_nil.mp (of_decide_eq_true h5.1.1)⟩, h1, hss, fun b hb => by cases hb⟩
    · split at h5
      · rename_i hk1 hk
        have he := hss (partsN_zero (by omega))
        subst he
        simp only [Bool.and_eq_true, decide_eq_true_eq] at h5
        exact ⟨⟨by omega, fun h => absurd hk h, by omega, fun _ => ⟨len_nil.mp (of_decide_eq_true h5.1), h5.2⟩, by omega, by omega, fun _ => len_nil.mp (of_decide_eq_true h5.1)⟩, h1, hss, fun b hb => by cases hb⟩
      · split at h5
        · rename_i hk1 hk2 hk
          have he := hss (partsN_zero (by omega))
          subst he
          exact ⟨⟨by omega, fun _ => h3.resolve_left (by omega), by omega, by omega, fun _ => h5, by omega, by omega⟩, h1, hss, fun b hb => by cases hb⟩
        · split at h5
          · rename_i hk1 hk2 hk3 hk
            have he := hss (partsN_zero (by omega))
            subst he
            exact ⟨⟨by omega, fun _ => h3.resolve_left (by omega), by omega, by omega, by omega, fun _ => h5, by omega⟩, h1, hss, fun b hb => by cases hb⟩
          · rename_i hk1 hk2 hk3 hk4
            simp only [Bool.and_eq_true, decide_eq_true_eq] at h5
            exact ⟨⟨by omega, fun _ => h3.resolve_left (by omega), by omega, by omega, by omega, by omega, fun _ => len_nil.mp (of_decide_eq_true h5.2)⟩, h1, hss, (hs true).mp h5.1⟩
  · rintro ⟨⟨a1, a2, a3, a4, a5, a6, a7⟩, b1, b2, b3⟩
    refine ⟨⟨⟨⟨decide_eq_false (Decidable.not_not.mpr b1), ?_⟩, ?_⟩, ?_⟩, ?_⟩
    · by_cases h : k = 1
      · exact .inl (decide_eq_false (Decidable.not_not.mpr h))
      · exact .inr (decide_eq_false (Decidable.not_not.mpr (a1 h)))
    · by_cases h : k = 2
      · exact .inl (decide_eq_false (Decidable.not_not.mpr h))
      · exact .inr (a2 h)
    · by_cases h : partsN k = 0
      · exact .inr (decide_eq_false (by rw [b2 h]; decide))
      · exact .inl (decide_eq_false h)
    · split
      · rename_i h; simp [(a3 h).1, (a3 h).2]
      · split
        · rename_i h; simp [(a4 h).1, (a4 h).2]
        · split
          · rename_i h; exact a5 h
          · split
            · rename_i h; exact a6 h
            · rename_i h1 h2 h3 h4
              rw [Bool.and_eq_true, (hs true)]
              exact ⟨b3, by simp [a7 (by omega)]⟩
theorem fineL_iff : ∀ {ts : List T}, fineL ts ↔ ∀ t, t ∈ ts → fineT t
  | [] => by simp [fineL]
  | t :: ts => by simp [fineL, fineL_iff (ts := ts)]
theorem fineB_iff {k : Int} : ∀ {bs : List Br}, fineB k bs ↔ ∀ b, b ∈ bs → (b.kids.length : Int) = partsN k ∧ faceRight b.face = true ∧ fineL b.kids
  | [] => by simp [fineB]
  | .mk f ks :: bs => by
    simp only [fineB, fineB_iff (bs := bs), List.forall_mem_cons, Br.kids, Br.face]
    constructor
    · rintro ⟨h1, h2, h3, h4⟩; exact ⟨⟨h1, h2, h3⟩, h4⟩
    · rintro ⟨⟨h1, h2, h3⟩, h4⟩; exact ⟨h1, h2, h3, h4⟩
theorem fineT_iff {t : T} : fineT t ↔ headOK t.kind t.n t.name t.r ∧ kidsN t.kind = (t.kids.length : Int) ∧ (partsN t.kind = 0 → t.sys = []) ∧ fineL t.kids ∧ fineB t.kind t.sys := by
  obtain ⟨k, n, nm, r, ks, ss⟩ := t
  simp only [fineT, T.kind, T.n, T.name, T.r, T.kids, T.sys]
theorem fine_parts {t : T} : fineT t ↔ (∀ d : Int, 24 ≤ d → ownP t (-1) d = true) ∧ ∀ p, p ∈ parts t → fineT p.1 := by
  rw [fineT_iff, fineL_iff, fineB_iff]
  have ho : ∀ d : Int, 24 ≤ d → (ownP t (-1) d = true ↔ headOK t.kind t.n t.name t.r ∧ kidsN t.kind = (t.kids.length : Int) ∧ (partsN t.kind = 0 → t.sys = []) ∧ ∀ b, b ∈ t.sys → (b.kids.length : Int) = partsN t.kind ∧ faceRight b.face = true) := by
    intro d hd
    obtain ⟨k, n, nm, r, ks, ss⟩ := t
    exact own24_iff hd
  constructor
  · rintro ⟨h1, h2, h3, h4, h5⟩
    refine ⟨fun d hd => (ho d hd).mpr ⟨h1, h2, h3, fun b hb => ⟨(h5 b hb).1, (h5 b hb).2.1⟩⟩, fun p hp => ?_⟩
    rcases part_cases hp with ⟨i, hi, rfl⟩ | ⟨s, k, hs, hk, rfl⟩
    · exact h4 _ (getD_mem hi)
    · exact fineL_iff.mp (h5 _ (getD_mem hs)).2.2 _ (getD_mem hk)
  · rintro ⟨h1, h2⟩
    obtain ⟨a1, a2, a3, a4⟩ := (ho 24 (by omega)).mp (h1 24 (by omega))
    refine ⟨a1, a2, a3, fun k hk => ?_, fun b hb => ⟨(a4 b hb).1, (a4 b hb).2, fineL_iff.mpr fun k hk => ?_⟩⟩
    · obtain ⟨p, hp, e⟩ := kid_mem_parts hk; exact e ▸ h2 p hp
    · obtain ⟨p, hp, e⟩ := sys_mem_parts hb hk; exact e ▸ h2 p hp
theorem all_fine : ∀ (t : T) (d : Int), 24 ≤ d → (allP t (-1) d false = true ↔ fineT t) := T.ind fun t ih d hd => by
  rw [all_iff, fine_parts]
  have hw : ∀ p : Part, IntKind.i64.wrap (-1 + if (-1 : Int) < 0 then 0 else p.2.1) = -1 := fun p => by rw [if_pos (by decide)]; decide
  constructor
  · rintro ⟨_, h2, h3⟩
    refine ⟨fun d' hd' => ?_, fun p hp => ?_⟩
    · obtain ⟨k, n, nm, r, ks, ss⟩ := t
      exact (own24_iff hd').mpr ((own24_iff hd).mp h2)
    · have h4 := h3 p hp
      rw [hw] at h4
      have h5 := parts_01 hp
      exact (ih p hp (d + p.2.2) (by omega)).mp h4
  · rintro ⟨h1, h2⟩
    refine ⟨by simp, h1 d hd, fun p hp => ?_⟩
    rw [hw]
    have h5 := parts_01 hp
    exact (ih p hp (d + p.2.2) (by omega)).mpr (h2 p hp)
theorem formed_fine {t : T} : formedP t = 0 ↔ sized t = 0 ∧ fineT t := by rw [formed_zero, all_fine t 24 (by omega)]
/-! ### What a way keeps -/
section
variable {C : Type} {A : Tr C}
end
/-! ### One way, and then another one -/
section
variable {CA CB CC : Type} {A : Tr CA} {B : Tr CB} {D : Tr CC} (R : CA → CB → CC → Prop)
structure Fuse : Prop where
  inl : ∀ ca cb cc k n nm r u, R ca cb cc → headOK k n nm r → A.own ca k n nm r = .ok (.inl u) → D.own cc k n nm r = (trav B u cb).bind fun w => .ok (.inl w)
  inr : ∀ ca cb cc k n nm r p, R ca cb cc → headOK k n nm r → A.own ca k n nm r = .ok (.inr p) → B.own cb k p.1 nm p.2 = D.own cc k n nm r
  none : ∀ ca cb cc f, R ca cb cc → faceRight f = true → A.face ca f = .ok none → D.face cc f = .ok none
  some : ∀ ca cb cc f f', R ca cb cc → faceRight f = true → A.face ca f = .ok (some f') → B.face cb f' = D.face cc f
  kid : ∀ ca cb cc b ca', 0 ≤ b.1 → 0 ≤ b.2 → R ca cb cc → A.kid ca b = .ok ca' → (∃ cb' cc', B.kid cb b = .ok cb' ∧ D.kid cc b = .ok cc' ∧ R ca' cb' cc') ∨ ∃ e, B.kid cb b = .bad e ∧ D.kid cc b = .bad e
variable {R}
mutual
theorem fuse (F : Fuse (A := A) (B := B) (D := D) R) : ∀ {t u : T} {ca : CA} {cb : CB} {cc : CC}, fineT t → R ca cb cc → trav A t ca = .ok u → trav B u cb = trav D t cc
  | .mk k n nm r ks ss, u, ca, cb, cc, h, hr, hu => by
    simp only [fineT] at h
    obtain ⟨h1, h2, h3, h4, h5⟩ := h
    rw [trav_eq] at hu
    simp only [T.kind, T.n, T.name, T.r, T.kids, T.sys] at hu
    obtain ⟨o, h9, hu⟩ := Res1.bind_ok hu
    cases o with
    | inl v =>
      injection hu with hu
      subst hu
      conv => rhs; rw [trav_eq]
      simp only [T.kind, T.n, T.name, T.r, T.kids, T.sys]
      rw [F.inl _ _ _ _ _ _ _ _ hr h1 h9]
      cases trav B v cb <;> rfl
    | inr p =>
      obtain ⟨ks', h10, hu⟩ := Res1.bind_ok hu
      obtain ⟨ss', h11, hu⟩ := Res1.bind_ok hu
      injection hu with hu
      subst hu
      rw [trav_eq, trav_eq]
      simp only [T.kind, T.n, T.name, T.r, T.kids, T.sys]
      rw [F.inr _ _ _ _ _ _ _ _ hr h1 h9, fuseL F h4 hr h10, fuseB F h5 hr h11]
theorem fuseL (F : Fuse (A := A) (B := B) (D := D) R) {kd : Int} : ∀ {ts us : List T} {i : Nat} {ca : CA} {cb : CB} {cc : CC}, fineL ts → R ca cb cc → travL A kd i ts ca = .ok us → travL B kd i us cb = travL D kd i ts cc
  | [], us, i, ca, cb, cc, h, hr, hu => by rw [travL_nil] at hu; injection hu with hu; subst hu; rw [travL_nil, travL_nil]
  | t :: ts, us, i, ca, cb, cc, h, hr, hu => by
    simp only [fineL] at h
    rw [travL_cons] at hu
    obtain ⟨c', h1, hu⟩ := Res1.bind_ok hu
    obtain ⟨t', h2, hu⟩ := Res1.bind_ok hu
    obtain ⟨ts', h3, hu⟩ := Res1.bind_ok hu
    injection hu with hu
    subst hu
    rw [travL_cons, travL_cons]
    rcases F.kid _ _ _ _ _ (binds_01 _ _).1 (binds_01 _ _).2.2.1 hr h1 with ⟨cb', cc', e1, e2, hr'⟩ | ⟨e, e1, e2⟩
    · rw [e1, e2]
      simp only [Res1.bind]
      rw [fuse F h.1 hr' h2, fuseL F h.2 hr h3]
    · rw [e1, e2]; rfl
theorem fuseS (F : Fuse (A := A) (B := B) (D := D) R) {kd : Int} : ∀ {ts us : List T} {ca : CA} {cb : CB} {cc : CC}, fineL ts → R ca cb cc → travS A kd ts ca = .ok us → travS B kd us cb = travS D kd ts cc
  | [], us, ca, cb, cc, h, hr, hu => by rw [travS_nil] at hu; injection hu with hu; subst hu; rw [travS_nil, travS_nil]
  | t :: ts, us, ca, cb, cc, h, hr, hu => by
    simp only [fineL] at h
    rw [travS_cons] at hu
    obtain ⟨c', h1, hu⟩ := Res1.bind_ok hu
    obtain ⟨t', h2, hu⟩ := Res1.bind_ok hu
    obtain ⟨ts', h3, hu⟩ := Res1.bind_ok hu
    injection hu with hu
    subst hu
    rw [travS_cons, travS_cons]
    rcases F.kid _ _ _ _ _ (Int.le_refl 0) (more_01 _).1 hr h1 with ⟨cb', cc', e1, e2, hr'⟩ | ⟨e, e1, e2⟩
    · rw [e1, e2]
      simp only [Res1.bind]
      rw [fuse F h.1 hr' h2, fuseS F h.2 hr h3]
    · rw [e1, e2]; rfl
theorem fuseB (F : Fuse (A := A) (B := B) (D := D) R) {kd : Int} : ∀ {bs us : List Br} {ca : CA} {cb : CB} {cc : CC}, fineB kd bs → R ca cb cc → travB A kd bs ca = .ok us → travB B kd us cb = travB D kd bs cc
  | [], us, ca, cb, cc, h, hr, hu => by rw [travB_nil] at hu; injection hu with hu; subst hu; rw [travB_nil, travB_nil]
  | .mk f ks :: bs, us, ca, cb, cc, h, hr, hu => by
    simp only [fineB] at h
    obtain ⟨h1, h2, h3, h4⟩ := h
    rw [travB_cons] at hu
    simp only [Br.face, Br.kids] at hu
    obtain ⟨o, h5, hu⟩ := Res1.bind_ok hu
    cases o with
    | none =>
      rw [fuseB F h4 hr hu]
      conv => rhs; rw [travB_cons]
      simp only [Br.face, Br.kids]
      rw [F.none _ _ _ _ hr h2 h5]
      rfl
    | some f' =>
      obtain ⟨ks', h6, hu⟩ := Res1.bind_ok hu
      obtain ⟨bs', h7, hu⟩ := Res1.bind_ok hu
      injection hu with hu
      subst hu
      rw [travB_cons, travB_cons]
      simp only [Br.face, Br.kids]
      rw [F.some _ _ _ _ _ hr h2 h5, fuseS F h3 hr h6, fuseB F h4 hr h7]
end
end
/-! ### Where one way is told, another one is -/
section
variable {CA CC : Type} {A : Tr CA} {D : Tr CC} (R : CA → CC → Prop)
structure Told : Prop where
  inl : ∀ ca cc k n nm r u, R ca cc → headOK k n nm r → A.own ca k n nm r = .ok (.inl u) → ∃ w, D.own cc k n nm r = .ok (.inl w)
  inr : ∀ ca cc k n nm r p, R ca cc → headOK k n nm r → A.own ca k n nm r = .ok (.inr p) → ∃ w, D.own cc k n nm r = .ok w
  none : ∀ ca cc f, R ca cc → faceRight f = true → A.face ca f = .ok none → D.face cc f = .ok none
  some : ∀ ca cc f f', R ca cc → faceRight f = true → A.face ca f = .ok (some f') → ∃ w, D.face cc f = .ok w
  kid : ∀ ca cc b ca', R ca cc → A.kid ca b = .ok ca' → ∃ cc', D.kid cc b = .ok cc' ∧ R ca' cc'
variable {R}
theorem Res1.bind_ex {α β : Type} {x : Res1 α} {k : α → Res1 β} (h : ∃ a, x = .ok a) (h2 : ∀ a, x = .ok a → ∃ b, k a = .ok b) : ∃ b, x.bind k = .ok b := by
  obtain ⟨a, ha⟩ := h
  obtain ⟨b, hb⟩ := h2 a ha
  exact ⟨b, by rw [ha]; exact hb⟩
mutual
theorem told (F : Told (A := A) (D := D) R) : ∀ {t u : T} {ca : CA} {cc : CC}, fineT t → R ca cc → trav A t ca = .ok u → ∃ w, trav D t cc = .ok w
  | .mk k n nm r ks ss, u, ca, cc, h, hr, hu => by
    simp only [fineT] at h
    obtain ⟨h1, h2, h3, h4, h5⟩ := h
    rw [trav_eq] at hu
    simp only [T.kind, T.n, T.name, T.r, T.kids, T.sys] at hu
    obtain ⟨o, h9, hu⟩ := Res1.bind_ok hu
    rw [trav_eq]
    simp only [T.kind, T.n, T.name, T.r, T.kids, T.sys]
    cases o with
    | inl v =>
      obtain ⟨w, hw⟩ := F.inl _ _ _ _ _ _ _ hr h1 h9
      exact ⟨w, by rw [hw]; rfl⟩
    | inr p =>
      obtain ⟨ks', h10, hu⟩ := Res1.bind_ok hu
      obtain ⟨ss', h11, hu⟩ := Res1.bind_ok hu
      refine Res1.bind_ex (F.inr _ _ _ _ _ _ _ hr h1 h9) (fun o _ => ?_)
      cases o with
      | inl v => exact ⟨v, rfl⟩
      | inr q =>
        refine Res1.bind_ex (toldL F h4 hr h10) (fun a _ => Res1.bind_ex (toldB F h5 hr h11) (fun b _ => ⟨_, rfl⟩))
theorem toldL (F : Told (A := A) (D := D) R) {kd : Int} : ∀ {ts us : List T} {i : Nat} {ca : CA} {cc : CC}, fineL ts → R ca cc → travL A kd i ts ca = .ok us → ∃ w, travL D kd i ts cc = .ok w
  | [], us, i, ca, cc, h, hr, hu => ⟨[], travL_nil _ _ _⟩
  | t :: ts, us, i, ca, cc, h, hr, hu => by
    simp only [fineL] at h
    rw [travL_cons] at hu
    obtain ⟨c', h1, hu⟩ := Res1.bind_ok hu
    obtain ⟨t', h2, hu⟩ := Res1.bind_ok hu
    obtain ⟨ts', h3, hu⟩ := Res1.bind_ok hu
    obtain ⟨cc', e2, hr'⟩ := F.kid _ _ _ _ hr h1
    rw [travL_cons]
    refine Res1.bind_ex ⟨cc', e2⟩ (fun a9 ha => ?_)
    rw [e2] at ha
    injection ha with ha
    subst ha
    exact Res1.bind_ex (told F h.1 hr' h2) (fun a _ => Res1.bind_ex (toldL F h.2 hr h3) (fun b _ => ⟨_, rfl⟩))
theorem toldS (F : Told (A := A) (D := D) R) {kd : Int} : ∀ {ts us : List T} {ca : CA} {cc : CC}, fineL ts → R ca cc → travS A kd ts ca = .ok us → ∃ w, travS D kd ts cc = .ok w
  | [], us, ca, cc, h, hr, hu => ⟨[], travS_nil _ _⟩
  | t :: ts, us, ca, cc, h, hr, hu => by
    simp only [fineL] at h
    rw [travS_cons] at hu
    obtain ⟨c', h1, hu⟩ := Res1.bind_ok hu
    obtain ⟨t', h2, hu⟩ := Res1.bind_ok hu
    obtain ⟨ts', h3, hu⟩ := Res1.bind_ok hu
    obtain ⟨cc', e2, hr'⟩ := F.kid _ _ _ _ hr h1
    rw [travS_cons]
    refine Res1.bind_ex ⟨cc', e2⟩ (fun a9 ha => ?_)
    rw [e2] at ha
    injection ha with ha
    subst ha
    exact Res1.bind_ex (told F h.1 hr' h2) (fun a _ => Res1.bind_ex (toldS F h.2 hr h3) (fun b _ => ⟨_, rfl⟩))
theorem toldB (F : Told (A := A) (D := D) R) {kd : Int} : ∀ {bs us : List Br} {ca : CA} {cc : CC}, fineB kd bs → R ca cc → travB A kd bs ca = .ok us → ∃ w, travB D kd bs cc = .ok w
  | [], us, ca, cc, h, hr, hu => ⟨[], travB_nil _ _⟩
  | .mk f ks :: bs, us, ca, cc, h, hr, hu => by
    simp only [fineB] at h
    obtain ⟨h1, h2, h3, h4⟩ := h
    rw [travB_cons] at hu
    simp only [Br.face, Br.kids] at hu
    obtain ⟨o, h5, hu⟩ := Res1.bind_ok hu
    rw [travB_cons]
    simp only [Br.face, Br.kids]
    cases o with
    | none =>
      rw [F.none _ _ _ hr h2 h5]
      exact toldB F h4 hr hu
    | some f' =>
      obtain ⟨ks', h6, hu⟩ := Res1.bind_ok hu
      obtain ⟨bs', h7, hu⟩ := Res1.bind_ok hu
      refine Res1.bind_ex (F.some _ _ _ _ hr h2 h5) (fun o _ => ?_)
      cases o with
      | none => exact toldB F h4 hr h7
      | some q => exact Res1.bind_ex (toldS F h3 hr h6) (fun a _ => Res1.bind_ex (toldB F h4 hr h7) (fun b _ => ⟨_, rfl⟩))
end
end
end Go.Hy
namespace Go.Hy
theorem formed_size {t : T} (h : formedP t = 0) : size t ≤ 20000 := by
  unfold formedP at h
  split at h
  · rename_i hs; exact absurd h hs
  · rename_i hs
    simp only [ne_eq, Decidable.not_not, sized] at hs
    split at hs
    · cases hs
    · split at hs
      · cases hs
      · omega
end Go.Hy
namespace Go.Hy
theorem leastF_cases (l : List Cl) : ((leastF l).1 = 0 ∧ l.all right24 = true ∧ (leastF l).2 = refLeast l ∧ (refLeast l).length ≤ 64) ∨ (leastF l).1 = 2 ∨ (leastF l).1 = 3 := by
  unfold leastF
  split
  · exact .inr (.inl rfl)
  · rename_i h1
    split
    · exact .inr (.inr rfl)
    · rename_i h2
      exact .inl ⟨rfl, by simpa using h1, rfl, by omega⟩
theorem leastF_fR {l : List Cl} (h : (leastF l).1 = 0) : fRight (leastF l).2 = true := by
  rcases leastF_cases l with ⟨_, h1, h2, h3⟩ | h1 | h1
  · rw [h2]
    unfold fRight
    rw [Bool.and_eq_true, Bool.and_eq_true, Bool.and_eq_true]
    refine ⟨⟨⟨List.all_eq_true.mpr fun c hc => List.all_eq_true.mp h1 c (refLeast_mem.mp hc).1, sortedC_iff.mpr (refLeast_sorted l)⟩, apart_iff.mpr fun a ha b hb => needless_iff.mp (refLeast_mem.mp ha).2 b (refLeast_mem.mp hb).1⟩, decide_eq_true h3⟩
  · rw [h1] at h; cases h
  · rw [h1] at h; cases h
theorem leastF_sub {l : List Cl} (h : (leastF l).1 = 0) {c : Cl} (hc : c ∈ (leastF l).2) : c ∈ l := by
  rcases leastF_cases l with ⟨_, h1, h2, h3⟩ | h1 | h1
  · rw [h2] at hc; exact (refLeast_mem.mp hc).1
  · rw [h1] at h; cases h
  · rw [h1] at h; cases h
section
variable {C : Type} {A : Tr C}
end
/-! ### Lifts, one behind the other -/
theorem rowLift_zero (l : List Cl) (f : Int) : rowLift 0 l f = .ok l := by unfold rowLift; rw [if_pos (.inl rfl)]
/-- What liftTr makes of a node. -/
theorem lift_own_eq {vb db : Int} {c : Int × Int} {k n : Int} {nm : ByteArray} {r : List Cl} : (liftTr vb db).own c k n nm r = (rowLift db r c.2).bind fun r' => if k = 1 ∧ c.1 ≤ n ∧ 1000000000 - vb < n then .bad 100 else .ok (.inr (liftN vb c.1 k n, r')) := by
  simp only [liftTr, liftN]
  congr 1
  funext g
  by_cases h1 : k = 1 ∧ c.1 ≤ n
  · rw [if_pos h1, if_pos h1]
    by_cases h2 : 1000000000 - vb < n
    · rw [if_pos h2, if_pos ⟨h1.1, h1.2, h2⟩]
    · rw [if_neg h2, if_neg (fun h => h2 h.2.2)]
  · rw [if_neg h1, if_neg h1, if_neg (fun h => h1 ⟨h.1, h.2.1⟩)]
theorem lift_own_ok {vb db : Int} {c : Int × Int} {k n : Int} {nm : ByteArray} {r : List Cl} {p : Int × List Cl} (h : (liftTr vb db).own c k n nm r = .ok (.inr p)) : rowLift db r c.2 = .ok p.2 ∧ ¬ (k = 1 ∧ c.1 ≤ n ∧ 1000000000 - vb < n) ∧ p.1 = liftN vb c.1 k n := by
  rw [lift_own_eq] at h
  obtain ⟨g, hg, h⟩ := Res1.bind_ok h
  split at h
  · cases h
  · rename_i h1
    injection h with h; injection h with h; subst h
    exact ⟨hg, h1, rfl⟩
theorem lift_face_eq {vb db : Int} {c : Int × Int} {f f' : List Cl} (h : (liftTr vb db).face c f = .ok (some f')) : rowLift db f c.2 = .ok f' := by
  obtain ⟨g, hg, h⟩ := Res1.bind_ok (x := rowLift db f c.2) h
  injection h with h; injection h with h; subst h; exact hg
theorem lift_face_none {vb db : Int} {c : Int × Int} {f : List Cl} : (liftTr vb db).face c f ≠ .ok none := fun h => by
  obtain ⟨g, hg, h⟩ := Res1.bind_ok (x := rowLift db f c.2) h
  injection h with h; cases h
def R3 (a b c : Int × Int) : Prop := a = b ∧ b = c
theorem liftN_zero {v k n : Int} : liftN 0 v k n = n := by unfold liftN; split <;> omega
theorem lift_face_def {vb db : Int} {c : Int × Int} {f : List Cl} : (liftTr vb db).face c f = (rowLift db f c.2).bind fun f' => .ok (some f') := rfl
/-- Dimensions behind variables: both at once. -/
theorem fuse_VD {a b : Int} (ha : 0 ≤ a) : Fuse (A := liftTr a 0) (B := liftTr 0 b) (D := liftTr a b) R3 where
  inl := fun ca cb cc k n nm r u _ _ h => absurd h lift_own_inl
  inr := by
    rintro ca cb cc k n nm r p ⟨rfl, rfl⟩ _ h
    obtain ⟨h1, h2, h3⟩ := lift_own_ok h
    rw [rowLift_zero] at h1
    injection h1 with h1
    rw [lift_own_eq, lift_own_eq, ← h1, h3]
    congr 1
    funext g
    have h4 : liftN 0 ca.1 k (liftN a ca.1 k n) = liftN a ca.1 k n := liftN_zero
    rw [h4, if_neg h2, if_neg]
    unfold liftN
    rintro ⟨h5, h6, h7⟩
    split at h6 <;> split at h7 <;> omega
  none := fun ca cb cc f _ _ h => absurd h lift_face_none
  some := by
    rintro ca cb cc f f' ⟨rfl, rfl⟩ _ h
    have h1 := lift_face_eq h
    rw [rowLift_zero] at h1
    injection h1 with h1
    rw [← h1]; rfl
  kid := by
    rintro ca cb cc b' ca' hb1 hb2 ⟨rfl, rfl⟩ h
    injection h with h; subst h
    exact .inl ⟨_, _, rfl, rfl, rfl, rfl⟩
def asRes (r : Res1 T) : Int × T := match r with
  | .ok u => (0, u)
  | .bad e => (e, t0)
theorem rowLift_bad {l : List Cl} {f b e : Int} (h : rowLift b l f = .bad e) : e ≠ 0 := by
  unfold rowLift at h
  split at h
  · cases h
  · split at h
    · cases h
    · rename_i h2; injection h with h; exact h ▸ h2
mutual
theorem lift_bad_ne' {vb db : Int} : ∀ {t : T} {c : Int × Int} {e : Int}, trav (liftTr vb db) t c = .bad e → e ≠ 0
  | .mk k n nm r ks ss, c, e, h => by
    rw [trav_eq] at h
    simp only [T.kind, T.n, T.name, T.r, T.kids, T.sys] at h
    rw [lift_own_eq] at h
    cases h0 : rowLift db r c.2 with
    | bad e' => rw [h0] at h; injection h with h; exact h ▸ rowLift_bad h0
    | ok g =>
      rw [h0] at h
      simp only [Res1.bind] at h
      by_cases h6 : k = 1 ∧ c.1 ≤ n ∧ 1000000000 - vb < n
      · rw [if_pos h6] at h; injection h with h; subst h; decide
      · rw [if_neg h6] at h
        simp only at h
        cases h1 : travL (liftTr vb db) k 0 ks c with
        | bad e' => rw [h1] at h; injection h with h; exact h ▸ liftL_bad_ne h1
        | ok x =>
          rw [h1] at h
          simp only at h
          cases h2 : travB (liftTr vb db) k ss c with
          | bad e' => rw [h2] at h; injection h with h; exact h ▸ liftB_bad_ne h2
          | ok y => rw [h2] at h; cases h
theorem liftL_bad_ne {vb db k : Int} : ∀ {ts : List T} {i : Nat} {c : Int × Int} {e : Int}, travL (liftTr vb db) k i ts c = .bad e → e ≠ 0
  | [], i, c, e, h => by rw [travL_nil] at h; cases h
  | t :: ts, i, c, e, h => by
    rw [travL_cons, lift_kid] at h
    simp only [Res1.bind] at h
    cases h1 : trav (liftTr vb db) t (c.1 + (binds k i).1, c.2 + (binds k i).2) with
    | bad e' => rw [h1] at h; injection h with h; exact h ▸ lift_bad_ne' h1
    | ok x =>
      rw [h1] at h
      simp only at h
      cases h2 : travL (liftTr vb db) k (i + 1) ts c with
      | bad e' => rw [h2] at h; injection h with h; exact h ▸ liftL_bad_ne h2
      | ok y => rw [h2] at h; cases h
theorem liftS_bad_ne {vb db k : Int} : ∀ {ts : List T} {c : Int × Int} {e : Int}, travS (liftTr vb db) k ts c = .bad e → e ≠ 0
  | [], c, e, h => by rw [travS_nil] at h; cases h
  | t :: ts, c, e, h => by
    rw [travS_cons, lift_kid] at h
    simp only [Res1.bind] at h
    cases h1 : trav (liftTr vb db) t (c.1 + 0, c.2 + more k) with
    | bad e' => rw [h1] at h; injection h with h; exact h ▸ lift_bad_ne' h1
    | ok x =>
      rw [h1] at h
      simp only at h
      cases h2 : travS (liftTr vb db) k ts c with
      | bad e' => rw [h2] at h; injection h with h; exact h ▸ liftS_bad_ne h2
      | ok y => rw [h2] at h; cases h
theorem liftB_bad_ne {vb db k : Int} : ∀ {bs : List Br} {c : Int × Int} {e : Int}, travB (liftTr vb db) k bs c = .bad e → e ≠ 0
  | [], c, e, h => by rw [travB_nil] at h; cases h
  | .mk f ks :: bs, c, e, h => by
    rw [travB_cons, lift_face_def] at h
    simp only [Br.face, Br.kids] at h
    cases h0 : rowLift db f c.2 with
    | bad e' => rw [h0] at h; injection h with h; exact h ▸ rowLift_bad h0
    | ok g =>
      rw [h0] at h
      simp only [Res1.bind] at h
      cases h1 : travS (liftTr vb db) k ks c with
      | bad e' => rw [h1] at h; injection h with h; exact h ▸ liftS_bad_ne h1
      | ok x =>
        rw [h1] at h
        simp only at h
        cases h2 : travB (liftTr vb db) k bs c with
        | bad e' => rw [h2] at h; injection h with h; exact h ▸ liftB_bad_ne h2
        | ok y => rw [h2] at h; cases h
end
end Go.Hy
namespace Go.Hy
/-! ### What a way tells of the parts -/
section
variable {C : Type} {A : Tr C}
theorem mem_getD {α : Type} {d x : α} {l : List α} (h : x ∈ l) : ∃ i, i < l.length ∧ l.getD i d = x := by
  obtain ⟨i, hi, e⟩ := List.mem_iff_getElem.mp h
  exact ⟨i, hi, by rw [getD_get (d := d) hi]; exact e⟩
theorem bind_bad_of {α β : Type} {x : Res1 α} {k : α → Res1 β} {e : Int} (h : x.bind k = .bad e) : x = .bad e ∨ ∃ a, x = .ok a ∧ k a = .bad e := by
  cases x with
  | ok a => exact .inr ⟨a, rfl, h⟩
  | bad e' => injection h with h; subst h; exact .inl rfl
theorem travL_why {k : Int} {c : C} {e : Int} : ∀ {ts : List T} {i : Nat}, travL A k i ts c = .bad e → ∃ j, j < ts.length ∧ (A.kid c (binds k ((i + j : Nat) : Int)) = .bad e ∨ ∃ c', A.kid c (binds k ((i + j : Nat) : Int)) = .ok c' ∧ trav A (ts.getD j t0) c' = .bad e)
  | [], i, h => by rw [travL_nil] at h; cases h
  | t :: ts, i, h => by
    rw [travL_cons] at h
    rcases bind_bad_of h with h | ⟨c', h1, h⟩
    · exact ⟨0, by simp, .inl (by simpa using h)⟩
    · rcases bind_bad_of h with h | ⟨t', h2, h⟩
      · exact ⟨0, by simp, .inr ⟨c', by simpa using h1, by simpa using h⟩⟩
      · rcases bind_bad_of h with h | ⟨ts', h3, h⟩
        · obtain ⟨j, hj, h4⟩ := travL_why h
          refine ⟨j + 1, by simpa using hj, ?_⟩
          rw [List.getD_cons_succ, show i + (j + 1) = i + 1 + j by omega]; exact h4
        · cases h
theorem travS_why {k : Int} {c : C} {e : Int} : ∀ {ts : List T}, travS A k ts c = .bad e → ∃ j, j < ts.length ∧ (A.kid c (0, more k) = .bad e ∨ ∃ c', A.kid c (0, more k) = .ok c' ∧ trav A (ts.getD j t0) c' = .bad e)
  | [], h => by rw [travS_nil] at h; cases h
  | t :: ts, h => by
    rw [travS_cons] at h
    rcases bind_bad_of h with h | ⟨c', h1, h⟩
    · exact ⟨0, by simp, .inl h⟩
    · rcases bind_bad_of h with h | ⟨t', h2, h⟩
      · exact ⟨0, by simp, .inr ⟨c', h1, by simpa using h⟩⟩
      · rcases bind_bad_of h with h | ⟨ts', h3, h⟩
        · obtain ⟨j, hj, h4⟩ := travS_why h
          exact ⟨j + 1, by simpa using hj, by rw [List.getD_cons_succ]; exact h4⟩
        · cases h
theorem travB_why {k : Int} {c : C} {e : Int} : ∀ {bs : List Br}, travB A k bs c = .bad e → ∃ b, b ∈ bs ∧ (A.face c b.face = .bad e ∨ travS A k b.kids c = .bad e)
  | [], h => by rw [travB_nil] at h; cases h
  | b :: bs, h => by
    rw [travB_cons] at h
    rcases bind_bad_of h with h | ⟨o, h1, h⟩
    · exact ⟨b, List.mem_cons_self, .inl h⟩
    · cases o with
      | none => obtain ⟨x, hx, h⟩ := travB_why h; exact ⟨x, List.mem_cons_of_mem _ hx, h⟩
      | some f' =>
        rcases bind_bad_of h with h | ⟨ks, h2, h⟩
        · exact ⟨b, List.mem_cons_self, .inr h⟩
        · rcases bind_bad_of h with h | ⟨us, h3, h⟩
          · obtain ⟨x, hx, h⟩ := travB_why h; exact ⟨x, List.mem_cons_of_mem _ hx, h⟩
          · cases h
theorem trav_why {t : T} {c : C} {e : Int} (h : trav A t c = .bad e) : A.own c t.kind t.n t.name t.r = .bad e ∨ (∃ b, b ∈ t.sys ∧ A.face c b.face = .bad e) ∨ ∃ p, p ∈ parts t ∧ (A.kid c p.2 = .bad e ∨ ∃ c', A.kid c p.2 = .ok c' ∧ trav A p.1 c' = .bad e) := by
  rw [trav_eq] at h
  rcases bind_bad_of h with h | ⟨o, h1, h⟩
  · exact .inl h
  · cases o with
    | inl u => cases h
    | inr p =>
      rcases bind_bad_of h with h | ⟨ks, h2, h⟩
      · obtain ⟨j, hj, h3⟩ := travL_why h
        rw [Nat.zero_add] at h3
        exact .inr (.inr ⟨_, List.mem_of_getElem? (parts_kid t j hj), h3⟩)
      · rcases bind_bad_of h with h | ⟨ss, h3, h⟩
        · obtain ⟨b, hb, h4⟩ := travB_why h
          rcases h4 with h4 | h4
          · exact .inr (.inl ⟨b, hb, h4⟩)
          · obtain ⟨j, hj, h5⟩ := travS_why h4
            obtain ⟨s, hs, e2⟩ := mem_getD (d := br0) hb
            refine .inr (.inr ⟨_, List.mem_of_getElem? (parts_sys t s j hs (by rw [e2]; exact hj)), ?_⟩)
            rw [e2]; exact h5
        · cases h
end
end Go.Hy
namespace Go.Hy
theorem St.litI {B : Base} {Γ : List Fact} {Ms : List Res} {w : World} {b : Nat} {e : TypeId} {cs : List Value} (l : List Int) (hs : St B Γ (boxR b cs e :: Ms) w) {hBp : Prop} (hB : hBp) (hc : cs = intFlat l) (hn : l.length ≤ 1000) (hu : ∀ c, c ∈ l → in64 c) : St B (IL l (some ⟨b, 0, Option.none⟩, l.length) :: Γ) Ms w :=
  (hs.boxRow (sz := 1) (m := l.length) (by rw [hc, flat_len intCells_len l]) (by unfold maxLen; omega)).settleIL hB hc rfl (by unfold reach; omega) hu
end Go.Hy
namespace Go.Hy
theorem both_okT {t : T} {v d : Int} (hv : in64 v) (h : okT t) : okT (bothRes t v d).2 := by
  refine guard_okT' (fun ha u hu => ?_)
  simp only [List.all_cons, List.all_nil, Bool.and_true, Bool.and_eq_true, decide_eq_true_eq] at ha
  obtain ⟨x, hx, hu⟩ := Res1.bind_ok hu
  exact lift_okT (by omega) (lift_okT ⟨ha.1, most_le hv ha.1 ha.2.2⟩ h hx) hu
end Go.Hy
namespace Go.Hy
/-! ### Sizes as sums -/
def sizeL : List T → Nat
  | [] => 0
  | t :: ts => size t + sizeL ts
def sizeB : List Br → Nat
  | [] => 0
  | b :: bs => sizeL b.kids + sizeB bs
theorem foldl_add {α : Type} (f : α → Nat) : ∀ (l : List α) (a : Nat), l.foldl (fun a p => a + f p) a = a + l.foldl (fun a p => a + f p) 0
  | [], a => rfl
  | x :: l, a => by rw [List.foldl_cons, List.foldl_cons, foldl_add f l (a + f x), foldl_add f l (0 + f x)]; omega
theorem size_sumLB (t : T) : size t = 1 + sizeL t.kids + sizeB t.sys := by
  have hk : ∀ (k : Int) (ts : List T) (i : Nat), (kidParts k i ts).foldl (fun a p => a + size p.1) 0 = sizeL ts := by
    intro k ts
    induction ts with
    | nil => intro i; rfl
    | cons t ts ih => intro i; rw [kidParts, List.foldl_cons, foldl_add, ih, sizeL]; simp only; omega
  have hm : ∀ (ts : List T) (b : Int × Int), (ts.map fun k => ((k, b.1, b.2) : Part)).foldl (fun a p => a + size p.1) 0 = sizeL ts := by
    intro ts b
    induction ts with
    | nil => rfl
    | cons t ts ih => rw [List.map_cons, List.foldl_cons, foldl_add, ih, sizeL]; simp only; omega
  have hs : ∀ (k : Int) (bs : List Br), (sysParts k bs).foldl (fun a p => a + size p.1) 0 = sizeB bs := by
    intro k bs
    induction bs with
    | nil => rfl
    | cons b bs ih => rw [sysParts, List.foldl_append, foldl_add, ih, hm b.kids (0, more k), sizeB]
  rw [size_eq, parts, List.foldl_append, foldl_add, hs, foldl_add, hk]
section
variable {t u : T} {n : Int}
end
theorem bothRes_told {u : T} {v d : Int} (h : (bothRes u v d).1 = 0) : formedP u = 0 ∧ 0 ≤ v ∧ 0 ≤ d ∧ bothR u v d = .ok (bothRes u v d).2 := by
  unfold bothRes guardRes at h ⊢
  split at h
  · rename_i h1; exact absurd h h1
  · rename_i h1
    split at h
    · cases h
    · rename_i h2
      rw [if_neg h1, if_neg h2]
      simp only [List.all_cons, List.all_nil, Bool.and_true, Bool.not_eq_false, Bool.and_eq_true, decide_eq_true_eq] at h2
      refine ⟨by omega, h2.1, h2.2.1, ?_⟩
      cases hx : bothR u v d with
      | bad e =>
        exfalso
        rw [hx] at h
        simp only at h
        rcases bind_bad_of hx with h3 | ⟨y, _, h3⟩
        · exact lift_bad_ne' h3 h
        · exact lift_bad_ne' h3 h
      | ok x => rfl
end Go.Hy
namespace Go.Hy
theorem right24_iff {c : Cl} : right24 c = true ↔ c.pos < 16777216 ∧ c.neg < 16777216 := by unfold right24; rw [Bool.and_eq_true, decide_eq_true_eq, decide_eq_true_eq]
/-! ### Two ways and two others -/
section
variable {CA CB CC CD : Type} {A : Tr CA} {B : Tr CB} {C : Tr CC} {D : Tr CD} (R : CA → CB → CC → CD → Prop)
variable {R}
end
/-- lift.Both in one way. -/
theorem both_way {u : T} {v d : Int} (h : (bothRes u v d).1 = 0) : fineT u ∧ 0 ≤ v ∧ 0 ≤ d ∧ trav (liftTr v d) u (0, 0) = .ok (bothRes u v d).2 := by
  obtain ⟨h1, h2, h3, h4⟩ := bothRes_told h
  have hf := (formed_fine.mp h1).2
  obtain ⟨y, h5, h6⟩ := Res1.bind_ok (x := trav (liftTr v 0) u (0, 0)) h4
  exact ⟨hf, h2, h3, by rw [← fuse (fuse_VD h2) hf (show R3 (0, 0) (0, 0) (0, 0) from ⟨rfl, rfl⟩) h5]; exact h6⟩
end Go.Hy
namespace Go.Hy
/-! ### The document's lift of a mask: its list, number by number -/
theorem sorted_ext : ∀ {l m : List Int}, (l.Pairwise fun a b => a < b) → (m.Pairwise fun a b => a < b) → (∀ x, x ∈ l ↔ x ∈ m) → l = m
  | [], [], _, _, _ => rfl
  | [], b :: m, _, _, h => by have := (h b).mpr List.mem_cons_self; cases this
  | a :: l, [], _, _, h => by have := (h a).mp List.mem_cons_self; cases this
  | a :: l, b :: m, hl, hm, h => by
    obtain ⟨l1, l2⟩ := List.pairwise_cons.mp hl
    obtain ⟨m1, m2⟩ := List.pairwise_cons.mp hm
    have hab : a = b := by
      rcases List.mem_cons.mp ((h a).mp List.mem_cons_self) with h1 | h1
      · exact h1
      · rcases List.mem_cons.mp ((h b).mpr List.mem_cons_self) with h2 | h2
        · exact h2.symm
        · have := l1 b h2; have := m1 a h1; omega
    subst hab
    have : l = m := sorted_ext l2 m2 fun x => by
      constructor
      · intro hx
        rcases List.mem_cons.mp ((h x).mp (List.mem_cons_of_mem _ hx)) with h1 | h1
        · subst h1; have := l1 x hx; omega
        · exact h1
      · intro hx
        rcases List.mem_cons.mp ((h x).mpr (List.mem_cons_of_mem _ hx)) with h1 | h1
        · subst h1; have := m1 x hx; omega
        · exact h1
    rw [this]
end Go.Hy
namespace Go.Hy
/-! ### A mask's least number, and the rest -/
theorem listM_sort (s : Nat) : (listM s).Pairwise fun a b => a < b := by
  unfold listM listTo
  rw [List.pairwise_map]
  refine List.Pairwise.filter _ ?_
  exact List.pairwise_lt_range.imp fun h => by omega
theorem listM_and (s : Nat) : listM (s &&& 16777215) = listM s := by
  refine sorted_ext (listM_sort _) (listM_sort _) fun x => ?_
  rw [listTo_mem, listTo_mem, and24_bit]
  constructor
  · rintro ⟨h1, h2, h3⟩
    rw [Bool.and_eq_true] at h3
    exact ⟨h1, h2, h3.2⟩
  · rintro ⟨h1, h2, h3⟩
    exact ⟨h1, h2, by rw [h3, decide_eq_true (by omega)]; rfl⟩
theorem low_split {r : Nat} (h0 : ¬ r = 0) (h : r < 4294967296) : ∃ m, r = 2 ^ Lib.ctz 32 r * (2 * m + 1) ∧ Lib.ctz 32 r < 32 := by
  obtain ⟨m, h1, h2⟩ := Lib.ctzFrom_spec 32 r (by omega) h
  have e : Lib.ctz 32 r = Lib.ctzFrom 32 r := by unfold Lib.ctz; rw [if_neg h0]
  rw [e]
  exact ⟨m, h1, h2⟩
theorem low_bit {r k m i : Nat} (h : r = 2 ^ k * (2 * m + 1)) : (r &&& (r - 1)).testBit i = (r.testBit i && decide (i ≠ k)) ∧ r.testBit k = true ∧ (i < k → r.testBit i = false) := by
  have hp : 0 < 2 ^ k := Nat.pow_pos (by decide)
  have e1 : r = 2 ^ (k + 1) * m + 2 ^ k := by rw [h, Nat.pow_succ, Nat.mul_add, Nat.mul_assoc]; simp
  have e2 : r - 1 = 2 ^ (k + 1) * m + (2 ^ k - 1) := by omega
  have hb1 : 2 ^ k < 2 ^ (k + 1) := by rw [Nat.pow_succ]; omega
  have hb2 : 2 ^ k - 1 < 2 ^ (k + 1) := by omega
  have t1 : ∀ j, r.testBit j = if j < k + 1 then (2 ^ k).testBit j else m.testBit (j - (k + 1)) := fun j => by rw [e1]; exact Nat.testBit_two_pow_mul_add m hb1 j
  have t2 : ∀ j, (r - 1).testBit j = if j < k + 1 then (2 ^ k - 1).testBit j else m.testBit (j - (k + 1)) := fun j => by rw [e2]; exact Nat.testBit_two_pow_mul_add m hb2 j
  refine ⟨?_, by rw [t1, if_pos (by omega), Nat.testBit_two_pow_self], fun hi => by rw [t1, if_pos (by omega), Nat.testBit_two_pow_of_ne (by omega)]⟩
  rw [Nat.testBit_and, t1, t2]
  by_cases hi : i < k + 1
  · rw [if_pos hi, if_pos hi, Nat.testBit_two_pow, Nat.testBit_two_pow_sub_one]
    by_cases hk : k = i
    · subst hk; simp
    · simp [hk]
  · rw [if_neg hi, if_neg hi]
    have : i ≠ k := by omega
    simp [this]
theorem listM_low {r : Nat} (h0 : ¬ r = 0) (h : r < 16777216) : Lib.ctz 32 r < 24 ∧ listM r = (Lib.ctz 32 r : Int) :: listM (r &&& (r - 1)) := by
  obtain ⟨m, h1, h2⟩ := low_split h0 (by omega)
  have hb := fun i => low_bit (i := i) h1
  have hk : Lib.ctz 32 r < 24 := Decidable.byContradiction fun hn => by
    have h3 := Nat.ge_two_pow_of_testBit (hb 0).2.1
    have h4 : 2 ^ 24 ≤ 2 ^ Lib.ctz 32 r := Nat.pow_le_pow_right (by decide) (by omega)
    omega
  refine ⟨hk, sorted_ext (listM_sort _) (List.pairwise_cons.mpr ⟨fun x hx => ?_, listM_sort _⟩) fun x => ?_⟩
  · obtain ⟨x0, x1, x2⟩ := listTo_mem.mp hx
    rw [(hb x.toNat).1, Bool.and_eq_true, decide_eq_true_eq] at x2
    have : ¬ x.toNat < Lib.ctz 32 r := fun hlt => by have := (hb x.toNat).2.2 hlt; rw [x2.1] at this; cases this
    omega
  · rw [List.mem_cons, listTo_mem, listTo_mem, (hb x.toNat).1, Bool.and_eq_true, decide_eq_true_eq]
    constructor
    · rintro ⟨x0, x1, x2⟩
      by_cases hx : x = (Lib.ctz 32 r : Int)
      · exact .inl hx
      · exact .inr ⟨x0, x1, x2, by omega⟩
    · rintro (rfl | ⟨x0, x1, x2, _⟩)
      · exact ⟨by omega, by omega, by rw [Int.toNat_natCast]; exact (hb 0).2.1⟩
      · exact ⟨x0, x1, x2⟩
theorem low_lt {r : Nat} (h0 : ¬ r = 0) : r &&& (r - 1) < r := Nat.lt_of_le_of_lt Nat.and_le_right (by omega)
end Go.Hy
namespace Go.Hy
/-! Counting bits: the library's table of bytes. -/
def popS : ByteArray := ⟨#[0, 1, 1, 2, 1, 2, 2, 3, 1, 2, 2, 3, 2, 3, 3, 4, 1, 2, 2, 3, 2, 3, 3, 4, 2, 3, 3, 4, 3, 4, 4, 5, 1, 2, 2, 3, 2, 3, 3, 4, 2, 3, 3, 4, 3, 4, 4, 5, 2, 3, 3, 4, 3, 4, 4, 5, 3, 4, 4, 5, 4, 5, 5, 6, 1, 2, 2, 3, 2, 3, 3, 4, 2, 3, 3, 4, 3, 4, 4, 5, 2, 3, 3, 4, 3, 4, 4, 5, 3, 4, 4, 5, 4, 5, 5, 6, 2, 3, 3, 4, 3, 4, 4, 5, 3, 4, 4, 5, 4, 5, 5, 6, 3, 4, 4, 5, 4, 5, 5, 6, 4, 5, 5, 6, 5, 6, 6, 7, 1, 2, 2, 3, 2, 3, 3, 4, 2, 3, 3, 4, 3, 4, 4, 5, 2, 3, 3, 4, 3, 4, 4, 5, 3, 4, 4, 5, 4, 5, 5, 6, 2, 3, 3, 4, 3, 4, 4, 5, 3, 4, 4, 5, 4, 5, 5, 6, 3, 4, 4, 5, 4, 5, 5, 6, 4, 5, 5, 6, 5, 6, 6, 7, 2, 3, 3, 4, 3, 4, 4, 5, 3, 4, 4, 5, 4, 5, 5, 6, 3, 4, 4, 5, 4, 5, 5, 6, 4, 5, 5, 6, 5, 6, 6, 7, 3, 4, 4, 5, 4, 5, 5, 6, 4, 5, 5, 6, 5, 6, 6, 7, 4, 5, 5, 6, 5, 6, 6, 7, 5, 6, 6, 7, 6, 7, 7, 8]⟩
def pop8 (j : Nat) : Nat := j % 2 + j / 2 % 2 + j / 4 % 2 + j / 8 % 2 + j / 16 % 2 + j / 32 % 2 + j / 64 % 2 + j / 128 % 2
theorem popTab : ∀ j, j < 256 → popS[j]? = some (UInt8.ofNat (pop8 j)) ∧ pop8 j ≤ 8 := by decide +kernel
def pop32 (s : Nat) : Nat := pop8 (s / 16777216) + pop8 (s / 65536 &&& 255) + pop8 (s / 256 &&& 255) + pop8 (s &&& 255)
theorem pop32_one : ∀ k, k < 24 → pop32 (2 ^ k) = 1 := by decide +kernel
theorem pop32_zero : pop32 0 = 0 := by decide
theorem and255 (s : Nat) : s &&& 255 < 256 := Nat.lt_of_le_of_lt Nat.and_le_right (by decide)
section
variable {tn : Bool} {pn : Nat} {P : Program} [Tab P] {f : FuncId} {R : Ending → World → Prop} {B : Base} {n : Fz} {K : List Item} {ops : Array Oper} {i : Nat} {l fin : List Nat} {σ : Nat → Value} {Γ : List Fact} {Ms Ms2 : List Res}
variable {dst : Option Tmp} {op : Op} {ty : TypeId} {pos : String} {after : Array Edge} {v : Value} {x y z : Operand}
theorem pe_indexPop {t : TypeId} {s : ByteArray} {j : Nat} (hu : Tab.und P t = some .string) (hx : ev σ x = .string s) (hs : s = popS) (hy : ev σ y = .int .u32 (j : Int)) (hj : j < 256) : PureE P σ (.index t x y) ty (.int .u8 (pop8 j : Nat)) := fun w => by
  subst hs
  have h := (popTab j hj)
  have e : ((UInt8.ofNat (pop8 j)).toNat : Int) = (pop8 j : Nat) := by
    rw [UInt8.toNat_ofNat']
    have := h.2
    omega
  simp [opr, execOp, hx, hy, Instr.index, asIntOf, run_und0 hu, h.1]
  have := h.2
  omega
theorem pe_addU8 {t t' : TypeId} {a b : Nat} (hx : ev σ x = .int .u8 (a : Nat)) (hy : ev σ y = .int .u8 (b : Nat)) (h : a + b < 256) : PureE P σ (.binOp .add t x y t') ty (.int .u8 ((a + b : Nat) : Int)) :=
  run_bin hx hy (fun w => eqGuard_int w) (fun w => by
    have e : IntKind.u8.wrap ((a : Int) + (b : Int)) = ((a + b : Nat) : Int) := by simp [IntKind.wrap, IntKind.signed, IntKind.bits]; omega
    show Result.ok (Value.int .u8 (IntKind.u8.wrap ((a : Int) + (b : Int)))) w = _
    rw [e])
theorem pe_convBI {s d : TypeId} {ds : TypeDesc} {a : Nat} (hs : Tab.und P s = some ds) (hd : Tab.und P d = some (.int .i64)) (hx : ev σ x = .int .u8 (a : Nat)) (ha : a < 256) : PureE P σ (.convert s d x) ty (.int .i64 (a : Int)) := by
  have h := pe_convert hs hd hx (ty := ty)
  rwa [show IntKind.i64.wrap (a : Int) = (a : Int) by rw [IntKind.wrap_i64]; omega] at h
theorem v_ixPop {t : TypeId} {s : ByteArray} {j : Nat} (k_ : NV tn pn P f R B n K ops fin l (putS σ dst (.int .u8 (pop8 j : Nat))) Γ Ms) (hx : ev σ x = .string s := by exact wn_) (hy : ev σ y = .int .u32 (j : Int) := by exact wn_) (hs : s = popS := by rfl) (hu : Tab.und P t = some .string := by rfl) (hj : j < 256 := by first | omega | exact and255 _) (hd : dstOk n dst = true := by rfl) : NvT tn pn P f R B n K ops fin i l dst (.index t x y) ty σ Γ Ms := nv_pure (pe_indexPop hu hx hs hy hj) hd k_
theorem v_addU8 {t t' : TypeId} {a b : Nat} (k_ : NV tn pn P f R B n K ops fin l (putS σ dst (.int .u8 ((a + b : Nat) : Int))) Γ Ms) (hx : ev σ x = .int .u8 (a : Nat) := by exact wn_) (hy : ev σ y = .int .u8 (b : Nat) := by exact wn_) (h : a + b < 256 := by omega) (hd : dstOk n dst = true := by rfl) : NvT tn pn P f R B n K ops fin i l dst (.binOp .add t x y t') ty σ Γ Ms := nv_pure (pe_addU8 hx hy h) hd k_
theorem v_convBI {s d : TypeId} {ds : TypeDesc} {a : Nat} (k_ : NV tn pn P f R B n K ops fin l (putS σ dst (.int .i64 (a : Int))) Γ Ms) (hx : ev σ x = .int .u8 (a : Nat) := by exact wn_) (hs : Tab.und P s = some ds := by rfl) (hd' : Tab.und P d = some (.int .i64) := by rfl) (ha : a < 256 := by omega) (hd : dstOk n dst = true := by rfl) : NvT tn pn P f R B n K ops fin i l dst (.convert s d x) ty σ Γ Ms := nv_pure (pe_convBI hs hd' hx ha) hd k_
end
end Go.Hy
namespace Go.Hy
/-! ### The document's lift against the program's -/
theorem leastF_snd {l : List Cl} (h : (leastF l).1 ≠ 0) : (leastF l).2 = [] := by
  unfold leastF at h ⊢
  split
  · rfl
  · rename_i h1
    rw [if_neg h1] at h
    split
    · rfl
    · rename_i h2
      rw [if_neg h2] at h
      exact absurd rfl h
end Go.Hy
namespace Go.Hy
/-! ### Formulas and faces: what the program makes of them -/
abbrev EL : Type := Int × List Cl
def bitM (i : Int) : Nat := if 0 ≤ i ∧ i < 24 then 2 ^ i.toNat else 0
def withM (s : Nat) (i : Int) : Nat := if 0 ≤ i ∧ i < 24 then (s &&& 16777215) ||| 2 ^ i.toNat else s &&& 16777215
def withoutM (s : Nat) (i : Int) : Nat := if 0 ≤ i ∧ i < 24 then andNot32 (s &&& 16777215) (2 ^ i.toNat) else s &&& 16777215
theorem withM_zero (i : Int) : withM 0 i = bitM i := by unfold withM bitM; split <;> simp
theorem bitM_lt (i : Int) : bitM i < 16777216 := by
  unfold bitM
  split
  · exact Nat.pow_lt_pow_right (n := 24) (a := 2) (by decide) (by omega)
  · decide
theorem withoutM_lt (s : Nat) (i : Int) : withoutM s i < 16777216 := by
  unfold withoutM
  split
  · rw [show (16777216 : Nat) = 2 ^ 24 from rfl]
    exact Nat.lt_pow_two_of_testBit _ fun j hj => by
      rw [andNot32_bit, and24_bit, decide_eq_false (show ¬ j < 24 by omega)]; simp
  · exact and24_lt s
theorem has_bits (s : Nat) (i : Int) : ((decide (0 ≤ i) && decide (i < 24)) && decide (((s / 2 ^ (min i.toNat 32) &&& 1 : Nat) : Int) = 1)) = hasM s i := by
  rw [hasM_eq, Nat.and_one_is_mod]
  by_cases h : 0 ≤ i ∧ i < 24
  · rw [show min i.toNat 32 = i.toNat by omega]
    congr 1
    exact decide_eq_decide.mpr (by omega)
  · have : (decide (0 ≤ i) && decide (i < 24)) = false := by simp; omega
    rw [this]; rfl
def isDim (i : Int) : Bool := decide (0 ≤ i) && decide (i < 24)
theorem pop_bit {i : Int} (h : isDim i = true) : pop32 (bitM i &&& 16777215) = 1 := by
  have h1 : 0 ≤ i ∧ i < 24 := by unfold isDim at h; simpa using h
  have h2 := bitM_lt i
  rw [and24, Nat.mod_eq_of_lt (by omega)]
  unfold bitM
  rw [if_pos h1]
  exact pop32_one _ (by omega)
theorem pop_none {i : Int} (h : isDim i = false) : pop32 (bitM i &&& 16777215) = 0 := by
  have h1 : ¬ (0 ≤ i ∧ i < 24) := by unfold isDim at h; simp at h; omega
  unfold bitM
  rw [if_neg h1]
  exact pop32_zero
theorem pop_dim (i : Int) : decide (((pop32 (bitM i &&& 16777215) : Nat) : Int) = 1) = isDim i := by
  cases h : isDim i
  · rw [pop_none h]; rfl
  · rw [pop_bit h]; rfl
theorem pop_dim0 (i : Int) : decide (((pop32 (bitM i &&& 16777215) : Nat) : Int) = 0) = !isDim i := by
  cases h : isDim i
  · rw [pop_none h]; rfl
  · rw [pop_bit h]; rfl
def bindE (x : EL) (k : List Cl → EL) : EL := if x.1 ≠ 0 then (x.1, []) else k x.2
theorem bindE_bad {x : EL} {k : List Cl → EL} (h : x.1 ≠ 0) : bindE x k = (x.1, []) := if_pos h
theorem bindE_ok {x : EL} {k : List Cl → EL} (h : x.1 = 0) : bindE x k = k x.2 := if_neg (by simp [h])
/-- On from a list, clause by clause. -/
def foldF (g : List Cl → Cl → EL) : List Cl → List Cl → EL
  | h, [] => (0, h)
  | h, c :: cs => bindE (g h c) fun h' => foldF g h' cs
theorem foldF_on {g : List Cl → Cl → EL} : ∀ {l m h h' : List Cl}, foldF g h l = (0, h') → foldF g h (l ++ m) = foldF g h' m
  | [], m, h, h', e => by
    rw [foldF, Prod.mk.injEq] at e
    rw [List.nil_append, e.2]
  | d :: l, m, h, h', e => by
    rw [foldF] at e
    by_cases h0 : (g h d).1 = 0
    · rw [bindE_ok h0] at e
      rw [List.cons_append, foldF, bindE_ok h0]
      exact foldF_on e
    · rw [bindE_bad h0, Prod.mk.injEq] at e
      exact absurd e.1 h0
theorem foldF_ok {g : List Cl → Cl → EL} {l h h' : List Cl} {i : Nat} (hi : i < l.length) (e : foldF g h (l.take i) = (0, h')) (h0 : (g h' (l.getD i cl0)).1 = 0) : foldF g h (l.take (i + 1)) = (0, (g h' (l.getD i cl0)).2) := by
  rw [take_succ_getD (d := cl0) hi, foldF_on e, foldF, bindE_ok h0, foldF]
theorem foldF_bad {g : List Cl → Cl → EL} {l h h' : List Cl} {i : Nat} (hi : i < l.length) (e : foldF g h (l.take i) = (0, h')) (h0 : (g h' (l.getD i cl0)).1 ≠ 0) : foldF g h l = ((g h' (l.getD i cl0)).1, []) := by
  have e2 : l = l.take i ++ l.getD i cl0 :: l.drop (i + 1) := by rw [getD_get (d := cl0) hi, List.getElem_cons_drop, List.take_append_drop]
  rw [e2, foldF_on e, ← e2, foldF, bindE_bad h0]
theorem foldF_all {g : List Cl → Cl → EL} {l h h' : List Cl} {i : Nat} (hi : i = l.length) (e : foldF g h (l.take i) = (0, h')) : foldF g h l = (0, h') := by
  rw [hi, List.take_length] at e
  exact e
/-! Formulas. -/
def joinF (f g : List Cl) : EL := leastF (f ++ g)
def meetL (f g : List Cl) : List Cl := f.flatMap fun a => g.map fun b => meetC a b
def meetF (f g : List Cl) : EL := leastF (meetL f g)
def oppL (c : Cl) : List Cl := ((listM c.pos).map fun i => (⟨0, bitM i⟩ : Cl)) ++ ((listM c.neg).map fun i => (⟨bitM i, 0⟩ : Cl))
def oppF (c : Cl) : EL := leastF (oppL c)
def notStep (h : List Cl) (c : Cl) : EL := bindE (oppF c) fun o => meetF h o
def notF (f : List Cl) : EL := foldF notStep [cl0] f
def notR (f : List Cl) : EL := if fRight f then notF f else (2, [])
def takeC (c : Cl) (i : Int) : Cl := ⟨withoutM c.pos i, withoutM c.neg i⟩
def putPos (i : Int) (r : List Cl) (c : Cl) : EL := if hasM c.pos i then meetF [takeC c i] r else (0, [takeC c i])
def putNeg (i : Int) (r : List Cl) (c : Cl) (g : List Cl) : EL := if hasM c.neg i then bindE (notF r) fun s => meetF g s else (0, g)
def putStep (i : Int) (r h : List Cl) (c : Cl) : EL := bindE (putPos i r c) fun g => bindE (putNeg i r c g) fun g => joinF h g
theorem putStep_bad1 {i : Int} {r h : List Cl} {c : Cl} {P : EL} (hP : putPos i r c = P) (h0 : P.1 ≠ 0) : putStep i r h c = (P.1, []) := by unfold putStep; rw [hP]; exact bindE_bad h0
theorem putStep_bad2 {i : Int} {r h : List Cl} {c : Cl} {P N : EL} (hP : putPos i r c = P) (h0 : P.1 = 0) (hN : putNeg i r c P.2 = N) (h1 : N.1 ≠ 0) : putStep i r h c = (N.1, []) := by unfold putStep; rw [hP, bindE_ok h0, hN]; exact bindE_bad h1
theorem putStep_end {i : Int} {r h : List Cl} {c : Cl} {P N : EL} (hP : putPos i r c = P) (h0 : P.1 = 0) (hN : putNeg i r c P.2 = N) (h1 : N.1 = 0) : putStep i r h c = joinF h N.2 := by unfold putStep; rw [hP, bindE_ok h0, hN]; exact bindE_ok h1
theorem putNeg_bad {i : Int} {r : List Cl} {c : Cl} {g : List Cl} {s : EL} (h : hasM c.neg i = true) (hs : s = notF r) (h0 : s.1 ≠ 0) : putNeg i r c g = (s.1, []) := by unfold putNeg; rw [if_pos h, ← hs]; exact bindE_bad h0
theorem putNeg_yes {i : Int} {r : List Cl} {c : Cl} {g : List Cl} {s m : EL} (h : hasM c.neg i = true) (hs : s = notF r) (h0 : s.1 = 0) (hm : m = meetF g s.2) : putNeg i r c g = m := by unfold putNeg; rw [if_pos h, ← hs, hm]; exact bindE_ok h0
theorem putNeg_no {i : Int} {r : List Cl} {c : Cl} {g : List Cl} (h : hasM c.neg i = false) : putNeg i r c g = (0, g) := by unfold putNeg; rw [if_neg (by simp [h])]
def formPut (f : List Cl) (i : Int) (r : List Cl) : EL := if (fRight f && fRight r) = false then (2, []) else if isDim i = false then (2, []) else foldF (putStep i r) [] f
/-! Faces. -/
def calmL (l : List Cl) : List Cl := l.filter fun c => !clash c
def ofF (f : List Cl) : EL := if fRight f then leastF (calmL f) else (2, [])
def ofZero (r : List Cl) : EL := bindE (notR r) ofF
def meetA (f g : List Cl) : EL := leastF (f.flatMap fun a => calmL (g.map fun b => meetC a b))
def facePart (i : Int) (r : List Cl) (c : Cl) : EL := if hasM c.pos i then bindE (ofF r) fun x => meetA [takeC c i] x else if hasM c.neg i then bindE (ofZero r) fun x => meetA [takeC c i] x else (0, [takeC c i])
def faceStep (i : Int) (r h : List Cl) (c : Cl) : EL := bindE (facePart i r c) fun g => joinF h g
theorem faceStep_ok {i : Int} {r h : List Cl} {c : Cl} {P : EL} (hP : facePart i r c = P) (h0 : P.1 = 0) : faceStep i r h c = joinF h P.2 := by unfold faceStep; rw [hP]; exact bindE_ok h0
theorem faceStep_bad {i : Int} {r h : List Cl} {c : Cl} {P : EL} (hP : facePart i r c = P) (h0 : P.1 ≠ 0) : faceStep i r h c = (P.1, []) := by unfold faceStep; rw [hP]; exact bindE_bad h0
theorem facePart_pos {i : Int} {r : List Cl} {c : Cl} {q m : EL} (h : hasM c.pos i = true) (hq : q = ofF r) (h0 : q.1 = 0) (hm : m = meetA [takeC c i] q.2) : facePart i r c = m := by unfold facePart; rw [if_pos h, ← hq, hm]; exact bindE_ok h0
theorem facePart_pose {i : Int} {r : List Cl} {c : Cl} {q : EL} (h : hasM c.pos i = true) (hq : q = ofF r) (h0 : q.1 ≠ 0) : facePart i r c = (q.1, []) := by unfold facePart; rw [if_pos h, ← hq]; exact bindE_bad h0
theorem facePart_neg {i : Int} {r : List Cl} {c : Cl} {q m : EL} (h1 : hasM c.pos i = false) (h : hasM c.neg i = true) (hq : q = ofZero r) (h0 : q.1 = 0) (hm : m = meetA [takeC c i] q.2) : facePart i r c = m := by unfold facePart; rw [if_neg (by simp [h1]), if_pos h, ← hq, hm]; exact bindE_ok h0
theorem facePart_nege {i : Int} {r : List Cl} {c : Cl} {q : EL} (h1 : hasM c.pos i = false) (h : hasM c.neg i = true) (hq : q = ofZero r) (h0 : q.1 ≠ 0) : facePart i r c = (q.1, []) := by unfold facePart; rw [if_neg (by simp [h1]), if_pos h, ← hq]; exact bindE_bad h0
theorem facePart_no {i : Int} {r : List Cl} {c : Cl} (h1 : hasM c.pos i = false) (h : hasM c.neg i = false) : facePart i r c = (0, [takeC c i]) := by unfold facePart; rw [if_neg (by simp [h1]), if_neg (by simp [h])]
def facePut (f : List Cl) (i : Int) (r : List Cl) : EL := if (faceRight f && isDim i && fRight r) = false then (2, []) else foldF (faceStep i r) [] f
def single (c : Cl) : Bool := right24 c && !clash c
def joinA (f g : List Cl) : EL := if (faceRight f && faceRight g) = false then (2, []) else joinF f g
/-! ### Rows that may lie in memory -/
abbrev okE (x : EL) : Prop := rowOk x.2
theorem rowOk_sub {l m : List Cl} (h : rowOk l) (hs : ∀ c, c ∈ m → c ∈ l) (hl : m.length ≤ l.length) : rowOk m := ⟨fun c hc => h.1 c (hs c hc), by have := h.2; omega⟩
theorem okE_least {l : List Cl} (h : ∀ c, c ∈ l → u32 c) : okE (leastF l) := leastF_ok h
theorem okE_bind {x : EL} {k : List Cl → EL} (h : x.1 = 0 → okE (k x.2)) : okE (bindE x k) := by
  by_cases h0 : x.1 = 0
  · rw [bindE_ok h0]; exact h h0
  · rw [bindE_bad h0]; exact rowOk_nil
theorem okE_fold {g : List Cl → Cl → EL} : ∀ {l h : List Cl}, (∀ h c, c ∈ l → rowOk h → okE (g h c)) → rowOk h → okE (foldF g h l)
  | [], h, _, h2 => h2
  | c :: l, h, h1, h2 => by
    rw [foldF]
    exact okE_bind fun _ => okE_fold (fun h' d hd => h1 h' d (List.mem_cons_of_mem _ hd)) (h1 h c List.mem_cons_self h2)
theorem u32_meet {a b : Cl} (h : u32 a) (h2 : u32 b) : u32 (meetC a b) := ⟨Nat.or_lt_two_pow (n := 32) h.1 h2.1, Nat.or_lt_two_pow (n := 32) h.2 h2.2⟩
theorem u32_join {f g : List Cl} (h : ∀ c, c ∈ f → u32 c) (h2 : ∀ c, c ∈ g → u32 c) : ∀ c, c ∈ f ++ g → u32 c := fun c hc => (List.mem_append.mp hc).elim (h c) (h2 c)
theorem u32_meetL {f g : List Cl} (h : ∀ c, c ∈ f → u32 c) (h2 : ∀ c, c ∈ g → u32 c) : ∀ c, c ∈ meetL f g → u32 c := fun c hc => by
  obtain ⟨a, ha, hc⟩ := List.mem_flatMap.mp hc
  obtain ⟨b, hb, rfl⟩ := List.mem_map.mp hc
  exact u32_meet (h a ha) (h2 b hb)
theorem u32_opp (c : Cl) : ∀ d, d ∈ oppL c → u32 d := fun d hd => by
  rcases List.mem_append.mp hd with hd | hd
  · obtain ⟨i, _, rfl⟩ := List.mem_map.mp hd
    exact ⟨by show (0 : Nat) < _; decide, by have := bitM_lt i; show bitM i < 4294967296; omega⟩
  · obtain ⟨i, _, rfl⟩ := List.mem_map.mp hd
    exact ⟨by have := bitM_lt i; show bitM i < 4294967296; omega, by show (0 : Nat) < _; decide⟩
theorem u32_take (c : Cl) (i : Int) : u32 (takeC c i) := ⟨by have := withoutM_lt c.pos i; show withoutM c.pos i < _; omega, by have := withoutM_lt c.neg i; show withoutM c.neg i < _; omega⟩
theorem rowOk_one {c : Cl} (h : u32 c) : rowOk [c] := ⟨fun d hd => by rw [List.mem_singleton] at hd; subst hd; exact h, by unfold reach; simp⟩
theorem okE_join {f g : List Cl} (h : rowOk f) (h2 : rowOk g) : okE (joinF f g) := okE_least (u32_join h.1 h2.1)
theorem okE_meet {f g : List Cl} (h : rowOk f) (h2 : rowOk g) : okE (meetF f g) := okE_least (u32_meetL h.1 h2.1)
theorem okE_opp (c : Cl) : okE (oppF c) := okE_least (u32_opp c)
theorem okE_notStep {h : List Cl} {c : Cl} (hh : rowOk h) : okE (notStep h c) := okE_bind fun _ => okE_meet hh (okE_opp c)
theorem rowOk_one0 : rowOk [cl0] := rowOk_one ⟨by decide, by decide⟩
theorem okE_not (f : List Cl) : okE (notF f) := okE_fold (fun h c _ hh => okE_notStep hh) rowOk_one0
theorem okE_notR (f : List Cl) : okE (notR f) := by unfold notR; split; exact okE_not f; exact rowOk_nil
theorem okE_putPos {i : Int} {r : List Cl} {c : Cl} (hr : rowOk r) : okE (putPos i r c) := by
  unfold putPos
  split
  · exact okE_meet (rowOk_one (u32_take c i)) hr
  · exact rowOk_one (u32_take c i)
theorem okE_putNeg {i : Int} {r : List Cl} {c : Cl} {g : List Cl} (hg : rowOk g) : okE (putNeg i r c g) := by
  unfold putNeg
  split
  · exact okE_bind fun _ => okE_meet hg (okE_not r)
  · exact hg
theorem okE_putStep {i : Int} {r h : List Cl} {c : Cl} (hr : rowOk r) (hh : rowOk h) : okE (putStep i r h c) := by
  unfold putStep
  refine okE_bind fun _ => okE_bind fun _ => okE_join hh ?_
  have h1 : okE (putPos i r c) := okE_putPos hr
  exact okE_putNeg h1
theorem okE_formPut {f r : List Cl} {i : Int} (hr : rowOk r) : okE (formPut f i r) := by
  unfold formPut
  split
  · exact rowOk_nil
  · split
    · exact rowOk_nil
    · exact okE_fold (fun h c _ hh => okE_putStep hr hh) rowOk_nil
theorem rowOk_calm {l : List Cl} (h : rowOk l) : rowOk (calmL l) := rowOk_sub h (fun c hc => (List.mem_filter.mp hc).1) (List.length_filter_le _ _)
theorem okE_of {f : List Cl} (h : rowOk f) : okE (ofF f) := by unfold ofF; split; exact okE_least (rowOk_calm h).1; exact rowOk_nil
theorem okE_ofZero (r : List Cl) : okE (ofZero r) := okE_bind fun _ => okE_of (okE_notR r)
theorem okE_meetA {f g : List Cl} (h : rowOk f) (h2 : rowOk g) : okE (meetA f g) := okE_least fun c hc => by
  obtain ⟨a, ha, hc⟩ := List.mem_flatMap.mp hc
  obtain ⟨b, hb, rfl⟩ := List.mem_map.mp (List.mem_filter.mp hc).1
  exact u32_meet (h.1 a ha) (h2.1 b hb)
theorem okE_facePart {i : Int} {r : List Cl} {c : Cl} (hr : rowOk r) : okE (facePart i r c) := by
  unfold facePart
  split
  · exact okE_bind fun _ => okE_meetA (rowOk_one (u32_take c i)) (okE_of hr)
  · split
    · exact okE_bind fun _ => okE_meetA (rowOk_one (u32_take c i)) (okE_ofZero r)
    · exact rowOk_one (u32_take c i)
theorem okE_faceStep {i : Int} {r h : List Cl} {c : Cl} (hr : rowOk r) (hh : rowOk h) : okE (faceStep i r h c) := okE_bind fun _ => okE_join hh (okE_facePart hr)
theorem okE_facePut {f r : List Cl} {i : Int} (hr : rowOk r) : okE (facePut f i r) := by
  unfold facePut
  split
  · exact rowOk_nil
  · exact okE_fold (fun h c _ hh => okE_faceStep hr hh) rowOk_nil
/-! No more than 64. -/
abbrev lenE (x : EL) : Prop := x.2.length ≤ 64
theorem len_least (l : List Cl) : lenE (leastF l) := by
  rcases leastF_cases l with ⟨_, _, h, h2⟩ | h | h
  · show (leastF l).2.length ≤ 64; rw [h]; exact h2
  · show (leastF l).2.length ≤ 64; rw [leastF_snd (by omega)]; decide
  · show (leastF l).2.length ≤ 64; rw [leastF_snd (by omega)]; decide
theorem len_bind {x : EL} {k : List Cl → EL} (h : x.1 = 0 → lenE (k x.2)) : lenE (bindE x k) := by
  by_cases h0 : x.1 = 0
  · rw [bindE_ok h0]; exact h h0
  · rw [bindE_bad h0]; show ([] : List Cl).length ≤ 64; decide
theorem len_fold {g : List Cl → Cl → EL} : ∀ {l h : List Cl}, (∀ h c, c ∈ l → h.length ≤ 64 → lenE (g h c)) → h.length ≤ 64 → lenE (foldF g h l)
  | [], h, _, h2 => h2
  | c :: l, h, h1, h2 => by
    rw [foldF]
    exact len_bind fun _ => len_fold (fun h' d hd => h1 h' d (List.mem_cons_of_mem _ hd)) (h1 h c List.mem_cons_self h2)
theorem len_notStep (h : List Cl) (c : Cl) : lenE (notStep h c) := len_bind fun _ => len_least _
theorem len_not (f : List Cl) : lenE (notF f) := len_fold (fun h c _ _ => len_notStep h c) (by decide)
theorem len_putStep (i : Int) (r h : List Cl) (c : Cl) : lenE (putStep i r h c) := len_bind fun _ => len_bind fun _ => len_least _
theorem len_of (f : List Cl) : lenE (ofF f) := by unfold ofF; split; exact len_least _; (show ([] : List Cl).length ≤ 64; decide)
theorem len_ofZero (r : List Cl) : lenE (ofZero r) := len_bind fun _ => len_of _
theorem len_right {f : List Cl} (h : fRight f = true) : f.length ≤ 64 := by
  unfold fRight at h
  simp only [Bool.and_eq_true, decide_eq_true_eq] at h
  exact h.2
theorem oppL_len (c : Cl) : (oppL c).length ≤ 48 := by
  unfold oppL
  rw [List.length_append, List.length_map, List.length_map]
  have h1 : (listM c.pos).length ≤ 24 := listTo_len _ _
  have h2 : (listM c.neg).length ≤ 24 := listTo_len _ _
  omega
theorem listM_at {s i : Nat} (h : i < (listM s).length) : 0 ≤ (listM s).getD i 0 ∧ (listM s).getD i 0 < 24 := by
  have h1 := listTo_in (getD_mem (d := (0 : Int)) h)
  exact ⟨h1.1, by have := h1.2; exact_mod_cast this⟩
theorem listM_in {s i : Nat} (h : i < (listM s).length) : in64 ((listM s).getD i 0) := by have := listM_at h; unfold in64; omega
theorem meetL_len (f g : List Cl) : (meetL f g).length = f.length * g.length := by
  unfold meetL
  induction f with
  | nil => simp
  | cons a f ih => rw [List.flatMap_cons, List.length_append, ih, List.length_map, List.length_cons, Nat.succ_mul]; omega
theorem meetL_snoc (f g : List Cl) (a : Cl) : meetL (f ++ [a]) g = meetL f g ++ g.map fun b => meetC a b := by unfold meetL; rw [List.flatMap_append]; simp
theorem rowOk_CL {ok : Nat → Prop} {l : List Cl} {a : SH} {w : World} (h : clsAt ok l a w) : rowOk l := ⟨h.2, h.1.2.1⟩
def dimF (i : Int) : EL := if isDim i then (0, [⟨bitM i, 0⟩]) else (2, [])
/-! ### From an own row to what is known -/
theorem St.litCC2 {B : Base} {Γ : List Fact} {Ms : List Res} {w : World} {e : TypeId} {b : Nat} {l m : List Cl} {a a' : SH} (hs : St B Γ (boxR b [sl a l.length, sl a' m.length] e :: Ms) w) {hBp : Prop} (hB : hBp) (hF : CL l a ∈ Γ) (hG : CL m a' ∈ Γ) : St B (CCF [(l, a), (m, a')] (some ⟨b, 0, Option.none⟩, 2) :: Γ) Ms w := by
  have h1 := ((hs.boxRow (sz := 1) (m := 2) rfl (by decide)).allNil cpE).allAdd (x := (l, a)) List.mem_cons_self (List.mem_cons_of_mem _ hF)
  have h2 := h1.allAdd (x := (m, a')) List.mem_cons_self (List.mem_cons_of_mem _ (List.mem_cons_of_mem _ hG))
  exact (h2.settleRow (F := cpCells) (E := cpE) (d := cp0) (bt := 24) (l := [(l, a), (m, a')]) (fun _ => rfl) hB List.mem_cons_self rfl rfl (by decide)).less (by simp +contextual)
theorem St.lit1C {B : Base} {Γ : List Fact} {Ms : List Res} {w : World} {b : Nat} {e : TypeId} {cs : List Value} {c : Cl} (hs : St B Γ (boxR b cs e :: Ms) w) {hBp : Prop} (hB : hBp) (hc : cs = clCells c) (hu : u32 c) : St B (CL [c] (some ⟨b, 0, Option.none⟩, 1) :: Γ) Ms w :=
  (hs.boxRow (sz := 2) (m := 1) (by rw [hc]; rfl) (by decide)).settleCL (l := [c]) hB (by rw [hc]; simp [clFlat]) rfl (rowOk_one hu).2 (rowOk_one hu).1
theorem Spec.rowF {P : Program} {k : FuncId} {args : Array Value} {pre : List Fact} {e : TypeId} {r r' : EL} (he : r' = r) (h : Spec P k args pre [] (fun x : SH => .tuple #[sl x r.2.length, .int .i64 r.1]) (fun _ => []) (fun x => [rowS 2 e x r.2.length (clFlat r.2)])) (hr : okE r) :
    Spec P k args pre [] (fun x : SH => .tuple #[sl x r'.2.length, .int .i64 r'.1]) (fun x => [CL r'.2 x]) (fun _ => []) := by
  subst he
  exact fun ok w hok hst => (h ok w hok hst).mono fun e w' hh => by
    obtain ⟨x, he, hs⟩ := hh
    exact ⟨x, he, hs.settleCL trivial rfl rfl hr.2 hr.1⟩
theorem Spec.rowH {P : Program} {k : FuncId} {args : Array Value} {pre : List Fact} {e : TypeId} {r r' : EL} (he : r' = r) (h : Spec P k args pre [] (fun x : SH => .tuple #[sl x r.2.length, .int .i64 r.1]) (fun _ => []) (fun x => [rowS 2 e x r.2.length (clFlat r.2)])) :
    Spec P k args pre [] (fun x : SH => .tuple #[sl x r'.2.length, .int .i64 r'.1]) (fun _ => []) (fun x => [rowS 2 e x r'.2.length (clFlat r'.2)]) := by
  subst he
  exact h
end Go.Hy
namespace Go.Hy
/-! ### A way through a term that changes rows alone -/
structure RowsW where
  form : Int → List Cl → EL
  face : Int → List Cl → EL
def elR (x : EL) : Res1 (List Cl) := if x.1 = 0 then .ok x.2 else .bad x.1
theorem elR_ok {x : EL} (h : x.1 = 0) : elR x = .ok x.2 := if_pos h
theorem elR_bad {x : EL} (h : x.1 ≠ 0) : elR x = .bad x.1 := if_neg h
theorem elR_ok_iff {x : EL} {g : List Cl} : elR x = .ok g ↔ x = (0, g) := by
  unfold elR
  split
  · rename_i h
    constructor
    · intro h2; injection h2 with h2; exact Prod.ext h h2
    · rintro rfl; rfl
  · rename_i h
    constructor
    · intro h2; cases h2
    · rintro rfl; exact absurd rfl h
theorem elR_bad_iff {x : EL} {e : Int} : elR x = .bad e ↔ x.1 = e ∧ e ≠ 0 := by
  unfold elR
  split
  · rename_i h
    constructor
    · intro h2; cases h2
    · rintro ⟨h2, h3⟩; exact absurd (h2.symm.trans h) h3
  · rename_i h
    constructor
    · intro h2; injection h2 with h2; exact ⟨h2, h2 ▸ h⟩
    · rintro ⟨h2, h3⟩; rw [h2]
def RowsW.row (W : RowsW) (k d : Int) (r : List Cl) : EL := if k = 14 then W.face d r else W.form d r
def rowsTr (W : RowsW) : Tr Int where
  own d k n _ r := (elR (W.row k d r)).bind fun g => .ok (.inr (n, g))
  face d f := (elR (W.face d f)).bind fun g => .ok (if g.length = 0 then none else some g)
  kid d b := .ok (d + b.2)
theorem rows_kid {W : RowsW} {d : Int} {b : Int × Int} : (rowsTr W).kid d b = .ok (d + b.2) := rfl
theorem rows_own_ok {W : RowsW} {d k n : Int} {nm : ByteArray} {r : List Cl} (h : (W.row k d r).1 = 0) : (rowsTr W).own d k n nm r = .ok (.inr (n, (W.row k d r).2)) := by
  show (elR _).bind _ = _; rw [elR_ok h]; rfl
theorem rows_own_bad {W : RowsW} {d k n : Int} {nm : ByteArray} {r : List Cl} (h : (W.row k d r).1 ≠ 0) : (rowsTr W).own d k n nm r = .bad (W.row k d r).1 := by
  show (elR _).bind _ = _; rw [elR_bad h]; rfl
theorem rows_own_inr {W : RowsW} {d k n : Int} {nm : ByteArray} {r : List Cl} {p : Int × List Cl} : (rowsTr W).own d k n nm r = .ok (.inr p) ↔ W.row k d r = (0, p.2) ∧ p.1 = n := by
  constructor
  · intro h
    obtain ⟨g, hg, h2⟩ := Res1.bind_ok (x := elR (W.row k d r)) h
    injection h2 with h2; injection h2 with h2; subst h2
    exact ⟨elR_ok_iff.mp hg, rfl⟩
  · rintro ⟨h1, h2⟩
    rw [rows_own_ok (by rw [h1]), h1, ← h2]
theorem rows_own_inl {W : RowsW} {d k n : Int} {nm : ByteArray} {r : List Cl} {u : T} : (rowsTr W).own d k n nm r ≠ .ok (.inl u) := by
  intro h
  obtain ⟨g, hg, h2⟩ := Res1.bind_ok (x := elR (W.row k d r)) h
  injection h2 with h2; cases h2
theorem rows_own_bad_iff {W : RowsW} {d k n e : Int} {nm : ByteArray} {r : List Cl} : (rowsTr W).own d k n nm r = .bad e ↔ (W.row k d r).1 = e ∧ e ≠ 0 := by
  rw [← elR_bad_iff]
  show (elR _).bind _ = _ ↔ _
  cases elR (W.row k d r) with
  | ok g => constructor <;> (intro h; cases h)
  | bad e' => exact Iff.intro (fun h => by injection h with h; rw [h]) (fun h => by injection h with h; rw [h]; rfl)
theorem rows_face_none {W : RowsW} {d : Int} {f : List Cl} (h : (W.face d f).1 = 0) (h2 : (W.face d f).2.length = 0) : (rowsTr W).face d f = .ok none := by
  show (elR _).bind _ = _; rw [elR_ok h]; show Res1.ok (if _ then _ else _) = _; rw [if_pos h2]
theorem rows_face_some {W : RowsW} {d : Int} {f : List Cl} (h : (W.face d f).1 = 0) (h2 : (W.face d f).2.length ≠ 0) : (rowsTr W).face d f = .ok (some (W.face d f).2) := by
  show (elR _).bind _ = _; rw [elR_ok h]; show Res1.ok (if _ then _ else _) = _; rw [if_neg h2]
theorem rows_face_bad {W : RowsW} {d : Int} {f : List Cl} (h : (W.face d f).1 ≠ 0) : (rowsTr W).face d f = .bad (W.face d f).1 := by
  show (elR _).bind _ = _; rw [elR_bad h]; rfl
theorem rows_face_some_iff {W : RowsW} {d : Int} {f g : List Cl} : (rowsTr W).face d f = .ok (some g) ↔ W.face d f = (0, g) ∧ g ≠ [] := by
  constructor
  · intro h
    obtain ⟨g', hg, h2⟩ := Res1.bind_ok (x := elR (W.face d f)) h
    injection h2 with h2
    split at h2
    · cases h2
    · rename_i h3
      injection h2 with h2; subst h2
      exact ⟨elR_ok_iff.mp hg, fun h => h3 (by rw [h]; rfl)⟩
  · rintro ⟨h, h2⟩
    have h3 := rows_face_some (W := W) (d := d) (f := f) (by rw [h]) (by rw [h]; intro h4; exact h2 (List.eq_nil_of_length_eq_zero h4))
    rw [h3, h]
theorem rows_face_bad_iff {W : RowsW} {d e : Int} {f : List Cl} : (rowsTr W).face d f = .bad e ↔ (W.face d f).1 = e ∧ e ≠ 0 := by
  rw [← elR_bad_iff]
  show (elR _).bind _ = _ ↔ _
  cases elR (W.face d f) with
  | ok g => constructor <;> (intro h; cases h)
  | bad e' => exact Iff.intro (fun h => by injection h with h; rw [h]) (fun h => by injection h with h; rw [h]; rfl)
/-! Terms of a list, one by one. -/
def eachT (g : Nat → T → Res1 T) : Nat → List T → Res1 (List T)
  | _, [] => .ok []
  | i, t :: ts => (g i t).bind fun t' => (eachT g (i + 1) ts).bind fun ts' => .ok (t' :: ts')
section
variable {g : Nat → T → Res1 T}
theorem eachT_snoc : ∀ (i : Nat) (l : List T) (t : T), eachT g i (l ++ [t]) = (eachT g i l).bind fun l' => (g (i + l.length) t).bind fun t' => .ok (l' ++ [t'])
  | i, [], t => by
    simp only [List.nil_append, eachT, Res1.bind, List.length_nil, Nat.add_zero]
  | i, a :: l, t => by
    simp only [List.cons_append, eachT, eachT_snoc (i + 1) l t, List.length_cons]
    rw [show i + 1 + l.length = i + (l.length + 1) by omega]
    cases g i a with
    | bad e => rfl
    | ok a' =>
      simp only [Res1.bind]
      cases eachT g (i + 1) l with
      | bad e => rfl
      | ok l' =>
        simp only
        cases g (i + (l.length + 1)) t with
        | bad e => rfl
        | ok c2 => rfl
theorem eachT_bad {e : Int} : ∀ {l m : List T} {i : Nat}, eachT g i l = .bad e → eachT g i (l ++ m) = .bad e
  | [], m, i, h => by rw [eachT] at h; cases h
  | a :: l, m, i, h => by
    rw [List.cons_append, eachT]
    rw [eachT] at h
    cases h1 : g i a with
    | bad e' => rw [h1] at h; exact h
    | ok a' =>
      rw [h1] at h
      simp only [Res1.bind] at h ⊢
      cases h3 : eachT g (i + 1) l with
      | bad e' => rw [h3] at h; rw [eachT_bad h3]; exact h
      | ok l' => rw [h3] at h; cases h
theorem eachT_at_ok {l us : List T} {i : Nat} {u : T} (hi : i < l.length) (h : eachT g 0 (l.take i) = .ok us) (hu : g i (l.getD i t0) = .ok u) : eachT g 0 (l.take (i + 1)) = .ok (us ++ [u]) := by
  rw [take_succ_getD (d := t0) hi, eachT_snoc, h]
  simp only [Res1.bind, List.length_take, Nat.zero_add, Nat.min_eq_left (Nat.le_of_lt hi)]
  rw [hu]
theorem eachT_at_bad {l us : List T} {i : Nat} {e : Int} (hi : i < l.length) (h : eachT g 0 (l.take i) = .ok us) (hu : g i (l.getD i t0) = .bad e) : eachT g 0 l = .bad e := by
  have h1 : eachT g 0 (l.take (i + 1)) = .bad e := by
    rw [take_succ_getD (d := t0) hi, eachT_snoc, h]
    simp only [Res1.bind, List.length_take, Nat.zero_add, Nat.min_eq_left (Nat.le_of_lt hi)]
    rw [hu]
  have h2 := eachT_bad (m := l.drop (i + 1)) h1
  rwa [List.take_append_drop] at h2
theorem eachT_len : ∀ {l us : List T} {i : Nat}, eachT g i l = .ok us → us.length = l.length
  | [], us, i, h => by rw [eachT] at h; injection h with h; subst h; rfl
  | a :: l, us, i, h => by
    rw [eachT] at h
    obtain ⟨a', _, h⟩ := Res1.bind_ok h
    obtain ⟨l', h2, h⟩ := Res1.bind_ok h
    injection h with h; subst h
    simp [eachT_len h2]
theorem eachT_why {e : Int} : ∀ {l : List T} {i : Nat}, eachT g i l = .bad e → ∃ j t, t ∈ l ∧ g j t = .bad e
  | [], i, h => by rw [eachT] at h; cases h
  | a :: l, i, h => by
    rw [eachT] at h
    cases h1 : g i a with
    | bad e' => rw [h1] at h; injection h with h; subst h; exact ⟨i, a, List.mem_cons_self, h1⟩
    | ok a' =>
      rw [h1] at h
      simp only [Res1.bind] at h
      cases h3 : eachT g (i + 1) l with
      | bad e' => rw [h3] at h; injection h with h; subst h; obtain ⟨j, t, ht, hj⟩ := eachT_why h3; exact ⟨j, t, List.mem_cons_of_mem _ ht, hj⟩
      | ok l' => rw [h3] at h; cases h
end
theorem travL_map {W : RowsW} {k d : Int} : ∀ {i : Nat} {ts : List T}, travL (rowsTr W) k i ts d = eachT (fun j t => trav (rowsTr W) t (d + (binds k j).2)) i ts
  | i, [] => by rw [travL_nil, eachT]
  | i, t :: ts => by rw [travL_cons, eachT, rows_kid, travL_map (i := i + 1) (ts := ts)]; rfl
theorem travS_map {W : RowsW} {k d : Int} : ∀ {i : Nat} {ts : List T}, travS (rowsTr W) k ts d = eachT (fun _ t => trav (rowsTr W) t (d + more k)) i ts
  | i, [] => by rw [travS_nil, eachT]
  | i, t :: ts => by rw [travS_cons, eachT, rows_kid, travS_map (i := i + 1) (ts := ts)]; rfl
theorem travB_at_none {C : Type} {A : Tr C} {k : Int} {c : C} {ss : List Br} {s : Nat} {bs : List Br} (hs : s < ss.length) (hb : travB A k (ss.take s) c = .ok bs) (hf : A.face c (ss.getD s br0).face = .ok none) : travB A k (ss.take (s + 1)) c = .ok bs := by
  rw [take_succ_getD (d := br0) hs, travB_snoc, hb]
  simp only [Res1.bind]
  rw [hf]
theorem trav_kids_bad {C : Type} {A : Tr C} {t : T} {c : C} {e : Int} {p : Int × List Cl} (h : A.own c t.kind t.n t.name t.r = .ok (.inr p)) (hl : travL A t.kind 0 t.kids c = .bad e) : trav A t c = .bad e := by
  rw [trav_eq, h]; simp only [Res1.bind]; rw [hl]
def asResL (r : Res1 (List T)) : Int × List T := match r with
  | .ok u => (0, u)
  | .bad e => (e, [])
theorem asRes_bad {r : Res1 T} (h : (asRes r).1 ≠ 0) : r = .bad (asRes r).1 := by
  cases r with
  | ok u => exact absurd rfl h
  | bad e => rfl
theorem asRes_ok {r : Res1 T} (hb : ∀ e, r = .bad e → e ≠ 0) (h : (asRes r).1 = 0) : r = .ok (asRes r).2 := by
  cases r with
  | ok u => rfl
  | bad e => exact absurd h (hb e rfl)
theorem asResL_bad {r : Res1 (List T)} (h : (asResL r).1 ≠ 0) : r = .bad (asResL r).1 := by
  cases r with
  | ok u => exact absurd rfl h
  | bad e => rfl
theorem asResL_ok {r : Res1 (List T)} (hb : ∀ e, r = .bad e → e ≠ 0) (h : (asResL r).1 = 0) : r = .ok (asResL r).2 := by
  cases r with
  | ok u => rfl
  | bad e => exact absurd h (hb e rfl)
theorem rows_bad_ne {W : RowsW} : ∀ (t : T) {d e : Int}, trav (rowsTr W) t d = .bad e → e ≠ 0 := T.ind fun t ih d e h => by
  rcases trav_why h with h1 | ⟨b, _, h1⟩ | ⟨p, hp, h1 | ⟨c', _, h2⟩⟩
  · exact (rows_own_bad_iff.mp h1).2
  · exact (rows_face_bad_iff.mp h1).2
  · cases h1
  · exact ih p hp h2
theorem eachT_bad_ne {W : RowsW} {b : Nat → Int} {l : List T} {i : Nat} {e d : Int} (h : eachT (fun j t => trav (rowsTr W) t (d + b j)) i l = .bad e) : e ≠ 0 := by
  obtain ⟨j, t, _, h1⟩ := eachT_why h
  exact rows_bad_ne t h1
abbrev walkR (W : RowsW) (t : T) (d : Int) : Int × T := asRes (trav (rowsTr W) t d)
abbrev walkL (W : RowsW) (b : Nat → Int) (l : List T) (d : Int) : Int × List T := asResL (eachT (fun j t => trav (rowsTr W) t (d + b j)) 0 l)
/-! Rows with a formula in a dimension's place; rows without a dimension. -/
def rowPut (P : List Cl → Int → List Cl → EL) (i : Int) (r : List Cl) (d : Int) (f : List Cl) : EL := if hasM (fDims f) (i + d) = false then (0, f) else bindE (formLift r 0 d) fun s => P f (i + d) s
def putW (i : Int) (r : List Cl) : RowsW := ⟨rowPut formPut i r, rowPut facePut i r⟩
def dropRow (i : Int) (d : Int) (f : List Cl) : EL := leastF (f.map fun c => ⟨dropM c.pos (i + d), dropM c.neg (i + d)⟩)
def dropW (i : Int) : RowsW := ⟨dropRow i, dropRow i⟩
theorem u32_drop {f : List Cl} {j : Int} {c : Cl} (hc : c ∈ f.map fun c => (⟨dropM c.pos j, dropM c.neg j⟩ : Cl)) : u32 c := by
  obtain ⟨e, _, rfl⟩ := List.mem_map.mp hc
  exact ⟨by have := dropM_lt e.pos j; show dropM _ _ < _; omega, by have := dropM_lt e.neg j; show dropM _ _ < _; omega⟩
theorem size_kid_mem {t k : T} (h : k ∈ t.kids) : size k < size t := by obtain ⟨p, hp, e⟩ := kid_mem_parts h; exact e ▸ size_part_lt hp
theorem size_sys_mem {t k : T} {b : Br} (h : b ∈ t.sys) (h2 : k ∈ b.kids) : size k < size t := by obtain ⟨p, hp, e⟩ := sys_mem_parts h h2; exact e ▸ size_part_lt hp
/-! What a call tells, under another name. -/
theorem Spec.treeH {P : Program} {k : FuncId} {args : Array Value} {pre : List Fact} {Ms0 : List Res} {y : Tys} {r r' : Int × T} (he : r' = r) (h : Spec P k args pre Ms0 (fun x : {h : HT // h.er = r.2} => .tuple #[.agg (tc r.2 x.1.vr x.1.vk x.1.vs).toArray, .int .i64 r.1]) (fun _ => []) (fun x => [bigR (treeR y x.1)])) :
    Spec P k args pre Ms0 (fun x : {h : HT // h.er = r'.2} => .tuple #[.agg (tc r'.2 x.1.vr x.1.vk x.1.vs).toArray, .int .i64 r'.1]) (fun _ => []) (fun x => [bigR (treeR y x.1)]) := by
  subst he
  exact h
theorem Spec.listH {P : Program} {k : FuncId} {args : Array Value} {pre : List Fact} {Ms0 : List Res} {y : Tys} {e : TypeId} {r r' : Int × List T} (he : r' = r) (h : Spec P k args pre Ms0 (fun x : {p : List HT × SH // p.1.map HT.er = r.2} => .tuple #[sl x.1.2 r.2.length, .int .i64 r.1]) (fun _ => []) (fun x => [rowS 6 e x.1.2 r.2.length (tpFlat (x.1.1.map HT.tp)), bigR (kidsR y x.1.1)])) :
    Spec P k args pre Ms0 (fun x : {p : List HT × SH // p.1.map HT.er = r'.2} => .tuple #[sl x.1.2 r'.2.length, .int .i64 r'.1]) (fun _ => []) (fun x => [rowS 6 e x.1.2 r'.2.length (tpFlat (x.1.1.map HT.tp)), bigR (kidsR y x.1.1)]) := by
  subst he
  exact h
end Go.Hy
namespace Go.Hy
/-! ### dims: what the program makes of a term -/
section
variable {W : RowsW}
mutual
theorem walk_size : ∀ {t u : T} {d : Int}, trav (rowsTr W) t d = .ok u → size u ≤ size t
  | .mk k n nm r ks ss, u, d, hu => by
    rw [trav_eq] at hu
    simp only [T.kind, T.n, T.name, T.r, T.kids, T.sys] at hu
    obtain ⟨o, h9, hu⟩ := Res1.bind_ok hu
    cases o with
    | inl v => exact absurd h9 rows_own_inl
    | inr p =>
      obtain ⟨ks', h10, hu⟩ := Res1.bind_ok hu
      obtain ⟨ss', h11, hu⟩ := Res1.bind_ok hu
      injection hu with hu
      subst hu
      rw [size_sumLB, size_sumLB]
      simp only [T.kids, T.sys]
      have h1 := walkL_size h10
      have h2 := walkB_size h11
      omega
theorem walkL_size {k : Int} : ∀ {ts us : List T} {i : Nat} {d : Int}, travL (rowsTr W) k i ts d = .ok us → sizeL us ≤ sizeL ts
  | [], us, i, d, hu => by rw [travL_nil] at hu; injection hu with hu; subst hu; exact Nat.le_refl _
  | t :: ts, us, i, d, hu => by
    rw [travL_cons] at hu
    obtain ⟨c', _, hu⟩ := Res1.bind_ok hu
    obtain ⟨t', h2, hu⟩ := Res1.bind_ok hu
    obtain ⟨ts', h3, hu⟩ := Res1.bind_ok hu
    injection hu with hu
    subst hu
    have h4 := walk_size h2
    have h5 := walkL_size h3
    simp only [sizeL]
    omega
theorem walkS_size {k : Int} : ∀ {ts us : List T} {d : Int}, travS (rowsTr W) k ts d = .ok us → sizeL us ≤ sizeL ts
  | [], us, d, hu => by rw [travS_nil] at hu; injection hu with hu; subst hu; exact Nat.le_refl _
  | t :: ts, us, d, hu => by
    rw [travS_cons] at hu
    obtain ⟨c', _, hu⟩ := Res1.bind_ok hu
    obtain ⟨t', h2, hu⟩ := Res1.bind_ok hu
    obtain ⟨ts', h3, hu⟩ := Res1.bind_ok hu
    injection hu with hu
    subst hu
    have h4 := walk_size h2
    have h5 := walkS_size h3
    simp only [sizeL]
    omega
theorem walkB_size {k : Int} : ∀ {bs us : List Br} {d : Int}, travB (rowsTr W) k bs d = .ok us → sizeB us ≤ sizeB bs
  | [], us, d, hu => by rw [travB_nil] at hu; injection hu with hu; subst hu; exact Nat.le_refl _
  | .mk f ks :: bs, us, d, hu => by
    rw [travB_cons] at hu
    simp only [Br.face, Br.kids] at hu
    obtain ⟨o, h5, hu⟩ := Res1.bind_ok hu
    cases o with
    | none => have h6 := walkB_size hu; simp only [sizeB]; omega
    | some g =>
      obtain ⟨ks', h7, hu⟩ := Res1.bind_ok hu
      obtain ⟨bs', h8, hu⟩ := Res1.bind_ok hu
      injection hu with hu
      subst hu
      have h1 := walkS_size h7
      have h2 := walkB_size h8
      simp only [sizeB, Br.kids]
      omega
end
theorem walk_okT (hW : ∀ d f, rowOk f → okE (W.form d f) ∧ okE (W.face d f)) {t u : T} {d : Int} (h : okT t) (hu : trav (rowsTr W) t d = .ok u) : okT u := by
  refine trav_okT (A := rowsTr W) ?_ ?_ ?_ t d u h hu
  · intro c k n nm r p _ hn hr ho
    obtain ⟨h1, h2⟩ := rows_own_inr.mp ho
    have h3 := hW c r hr
    have h4 : okE (W.row k c r) := by unfold RowsW.row; split; exact h3.2; exact h3.1
    unfold okE at h4
    rw [h1] at h4
    exact ⟨by rw [h2]; exact hn, h4⟩
  · intro c k n nm r u ho
    exact absurd ho rows_own_inl
  · intro c f f' hr ho
    obtain ⟨h1, _⟩ := rows_face_some_iff.mp ho
    have h3 := (hW c f hr).2
    unfold okE at h3
    rw [h1] at h3
    exact h3
theorem size_t0 : size t0 = 1 := by decide
theorem asRes_size {t : T} {d : Int} : size (walkR W t d).2 ≤ size t := by
  unfold walkR
  cases h : trav (rowsTr W) t d with
  | ok u => exact walk_size h
  | bad e => show size t0 ≤ size t; rw [size_t0]; exact size_pos' t
theorem asRes_okT (hW : ∀ d f, rowOk f → okE (W.form d f) ∧ okE (W.face d f)) {t : T} {d : Int} (h : okT t) : okT (walkR W t d).2 := by
  unfold walkR
  cases hu : trav (rowsTr W) t d with
  | ok u => exact walk_okT hW h hu
  | bad e => exact okT_t0
end
theorem okE_rowPut {P : List Cl → Int → List Cl → EL} (hP : ∀ f i r, rowOk f → rowOk r → okE (P f i r)) {i d : Int} {r f : List Cl} (hf : rowOk f) : okE (rowPut P i r d f) := by
  unfold rowPut
  split
  · exact hf
  · exact okE_bind fun _ => hP _ _ _ hf (formLift_ok r 0 d)
theorem okW_put (i : Int) (r : List Cl) : ∀ d f, rowOk f → okE ((putW i r).form d f) ∧ okE ((putW i r).face d f) := fun d f hf =>
  ⟨okE_rowPut (fun f i r _ hr => okE_formPut hr) hf, okE_rowPut (fun f i r _ hr => okE_facePut hr) hf⟩
theorem okE_drop {i d : Int} {f : List Cl} (hf : rowOk f) : okE (dropRow i d f) := okE_least fun c hc => u32_drop hc
theorem okW_drop (i : Int) : ∀ d f, rowOk f → okE ((dropW i).form d f) ∧ okE ((dropW i).face d f) := fun d f hf => ⟨okE_drop hf, okE_drop hf⟩
def thenT (x : Int × T) (k : T → Int × T) : Int × T := if x.1 ≠ 0 then (x.1, t0) else k x.2
theorem thenT_bad {x : Int × T} {k : T → Int × T} (h : x.1 ≠ 0) : thenT x k = (x.1, t0) := if_pos h
theorem thenT_ok {x : Int × T} {k : T → Int × T} (h : x.1 = 0) : thenT x k = k x.2 := if_neg (by simp [h])
def foldT {α : Type} (g : α → T → Int × T) : List α → T → Int × T
  | [], t => (0, t)
  | a :: l, t => thenT (g a t) fun u => foldT g l u
section
variable {α : Type} {g : α → T → Int × T}
theorem foldT_on : ∀ {l m : List α} {t u : T}, foldT g l t = (0, u) → foldT g (l ++ m) t = foldT g m u
  | [], m, t, u, e => by
    rw [foldT, Prod.mk.injEq] at e
    rw [List.nil_append, e.2]
  | a :: l, m, t, u, e => by
    rw [foldT] at e
    by_cases h0 : (g a t).1 = 0
    · rw [thenT_ok h0] at e
      rw [List.cons_append, foldT, thenT_ok h0]
      exact foldT_on e
    · rw [thenT_bad h0, Prod.mk.injEq] at e
      exact absurd e.1 h0
theorem foldT_ok {l : List α} {d : α} {t u : T} {i : Nat} (hi : i < l.length) (e : foldT g (l.take i) t = (0, u)) (h0 : (g (l.getD i d) u).1 = 0) : foldT g (l.take (i + 1)) t = (0, (g (l.getD i d) u).2) := by
  rw [take_succ_getD (d := d) hi, foldT_on e, foldT, thenT_ok h0, foldT]
theorem foldT_bad {l : List α} {d : α} {t u : T} {i : Nat} (hi : i < l.length) (e : foldT g (l.take i) t = (0, u)) (h0 : (g (l.getD i d) u).1 ≠ 0) : foldT g l t = ((g (l.getD i d) u).1, t0) := by
  have e2 : l = l.take i ++ l.getD i d :: l.drop (i + 1) := by rw [getD_get (d := d) hi, List.getElem_cons_drop, List.take_append_drop]
  rw [e2, foldT_on e, ← e2, foldT, thenT_bad h0]
theorem foldT_all {l : List α} {t u : T} {i : Nat} (hi : i = l.length) (e : foldT g (l.take i) t = (0, u)) : foldT g l t = (0, u) := by
  rw [hi, List.take_length] at e
  exact e
theorem foldT_t0 : ∀ {l : List α} {t : T}, (foldT g l t).1 ≠ 0 → (foldT g l t).2 = t0
  | [], t, h => absurd rfl h
  | a :: l, t, h => by
    rw [foldT] at h ⊢
    by_cases h1 : (g a t).1 = 0
    · rw [thenT_ok h1] at h ⊢; exact foldT_t0 h
    · rw [thenT_bad h1]
theorem foldT_keep {p : T → Prop} (h0 : p t0) (hg : ∀ a u, p u → p (g a u).2) : ∀ {l : List α} {t : T}, p t → p (foldT g l t).2
  | [], t, h => h
  | a :: l, t, h => by
    rw [foldT]
    by_cases h1 : (g a t).1 = 0
    · rw [thenT_ok h1]; exact foldT_keep h0 hg (hg a t h)
    · rw [thenT_bad h1]; exact h0
end
def dimsWrong (t : T) (i : Int) (r : List Cl) : Int := if formedP t ≠ 0 then formedP t else if (isDim i && fRight r) = false then 2 else 0
def dimsTake (t : T) (i : Int) (r : List Cl) : Int × T := if dimsWrong t i r ≠ 0 then (dimsWrong t i r, t0) else if (formLift r i 1).1 ≠ 0 then ((formLift r i 1).1, t0) else thenT (walkR (putW i (formLift r i 1).2) t 0) fun x => walkR (dropW i) x 0
theorem wrong_zero {t : T} {i : Int} {r : List Cl} (h : dimsWrong t i r = 0) : formedP t = 0 ∧ (0 ≤ i ∧ i < 24) ∧ fRight r = true := by
  unfold dimsWrong at h
  split at h
  · rename_i h1; exact absurd h h1
  · rename_i h1
    split at h
    · cases h
    · rename_i h2
      simp only [Bool.not_eq_false, Bool.and_eq_true] at h2
      refine ⟨Decidable.not_not.mp h1, ?_, h2.2⟩
      have h3 := h2.1
      unfold isDim at h3
      simpa using h3
def putsT (r : List Cl) (l : List Int) (t : T) : Int × T := foldT (fun i u => walkR (putW i r) u 0) l t
abbrev EP : Type := Nat × List Cl × SH
def epCells (p : EP) : List Value := [.int .u32 (p.1 : Int), sl p.2.2 p.2.1.length]
abbrev epE (p : EP) : Fact := CL p.2.1 p.2.2
def ep0 : EP := (0, [], none, 0)
abbrev ENF (l : List EP) (a : SH) : Fact := RowF 2 32 epCells epE ep0 l a
def endsT (l : List EP) (t : T) : Int × T := foldT (fun (p : EP) u => putsT p.2.1 (listM p.1) u) l t
def dimsUnder (t : T) (c : Cl) : Int × T := if formedP t ≠ 0 then (formedP t, t0) else if single c = false then (2, t0) else thenT (putsT [cl0] (listM c.pos) t) fun u => putsT [] (listM c.neg) u
theorem endsT_two {c : Cl} {a : SH} {t : T} : endsT [(c.pos, [cl0], a), (c.neg, [], none, 0)] t = thenT (putsT [cl0] (listM c.pos) t) fun u => putsT [] (listM c.neg) u := by
  unfold endsT
  simp only [foldT]
  congr 1
  funext u
  by_cases h : (putsT [] (listM c.neg) u).1 = 0
  · rw [thenT_ok h]; exact Prod.ext h.symm rfl
  · rw [thenT_bad h]
    unfold putsT at h ⊢
    refine Prod.ext rfl ?_
    show t0 = _
    exact (foldT_t0 h).symm
theorem putsT_okT {r : List Cl} {l : List Int} {t : T} (h : okT t) : okT (putsT r l t).2 := foldT_keep okT_t0 (fun i u hu => asRes_okT (okW_put i r) hu) h
section
variable {P : Program} [Tab P] {f : FuncId} {R : Ending → World → Prop} {B : Base} {n : Fz} {K : List Item} {ops : Array Oper} {l : List Nat} {σ : Nat → Value} {Γ : List Fact} {Ms : List Res} {dst : Option Tmp} {ty : TypeId} {x : Operand}
theorem o_ldEN {t : TypeId} {l' : List (Nat × Nat)} {bt bk o i' : Nat} {a : SH} {zv : Value} {ls : List EP} (k_ : RgT P f R B n K ops l (putS σ dst (.agg (epCells (ls.getD i' ep0)).toArray)) Γ Ms) (hF : ENF ls a ∈ Γ := by repeat (first | exact List.mem_cons_self | apply List.mem_cons_of_mem))
    (hx : ev σ x = .pointer (some ⟨bk, o + i' * 2, none⟩) := by exact wn_) (ha : a.1 = some ⟨bk, o, none⟩ := by assumption) (hu : Tab.lay P t = some l' := by rfl) (hi : Tab.inf P t = some (2, bt, zv) := by rfl) (hlt : i' < ls.length := by first | omega | (simp; omega)) (hd : dstOk n dst = true := by rfl) : OpT P f R B n K ops l (opr dst (.load t x) ty) σ Γ Ms :=
  sq_load (le_rowE (F := epCells) (fun _ => rfl) hx hF ha hu hi hlt) hd k_
end
/-! From what holds to what is asked. -/
theorem Spec.conj2 {P : Program} {k : FuncId} {args : Array Value} {pre L : List Fact} {G : Fact} {Ms0 : List Res} {X : Type} {val : X → Value} {N : X → List Fact} {Ms1 : X → List Res} (hp : ∀ F, F ∈ pre → F ∈ G :: L) (h : Spec P k args pre Ms0 val N Ms1) : Spec P k args [AllFs L, G] Ms0 val N Ms1 := fun ok w hok hs =>
  h ok w hok ⟨hs.chg, fun F hF => by
    rcases List.mem_cons.mp (hp F hF) with e | e
    · subst e; exact hs.facts _ (List.mem_cons_of_mem _ List.mem_cons_self)
    · exact hs.facts (AllFs L) List.mem_cons_self F e, hs.res, hs.lt, hs.disj⟩
theorem Spec.unconj2 {P : Program} {k : FuncId} {args : Array Value} {pre L : List Fact} {G : Fact} {Ms0 : List Res} {X : Type} {val : X → Value} {N : X → List Fact} {Ms1 : X → List Res} (hL : ∀ F, F ∈ L → F ∈ pre) (hG : G ∈ pre) (h : Spec P k args [AllFs L, G] Ms0 val N Ms1) : Spec P k args pre Ms0 val N Ms1 := fun ok w hok hs =>
  h ok w hok ⟨hs.chg, fun F hF => by
    rcases List.mem_cons.mp hF with e | e
    · subst e; exact fun F' hF' => hs.facts F' (hL F' hF')
    · rw [List.mem_singleton] at e; subst e; exact hs.facts _ hG, hs.res, hs.lt, hs.disj⟩
theorem St.litEN {B : Base} {Γ : List Fact} {Ms : List Res} {w : World} {e : TypeId} {b : Nat} {p q : EP} (hs : St B Γ (boxR b (epCells p ++ epCells q) e :: Ms) w) {hBp : Prop} (hB : hBp) (hF : epE p ∈ Γ) (hG : epE q ∈ Γ) : St B (ENF [p, q] (some ⟨b, 0, Option.none⟩, 2) :: Γ) Ms w := by
  have h1 := ((hs.boxRow (sz := 2) (m := 2) rfl (by decide)).allNil epE).allAdd (x := p) List.mem_cons_self (List.mem_cons_of_mem _ hF)
  have h2 := h1.allAdd (x := q) List.mem_cons_self (List.mem_cons_of_mem _ (List.mem_cons_of_mem _ hG))
  exact (h2.settleRow (F := epCells) (E := epE) (d := ep0) (bt := 32) (l := [p, q]) (fun _ => rfl) hB List.mem_cons_self (by simp) rfl (by decide)).less (by simp +contextual)
end Go.Hy
namespace Go.Hy
open Go Go.ChangeShapes Go.WideShapes Go.RowKit Go.Shelf Go.Proofs
/-! ### A law whose row lists a package-level table -/
theorem law_lifted_laid {C : Checked} {os : Os} {f : FuncId} {fn : Func} {s : ChangeSpec} {conds : List PathCond} {ts : List TypeId} {tb : TypeId} {H : Type} {enc : TypeId × Value → H} {L : List (String × DataW Unit)}
    (own : ownKnob C.prog.godebug = none) (started : os.Started) (noInit : C.prog.inits.idxOf? f = none) (hfn : C.prog.funcs[f]? = some fn)
    (witness : ∃ (w : World) (tape : Tape) (i : Input), w.os = os ∧ (w.forCall tape i).Shaped C.prog ∧ i.vars = [] ∧ Input.okWide C.prog (w.forCall tape i) .any w.heap.size f i ∧
      ((s.pre enc C.prog fn conds false (w.forCall tape i).memory i.args ∧ laidMetH C.prog L (w.forCall tape i).memory) ∧ sizedMet enc C.prog fn (OpenSpec.ofChange s) false (w.forCall tape i).memory i.args) ∧ Assume.holds {} C.prog (lone (Frame.enter C.prog f i.args .normal) [] (w.forCall tape i)))
    (laid : laidOutB C.prog = true) (hps : fn.params.toList = ts) (hread : ts.all (fun t => C.prog.readableRec t && decide (t < C.prog.types.size)) = true) (hres : fn.resultTypes = #[tb]) (hbool : C.prog.underlying tb = some .bool) (hvars : s.vars = [])
    (hsays : ∀ ds : List (DataW H), ds.length = ts.length → s.fn H ds = { results := [.lit (.bool true)], args := ds })
    (hcall : ∀ (W : World) (base : Nat) (args : Array Value) (ds : List (DataW H)) (p : List MemPlace), (∀ (j : Nat) t v, ts[j]? = some t → args[j]? = some v → Value.okWide C.prog W .any base t v) →
      DataW.TrodAll enc C.prog W 0 (fun _ => true) true ts args.toList ds p → (∀ x, x ∈ DataW.weightsEach C.prog ts ds → x ≤ reach) → laidMetH C.prog L W →
      Calls C.prog f args W fun e W' => e = .returned (.bool true) ∧ Below W.heap.size W W') :
    ReturnsInHanded {} C os f .any (fun w args => (s.pre enc C.prog fn conds false w args ∧ laidMetH C.prog L w) ∧ sizedMet enc C.prog fn (OpenSpec.ofChange s) false w args) (s.post enc C.prog fn false true false false) := by
  refine returnsInHanded_of_change_and (X := fun w _ => laidMetH C.prog L w) (fun _ _ _ hh h => h.of_heap hh) own started noInit hfn witness ?_
  intro W base args ds gs before hval hW hcnd hwt hL _
  have hW' := hW
  obtain ⟨p, q, hA, hV, rfl, hfz, hnd⟩ := hW
  rw [hvars] at hV
  obtain ⟨rfl, rfl⟩ := trodVars_none hV
  rw [hps] at hA hwt
  have hlen : ∀ {ts : List TypeId} {vs : List Value} {ds : List (DataW H)} {ps : List MemPlace}, DataW.TrodAll enc C.prog W 0 (fun _ => true) true ts vs ds ps → ds.length = ts.length := by
    intro ts
    induction ts with
    | nil => intro vs ds ps h; obtain ⟨_, rfl, _⟩ := trodAll_nil h; rfl
    | cons t ts ih =>
      intro vs ds ps h
      obtain ⟨v, vs1, d, ds1, a, b, rfl, rfl, rfl, _, h2⟩ := trodAll_cons h
      simp [ih h2]
  have hvt : s.plain.varTypes C.prog = [] := by
    have : s.plain.vars = [] := hvars
    unfold DataSpec.varTypes; rw [this]; rfl
  have hw2 : ∀ x, x ∈ DataW.weightsEach C.prog ts ds → x ≤ reach := by
    intro x hx
    rw [List.append_nil, hvt, List.append_nil] at hwt
    have := List.all_eq_true.mp hwt x hx
    exact of_decide_eq_true this
  refine (hcall W base args ds p (fun j t v ht hv => hval j t v (by rw [← Array.getElem?_toList, hps]; exact ht) hv) hA hw2 hL).mono ?_
  intro e W' ⟨he, hb⟩
  have hlt : ∀ x ∈ p, x.block < W.heap.size := fun x hx => hW'.lt x (by simpa using hx)
  refine ⟨.bool true, he, ds, [], p ++ [], [], p, [], hW', ?_, ?_, ?_, hb.frame _, fun h => by cases h⟩
  · rw [List.append_nil, hsays ds (hlen hA), hres]
    exact ⟨[], [], ⟨1, by simp [DataW.trod, Value.cells, hbool]⟩, rfl, rfl⟩
  · rw [List.append_nil, hsays ds (hlen hA), hps]
    refine trodAll_stays laid hb (fun t ht => ?_) hA hlt
    have := List.all_eq_true.mp hread t ht
    simpa using this
  · rw [List.append_nil, hsays ds (hlen hA), hvars]
    rfl
/-- What the row's condition gives the walks: the table's cells. -/
theorem tab_laid {P : Program} {W : World} {nm : String} {t e : TypeId} {tab : List Nat} (hg : P.globalNamed nm = some 0) (ht : (P.globals[0]?).map (·.type) = some t) (hu : P.underlying t = some (.array tab.length e)) (he : P.underlying e = some (.int .u8)) (hc : P.cellsOf e = 1) (hc2 : P.cellsOf t = tab.length) (hpos : 0 < tab.length)
    (hp : ([(nm, (DataW.agg (tab.map fun (v : Nat) => .lit (.int .u8 (v : Int))) : DataW Unit))].all fun x => x.2.handleName?.isNone) = true) (h : laidMetH P [(nm, .agg (tab.map fun (v : Nat) => .lit (.int .u8 (v : Int))))] W) : TabAt 0 tab W ∧ 0 < W.heap.size := by
  rw [MakeChecks.laidMetH_plain _ _ _ hp] at h
  obtain ⟨ps, ⟨g0, t0, cs0, f0, p0, q0, hg0, ht0, hv0, hd0, _⟩, _⟩ := h
  obtain rfl := Option.some.inj (hg.symm.trans hg0)
  obtain rfl := Option.some.inj (ht.symm.trans ht0)
  obtain ⟨xs, m1, rfl, hx1, hlen, hn3, hel⟩ := DataW.trod_array hu hd0
  simp only [Prod.mk.injEq, DataW.agg.injEq] at hx1
  have hcell : ∀ j, j < tab.length → W.cell? ⟨0, j, none⟩ = some (.int .u8 (tab.getD j 0)) := by
    intro j hj
    have h1 := hel j hj
    rw [hc, Nat.mul_one, List.getElem?_eq_getElem (by omega)] at h1
    obtain ⟨n, e1, e2, _⟩ := DataW.trod_int he h1
    have h2 := World.var?_cell hg0 hv0 j
    have h3 : cs0[j]? = some (.int .u8 n) := by
      have h4 := congrArg (fun l => l[0]?) e1
      simp only [List.getElem?_take, List.getElem?_drop, List.getElem?_cons_zero] at h4
      simpa using h4
    rw [h2, h3]
    have h5 : (tab.map fun (v : Nat) => (DataW.lit (.int .u8 (v : Int)) : DataW Unit))[j]? = (xs.map (·.1))[j]? := by rw [hx1.1]
    rw [List.getElem?_map, List.getElem?_map, List.getElem?_eq_getElem hj, List.getElem?_eq_getElem (show j < xs.length by omega)] at h5
    simp only [Option.map_some, Option.some.injEq] at h5
    rw [e2] at h5
    simp only [DataW.lit.injEq, Lit.int.injEq, true_and] at h5
    rw [List.getD_eq_getElem?_getD, List.getElem?_eq_getElem hj]
    simp [← h5]
  refine ⟨hcell, ?_⟩
  have h6 := hcell 0 hpos
  refine Nat.lt_of_not_le fun hz => ?_
  unfold World.cell? at h6
  rw [Array.getElem?_eq_none (show W.heap.size ≤ 0 from hz)] at h6
  simp at h6
theorem tab_fact {W : World} {tab : List Nat} (h : TabAt 0 tab W ∧ 0 < W.heap.size) : (At 0 0 (tab.map fun (v : Nat) => Value.int .u8 (v : Int))).f (okw W) W := by
  refine ⟨h.2, fun j v hj => ?_⟩
  rw [List.getElem?_map] at hj
  cases hq : tab[j]? with
  | none => rw [hq] at hj; cases hj
  | some k =>
    rw [hq] at hj
    injection hj with hj
    subst hj
    have hlt : j < tab.length := by
      refine Nat.lt_of_not_le fun hn => ?_
      rw [List.getElem?_eq_none hn] at hq
      cases hq
    have h1 := h.1 j hlt
    rw [List.getD_eq_getElem?_getD, hq] at h1
    rw [Nat.zero_add]
    exact h1
end Go.Hy
namespace Go.Hy
/-! ### What a row says in a world: dimensions that are so, and dimensions whose opposites are so -/
abbrev Wd : Type := Nat → Prop
theorem fR_all {l : List Cl} (h : fRight l = true) : l.all right24 = true := by
  unfold fRight at h
  simp only [Bool.and_eq_true] at h
  exact h.1.1.1
theorem face_calm {l : List Cl} (h : faceRight l = true) : fRight l = true ∧ ∀ c, c ∈ l → clash c = false := by
  unfold faceRight at h
  rw [Bool.and_eq_true, Bool.not_eq_true'] at h
  refine ⟨h.1, fun c hc => ?_⟩
  cases hq : clash c with
  | false => rfl
  | true => rw [List.any_eq_true.mpr ⟨c, hc, hq⟩] at h; cases h.2
theorem calm_face {l : List Cl} (h : fRight l = true) (h2 : ∀ c, c ∈ l → clash c = false) : faceRight l = true := by
  unfold faceRight
  rw [Bool.and_eq_true, Bool.not_eq_true', h]
  refine ⟨rfl, ?_⟩
  cases hq : l.any clash with
  | false => rfl
  | true => obtain ⟨c, hc, h3⟩ := List.any_eq_true.mp hq; rw [h2 c hc] at h3; cases h3
/-! Joins, meets, opposites. -/
section
variable {f g l : List Cl} {P N : Wd} {a b c : Cl}
end
end Go.Hy
namespace Go.Hy
def uE : T := .mk 3 0 ⟨#[]⟩ [] [] []
def aE (t u : T) : T := .mk 6 0 ⟨#[]⟩ [] [t, u] []
end Go.Hy
namespace Go.Hy
def hcF : T := .mk 15 0 ⟨#[]⟩ [] [uE, uE] []
theorem thenT_okT {x : Int × T} {k : T → Int × T} (hx : okT x.2) (h : ∀ u, okT u → okT (k u).2) : okT (thenT x k).2 := by
  by_cases h1 : x.1 = 0
  · rw [thenT_ok h1]; exact h _ hx
  · rw [thenT_bad h1]; exact okT_t0
theorem dimsTake_okT {t : T} {i : Int} {r : List Cl} (h : okT t) : okT (dimsTake t i r).2 := by
  unfold dimsTake
  split
  · exact okT_t0
  · split
    · exact okT_t0
    · exact thenT_okT (asRes_okT (okW_put _ _) h) fun u hu => asRes_okT (okW_drop i) hu
theorem dimsUnder_okT {t : T} {c : Cl} (h : okT t) : okT (dimsUnder t c).2 := by
  unfold dimsUnder
  split
  · exact okT_t0
  · split
    · exact okT_t0
    · exact thenT_okT (putsT_okT h) fun u hu => putsT_okT hu
theorem face_ok {f : List Cl} (h : faceRight f = true) : rowOk f := by
  have h1 := (face_calm h).1
  refine ⟨fun c hc => ?_, by have := len_right h1; unfold reach; omega⟩
  obtain ⟨h2, h3⟩ := right24_iff.mp (List.all_eq_true.mp (fR_all h1) c hc)
  exact ⟨by omega, by omega⟩
end Go.Hy
namespace Go.Hy
/-! ### Systems by themselves -/
def alwaysB (b : Br) : Bool := decide (b.face = [cl0])
def totalP : List Br → Int
  | [] => -1
  | b :: l => if alwaysB b then 0 else if totalP l = -1 then -1 else totalP l + 1
theorem total_none : ∀ {l : List Br}, (∀ j, j < l.length → alwaysB (l.getD j br0) = false) → totalP l = -1
  | [], _ => rfl
  | b :: l, h => by
    have h0 := h 0 (by simp)
    rw [List.getD_cons_zero] at h0
    rw [totalP, h0, total_none (l := l) fun j hj => by have := h (j + 1) (by simpa using hj); rwa [List.getD_cons_succ] at this]
    rfl
theorem total_at : ∀ {l : List Br} {i : Nat}, i < l.length → (∀ j, j < i → alwaysB (l.getD j br0) = false) → alwaysB (l.getD i br0) = true → totalP l = i
  | [], i, hi, _, _ => absurd hi (by simp)
  | b :: l, 0, hi, h, h1 => by
    rw [List.getD_cons_zero] at h1
    rw [totalP, h1]; rfl
  | b :: l, i + 1, hi, h, h1 => by
    have h0 := h 0 (by omega)
    rw [List.getD_cons_zero] at h0
    rw [List.getD_cons_succ] at h1
    have h2 := total_at (l := l) (i := i) (by simpa using hi) (fun j hj => by have := h (j + 1) (by omega); rwa [List.getD_cons_succ] at this) h1
    rw [totalP, h0, h2, if_neg (by simp), if_neg (by omega)]
    omega
/-- Where a system has a branch. -/
def faceS : List Cl → List Br → EL
  | h, [] => (0, h)
  | h, b :: l => bindE (joinA h b.face) fun x => faceS x l
theorem faceS_bad {h : List Cl} {b : Br} {l : List Br} (e : (joinA h b.face).1 ≠ 0) : faceS h (b :: l) = ((joinA h b.face).1, []) := by rw [faceS, bindE_bad e]
theorem faceS_ok {h : List Cl} {b : Br} {l : List Br} (e : (joinA h b.face).1 = 0) : faceS h (b :: l) = faceS (joinA h b.face).2 l := by rw [faceS, bindE_ok e]
theorem joinA_len {f g : List Cl} (h : (joinA f g).1 = 0) : (joinA f g).2.length ≤ 64 ∧ faceRight (joinA f g).2 = true := by
  unfold joinA at h ⊢
  split at h
  · cases h
  · rename_i h1
    rw [if_neg h1]
    simp only [Bool.not_eq_false, Bool.and_eq_true] at h1
    unfold joinF at h ⊢
    have hr := leastF_fR h
    refine ⟨len_right hr, calm_face hr fun c hc => ?_⟩
    rcases List.mem_append.mp (leastF_sub h hc) with hc | hc
    · exact (face_calm h1.1).2 c hc
    · exact (face_calm h1.2).2 c hc
/-! ### A system's term -/
def ofT (k : Int) (l : List Br) : T := .mk k 0 ⟨#[]⟩ [] (List.replicate (kidsN k).toNat uE) l
def byR (k : Int) (l : List Br) (D : T → Int × T) : Int × List Br := if partsN k = 0 then (2, []) else ((D (ofT k l)).1, (D (ofT k l)).2.sys)
def sysT (l : List Br) : T := .mk 0 0 ⟨#[]⟩ [] [] l
theorem sum_mem : ∀ {l : List Nat} {n : Nat}, n ∈ l → n ≤ l.sum
  | a :: l, n, h => by
    rw [List.sum_cons]
    rcases List.mem_cons.mp h with rfl | h
    · omega
    · have := sum_mem h; omega
theorem sys_face {l : List Br} {m : Nat} (h : bulk (sysT l) ≤ m) {b : Br} (hb : b ∈ l) : b.face.length ≤ m := by
  rw [bulk_eq] at h
  have h1 : brBulk b ≤ (l.map brBulk).sum := sum_mem (List.mem_map_of_mem hb)
  have h2 : b.face.length ≤ brBulk b := by
    cases b
    simp only [brBulk, Br.face]
    omega
  have h3 : (sysT l).sys = l := rfl
  rw [h3] at h
  omega
theorem parts_kinds {k : Int} (h : partsN k ≠ 0) : (k = 15 ∨ k = 16 ∨ k = 17 ∨ k = 18) ∧ 0 ≤ kidsN k ∧ kidsN k ≤ 2 ∧ in64 k := by
  unfold partsN at h
  have hk : k = 15 ∨ k = 16 ∨ k = 17 ∨ k = 18 := by
    split at h
    · omega
    · split at h
      · omega
      · exact absurd rfl h
  refine ⟨hk, ?_⟩
  unfold in64
  rcases hk with rfl | rfl | rfl | rfl <;> decide
theorem size_rep {n : Nat} : sizeL (List.replicate n uE) = n := by
  induction n with
  | zero => rfl
  | succ n ih => rw [List.replicate_succ, sizeL, ih, show size uE = 1 by decide]; omega
theorem ofT_size {k : Int} {l : List Br} {m : Nat} (hp : partsN k ≠ 0) (h : bulk (sysT l) ≤ m) : size (ofT k l) ≤ m + 2 := by
  have h1 := size_le_bulk (sysT l)
  have h2 := (parts_kinds hp).2
  have e1 : size (ofT k l) = 1 + sizeL (List.replicate (kidsN k).toNat uE) + sizeB l := size_sumLB _
  have e2 : size (sysT l) = 1 + sizeL [] + sizeB l := size_sumLB _
  have e3 : sizeL [] = 0 := rfl
  rw [size_rep] at e1
  omega
theorem okJ {f g : List Cl} : okE (joinA f g) := by
  unfold joinA
  split
  · exact rowOk_nil
  · rename_i h
    simp only [Bool.not_eq_false, Bool.and_eq_true] at h
    exact okE_join (face_ok h.1) (face_ok h.2)
theorem always_two {b : Br} : (decide ((b.face.length : Int) = 1) && decide (b.face.getD 0 cl0 = cl0)) = alwaysB b := by
  unfold alwaysB
  rw [← Bool.decide_and]
  refine decide_eq_decide.mpr ⟨fun h => ?_, fun h => ?_⟩
  · match hf : b.face, h with
    | [], h => exact absurd h.1 (by simp)
    | [c], h => rw [show c = cl0 from h.2]
    | a :: c :: l, h => exact absurd h.1 (by simp; omega)
  · rw [h]; exact ⟨rfl, rfl⟩
end Go.Hy
namespace Go.Hy
/-! ### Systems without branches -/
section
variable {C : Type} {A : Tr C}
theorem trav_sys {t u : T} {c : C} (hn : ∀ c k n nm r u, A.own c k n nm r ≠ .ok (.inl u)) (h : trav A t c = .ok u) (hs : t.sys = []) : u.sys = [] := by
  rw [trav_eq] at h
  obtain ⟨o, h1, h⟩ := Res1.bind_ok h
  cases o with
  | inl v => exact absurd h1 (hn _ _ _ _ _ _)
  | inr p =>
    obtain ⟨ks', h2, h⟩ := Res1.bind_ok h
    obtain ⟨ss', h3, h⟩ := Res1.bind_ok h
    injection h with h
    subst h
    rw [hs, travB_nil] at h3
    injection h3 with h3
    exact h3.symm
end
theorem both_sys {t : T} {v d : Int} (h : t.sys = []) : (bothRes t v d).2.sys = [] := by
  by_cases h0 : (bothRes t v d).1 = 0
  · obtain ⟨_, _, _, h1⟩ := both_way h0
    exact trav_sys (fun _ _ _ _ _ _ => lift_own_inl) h1 h
  · unfold bothRes guardRes at h0 ⊢
    (repeat' split) <;> (try rfl) <;> (rename_i h5; simp_all)
theorem walk_sys {W : RowsW} {t : T} {d : Int} (h : t.sys = []) : (walkR W t d).2.sys = [] := by
  unfold walkR
  cases hu : trav (rowsTr W) t d with
  | ok u => exact trav_sys (fun _ _ _ _ _ _ => rows_own_inl) hu h
  | bad e => rfl
theorem thenT_sys {x : Int × T} {k : T → Int × T} (hx : x.2.sys = []) (h : ∀ u, u.sys = [] → (k u).2.sys = []) : (thenT x k).2.sys = [] := by
  by_cases h1 : x.1 = 0
  · rw [thenT_ok h1]; exact h _ hx
  · rw [thenT_bad h1]; rfl
theorem take_sys {t : T} {i : Int} {r : List Cl} (h : t.sys = []) : (dimsTake t i r).2.sys = [] := by
  unfold dimsTake
  split
  · rfl
  · split
    · rfl
    · exact thenT_sys (walk_sys h) fun u hu => walk_sys hu
theorem foldT_sys {α : Type} {g : α → T → Int × T} (hg : ∀ a t, t.sys = [] → (g a t).2.sys = []) : ∀ {l : List α} {t : T}, t.sys = [] → (foldT g l t).2.sys = []
  | [], t, h => h
  | a :: l, t, h => by rw [foldT]; exact thenT_sys (hg a t h) fun u hu => foldT_sys hg hu
theorem under_sys {t : T} {c : Cl} (h : t.sys = []) : (dimsUnder t c).2.sys = [] := by
  unfold dimsUnder
  split
  · rfl
  · split
    · rfl
    · exact thenT_sys (foldT_sys (fun a t h => walk_sys h) h) fun u hu => foldT_sys (fun a t h => walk_sys h) hu
theorem by_nil {k : Int} {D : T → Int × T} (h : ∀ t, t.sys = [] → (D t).2.sys = []) : (byR k [] D).2 = [] := by
  unfold byR
  split
  · rfl
  · exact h _ rfl
theorem by_arg {k : Int} {l : List Br} {D : T → Int × T} (h : ¬ (k = 15 ∨ k = 16 ∨ k = 17 ∨ k = 18)) : byR k l D = (2, []) := by
  unfold byR
  rw [if_pos]
  unfold partsN
  rw [if_neg (by omega), if_neg (by omega)]
theorem none_has {k : Int} {D : T → Int × T} : (decide (k = 15) || decide (k = 16) || decide (k = 17) || decide (k = 18) || decide ((byR k [] D).1 = 2)) = true := by
  by_cases h : k = 15 ∨ k = 16 ∨ k = 17 ∨ k = 18
  · simp only [Bool.or_eq_true, decide_eq_true_eq]
    omega
  · rw [by_arg h]; simp
/-! ### The chapter's example -/
def endsL : List Br := [.mk [⟨0, 1⟩] [uE], .mk [⟨1, 0⟩] [uE]]
theorem ex_ends : faceS [] endsL = (0, [⟨0, 1⟩, ⟨1, 0⟩]) ∧ byR 15 endsL (fun t => dimsUnder t ⟨1, 0⟩) = (0, [.mk [cl0] [uE]]) ∧ totalP endsL = -1 ∧ totalP [.mk [cl0] [uE]] = 0 ∧ bulk (sysT endsL) ≤ 200 := by decide +kernel
end Go.Hy
namespace Go.Hy
/-! A call of a closure among operations of any order. -/
section
variable {tn : Bool} {pn : Nat} {P : Program} [Tab P] {f : FuncId} {R : Ending → World → Prop} {B : Base} {n : Fz} {K : List Item} {ops : Array Oper} {i : Nat} {l fin : List Nat} {σ : Nat → Value} {Γ : List Fact} {Ms Ms2 : List Res}
variable {dst : Option Tmp} {ty : TypeId}
theorem v_callC {c : FuncId} {args cap al : List Value} {av : Array Operand} {ts : Array TypeId} {g : Operand} {pre : List Fact} {X : Type} {val : X → Value} {N : X → List Fact} {Ms1 : X → List Res}
    (hc : ∀ (args : Array Value) (w : World), (callFunc c args).run P w = .ok (.enter c args) w) (hsp : Spec P c al.toArray pre [] val N Ms1) (kk : ∀ x, NV tn pn P f R B n K ops fin l (putS σ dst (val x)) (N x ++ Γ) (Ms1 x ++ Ms))
    (hg : ev σ g = .func (.func c) #[] cap.toArray := by rfl) (ha : av.toList.map (ev σ) = args := by rfl) (hal : args ++ cap = al := by rfl) (hpre : ∀ F, F ∈ pre → F ∈ Γ := by first | (simp; done) | (simp +contextual; done)) (hd : dstOk n dst = true := by rfl) : NvT tn pn P f R B n K ops fin i l dst (.call { callee := .value g, args := av, argTypes := ts }) ty σ Γ Ms :=
  nv_call (enterC hg ha hc) (hal ▸ hsp) hpre rfl rfl hd kk
end
end Go.Hy
namespace Go.Hy
open Go.RowKit Go.Shelf
/-! ### A range over a function whose body never leaves the loop, and whose iterator may write what it has captured -/
theorem range_all {F : Fence} {n : Nat} {P : Program} {α : Type} {g : Operand} {ps : Array Tmp} {assign body : Code} {Q : Exit → Act → World → Prop} {a : Act} {w : World}
    (hro : F.round = none) (h1 : 1 ≤ n) {gf : Nat} {lb : Array Value} (hg : a.eval g = .func (.func gf) #[] lb) (hFg : F.fn gf) (eg : ∀ args w, (callFunc gf args).run P w = .ok (.enter gf args) w)
    {encs : α → Array Value} (hps : ∀ x, (encs x).size = ps.size) (I : List α → World → Prop) (Px : List α → α → Prop) (Kp : World → World → Prop)
    (hIp : ∀ (pre : List α) (A : World) (l : Nat) (o o0 : Obj), I pre A → A.heap[l]? = some o0 → o0.isCells = false → w.heap.size ≤ l → I pre (A.putObj l o)) (hIa : ∀ (pre : List α) (A : World) (o : Obj), I pre A → w.heap.size ≤ A.heap.size → I pre (A.alloc o)) (h0 : I [] w)
    (hKt : ∀ {A B C : World}, Kp A B → Kp B C → Kp A C) (hKp : ∀ (A : World) (l : Nat) (o o0 : Obj), A.heap[l]? = some o0 → o0.isCells = false → w.heap.size ≤ l → Kp A (A.putObj l o))
    (xs : List α)
    (hit : ∀ (l : Nat) (J : List α → World → Prop) (W1 : World), (∀ pre W, J pre W → I pre W) →
      (∀ pre A B, J pre A → I pre B → (∀ (k : Nat) (o : Obj), A.heap[k]? = some o → o.isCells = false → B.heap[k]? = some o) → J pre B) →
      (∀ pre x W, J pre W → Px pre x → YieldAt F (n - 1 - 1) P l (encs x) W fun e W' => e = .returned (.bool true) ∧ J (pre ++ [x]) W' ∧ Kp W W') → J [] W1 → (∀ (k : Nat), k < w.heap.size → W1.heap[k]? = w.heap[k]?) →
      CallsIn F (n - 1) P gf (#[.func (.yield l) #[] #[]] ++ lb) W1 fun e W' => (∃ v, e = .returned v) ∧ J xs W')
    (a₁ : α → Act)
    (hassign : ∀ (l : Nat) (x : α) (W : World) (K : Act → World → Prop), K (a₁ x) W →
      assign.wpIn (F.inRound l) (n - 1 - 1) P (Exit.then K (fun _ _ _ => False)) { tmps := (ps.zip (encs x)).foldl (fun t (p, v) => t.setIfInBounds p v) a.tmps, defers := [] } W)
    (hbody : ∀ (l : Nat) (pre : List α) (x : α) (W : World), I pre W → Px pre x →
      body.wpIn (F.inRound l) (n - 1 - 1) P (fun e _ W' => e = .normal ∧ KeepsOthers W W' ∧ Kp W W' ∧ I (pre ++ [x]) W') (a₁ x) W)
    (hdone : ∀ (D : Nat) (W : World), w.heap.size ≤ D → I xs W → W.heap[D]? = some (.deferred (some [])) → Q .normal { a with defers := { target := .collected D, args := #[] } :: a.defers } W) :
    (Code.rangeFunc g ps assign body).wpIn F n P Q a w := by
  refine wpIn_rangeFunc ?_
  intro fn hfn
  rw [hro]
  obtain ⟨rec, hrec⟩ : ∃ rec : LoopState → Option Code → Loop, rec = fun st pe => { state := st, pending := pe, fn, tmps := a.tmps, params := ps, assign, body, defers := w.heap.size } := ⟨_, rfl⟩
  obtain ⟨W1, hW1⟩ : ∃ W1, (w.alloc (.deferred (some []))).alloc (.loop (rec .ready none)) = W1 := ⟨_, rfl⟩
  have hL1 : W1.heap[w.heap.size + 1]? = some (.loop (rec .ready none)) := by
    rw [← hW1]; have := World.alloc_heap_new (w.alloc (.deferred (some []))) (.loop (rec .ready none)); rwa [World.size_alloc] at this
  have hK1 : W1.heap[w.heap.size]? = some (.deferred (some [])) := by
    rw [← hW1]; exact (Below.heap_alloc _ _ _ (by simp)).trans (World.alloc_heap_new w _)
  have hI1 : I [] W1 := by rw [← hW1]; exact hIa _ _ _ (hIa _ _ _ h0 (Nat.le_refl _)) (by simp)
  refine ⟨w.heap.size + 1, [{ target := .collected w.heap.size, args := #[] }], W1, { target := .fn (.func gf) lb, args := #[.func (.yield (w.heap.size + 1)) #[] #[]] }, W1, gf,
    #[.func (.yield (w.heap.size + 1)) #[] #[]] ++ lb, W1, ?_, ?_, ?_, ?_, fun _ => h1, ?_⟩
  · rw [← hW1, hrec]; exact run_enterLoop_outer _ _ _ _ _
  · simp only [resolve, hg]
    simp [go_sem]
  · intro f' hf'; simp [Target.leads] at hf'; subst hf'; exact hFg
  · simp [invoke, go_sem, eg]
  · refine (hit (w.heap.size + 1) (fun pre W => I pre W ∧ W.heap[w.heap.size + 1]? = some (.loop (rec .ready none)) ∧ W.heap[w.heap.size]? = some (.deferred (some []))) W1
      (fun pre W h => h.1) (fun pre A B hA hB hk => ⟨hB, hk _ _ hA.2.1 rfl, hk _ _ hA.2.2 rfl⟩) ?_ ⟨hI1, hL1, hK1⟩ (fun k hk => by rw [← hW1]; exact (Below.heap_alloc _ _ _ (by simp; omega)).trans (Below.heap_alloc _ _ _ hk))).mono ?_
    · rintro pre x W ⟨hi, hl, hk⟩ hpx
      have hlt : w.heap.size + 1 < W.heap.size := (Array.getElem?_eq_some_iff.1 hl).1
      have hy := run_yield (P := P) (args := encs x) hl (by rw [hrec]; exact hps x)
      rw [hrec] at hy
      refine ⟨fn, _, assign, body, hy, roundIn_of_wpIn hfn (hassign _ x W _ ⟨_, run_beginRound hl (by rw [hrec]), ?_⟩)⟩
      have hl2 : (W.putObj (w.heap.size + 1) (.loop { rec .ready none with state := .busy })).heap[w.heap.size + 1]? = some (.loop { rec .ready none with state := .busy }) := World.putObj_heap_same hlt
      have hk2 : (W.putObj (w.heap.size + 1) (.loop { rec .ready none with state := .busy })).heap[w.heap.size]? = some (.deferred (some [])) := (World.putObj_heap_other (by omega)).trans hk
      refine wpIn_mono (hbody _ pre x _ (hIp _ _ _ _ _ hi hl rfl (by omega)) hpx) ?_
      rintro e a3 W3 ⟨rfl, hk3, hkp3, hi3⟩
      have hl3 := hk3.same _ _ hl2 rfl
      have hend := run_endRound (P := P) none hl3
      rw [hrec] at hl3 hend
      refine ⟨_, _, hend, rfl, ⟨hIp _ _ _ _ _ hi3 hl3 rfl (by omega), ?_, ?_⟩, hKt (hKt (hKp _ _ _ _ hl rfl (by omega)) hkp3) (hKp _ _ _ _ hl3 rfl (by omega))⟩
      · rw [hrec]; exact World.putObj_heap_same (Array.getElem?_eq_some_iff.1 hl3).1
      · exact (World.putObj_heap_other (by omega)).trans (hk3.same _ _ hk2 rfl)
    · rintro e W2 ⟨⟨v, rfl⟩, hi, hl, hk⟩
      exact ⟨none, _, by have := run_endLoop (P := P) hl (by rw [hrec]; simp); rw [hrec] at this; exact this, hdone _ _ (Nat.le_refl _) (hIp _ _ _ _ _ hi hl rfl (by omega)) ((World.putObj_heap_other (by omega)).trans hk)⟩
end Go.Hy
namespace Go.Hy
open Go.Proofs
set_option maxRecDepth 100000
theorem rsameC (l : List Cl) (a_l : SH) (m : List Cl) (a_m : SH)  : Spec Tryz.prog 21 #[sl a_l (l.length), sl a_m (m.length)] [CL l a_l, CL m a_m] [] (fun _ : Unit => .bool ((decide (l = m)))) (fun _ : Unit => []) (fun _ : Unit => []) := by
  refine spec_go (args := [sl a_l (l.length), sl a_m (m.length)]) Tryz.func21 Tryz.ntmps21 rfl (by exact Nat.le_of_ble_eq_true rfl) fun B hB => ?_
  refine go_openCL (l := l) (a := a_l) (fun hl1 hA1 hU1 => ?_); refine go_openCL (l := m) (a := a_m) (fun hl2 hA2 hU2 => ?_); refine go_seq ?_; refine go_region ⟨_, Tryz.func21⟩ rfl ?_; refine q0 rfl (o_assign ?_); refine rg_nil ?_; refine go_seq ?_; refine go_seq ?_; refine go_region ⟨_, Tryz.func21⟩ rfl ?_; refine q0 rfl (o_move ?_); refine q0 rfl (o_len ?_); refine q0 rfl (o_move ?_); refine q0 rfl (o_len ?_); refine q0 rfl (o_neI ?_); refine rg_nil ?_; refine go_condI (fun h10 => ?_) (fun h10 => ?_)
  · have c10 : (decide ((l.length : Int) ≠ (m.length : Int))) = true := h10
    try simp only [sC, bne_iff_ne, beq_iff_eq, ne_eq] at c10
    have hne : ¬ l = m := fun e => by subst e; simp at h10
    refine go_seq ?_; refine go_region ⟨_, Tryz.func21⟩ rfl ?_; refine q0 rfl (o_assign ?_); refine rg_nil ?_; refine ret1 Tryz.func21 Tryz.results21 wn_ () (by rw [decide_eq_false hne]) (fun w hs => hs.none)
  · have c10 : (decide ((l.length : Int) ≠ (m.length : Int))) = false := h10
    try simp only [sC, bne_iff_ne, beq_iff_eq, ne_eq] at c10
    have hlen : l.length = m.length := by simp at h10; omega
    refine go_skip ?_; refine go_seq ?_; refine go_seq ?_; refine go_region ⟨_, Tryz.func21⟩ rfl ?_; refine q0 rfl (o_assign ?_); refine rg_nil ?_; refine go_block ?_; refine go_loopE (X := Nat) (fun s_ => s_ ≤ l.length ∧ ∀ j, j < s_ → l.getD j cl0 = m.getD j cl0) (fun s_ => [(0, sl a_l (l.length)), (1, sl a_m (m.length)), (5, .int .i64 ((s_ : Int)))]) (fun s_ G_ => G_) (fun s_ => []) (fun s_ => l.length - s_) (0) (⟨by omega, fun j hj => by omega⟩) (by exact ⟨rfl, rfl, rfl, trivial⟩) ?_ ?_
    · exact fun w hs => hs
    · intro i base0 ⟨hi, hok⟩ next0; refine go_seq ?_; refine go_seq ?_; refine go_region ⟨_, Tryz.func21⟩ rfl ?_; refine q0 rfl (o_move ?_); refine q0 rfl (o_move ?_); refine q0 rfl (o_len ?_); refine q0 rfl (o_lss ?_); refine rg_nil ?_; refine go_condI (fun h14 => ?_) (fun h14 => ?_)
      · have c14 : (decide ((i : Int) < (l.length : Int))) = true := h14
        try simp only [sC, bne_iff_ne, beq_iff_eq, ne_eq] at c14
        refine go_skip ?_; refine go_seq ?_; refine go_block ?_; refine go_seq ?_; refine go_draw (pn := 1000000) (tn := false) (A := [0, 0, 3, 7, 0, 0, 48, 112, 255]) (l := [0, 1, 2, 3, 4, 5, 6, 7, 8]) (fin := []) Tab.mixed ⟨_, Tryz.func21⟩ (by rfl) ?_; refine n0 rfl (v_move ?_); refine n0 rfl (v_move ?_); obtain ⟨bk3, o3, hav3⟩ := hA1 (by omega); refine n0 rfl (v_ixN ?_ (j := i)); refine n0 rfl (v_ldC ?_); refine n0 rfl (v_move ?_); refine n0 rfl (v_move ?_); obtain ⟨bk4, o4, hav4⟩ := hA2 (by omega); refine n0 rfl (v_ixN ?_ (j := i)); refine n0 rfl (v_ldC ?_); refine n0 rfl (v_neC ?_ (c := (l.getD i cl0)) (c' := (m.getD i cl0))); refine NV.done ?_; refine rg_nil ?_; refine go_condI (fun h25 => ?_) (fun h25 => ?_)
        · have c25 : (!decide ((l.getD i cl0) = (m.getD i cl0))) = true := h25
          try simp only [sC, bne_iff_ne, beq_iff_eq, ne_eq] at c25
          refine go_seq ?_; refine go_region ⟨_, Tryz.func21⟩ rfl ?_; refine q0 rfl (o_assign ?_); refine rg_nil ?_; refine ret1 Tryz.func21 Tryz.results21 wn_ () (by rw [decide_eq_false (fun e => by subst e; simp at h25)]) (fun w hs => hs.none)
        · have c25 : (!decide ((l.getD i cl0) = (m.getD i cl0))) = false := h25
          try simp only [sC, bne_iff_ne, beq_iff_eq, ne_eq] at c25
          refine go_skip ?_; refine go_inBlock ?_; refine go_region ⟨_, Tryz.func21⟩ rfl ?_; refine q0 rfl (o_move ?_); refine q0 rfl (o_add ?_); refine q0 rfl (o_assign ?_); refine rg_nil ?_; have hb : l.getD i cl0 = m.getD i cl0 := by simpa using h25
          refine go_state (fun w hs => ?_) (next0 (i + 1) _ (⟨by omega, succ_inv hok hb⟩) (by omega) ⟨rfl, rfl, rfl, trivial⟩); exact (hs.less (by simp +contextual))
      · have c14 : (decide ((i : Int) < (l.length : Int))) = false := h14
        try simp only [sC, bne_iff_ne, beq_iff_eq, ne_eq] at c14
        refine go_exit rfl ?_; refine go_seq ?_; refine go_region ⟨_, Tryz.func21⟩ rfl ?_; refine q0 rfl (o_assign ?_); refine rg_nil ?_; refine ret1 Tryz.func21 Tryz.results21 wn_ () (by rw [decide_eq_true (list_eq_of hlen (fun j hj => hok j (by omega)))]) (fun w hs => hs.none)
end Go.Hy
namespace Go.Hy
open Go.Proofs
set_option maxRecDepth 100000
attribute [local go_sem] Oper.semAt_some
open Go.RowKit Go.Shelf
set_option maxHeartbeats 1000000
theorem tz32 (F : Fence) (n : Nat) (hF : F.fn 209) (hro : F.round = none) (r : Nat) (k idx : Nat) (hk : k < 24) (h0 : ((r : Int) == 0) = false)
    (key : bits BinOp.and IntKind.u32 (r : Int) (-(r : Int) % 4294967296) * 125613361 % 4294967296 / 134217728 = (idx : Int)) (hi : idx < 32) (W : World) (hc : W.cell? ⟨0, idx, none⟩ = some (.int .u8 (k : Int))) :
    CallsIn F n Tryz.prog 209 #[.int .u32 (r : Int)] W fun e w' => e = .returned (.int .i64 (k : Int)) ∧ w' = W := by
  refine callsIn_of_wp Tryz.func209 rfl hF ?_ hro; simp only [Tryz.ntmps209, List.size_toArray, List.length_cons, List.length_nil, Nat.reduceAdd, Nat.reduceSub, Array.replicate_succ, Array.replicate_zero, List.push_toArray, List.append_toArray, List.nil_append, List.cons_append]
  gi_wp2_with (simp only [key])
  go_ret
  exact ⟨rfl, rfl⟩
theorem tz32' (F : Fence) (n : Nat) (hF : F.fn 209) (hro : F.round = none) (r : Nat) (h0 : ¬ r = 0) (hr : r < 16777216) (W : World) (hT : TabAt 0 Lib.deBruijn32tab W) :
    CallsIn F n Tryz.prog 209 #[.int .u32 (r : Int)] W fun e w' => e = .returned (.int .i64 (Lib.ctz 32 r : Int)) ∧ w' = W := by
  obtain ⟨hlow, hk⟩ := Lib.lowest_bit 32 r h0 (by omega); obtain ⟨hi, htab⟩ := Lib.deBruijn32_at _ hk; have hcell := hT _ hi; rw [htab] at hcell; exact tz32 F n hF hro r _ _ (listM_low h0 hr).1 (by simp; omega) (tz32_key r _ (by omega) h0 hlow) hi W hcell
theorem in1 (F : Fence) (n : Nat) (h208 : F.fn 208) (h209 : F.fn 209) (hro : F.round = none) (hn : 1 ≤ n) (l g : Nat) (s : Nat) (J : List Int → World → Prop)
    (hY : ∀ pre x W, J pre W → pre.length < 24 → (0 ≤ x ∧ x < 24) → YieldAt F (n - 1) Tryz.prog l #[.int .i64 x] W fun e W' => e = .returned (.bool true) ∧ J (pre ++ [x]) W' ∧ W'.heap[g]? = W.heap[g]?)
    (hT : ∀ pre W, J pre W → TabAt 0 Lib.deBruijn32tab W)
    (hJ : ∀ pre W v, J pre W → J pre (W.setCell ⟨g, 0, none⟩ v))
    (hs : s < 4294967296) (W : World) (hg : Boxed W g 43 (.int .u32 (s : Int))) (h0 : J [] W) :
    CallsIn F n Tryz.prog 208 #[.func (.yield l) #[] #[], .pointer (some ⟨g, 0, none⟩)] W fun e W' => (∃ v, e = .returned v) ∧ J (listM s) W' := by
  refine callsIn_of_wp Tryz.func208 rfl h208 ?_ hro; simp only [Tryz.ntmps208, List.size_toArray, List.length_cons, List.length_nil, Nat.reduceAdd, Nat.reduceSub, Array.replicate_succ, Array.replicate_zero, List.push_toArray, List.append_toArray, List.nil_append, List.cons_append]; have hc := hg.cell; have hf := hg.frozen
  gi_wp2
  gi_loopw [] (fun wr => ∃ (pre : List Int) (r : Nat), listM s = pre ++ listM r ∧ r < 16777216 ∧ Boxed wr g 43 (.int .u32 (r : Int)) ∧ J pre wr)
    (fun wr => match wr.cell? ⟨g, 0, none⟩ with | some (.int _ v) => v.toNat | _ => 0)
  case atStart =>
    refine ⟨[], s &&& 16777215, by rw [List.nil_append, listM_and], by rw [and24]; exact Nat.mod_lt _ (by decide), ?_, hJ _ _ _ h0⟩; rw [← bits_and_u32_nat s 16777215 hs (by decide)]; exact hg.set _
  case round =>
    obtain ⟨pre, r, hx, hr, hb, hj⟩ := hrel; have hc2 := hb.cell; have hf2 := hb.frozen; by_cases hr0 : r = 0
    · subst hr0
      gi_wp2
      go_end0
      exact ⟨⟨_, rfl⟩, by rw [hx, show listM 0 = [] from by decide, List.append_nil]; exact hj⟩
    · obtain ⟨hk, hlist⟩ := listM_low hr0 hr
      have hlen : pre.length < 24 := by
        have h1 := congrArg List.length hx; have h2 : (listM s).length ≤ 24 := listTo_len s 24; rw [List.length_append, hlist, List.length_cons] at h1; omega
      obtain ⟨fn, tmps, assign, body, hy, hR⟩ := hY pre (Lib.ctz 32 r : Int) wr hj hlen (by omega); have hbe : ((r : Int) != 0) = true := by simp; omega
      gi_wp2_with (gi_at_call 209; refine (tz32' F (n - 1) h209 hro r hr0 hr wr (hT _ _ hj)).mono ?_; rintro e w' ⟨rfl, rfl⟩)
      refine hR.mono ?_; rintro e W3 ⟨rfl, hJ3, hg3⟩; have hb3 : Boxed W3 g 43 (.int .u32 (r : Int)) := hg3.trans hb; have hc3 := hb3.cell; have hf3 := hb3.frozen
      gi_wp2
      have e1 : bits BinOp.and IntKind.u32 (r : Int) ((r : Int) - 1) = ((r &&& (r - 1) : Nat) : Int) := by
        rw [show (r : Int) - 1 = ((r - 1 : Nat) : Int) by omega]; exact bits_and_u32_nat r (r - 1) (by omega) (by omega)
      rw [e1]; have hb4 := hb3.set (.int .u32 ((r &&& (r - 1) : Nat) : Int)); have hlt := low_lt hr0
      go_roundw
      case rel => exact ⟨pre ++ [(Lib.ctz 32 r : Int)], r &&& (r - 1), by rw [hx, hlist, List.append_assoc]; rfl, by omega, hb4, hJ _ _ _ hJ3⟩
      case measure =>
        rw [hb4.cell, hc2]; simp only [Int.toNat_natCast]; exact hlt
theorem mk_in (F : Fence) (n : Nat) (h : F.fn 156) (hro : F.round = none) (s : Nat) (w : World) :
    CallsIn F n Tryz.prog 156 #[.int .u32 (s : Int)] w fun e w' => e = .returned (.func (.func 208) #[] #[.pointer (some ⟨w.heap.size, 0, none⟩)]) ∧ w' = w.alloc (.cells #[.int .u32 (s : Int)] 43) := by
  refine callsIn_of_wp Tryz.func156 rfl h ?_ hro; simp only [Tryz.ntmps156, List.size_toArray, List.length_cons, List.length_nil, Nat.reduceAdd, Nat.reduceSub, Array.replicate_succ, Array.replicate_zero, List.push_toArray, List.append_toArray, List.nil_append, List.cons_append]
  gi_wp2
  go_ret
  exact ⟨rfl, rfl⟩
theorem infoInt : (Tryz.prog.info? 3).map (fun i => (i.zero, i.size, i.bytes)) = some (some (.int .i64 0), 1, 8) := by kernel_rfl
theorem list_in (F : Fence) (n : Nat) (h81 : F.fn 81) (h156 : F.fn 156) (h208 : F.fn 208) (h209 : F.fn 209) (hro : F.round = none) (hn : 3 ≤ n) (s : Nat) (hs : s < 4294967296) (w : World) (hw : 0 < w.heap.size) (hT : TabAt 0 Lib.deBruijn32tab w) :
    CallsIn F n Tryz.prog 81 #[.int .u32 (s : Int)] w fun e W' => ∃ v, e = .returned v ∧ W'.ownsRow w.heap.size 3 1 v (listM s).length ((listM s).map (Value.int .i64)) ∧ Below w.heap.size w W' := by
  have h1 : 1 ≤ n := by omega
  obtain ⟨i0, hi, hz0, hz1, hz2⟩ := info_parts infoInt; refine callsIn_of_wp_marks Tryz.func81 rfl h81 ?_ hro; simp only [Tryz.ntmps81, List.size_toArray, List.length_cons, List.length_nil, Nat.reduceAdd, Nat.reduceSub, Array.replicate_succ, Array.replicate_zero, List.push_toArray, List.append_toArray, List.nil_append, List.cons_append]
  gi_wp2_with (gi_at_call 156; refine (mk_in F (n - 1) h156 hro _ _).mono ?_; rintro e w' ⟨rfl, rfl⟩)
  obtain ⟨w2, hw2⟩ : ∃ w2, (w.alloc (.cells #[.slice none 0 0] 117)).alloc (.cells #[.int .u32 (s : Int)] 43) = w2 := ⟨_, rfl⟩; have bO : Boxed w2 w.heap.size 117 (.slice none 0 0) := by rw [← hw2]; exact (Boxed.new w 117 (.slice none 0 0)).alloc _
  have bS : Boxed w2 (w.heap.size + 1) 43 (.int .u32 (s : Int)) := by rw [← hw2]; have := Boxed.new (w.alloc (.cells #[.slice none 0 0] 117)) 43 (.int .u32 (s : Int)); rwa [World.size_alloc] at this
  have hsz2 : w2.heap.size = w.heap.size + 2 := by rw [← hw2]; simp
  have hB2 : Below w.heap.size w w2 := by rw [← hw2]; exact ((Below.refl _ w).alloc (Nat.le_refl _) _).alloc (by simp) _
  have hrw : ∀ {A B : World}, B.heap[w.heap.size + 1]? = A.heap[w.heap.size + 1]? → ∀ u, Boxed A (w.heap.size + 1) 43 u → Boxed B (w.heap.size + 1) 43 u := fun h u hu => h.trans hu
  simp only [World.size_alloc, hw2]
  refine range_all hro h1 (gf := 208) (lb := #[.pointer (some ⟨w.heap.size + 1, 0, none⟩)]) rfl h208 (enters_of Tryz.func208 (by kernel_rfl) rfl) (encs := fun x : Int => #[Value.int .i64 x]) (fun _ => rfl)
    (fun pre W => (∃ v, Boxed W w.heap.size 117 v ∧ W.ownsRow w.heap.size 3 1 v pre.length (pre.map (Value.int .i64))) ∧ (∃ u, Boxed W (w.heap.size + 1) 43 u) ∧ Below w.heap.size w W)
    (fun pre x => pre.length < 24 ∧ (0 ≤ x ∧ x < 24)) (fun W W' => W'.heap[w.heap.size + 1]? = W.heap[w.heap.size + 1]?)
    ?ip ?ia ⟨⟨_, bO, World.ownsRow_nil _ _ _ _⟩, ⟨_, bS⟩, hB2⟩ (fun h k => k.trans h) ?kp (listM s) ?it
    (fun x => { tmps := #[.int .u32 (s : Int), undef, .slice none 0 0, .pointer (some ⟨w.heap.size, 0, none⟩), .int .i64 x, .int .u32 (s : Int), .func (.func 208) #[] #[.pointer (some ⟨w.heap.size + 1, 0, none⟩)], .int .i64 x, undef, undef, undef, undef, undef], defers := [] }) ?assign ?body ?done
  case ip =>
    rintro pre A l o o0 ⟨⟨v, hv, hr⟩, ⟨u, hu⟩, hB⟩ hl hc hle; refine ⟨⟨v, (World.putObj_heap_other (by omega)).trans hv, ownsRow_putObj hr o hl hc⟩, ⟨u, (World.putObj_heap_other (by omega)).trans hu⟩, hB.trans ⟨rfl, rfl, rfl, by simp, fun k hk => World.putObj_heap_other (by omega)⟩⟩
  case ia =>
    rintro pre A o ⟨⟨v, hv, hr⟩, ⟨u, hu⟩, hB⟩ hle; exact ⟨⟨v, hv.alloc o, hr.kept (World.grownBy_alloc A o none) (by rcases hr.2 with ⟨rfl, _⟩ | ⟨g, cap, cur, rfl, _⟩; exact .inl rfl; exact .inr (by simp [Value.ownBlock]))⟩, ⟨u, hu.alloc o⟩, hB.alloc (by omega) o⟩
  case kp =>
    intro A l o o0 hl hc hle; exact World.putObj_heap_other (by omega)
  case it =>
    intro l J W1 hJI hJk hY h0 hk1; refine in1 F (n - 1) h208 h209 hro (by omega) l (w.heap.size + 1) s J (fun pre x W hj hl hx => hY pre x W hj ⟨hl, hx⟩) (fun pre W hj => ?_) (fun pre W v hj => ?_) hs W1 ?_ h0
    · intro i hi; exact ((hJI _ _ hj).2.2.cell (p := ⟨0, i, none⟩) hw).trans (hT i hi)
    · obtain ⟨⟨v0, hv0, hr⟩, ⟨u, hu⟩, hB⟩ := hJI _ _ hj; refine hJk pre W _ hj ⟨⟨v0, hv0.other (by omega) v, hr.kept (grownBy_setCell' W (w.heap.size + 1) v) (.inr (hu.not_row (by decide) hr).symm)⟩, ⟨_, hu.set v⟩, hB.setCell (p := ⟨w.heap.size + 1, 0, none⟩) (by simp) v⟩ (fun k o hk ho => (KeepsOthers.setCell W _ v).same k o hk ho)
    · exact (hk1 _ (by omega)).trans bS
  case assign =>
    intro l x W K hK
    gi_wp2
    exact hK
  case body =>
    rintro l pre x W ⟨⟨v, hv, hrow⟩, ⟨u, hu⟩, hB⟩ ⟨hlt, hx⟩; have hc := hv.cell
    gi_wp2_with (gi_at_builtin; refine wpListIn_append_own _ rfl _ _ 117 rfl w.heap.size 3 i0 (.int .i64 0) 1 8 Tryz.underlying117 hi hz0 hz1 hz2 rfl (by decide) _ _ _ rfl (hrow.alloc _) ⟨W.heap.size, 0, none⟩ 1 1 [.int .i64 x] rfl rfl (cell_one_new _ _ _) (by simp [Value.oneCell']) (by unfold maxLen; omega) (by omega) (by have := hB.size; simp; omega) ?_; intro v' w1 hown' hgrow _; obtain ⟨g', cap', rfl⟩ := ownsRow_succ hown'; obtain ⟨hv1, hv2, hr2, hk2, hb2⟩ := hv.appended (by decide) hrow hB.size (Nat.le_refl _) hown' hgrow; have hc1 := hv1.cell; have hf1 := hv1.frozen)
    have hu1 := ((hu.alloc (.cells #[.int .i64 x] 3)).kept hgrow (hu.not_row (by decide) hrow)).other (B' := w.heap.size) (by omega) (.slice (some ⟨g', 0, none⟩) (pre.length + 1) cap'); exact ⟨hu1.trans hu.symm, ⟨_, hv2, by simpa using hr2⟩, ⟨u, hu1⟩, hB.trans hb2⟩
  case done =>
    rintro D W hD ⟨⟨v, hv, hrow⟩, _, hB⟩ hK; have hc := hv.cell
    gi_wp2
    refine ⟨by simp, .inl ⟨_, _, rfl, run_takeDeferred hK, ?_⟩⟩; exact ⟨_, results_tmp rfl _ _ _, v, rfl, ownsRow_putObj hrow _ hK rfl, hB.trans ⟨rfl, rfl, rfl, by simp, fun k hk => World.putObj_heap_other (by omega)⟩⟩
abbrev DBF : Fact := At 0 0 (Lib.deBruijn32tab.map fun (v : Nat) => Value.int .u8 (v : Int))
theorem tab_of {ok : Nat → Prop} {w : World} (h : DBF.f ok w) (hk : ∀ b, ok b → b < w.heap.size) : TabAt 0 Lib.deBruijn32tab w ∧ 0 < w.heap.size := by
  refine ⟨fun j hj => ?_, hk _ h.1⟩; have h1 := h.2 j (.int .u8 (Lib.deBruijn32tab.getD j 0 : Nat)) (by rw [List.getElem?_map, List.getD_eq_getElem?_getD, List.getElem?_eq_getElem hj]; rfl)
  rwa [Nat.zero_add] at h1
theorem maskListO (s : Nat) (hs : s < 4294967296) : Spec Tryz.prog 81 #[.int .u32 (s : Int)] [DBF] [] (fun x : SH => sl x (listM s).length) (fun _ => []) (fun x => [rowS 1 3 x (listM s).length (intFlat (listM s))]) := fun ok w hok hst => by
  obtain ⟨hT, hw⟩ := tab_of (hst.facts DBF List.mem_cons_self) (fun b hb => hb.2.1); refine (callsIn_wide.mp (list_in Fence.wide 3 trivial trivial trivial trivial rfl (Nat.le_refl _) s hs w hw hT)).mono fun e w' hh => ?_
  obtain ⟨v, rfl, hrow, hB⟩ := hh; obtain ⟨a, rfl⟩ := owns_sh hrow
  have hrow0 : w'.ownsRow 0 3 1 (sl a (listM s).length) (listM s).length (intFlat (listM s)) := by
    have h1 : w'.ownsRow 0 3 1 (sl a (listM s).length) (listM s).length ((listM s).map (Value.int .i64)) := ⟨hrow.1, hrow.2.imp id (fun ⟨g, cap, cur, q1, q2, q3⟩ => ⟨g, cap, cur, q1, Nat.zero_le _, q3⟩)⟩
    rwa [show (listM s).map (Value.int .i64) = intFlat (listM s) from by induction (listM s) with | nil => rfl | cons y ys ih => (simp only [List.map_cons, intFlat, List.flatMap_cons, intCells, List.singleton_append] at ih ⊢; rw [ih])] at h1
  refine ⟨a, rfl, ⟨hB.os, hB.tape, hB.output, hB.size, fun b hb _ => hB.block b hb⟩, fun _ hF => (by cases hF), ?_, ?_, List.pairwise_singleton _ _⟩
  · intro m hm w2 hw2; rw [List.mem_singleton] at hm; subst hm; exact rowR_keeps hrow0 (fun b hb => hw2 b hb)
  · intro m hm b hb; rw [List.mem_singleton] at hm; subst hm; have := hrow.lt b hb; exact ⟨this.2, .inr this.1⟩
theorem maskListF (s : Nat) (hs : s < 4294967296) : Spec Tryz.prog 81 #[.int .u32 (s : Int)] [DBF] [] (fun x : SH => sl x (listM s).length) (fun x => [IL (listM s) x]) (fun _ => []) := fun ok w hok hst => (maskListO s hs ok w hok hst).mono fun e w' hh => by
  obtain ⟨x, he, h⟩ := hh; have hl : (listM s).length ≤ 24 := listTo_len s 24; exact ⟨x, he, h.settleIL trivial rfl rfl (by unfold reach; omega) (fun c hc => by have := listTo_in hc; unfold in64; omega)⟩
end Go.Hy
