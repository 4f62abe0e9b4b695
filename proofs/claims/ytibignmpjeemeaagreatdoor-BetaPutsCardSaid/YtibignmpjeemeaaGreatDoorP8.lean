/- Contracts of this program's functions and the laws that they need. -/
import Derived.RangeFuncNested
import Derived.RangeFuncBound
import Derived.RangeFuncCalls
import Derived.RangeFuncLeaves
import Derived.RangeFuncBox
import Derived.Shelf.Abstract
import Derived.Shelf.RegionOpen
import Derived.WalkKit
import Derived.OwnWalkIn
import Derived.TacticsInMore
import Derived.LoopNIn
import Derived.LoopIn
import Derived.Tactics2
import Derived.Test.YtibignmpjeemeaaGreatDoorP7
set_option linter.unusedVariables false
set_option linter.unusedSimpArgs false
set_option linter.unusedSectionVars false
namespace Go.Hy
section
variable {C : Type} {A : Tr C}
theorem Y8 {k : Int} {c : C} : ∀ {ts : List T} {i : Nat}, (∀ j, j < ts.length → ∃ c', A.Hu c (binds k ((i + j : Nat) : Int)) = .ok c' ∧ B1 A (ts.getD j t0) c' = .ok (ts.getD j t0)) → Cn A k i ts c = .ok ts
 | [], i, h => C4 _ _ _
 | t :: ts, i, h => by
  obtain ⟨c', h1, h2⟩ := h 0 D8
  have h3 := Y8 (ts := ts) (i := i + 1) (fun j hj => by
   have := h (j + 1) (by simpa using hj)
   rw [List.getD_cons_succ, show i + (j + 1) = i + 1 + j by omega] at this
   exact this)
  rw [Nat.add_zero] at h1
  rw [List.getD_cons_zero] at h2
  rw [C3, h1]; simp only [A5.bind]; rw [h2]; simp only; rw [h3]
theorem Y7 {k : Int} {c : C} : ∀ {ts : List T}, (∀ j, j < ts.length → ∃ c', A.Hu c (0, more k) = .ok c' ∧ B1 A (ts.getD j t0) c' = .ok (ts.getD j t0)) → Bv A k ts c = .ok ts
 | [], h => Cr _ _
 | t :: ts, h => by
  obtain ⟨c', h1, h2⟩ := h 0 D8
  have h3 := Y7 (ts := ts) (fun j hj => by
   have := h (j + 1) (by simpa using hj)
   rw [List.getD_cons_succ] at this
   exact this)
  rw [List.getD_cons_zero] at h2
  rw [C2, h1]; simp only [A5.bind]; rw [h2]; simp only; rw [h3]
theorem Y9 {k : Int} {c : C} : ∀ {bs : List Br}, (∀ b, b ∈ bs → A.Ad c b.Ad = .ok (some b.Ad) ∧ Bv A k b.kids c = .ok b.kids) → C6 A k bs c = .ok bs
 | [], h => Bs _ _
 | b :: bs, h => by
  obtain ⟨h1, h2⟩ := h b List.mem_cons_self
  rw [Bq, h1]; simp only [A5.bind]; rw [h2]; simp only
  rw [Y9 fun b hb => h b (List.mem_cons_of_mem _ hb)]
  cases b; rfl
theorem C0b {t : T} {c : C} (h1 : A.own c t.kind t.n t.name t.r = .ok (.inr (t.n, t.r))) (h2 : ∀ b, b ∈ t.sys → A.Ad c b.Ad = .ok (some b.Ad)) (h3 : ∀ p, p ∈ parts t → ∃ c', A.Hu c p.2 = .ok c' ∧ B1 A p.1 c' = .ok p.1) : B1 A t c = .ok t := by
 rw [Cy, h1]
 simp only [A5.bind]
 have hk := Y8 (A := A) (k := t.kind) (c := c) (ts := t.kids) (i := 0) (fun j hj => by
  obtain ⟨c', h4, h5⟩ := h3 _ (List.mem_of_getElem? (Ix t j hj))
  exact ⟨c', by rw [Nat.zero_add]; exact h4, h5⟩)
 have hs := Y9 (A := A) (k := t.kind) (c := c) (bs := t.sys) (fun b hb => by
  refine ⟨h2 b hb, Y7 fun j hj => ?_⟩
  obtain ⟨s, hs, e⟩ := Un (d := Bf) hb
  obtain ⟨c', h4, h5⟩ := h3 _ (List.mem_of_getElem? (Iv t s j hs (by rw [e]; exact hj)))
  rw [e] at h5
  exact ⟨c', h4, h5⟩)
 rw [hk]; simp only; rw [hs]
 obtain ⟨k, n, nm, r, ks, ss⟩ := t
 rfl
end
theorem C7c {s : Nat} {j : Int} (h : ∀ k : Nat, s.testBit k = true → (k : Int) ≠ j) : F4 s j = false := by
 cases hh : F4 s j with
 | false => rfl
 | true =>
  unfold F4 at hh
  simp only [Bool.and_eq_true, decide_eq_true_eq] at hh
  exact absurd A2 (h _ hh.2)
theorem A7l {t : T} (h : H5 t = false) : (∀ b, b ∈ t.sys → b.Ad ≠ []) ∧ ∀ p, p ∈ parts t → H5 p.1 = false := by
 refine ⟨fun b hb he => ?_, fun p hp => ?_⟩
 ·obtain ⟨s, hs, e⟩ := Un (d := Bf) hb
  rw [B5n hs (by rw [e]; exact he)] at h; cases h
 ·cases hh : H5 p.1 with
  | false => rfl
  | true =>
   rcases Ol hp with ⟨i, hi, e⟩ | ⟨s, k, hs, hk, e⟩
   ·rw [C1h hi (by rw [e] at hh; exact hh)] at h; cases h
   ·rw [C1g hs hk (by rw [e] at hh; exact hh)] at h; cases h
theorem B9y {i : Int} {r : List Cl} (hi : 0 ≤ i) : ∀ (t : T) {c : Int}, 0 ≤ c → H5 t = false → (∀ j, (V8 t).testBit j = true → (j : Int) ≠ i + c) → B1 (Ax (Em i r)) t c = .ok t := T.ind fun t ih c hc hn hd => by
 obtain ⟨n1, n2⟩ := A7l hn
 have hrow : ∀ P : List Cl → Int → List Cl → EL, ∀ f : List Cl, (∀ j, (G3 f).testBit j = true → (j : Int) ≠ i + c) → B6 P i r c f = (0, f) := fun P f h => C4o (C7c h)
 refine C0b ?_ (fun b hb => ?_) (fun p hp => ?_)
 ·have : (Em i r).row t.kind c t.r = (0, t.r) := by
   unfold D1.row
   split
   ·exact hrow _ _ fun j hj => hd j (Qi.mpr (.inl hj))
   ·exact hrow _ _ fun j hj => hd j (Qi.mpr (.inl hj))
  rw [Mq (by rw [this]), this]
 ·have : (Em i r).Ad c b.Ad = (0, b.Ad) := hrow _ _ fun j hj => hd j (Qi.mpr (.inr (.inl ⟨b, hb, hj⟩)))
  rw [M0 (by rw [this]) (by rw [this]; exact fun h => n1 b hb (List.eq_nil_of_length_eq_zero h)), this]
 ·have h01 := Ui hp
  refine ⟨_, rfl, ih p hp A2 (n2 p hp) fun j hj => ?_⟩
  intro e
  exact hd (j - p.2.2.toNat) (Qi.mpr (.inr (.inr ⟨p, hp, by rw [Nat.sub_add_cancel A2]; exact hj⟩))) A2
section
variable {CA CB CC CD : Type} {A : Tr CA} {B : Tr CB} {C : Tr CC} {D : Tr CD} (R : CA → CB → CC → CD → Prop)
structure SqD : Prop where
 leaf : ∀ t a b c x ca cb cc cd, R ca cb cc cd → Er t → t.kind = 1 → B1 A t ca = .ok a → B1 B a cb = .ok b → B1 C t cc = .ok c → B1 D c cd = .ok x → b = x
 nA : ∀ ca k n nm r u, k ≠ 1 → A.own ca k n nm r ≠ .ok (.inl u)
 nB : ∀ ca k n nm r u, k ≠ 1 → B.own ca k n nm r ≠ .ok (.inl u)
 nC : ∀ ca k n nm r u, k ≠ 1 → C.own ca k n nm r ≠ .ok (.inl u)
 nD : ∀ ca k n nm r u, k ≠ 1 → D.own ca k n nm r ≠ .ok (.inl u)
 own : ∀ ca cb cc cd k n nm r pa pb pc pd, R ca cb cc cd → Ma k n nm r → k ≠ 1 → A.own ca k n nm r = .ok (.inr pa) → B.own cb k pa.1 nm pa.2 = .ok (.inr pb) → C.own cc k n nm r = .ok (.inr pc) → D.own cd k pc.1 nm pc.2 = .ok (.inr pd) → pb = pd
 Ad : ∀ ca cb cc cd f oa oc, R ca cb cc cd → Aj f = true → A.Ad ca f = .ok oa → C.Ad cc f = .ok oc → ∃ fa, oa = some fa ∧ ∀ ob, B.Ad cb fa = .ok ob → (oc = none → ob = none) ∧ ∀ fc od, oc = some fc → D.Ad cd fc = .ok od → ∃ g, od = some g ∧ ob = some g
 Hu : ∀ ca cb cc cd b ca' cb' cc' cd', R ca cb cc cd → 0 ≤ b.1 → 0 ≤ b.2 → A.Hu ca b = .ok ca' → B.Hu cb b = .ok cb' → C.Hu cc b = .ok cc' → D.Hu cd b = .ok cd' → R ca' cb' cc' cd'
variable {R}
mutual
theorem sqD (F : SqD (A := A) (B := B) (C := C) (D := D) R) : ∀ {t a b c x : T} {ca : CA} {cb : CB} {cc : CC} {cd : CD}, Er t → R ca cb cc cd → B1 A t ca = .ok a → B1 B a cb = .ok b → B1 C t cc = .ok c → B1 D c cd = .ok x → b = x
 | .mk k n nm r ks ss, a, b, c, x, ca, cb, cc, cd, hf, hr, ha, hb, hc, hx => by
  by_cases hk : k = 1
  ·exact F.leaf _ _ _ _ _ _ _ _ _ hr hf hk ha hb hc hx
  ·simp only [Er] at hf
   obtain ⟨h1, h2, h3, h4, h5⟩ := hf
   rw [Cy] at ha hc
   simp only [T.kind, T.n, T.name, T.r, T.kids, T.sys] at ha hc
   obtain ⟨oa, a1, ha⟩ := A5.A0 ha
   obtain ⟨oc, c1, hc⟩ := A5.A0 hc
   cases oa with
   | inl v => exact absurd a1 (F.nA _ _ _ _ _ _ hk)
   | inr pa =>
    cases oc with
    | inl v => exact absurd c1 (F.nC _ _ _ _ _ _ hk)
    | inr pc =>
     obtain ⟨ka, a2, ha⟩ := A5.A0 ha
     obtain ⟨sa, a3, ha⟩ := A5.A0 ha
     obtain ⟨kc, c2, hc⟩ := A5.A0 hc
     obtain ⟨sc, c3, hc⟩ := A5.A0 hc
     injection ha with ha
     injection hc with hc
     subst ha hc
     rw [Cy] at hb hx
     simp only [T.kind, T.n, T.name, T.r, T.kids, T.sys] at hb hx
     obtain ⟨ob, b1, hb⟩ := A5.A0 hb
     obtain ⟨od, d1, hx⟩ := A5.A0 hx
     cases ob with
     | inl v => exact absurd b1 (F.nB _ _ _ _ _ _ hk)
     | inr pb =>
      cases od with
      | inl v => exact absurd d1 (F.nD _ _ _ _ _ _ hk)
      | inr pd =>
       obtain ⟨kb, b2, hb⟩ := A5.A0 hb
       obtain ⟨sb, b3, hb⟩ := A5.A0 hb
       obtain ⟨kd, d2, hx⟩ := A5.A0 hx
       obtain ⟨sd, d3, hx⟩ := A5.A0 hx
       injection hb with hb
       injection hx with hx
       subst hb hx
       rw [F.own _ _ _ _ _ _ _ _ _ _ _ _ hr h1 hk a1 b1 c1 d1, D8j F h4 hr a2 b2 c2 d2, D3k F h5 hr a3 b3 c3 d3]
termination_by structural t => t
theorem D8j (F : SqD (A := A) (B := B) (C := C) (D := D) R) {k : Int} : ∀ {ts a b c x : List T} {i : Nat} {ca : CA} {cb : CB} {cc : CC} {cd : CD}, J1 ts → R ca cb cc cd → Cn A k i ts ca = .ok a → Cn B k i a cb = .ok b → Cn C k i ts cc = .ok c → Cn D k i c cd = .ok x → b = x
 | [], a, b, c, x, i, ca, cb, cc, cd, hf, hr, ha, hb, hc, hx => by
  rw [C4] at ha hc
  injection ha with ha
  injection hc with hc
  subst ha hc
  rw [C4] at hb hx
  injection hb with hb
  injection hx with hx
  rw [← hb, ← hx]
 | t :: ts, a, b, c, x, i, ca, cb, cc, cd, hf, hr, ha, hb, hc, hx => by
  rw [C3] at ha hc
  obtain ⟨ca', a1, ha⟩ := A5.A0 ha
  obtain ⟨ta, a2, ha⟩ := A5.A0 ha
  obtain ⟨tsa, a3, ha⟩ := A5.A0 ha
  obtain ⟨cc', c1, hc⟩ := A5.A0 hc
  obtain ⟨tc, c2, hc⟩ := A5.A0 hc
  obtain ⟨tsc, c3, hc⟩ := A5.A0 hc
  injection ha with ha
  injection hc with hc
  subst ha hc
  rw [C3] at hb hx
  obtain ⟨cb', b1, hb⟩ := A5.A0 hb
  obtain ⟨tb, b2, hb⟩ := A5.A0 hb
  obtain ⟨tsb, b3, hb⟩ := A5.A0 hb
  obtain ⟨cd', d1, hx⟩ := A5.A0 hx
  obtain ⟨td, d2, hx⟩ := A5.A0 hx
  obtain ⟨tsd, d3, hx⟩ := A5.A0 hx
  injection hb with hb
  injection hx with hx
  subst hb hx
  have hbi := Jr k i
  rw [sqD F hf.1 (F.Hu _ _ _ _ _ _ _ _ _ hr A2 A2 a1 b1 c1 d1) a2 b2 c2 d2, D8j F hf.2 hr a3 b3 c3 d3]
termination_by structural ts => ts
theorem D8i (F : SqD (A := A) (B := B) (C := C) (D := D) R) {k : Int} : ∀ {ts a b c x : List T} {ca : CA} {cb : CB} {cc : CC} {cd : CD}, J1 ts → R ca cb cc cd → Bv A k ts ca = .ok a → Bv B k a cb = .ok b → Bv C k ts cc = .ok c → Bv D k c cd = .ok x → b = x
 | [], a, b, c, x, ca, cb, cc, cd, hf, hr, ha, hb, hc, hx => by
  rw [Cr] at ha hc
  injection ha with ha
  injection hc with hc
  subst ha hc
  rw [Cr] at hb hx
  injection hb with hb
  injection hx with hx
  rw [← hb, ← hx]
 | t :: ts, a, b, c, x, ca, cb, cc, cd, hf, hr, ha, hb, hc, hx => by
  rw [C2] at ha hc
  obtain ⟨ca', a1, ha⟩ := A5.A0 ha
  obtain ⟨ta, a2, ha⟩ := A5.A0 ha
  obtain ⟨tsa, a3, ha⟩ := A5.A0 ha
  obtain ⟨cc', c1, hc⟩ := A5.A0 hc
  obtain ⟨tc, c2, hc⟩ := A5.A0 hc
  obtain ⟨tsc, c3, hc⟩ := A5.A0 hc
  injection ha with ha
  injection hc with hc
  subst ha hc
  rw [C2] at hb hx
  obtain ⟨cb', b1, hb⟩ := A5.A0 hb
  obtain ⟨tb, b2, hb⟩ := A5.A0 hb
  obtain ⟨tsb, b3, hb⟩ := A5.A0 hb
  obtain ⟨cd', d1, hx⟩ := A5.A0 hx
  obtain ⟨td, d2, hx⟩ := A5.A0 hx
  obtain ⟨tsd, d3, hx⟩ := A5.A0 hx
  injection hb with hb
  injection hx with hx
  subst hb hx
  have hm := C5y k
  rw [sqD F hf.1 (F.Hu _ _ _ _ _ _ _ _ _ hr A2 hm a1 b1 c1 d1) a2 b2 c2 d2, D8i F hf.2 hr a3 b3 c3 d3]
termination_by structural ts => ts
theorem D3k (F : SqD (A := A) (B := B) (C := C) (D := D) R) {k : Int} : ∀ {bs a b c x : List Br} {ca : CA} {cb : CB} {cc : CC} {cd : CD}, Pb k bs → R ca cb cc cd → C6 A k bs ca = .ok a → C6 B k a cb = .ok b → C6 C k bs cc = .ok c → C6 D k c cd = .ok x → b = x
 | [], a, b, c, x, ca, cb, cc, cd, hf, hr, ha, hb, hc, hx => by
  rw [Bs] at ha hc
  injection ha with ha
  injection hc with hc
  subst ha hc
  rw [Bs] at hb hx
  injection hb with hb
  injection hx with hx
  rw [← hb, ← hx]
 | .mk f ks :: bs, a, b, c, x, ca, cb, cc, cd, hf, hr, ha, hb, hc, hx => by
  rw [Bq] at ha hc
  simp only [Br.Ad, Br.kids] at ha hc
  obtain ⟨oa, a1, ha⟩ := A5.A0 ha
  obtain ⟨oc, c1, hc⟩ := A5.A0 hc
  obtain ⟨fa, e1, hfc⟩ := F.Ad _ _ _ _ f oa oc hr hf.2.1 a1 c1
  subst e1
  obtain ⟨ka, a2, ha⟩ := A5.A0 ha
  obtain ⟨ba, a3, ha⟩ := A5.A0 ha
  injection ha with ha
  subst ha
  rw [Bq] at hb
  simp only [Br.Ad, Br.kids] at hb
  obtain ⟨ob, b1, hb⟩ := A5.A0 hb
  obtain ⟨hn, hs⟩ := hfc ob b1
  cases oc with
  | none =>
   have := hn rfl
   subst this
   exact D3k F hf.2.2.2 hr a3 hb hc hx
  | some fc =>
   obtain ⟨kc, c2, hc⟩ := A5.A0 hc
   obtain ⟨bc, c3, hc⟩ := A5.A0 hc
   injection hc with hc
   subst hc
   rw [Bq] at hx
   simp only [Br.Ad, Br.kids] at hx
   obtain ⟨od, d1, hx⟩ := A5.A0 hx
   obtain ⟨g, g1, g2⟩ := hs fc od rfl d1
   subst g1 g2
   obtain ⟨kb, b2, hb⟩ := A5.A0 hb
   obtain ⟨bb, b3, hb⟩ := A5.A0 hb
   obtain ⟨kd, d2, hx⟩ := A5.A0 hx
   obtain ⟨bd, d3, hx⟩ := A5.A0 hx
   injection hb with hb
   injection hx with hx
   subst hb hx
   rw [D8i F hf.2.2.1 hr a2 b2 c2 d2, D3k F hf.2.2.2 hr a3 b3 c3 d3]
termination_by structural bs => bs
end
end
theorem A6l (N : Wd) (f b : Int) : Gh (Kx N) f b = Kx (Gh N f b) := by
 funext j
 unfold Gh Kx
 by_cases h : (j : Int) < f
 ·simp only [if_pos h]
 ·simp only [if_neg h]
theorem Ql {P N : Wd} {f b : Int} (h : J2 P N) : J2 (Gh P f b) (Gh N f b) := fun j hj => by
 unfold Gh at hj
 split at hj
 ·exact h _ hj
 ·exact h _ hj
theorem Mp {f g : List Cl} {k b : Int} {P N : Wd} (hf : Ag f = true) (h : Az b f k = .ok g) : sat g P N ↔ sat f (Gh P k b) (Gh N k b) := by
 unfold Az at h
 split at h
 ·rename_i h1
  injection h with h
  subst h
  refine C0j (fun c hc => List.all_eq_true.mp (K8 hf) c hc) (fun j hj => ?_) (fun j hj => ?_)
  ·unfold Gh
   rcases h1 with h1 | h1
   ·subst h1; split <;> exact Iff.rfl
   ·rw [if_pos A2]
  ·unfold Gh
   rcases h1 with h1 | h1
   ·subst h1; split <;> exact Iff.rfl
   ·rw [if_pos A2]
 ·split at h
  ·rename_i h1 h2
   injection h with h
   subst h
   exact Pu h2
  ·cases h
def atP (r : List Cl) (d : Int) (P N : Wd) : Prop := sat r (Gh P 0 d) (Gh N 0 d)
def atN (r : List Cl) (d : Int) (P N : Wd) : Prop := ¬ sat r (Kx (Gh N 0 d)) (Kx (Gh P 0 d))
theorem B3o {r : List Cl} {d : Int} {P N : Wd} (h : (A6 r 0 d).1 = 0) : sat (A6 r 0 d).2 P N ↔ atP r d P N := Pu h
theorem B3q {r : List Cl} {d : Int} {P N : Wd} (h : (A6 r 0 d).1 = 0) : (¬ sat (A6 r 0 d).2 (Kx N) (Kx P)) ↔ atN r d P N := by
 unfold atN
 rw [Pu h, A6l, A6l]
theorem Ft {f r x : List Cl} {i d : Int} {P N : Wd} (hf : Ag f = true) (h : B6 B4 i r d f = (0, x)) : Ag x = true ∧ (sat x P N ↔ sat f (N6 P (i + d) (atP r d P N)) (N6 N (i + d) (atN r d P N))) := by
 unfold B6 at h
 split at h
 ·rename_i h1
  injection h with _ h
  subst h
  exact ⟨hf, (B0h (K8 hf) h1).symm⟩
 ·obtain ⟨a1, a2, a3⟩ := Da (by rw [h] : (Ez (A6 r 0 d) fun s => B4 f (i + d) s).1 = 0)
  rw [a3] at h
  have h0 : (B4 f (i + d) (A6 r 0 d).2).1 = 0 := by rw [h]
  have hx : x = (B4 f (i + d) (A6 r 0 d).2).2 := by rw [h]
  rw [hx]
  refine ⟨B6e h0, ?_⟩
  rw [(B0i h0).2.2.2]
  rw [propext (B3o (P := P) (N := N) a1), propext (B3q (P := P) (N := N) a1)]
theorem F7 {f r x : List Cl} {i d : Int} (hf : Aj f = true) (h : B6 Aw i r d f = (0, x)) : Aj x = true ∧ ∀ P N, J2 P N → (sat x P N ↔ sat f (N6 P (i + d) (atP r d P N)) (N6 N (i + d) (atN r d P N))) := by
 unfold B6 at h
 split at h
 ·rename_i h1
  injection h with _ h
  subst h
  exact ⟨hf, fun P N _ => (B0h (K8 (Fp hf).1) h1).symm⟩
 ·obtain ⟨a1, a2, a3⟩ := Da (by rw [h] : (Ez (A6 r 0 d) fun s => Aw f (i + d) s).1 = 0)
  rw [a3] at h
  have h0 : (Aw f (i + d) (A6 r 0 d).2).1 = 0 := by rw [h]
  have hx : x = (Aw f (i + d) (A6 r 0 d).2).2 := by rw [h]
  rw [hx]
  refine ⟨(Wp h0).2.2.2.1, fun P N hw => ?_⟩
  rw [(Wp h0).2.2.2.2 P N hw]
  rw [propext (B3o (P := P) (N := N) a1), propext (B3q (P := P) (N := N) a1)]
theorem B7m {P : Wd} {k b : Int} (hk : 0 ≤ k) (hb : 0 ≤ b) : Gh (Gh P k b) 0 k = Gh P 0 (b + k) := by
 funext j
 unfold Gh
 rw [if_neg A2, if_neg A2, if_neg A2]
 congr 1
 omega
theorem A8q {r : List Cl} {P N : Wd} {k b : Int} (hk : 0 ≤ k) (hb : 0 ≤ b) : atP r k (Gh P k b) (Gh N k b) = atP r (b + k) P N ∧ atN r k (Gh P k b) (Gh N k b) = atN r (b + k) P N := by
 unfold atP atN
 rw [B7m hk hb, B7m hk hb]
 exact ⟨rfl, rfl⟩
theorem A6x {P : Wd} {i k b : Int} {A : Prop} (hi : 0 ≤ i) (hk : 0 ≤ k) (hb : 0 ≤ b) : Gh (N6 P (i + (b + k)) A) k b = N6 (Gh P k b) (i + k) A := by
 funext j
 unfold Gh N6
 by_cases h1 : (j : Int) < k
 ·simp only [if_pos h1]
  rw [if_neg A2, if_neg A2]
 ·simp only [if_neg h1]
  by_cases h2 : (j : Int) = i + k
  ·rw [if_pos A2, if_pos h2]
  ·rw [if_neg A2, if_neg h2]
theorem C2a {f g x c y r : List Cl} {i k b : Int} (hf : Ag f = true) (hi : 0 ≤ i) (hk : 0 ≤ k) (hb : 0 ≤ b) (h1 : Az b f k = .ok g) (h2 : B6 B4 i r (b + k) g = (0, x)) (h3 : B6 B4 i r k f = (0, c)) (h4 : Az b c k = .ok y) : x = y := by
 have hg := Yo h1 hf
 have hc := (Ft (P := fun _ => True) (N := fun _ => True) hf h3).1
 refine B2o (Ft (P := fun _ => True) (N := fun _ => True) hg h2).1 (Yo h4 hc) fun P N => ?_
 rw [(Ft hg h2).2, Mp hf h1, Mp hc h4, (Ft hf h3).2, A6x hi hk hb, A6x hi hk hb, (A8q hk hb).1, (A8q hk hb).2]
theorem W8 {f g x c y r : List Cl} {i k b : Int} (hf : Aj f = true) (hi : 0 ≤ i) (hk : 0 ≤ k) (hb : 0 ≤ b) (h1 : Az b f k = .ok g) (h2 : B6 Aw i r (b + k) g = (0, x)) (h3 : B6 Aw i r k f = (0, c)) (h4 : Az b c k = .ok y) : x = y := by
 have hg := U9 h1 hf
 have hc := (F7 hf h3).1
 refine B2t (F7 hg h2).1 (U9 h4 hc) fun P N hw => ?_
 rw [(F7 hg h2).2 P N hw, Mp (Fp hf).1 h1, Mp (Fp hc).1 h4, (F7 hf h3).2 _ _ (Ql hw), A6x hi hk hb, A6x hi hk hb, (A8q hk hb).1, (A8q hk hb).2]
theorem Xq {i n d : Int} {r : List Cl} (hi : 0 ≤ i) (hd : 0 ≤ d) : B1 (Ax (Em i r)) (.mk 1 n ⟨#[]⟩ [] [] []) d = .ok (.mk 1 n ⟨#[]⟩ [] [] []) :=
 B9y hi _ hd rfl fun j hj => by
  exfalso
  rcases Qi.mp hj with h | ⟨b, hb, _⟩ | ⟨p, hp, _⟩
  ·obtain ⟨_, c, hc, _⟩ := Lo.mp h; cases hc
  ·cases hb
  ·cases hp
theorem Uo {v b k n : Int} {nm : ByteArray} {c : Int × Int} {r : List Cl} {p : Int × List Cl} (h : (Ba v b).own c k n nm r = .ok (.inr p)) : p.1 = Gv v c.1 k n ∧ Az b r c.2 = .ok p.2 := by
 rw [Iy] at h
 obtain ⟨g, hg, h2⟩ := A5.A0 (x := Az b r c.2) h
 split at h2
 ·cases h2
 ·injection h2 with h2
  injection h2 with h2
  subst h2
  exact ⟨rfl, hg⟩
theorem Q7 {v b : Int} {c : Int × Int} {f : List Cl} {o : Option (List Cl)} (h : (Ba v b).Ad c f = .ok o) : ∃ g, o = some g ∧ Az b f c.2 = .ok g := by
 rw [S7] at h
 obtain ⟨g, hg, h2⟩ := A5.A0 (x := Az b f c.2) h
 injection h2 with h2
 exact ⟨g, h2.symm, hg⟩
theorem H2 {W : D1} {d : Int} {f : List Cl} {o : Option (List Cl)} (h : (Ax W).Ad d f = .ok o) : ∃ g, W.Ad d f = (0, g) ∧ o = if g = [] then none else some g := by
 cases o with
 | none => exact ⟨[], Il.mp h, rfl⟩
 | some g =>
  obtain ⟨h1, h2⟩ := Ik.mp h
  exact ⟨g, h1, by rw [if_neg h2]⟩
theorem A9z {v b i : Int} {r : List Cl} (hv : 0 ≤ v) (hb : 0 ≤ b) (hi : 0 ≤ i) : SqD (A := Ba v b) (B := Ax (Em i r)) (C := Ax (Em i r)) (D := Ba v b) (fun x y z z' => z' = x ∧ z = x.2 ∧ y = b + x.2 ∧ 0 ≤ x.1 ∧ 0 ≤ x.2) where
 leaf := by
  rintro t a b' c x ca cb cc cd ⟨rfl, rfl, rfl, e1, e2⟩ hf hk h1 h2 h3 h4
  obtain ⟨e, hn0⟩ := Kt hf hk
  obtain ⟨rfl, _⟩ := C6i hf hk h1
  rw [Xq hi A2] at h2
  injection h2 with h2
  rw [e, Xq hi e2] at h3
  injection h3 with h3
  rw [← h3, ← e, h1] at h4
  injection h4 with h4
  rw [← h2, ← h4]
 nA := fun _ _ _ _ _ _ _ => Ld
 nB := fun _ _ _ _ _ _ _ => D5
 nC := fun _ _ _ _ _ _ _ => D5
 nD := fun _ _ _ _ _ _ _ => Ld
 own := by
  rintro ca cb cc cd k n nm rr pa pb pc pd ⟨rfl, rfl, rfl, e1, e2⟩ hh hk h1 h2 h3 h4
  obtain ⟨a1, a2⟩ := Uo h1
  obtain ⟨b1, b2⟩ := F2.mp h2
  obtain ⟨c1, c2⟩ := F2.mp h3
  obtain ⟨d1, d2⟩ := Uo h4
  obtain ⟨q1, q2⟩ := Zu hh
  refine Prod.ext (by rw [b2, a1, d1, c2]) ?_
  unfold D1.row at b1 c1
  by_cases h14 : k = 14
  ·rw [if_pos h14] at b1 c1
   exact W8 (q1 h14) hi e2 hb a2 b1 c1 d2
  ·rw [if_neg h14] at b1 c1
   exact C2a q2 hi e2 hb a2 b1 c1 d2
 Ad := by
  rintro ca cb cc cd f oa oc ⟨rfl, rfl, rfl, e1, e2⟩ hf h1 h3
  obtain ⟨fa, rfl, a2⟩ := Q7 h1
  obtain ⟨gc, c1, rfl⟩ := H2 h3
  refine ⟨fa, rfl, fun ob h2 => ?_⟩
  obtain ⟨gb, b1, rfl⟩ := H2 h2
  refine ⟨fun hn => ?_, fun fc od hs h4 => ?_⟩
  ·have hgc : gc = [] := by
    by_cases h : gc = []
    ·exact h
    ·rw [if_neg h] at hn; cases hn
   subst hgc
   have := W8 hf hi e2 hb a2 b1 c1 (Wq _ _)
   rw [if_pos this]
  ·by_cases h : gc = []
   ·rw [if_pos h] at hs; cases hs
   ·rw [if_neg h] at hs
    injection hs with hs
    subst hs
    obtain ⟨g, rfl, d2⟩ := Q7 h4
    have := W8 hf hi e2 hb a2 b1 c1 d2
    exact ⟨g, rfl, by rw [this, if_neg (B4s d2 h)]⟩
 Hu := by
  rintro ca cb cc cd b' ca' cb' cc' cd' ⟨rfl, rfl, rfl, e1, e2⟩ p1 p2 h1 h2 h3 h4
  have h1 := X2 h1
  have h4 := X2 h4
  injection h2 with h2
  injection h3 with h3
  subst h1 h2 h3 h4
  exact ⟨rfl, rfl, by dsimp only; omega, by dsimp only; omega, by dsimp only; omega⟩
theorem C6j {v b i : Int} {r : List Cl} {u a x c y : T} (hi : 0 ≤ i) (hv : 0 ≤ v) (hb : 0 ≤ b) (hf : Er u) (h1 : B1 (Ba v b) u (0, 0) = .ok a) (h2 : B1 (Ax (Em i r)) a b = .ok x) (h3 : B1 (Ax (Em i r)) u 0 = .ok c) (h4 : B1 (Ba v b) c (0, 0) = .ok y) : x = y :=
 sqD (A9z hv hb hi) hf (ca := (0, 0)) (cb := b) (cc := 0) (cd := (0, 0)) ⟨rfl, rfl, by simp, by decide, by decide⟩ h1 h2 h3 h4
theorem A9y {n i : Int} {u w : T} {r : List Cl} (hi : 0 ≤ i) (hw : B1 (Ax (Em i r)) u 0 = .ok w) : SqD (A := Bx n u) (B := Ax (Em i r)) (C := Ax (Em i r)) (D := Bx n w) (fun x y z z' => z' = x ∧ z = x.2 ∧ y = x.2 ∧ 0 ≤ x.1 ∧ 0 ≤ x.2) where
 leaf := by
  rintro t a b' c x ca cb cc cd ⟨rfl, rfl, rfl, e1, e2⟩ hf hk h1 h2 h3 h4
  obtain ⟨e, hn0⟩ := Kt hf hk
  have ht : c = t := by
   rw [e, Xq hi e2] at h3
   injection h3 with h3
   rw [e]; exact h3.symm
  subst ht
  rcases Yt hf hk h1 with ⟨a1, a2, rfl⟩ | ⟨a1, rfl⟩
  ·rcases Yt hf hk h4 with ⟨c1, c2, rfl⟩ | ⟨c1, rfl⟩
   ·obtain ⟨fu, _, _, w1⟩ := B3j a2
    obtain ⟨_, _, _, w2⟩ := B3j c2
    exact C6j hi e1 e2 fu w1 h2 hw w2
   ·exact absurd a1 c1
  ·rcases Yt hf hk h4 with ⟨c1, c2, rfl⟩ | ⟨c1, rfl⟩
   ·exact absurd c1 a1
   ·rw [Xq hi e2] at h2
    injection h2 with h2
    exact h2.symm
 nA := fun _ _ _ _ _ _ hk => B7u hk
 nB := fun _ _ _ _ _ _ _ => D5
 nC := fun _ _ _ _ _ _ _ => D5
 nD := fun _ _ _ _ _ _ hk => B7u hk
 own := by
  rintro ca cb cc cd k m nm rr pa pb pc pd ⟨rfl, rfl, rfl, e1, e2⟩ hh hk h1 h2 h3 h4
  rw [Kl hk] at h1 h4
  injection h1 with h1
  injection h1 with h1
  injection h4 with h4
  injection h4 with h4
  subst h1 h4
  rw [h2] at h3
  injection h3 with h3
  injection h3
 Ad := by
  rintro ca cb cc cd f oa oc ⟨rfl, rfl, rfl, e1, e2⟩ hf h1 h3
  rw [Lj] at h1
  injection h1 with h1
  subst h1
  refine ⟨f, rfl, fun ob h2 => ?_⟩
  rw [h2] at h3
  injection h3 with h3
  subst h3
  refine ⟨fun h => h, fun fc od h h4 => ?_⟩
  rw [Lj] at h4
  injection h4 with h4
  exact ⟨fc, h4.symm, h⟩
 Hu := by
  rintro ca cb cc cd b' ca' cb' cc' cd' ⟨rfl, rfl, rfl, e1, e2⟩ p1 p2 h1 h2 h3 h4
  injection h1 with h1
  injection h2 with h2
  injection h3 with h3
  injection h4 with h4
  subst h1 h2 h3 h4
  exact ⟨rfl, rfl, rfl, by dsimp only; omega, by dsimp only; omega⟩
theorem Jp {t : T} {i : Int} {r : List Cl} (h : (B9 t i r).1 = 0) : A9 t = 0 ∧ (0 ≤ i ∧ i < 24) ∧ Ag r = true ∧ B1 (Ax (Em i r)) t 0 = .ok (B9 t i r).2 := by
 unfold B9 at h ⊢
 split at h
 ·rename_i h1; exact absurd h h1
 ·rename_i h1
  rw [if_neg h1]
  obtain ⟨w1, w2, w3⟩ := O9 (Decidable.not_not.mp h1)
  refine ⟨w1, w2, w3, ?_⟩
  cases h5 : B1 (Ax (Em i r)) t 0 with
  | bad e =>
   rw [show Ca (Em i r) t 0 = Mz (B1 (Ax (Em i r)) t 0) from rfl, h5] at h
   exact absurd h (Is t h5)
  | ok x =>
   rw [show Ca (Em i r) t 0 = Mz (B1 (Ax (Em i r)) t 0) from rfl, h5]
   rfl
theorem B6j {t u : T} {n i : Int} {r : List Cl} (h1 : (Ar t n u).1 = 0) (h2 : (B9 (Ar t n u).2 i r).1 = 0) (h3 : (B9 t i r).1 = 0) (h4 : (B9 u i r).1 = 0) (h5 : (Ar (B9 t i r).2 n (B9 u i r).2).1 = 0) : (B9 (Ar t n u).2 i r).2 = (Ar (B9 t i r).2 n (B9 u i r).2).2 := by
 obtain ⟨f1, _, hn, _, a1⟩ := Oi h1
 obtain ⟨_, _, _, _, a5⟩ := Oi h5
 obtain ⟨_, hi, _, a2⟩ := Jp h2
 obtain ⟨_, _, _, a3⟩ := Jp h3
 obtain ⟨_, _, _, a4⟩ := Jp h4
 exact sqD (A9y hi.1 a4) (D0.mp f1).2 (ca := (0, 0)) (cb := 0) (cc := 0) (cd := (0, 0)) ⟨rfl, rfl, rfl, by decide, by decide⟩ a1 a2 a3 a5
def Lg (b : Br) : Bool := decide (b.Ad = [Bc])
def E9 : List Br → Int
 | [] => -1
 | b :: l => if Lg b then 0 else if E9 l = -1 then -1 else E9 l + 1
theorem A2x : ∀ l, -1 ≤ E9 l
 | [] => Int.le_refl _
 | b :: l => by
  have := A2x l
  rw [E9]
  split
  ·omega
  ·split <;> omega
theorem Yb : ∀ {l : List Br}, (∀ j, j < l.length → Lg (l.getD j Bf) = false) → E9 l = -1
 | [], _ => rfl
 | b :: l, h => by
  have h0 := h 0 D8
  rw [List.getD_cons_zero] at h0
  rw [E9, h0, Yb (l := l) fun j hj => by have := h (j + 1) (by simpa using hj); rwa [List.getD_cons_succ] at this]
  rfl
theorem A9s : ∀ {l : List Br} {i : Nat}, i < l.length → (∀ j, j < i → Lg (l.getD j Bf) = false) → Lg (l.getD i Bf) = true → E9 l = i
 | [], i, hi, _, _ => absurd hi D8
 | b :: l, 0, hi, h, h1 => by
  rw [List.getD_cons_zero] at h1
  rw [E9, h1]; rfl
 | b :: l, i + 1, hi, h, h1 => by
  have h0 := h 0 A2
  rw [List.getD_cons_zero] at h0
  rw [List.getD_cons_succ] at h1
  have h2 := A9s (l := l) (i := i) (by simpa using hi) (fun j hj => by have := h (j + 1) A2; rwa [List.getD_cons_succ] at this) h1
  rw [E9, h0, h2, if_neg D8, if_neg A2]
  omega
theorem B6z {b : Br} : (decide ((b.Ad.length : Int) = 1) && decide (b.Ad.getD 0 Bc = Bc)) = Lg b := by
 unfold Lg
 rw [← Bool.decide_and]
 refine decide_eq_decide.mpr ⟨fun h => ?_, fun h => ?_⟩
 ·match hf : b.Ad, h with
  | [], h => exact absurd h.1 D8
  | [c], h => rw [show c = Bc from h.2]
  | a :: c :: l, h => exact absurd h.1 (by simp; omega)
 ·rw [h]; exact ⟨rfl, rfl⟩
theorem C0m {W : D1} {t u : T} {d : Int} (h : B1 (Ax W) t d = .ok u) : u.kind = t.kind := by
 rcases C3t h with h1 | ⟨p, _, h1, _⟩
 ·exact absurd h1 D5
 ·exact h1.1
section
variable {i d k n : Int} {nm : ByteArray} {r f : List Cl} {x : EL}
end
theorem Vi {W : D1} {t : T} {d : Int} : (∃ u, B1 (Ax W) t d = .ok u ∧ Ca W t d = (0, u)) ∨ ∃ e, B1 (Ax W) t d = .bad e ∧ Ca W t d = (e, t0) := by
 unfold Ca
 cases h : B1 (Ax W) t d with
 | ok u => exact .inl ⟨u, rfl, rfl⟩
 | bad e => exact .inr ⟨e, rfl, rfl⟩
def G5 (r : List Cl) : Int := if r.length = 0 then 0 else if r = [Bc] then 1 else -1
def Cx (k : Int) (r : List Cl) (ks : List T) : T := .mk k 0 ⟨#[]⟩ r ks []
abbrev kd (t : T) (i : Nat) : T := t.kids.getD i t0
def Gm (t : T) : List T := (t.sys.getD (E9 t.sys).toNat Bf).kids
def Bn (t : T) : Option (Int × T) :=
 if E9 t.sys < 0 then none
 else if t.kind = 15 then some (Am ((Gm t).getD 0 t0) 0 [Bc])
 else if t.kind = 18 then some (0, Cx 6 [] [Cx 9 [] [(Gm t).getD 0 t0], kd t 0])
 else if t.kind = 16 ∨ t.kind = 17 then some (0, (Gm t).getD 0 t0)
 else none
def Gi (t : T) : Option (Int × T) :=
 if 0 ≤ G5 t.r then some (0, kd t (1 + (G5 t.r).toNat))
 else if (kd t 0).kind = 12 then some (Am (kd (kd t 0) 0) 0 t.r)
 else none
def Ee (t : T) : Option (Int × T) :=
 if (kd t 3).kind = 20 then some (0, kd t 1)
 else if (kd t 3).kind = 21 then some (0, Cx 13 (kd t 3).r [kd t 2, kd t 1, kd t 1])
 else none
def H9 (t : T) : Option (Int × T) :=
 if (kd t 4).kind = 24 then some (0, kd t 1)
 else if (kd t 4).kind = 25 then some (0, kd t 2)
 else if (kd t 4).kind = 26 then some (0, Cx 13 (kd t 4).r [Cx 6 [] [kd t 3, kd (kd t 4) 0], kd t 1, kd t 2])
 else none
def Eu (t : T) : Option (Int × T) :=
 if G5 t.r < 0 then none
 else if t.kind = 21 then some (0, Cx 20 [] [])
 else if G5 t.r = 0 then some (0, Cx 24 [] [])
 else some (0, Cx 25 [] [])
def Ak (t : T) : Option (Int × T) :=
 if t.kind = 6 ∧ (kd t 0).kind = 5 then some (Ar (kd (kd t 0) 0) 0 (kd t 1))
 else if (t.kind = 9 ∨ t.kind = 10) ∧ (kd t 0).kind = 8 then some (0, kd (kd t 0) (t.kind - 9).toNat)
 else if t.kind = 13 then Gi t
 else if t.kind = 21 ∨ t.kind = 26 then Eu t
 else if t.kind = 22 then Ee t
 else if t.kind = 27 then H9 t
 else if t.kind = 28 then some (0, kd t 0)
 else if t.kind = 14 then (if G5 t.r = 1 then some (0, kd t 1) else none)
 else match Bn t with
  | some x => some x
  | none => if t.kind = 18 ∧ (kd t 0).kind = 17 then some (0, kd (kd t 0) 0) else none
def A0f : Option (Int × T) → Int × Bool × T
 | none => (0, false, t0)
 | some x => if x.1 ≠ 0 then (x.1, false, t0) else if A9 x.2 ≠ 0 then (A9 x.2, false, t0) else (0, true, x.2)
def D2 (t : T) : Int × Bool × T := if A9 t ≠ 0 then (A9 t, false, t0) else A0f (Ak t)
theorem Vo {t : T} (h : A9 t ≠ 0) : D2 t = (A9 t, false, t0) := if_pos h
theorem Ps {t : T} (h : A9 t = 0) : D2 t = A0f (Ak t) := if_neg (by simp [h])
theorem A4s {t : T} {i : Nat} (h : A9 t = 0) (hi : (i : Int) < De t.kind) : A9 (kd t i) = 0 := by
 have hf := (Hv.mp (D0.mp h).2).2.1
 exact B6d h (Ai (show i < t.kids.length by omega))
theorem A9r : ∀ {l : List Br}, 0 ≤ E9 l → (E9 l).toNat < l.length
 | [], h => absurd h Fb
 | b :: l, h => by
  have hg := A2x l
  rw [E9] at h ⊢
  split
  ·simp
  ·rename_i h1
   rw [if_neg h1] at h
   split
   ·rename_i h2; rw [if_pos h2] at h; omega
   ·rename_i h2
    have := A9r (l := l) A2
    rw [List.length_cons]
    omega
section
variable {P : Program} [Tab P] {f : FuncId} {fn : Func} {B : Ch} {n : Fz} {K : List Item} {σ : Nat → Value} {Γ : List Fact} {Ms : List Bb} {X : Type} {val : X → Value} {N : X → List Fact} {Ms1 : X → List Bb}
theorem A6q {r t T : Nat} {r2 r3 : Tmp} {b s bt : Nat} {zv v2 v3 : Value} {lay : List (Nat × Nat)} {cs : List Value} (hf : P.funcs[f]? = some fn) (hr : fn.results = #[.cell r t, .tmp r2, .tmp r3]) (x : X) (hb : σ r = .pointer (some ⟨b, 0, none⟩)) (hm : Aa b cs T ∈ Ms) (hl : Tab.lay P t = some lay) (hi : Tab.inf P t = some (s, bt, zv)) (hcs : cs.length = s) (h2 : σ r2 = v2) (h3 : σ r3 = v3) (hv : Value.tuple #[.agg cs.toArray, v2, v3] = val x) (hs : ∀ w, St B Γ Ms w → St B (N x) (Ms1 x) w) (hD : n.defs = [] := by rfl) (hK : okK n.kind := by first | exact .inl rfl | exact .inr rfl) : F0 P f (Ends B val N Ms1) B n (.code .ret :: K) σ Γ Ms :=
 go_ret hf (fun a w ha h => by
  have h1 := ha.get r
  rw [hb] at h1
  have h3' := ha.get r2
  rw [h2] at h3'
  have h5 := ha.get r3
  rw [h3] at h5
  have h4 := Di (P := P) (bk := b) (off := 0) (w := w) hl hi hcs (fun j v hj => by rw [Nat.zero_add]; exact Kv h hm j v hj)
  have h1' : (a.tmps[r]?.getD undef) = .pointer (some ⟨b, 0, none⟩) := by simpa [Array.getD_eq_getD_getElem?] using h1
  have h3'' : (a.tmps[r2]?.getD undef) = v2 := by simpa [Array.getD_eq_getD_getElem?] using h3'
  have h5' : (a.tmps[r3]?.getD undef) = v3 := by simpa [Array.getD_eq_getD_getElem?] using h5
  simp [results, hr, asAddr, h1', h4, h3'', h5', ← hv]) (fun w h => ⟨x, rfl, hs w h⟩) hD hK
end
def Ny (e e2 : Int) : Int := if e = 0 then e2 else e
def kpT (e : Int) (t : T) : T := if e = 0 then t else t0
def kpS (e : Int) (s : SH) : SH := if e = 0 then s else (none, 0)
theorem Uu (e : Int) : Ny 0 e = e := if_pos rfl
theorem A7r {e : Int} {t : T} (h : e = 0) : kpT e t = t := if_pos h
theorem Xt {e : Int} {t : T} (h : e ≠ 0) : kpT e t = t0 := if_neg h
theorem Ox {e : Int} {t : SH} (h : e = 0) : kpS e t = t := if_pos h
theorem Lf {e : Int} {t : SH} (h : e ≠ 0) : kpS e t = (none, 0) := if_neg h
theorem St.kp {B : Ch} {Γ : List Fact} {Ms : List Bb} {w : World} (e : Int) {t : T} {a b c : SH} (hs : St B Γ Ms w) (h : RT t a b c ∈ Γ) : St B (RT (kpT e t) (kpS e a) (kpS e b) (kpS e c) :: Γ) Ms w := by
 by_cases he : e = 0
 ·rw [A7r he, Ox he, Ox he, Ox he]
  exact hs.less (by
   intro F hF
   rcases List.mem_cons.mp hF with rfl | hF
   ·exact h
   ·exact hF)
 ·rw [Xt he, Lf he, Lf he, Lf he]
  exact hs.Jy
theorem A6t {t u : T} {n : Int} (h : (Ar t n u).1 ≠ 0) : (Ar t n u).2 = t0 := by
 unfold Ar at h ⊢
 split
 ·rfl
 ·rename_i h1
  rw [if_neg h1] at h
  split
  ·rfl
  ·rename_i h2
   rw [if_neg h2] at h
   split
   ·rfl
   ·rename_i h3
    rw [if_neg h3] at h
    split
    ·rfl
    ·rename_i h4
     rw [if_neg h4] at h
     cases h5 : B1 (Bx (Vz n) u) t (0, 0) with
     | ok x =>
      rw [h5] at h
      simp only at h ⊢
      split
      ·rfl
      ·rename_i h6
       rw [if_neg h6] at h
       exact absurd rfl h
     | bad e => rfl
theorem B4d {W : D1} {t : T} {d : Int} (h : (Ca W t d).1 ≠ 0) : (Ca W t d).2 = t0 := by
 rcases Vi (W := W) (t := t) (d := d) with ⟨u, _, h2⟩ | ⟨e, _, h2⟩
 ·rw [h2] at h; exact absurd rfl h
 ·rw [h2]
theorem A2c {t : T} {i : Int} {r : List Cl} (h : (Am t i r).1 ≠ 0) : (Am t i r).2 = t0 := by
 unfold Am at h ⊢
 split
 ·rfl
 ·rename_i h1
  rw [if_neg h1] at h
  split
  ·rfl
  ·rename_i h2
   rw [if_neg h2] at h
   by_cases h3 : (Ca (Em i (A6 r i 1).2) t 0).1 = 0
   ·rw [Tw h3] at h ⊢
    exact B4d h
   ·rw [Qw h3]
theorem B2g {x : Int × T} (h : x.1 ≠ 0 → x.2 = t0) : kpT x.1 x.2 = x.2 := by
 by_cases h0 : x.1 = 0
 ·exact A7r h0
 ·rw [Xt h0, h h0]
def Nt : Option (Int × T) → T
 | none => t0
 | some x => x.2
def Gp : Option (Int × T) → Int
 | none => 0
 | some x => x.1
abbrev D9 (s : Option (Int × T)) : Bool := s.isSome
theorem E3 {t : T} (h : Er t) {k : Int} {n : Nat} (hk : t.kind = k) (hn : De k = (n : Int)) : t.kids.length = n := by
 have := (Hv.mp h).2.1
 rw [hk, hn] at this
 omega
theorem Ra {t : T} {i : Nat} (h : Er t) (hi : i < t.kids.length) : Er (t.kids.getD i t0) := by
 obtain ⟨p, hp, e⟩ := F8 (Ai (d := t0) hi)
 exact e ▸ O1 h hp
theorem A4w (r : List Cl) : G5 r = 0 ∨ G5 r = 1 ∨ G5 r = -1 := by
 unfold G5
 split
 ·exact .inl rfl
 ·split
  ·exact .inr (.inl rfl)
  ·exact .inr (.inr rfl)
def Pj (e : Int) (t : T) : Int × Bool × T := if e ≠ 0 then (e, false, t0) else if A9 t ≠ 0 then (A9 t, false, t0) else (0, true, t)
theorem A9u {t : T} (h : A9 t = 0) (h0 : ¬ E9 t.sys < 0) : (E9 t.sys).toNat < t.sys.length ∧ 0 < (Gm t).length := by
 have hf := Hv.mp (D0.mp h).2
 have hlt : (E9 t.sys).toNat < t.sys.length := A9r A2
 have hm := Ai (d := Bf) hlt
 have hlen := (W5.mp hf.2.2.2.2 _ hm).1
 have hp : Ei t.kind ≠ 0 := fun h9 => by
  have := hf.2.2.1 h9
  rw [this] at hlt
  exact absurd hlt D8
 have h1 : 1 ≤ Ei t.kind := by
  unfold Ei at hp ⊢
  split
  ·omega
  ·split
   ·omega
   ·rename_i h2 h3; rw [if_neg h2, if_neg h3] at hp; exact absurd rfl hp
 exact ⟨hlt, by unfold Gm; omega⟩
section
variable {tn : Bool} {pn : Nat} {P : Program} [Tab P] {f : FuncId} {R : Ending → World → Prop} {B : Ch} {n : Fz} {K : List Item} {ops : Array Oper} {fin l : List Nat} {σ : Nat → Value} {Γ : List Fact} {Ms : List Bb} {i : Nat} {dst : Option Tmp} {ty : TypeId} {x y z : Operand}
theorem B9n {t e : TypeId} {sz bt : Nat} {zv : Value} {cs cs2 cs3 : List Value} (hu : Tab.und P t = some (.slice e)) (hi : Tab.inf P e = some (sz, bt, zv)) (hle : 3 * sz ≤ 16777216) (hx : (ev σ x).cells = cs.toArray) (hy : (ev σ y).cells = cs2.toArray) (hz : (ev σ z).cells = cs3.toArray) (hl : cs.length = sz) (hl2 : cs2.length = sz) (hl3 : cs3.length = sz) :
  Nj P σ (.buildSlice t 3 #[(0, x), (1, y), (2, z)]) ty (fun b => .slice (some ⟨b, 0, Option.none⟩) 3 3) (cs ++ cs2 ++ cs3) e := by
 refine A0v (pv := [(0, ev σ x), (1, ev σ y), (2, ev σ z)]) hu hi hle rfl ?_
 have := W6 (sz := sz) [ev σ x, ev σ y, ev σ z] 0 ((List.range (3 * sz)).map (zv.cells[· % zv.cells.size]!)).toArray D8 (fun v hv => by
  simp only [List.mem_cons, List.not_mem_nil, or_false] at hv
  rcases hv with rfl | rfl | rfl
  ·rw [hx]; simpa using hl
  ·rw [hy]; simpa using hl2
  ·rw [hz]; simpa using hl3)
 simpa [hx, hy, hz, List.append_assoc] using this
theorem D4h {t e : TypeId} {sz bt : Nat} {zv : Value} {cs cs2 cs3 : List Value} (k_ : ∀ b, E0 P f R B n K ops l (Af σ dst ((fun b => .slice (some ⟨b, 0, none⟩) 3 3) b)) Γ (Aa b (cs ++ cs2 ++ cs3) e :: Ms)) (hu : Tab.und P t = some (.slice e) := by rfl) (hi : Tab.inf P e = some (sz, bt, zv) := by rfl) (hle : 3 * sz ≤ 16777216 := by decide) (hx : (ev σ x).cells = cs.toArray := by rfl) (hy : (ev σ y).cells = cs2.toArray := by rfl) (hz : (ev σ z).cells = cs3.toArray := by rfl) (hl : cs.length = sz := by rfl) (hl2 : cs2.length = sz := by rfl) (hl3 : cs3.length = sz := by rfl) (hd : Ac n dst = true := by rfl) : Ew P f R B n K ops l (Cj dst (.buildSlice t 3 #[(0, x), (1, y), (2, z)]) ty) σ Γ Ms := Lx (B9n hu hi hle hx hy hz hl hl2 hl3) hd k_
theorem C3l {t e : TypeId} {sz bt : Nat} {zv : Value} {cs cs2 cs3 : List Value} (F : Nat → List Fact) (hF : ∀ b M w, St B Γ (Aa b (cs ++ cs2 ++ cs3) e :: M) w → St B (F b ++ Γ) M w) (k_ : ∀ b, NV tn pn P f R B n K ops fin l (Af σ dst ((fun b => .slice (some ⟨b, 0, none⟩) 3 3) b)) (F b ++ Γ) Ms) (hu : Tab.und P t = some (.slice e) := by rfl) (hi : Tab.inf P e = some (sz, bt, zv) := by rfl) (hle : 3 * sz ≤ 16777216 := by decide) (hx : (ev σ x).cells = cs.toArray := by rfl) (hy : (ev σ y).cells = cs2.toArray := by rfl) (hz : (ev σ z).cells = cs3.toArray := by rfl) (hl : cs.length = sz := by rfl) (hl2 : cs2.length = sz := by rfl) (hl3 : cs3.length = sz := by rfl) (hd : Ac n dst = true := by rfl) (hq : Nat.beq pn 1000001 = true := by rfl) : Ju tn pn P f R B n K ops fin i l dst (.buildSlice t 3 #[(0, x), (1, y), (2, z)]) ty σ Γ Ms := Vw F (B9n hu hi hle hx hy hz hl hl2 hl3) rfl rfl hF hd hq k_
theorem St.C6e {w : World} {b : Nat} {e : TypeId} {cs : List Value} {t u v : T} {vr vk vs ur uk us wr wk ws : SH} (hs : St B Γ (Aa b cs e :: Ms) w) {hBp : Prop} (hB : hBp) (hR : RT t vr vk vs ∈ Γ) (hR2 : RT u ur uk us ∈ Γ) (hR3 : RT v wr wk ws ∈ Γ) (hc : cs = tc t vr vk vs ++ tc u ur uk us ++ tc v wr wk ws) : St B (TL [t, u, v] (some ⟨b, 0, Option.none⟩, 3) :: Γ) Ms w := by
 have h1 := ((hs.Io (sz := 6) (m := 3) (by rw [hc]; rfl) Fb).A0s).Vc (ps := []) (t := t) (vr := vr) (vk := vk) (vs := vs) List.mem_cons_self (List.mem_cons_of_mem _ hR)
 have h2 := h1.Vc (ps := [(t, vr, vk, vs)]) (t := u) (vr := ur) (vk := uk) (vs := us) List.mem_cons_self (by simp [hR2])
 have h3 := h2.Vc (ps := [(t, vr, vk, vs), (u, ur, uk, us)]) (t := v) (vr := wr) (vk := wk) (vs := ws) List.mem_cons_self (by simp [hR3])
 exact (h3.Ly (ps := [(t, vr, vk, vs), (u, ur, uk, us), (v, wr, wk, ws)]) hB List.mem_cons_self (by rw [hc]; simp [C8, Hs]) rfl rfl Fb).less sx_
theorem St.B8l {w : World} (k : Int) (r : List Cl) (ks : List T) (vr vk : SH) (hs : St B Γ Ms w) (h1 : Ao k) (h4 : CL r vr ∈ Γ) (h5 : TL ks vk ∈ Γ) : St B (RT (Cx k r ks) vr vk Bo :: Γ) Ms w :=
 ((hs.B8m 0).C1j h1 (by unfold Ao; omega) (nm := ⟨#[]⟩) (n := 0) (by exact Nat.zero_le _) (r := r) (ks := ks) (ss := []) (vr := vr) (vk := vk) (vs := Bo) (by simp [h4]) (by simp [h5]) D8).less (by simp +contextual [Cx])
end
theorem B2w {r : List Cl} (h : r.length = 0) : G5 r = 0 := if_pos h
theorem B8y {r : List Cl} (h : r.length = 1) (h2 : r.getD 0 Bc = (⟨0, 0⟩ : Cl)) : G5 r = 1 := by
 match r, h with
 | [c], _ =>
  have h2 : c = Bc := h2
  subst h2
  rfl
theorem A8e {r : List Cl} (h : r.length ≠ 0) (h2 : r.length ≠ 1 ∨ r.getD 0 Bc ≠ (⟨0, 0⟩ : Cl)) : G5 r = -1 := by
 unfold G5
 rw [if_neg h, if_neg]
 rintro rfl
 rcases h2 with h2 | h2
 ·exact h2 rfl
 ·exact h2 rfl
theorem Np {t : T} (h1 : ¬ (t.kind = 6 ∧ (kd t 0).kind = 5)) (h2 : ¬ ((t.kind = 9 ∨ t.kind = 10) ∧ (kd t 0).kind = 8)) (h3 : t.kind ≠ 13 ∧ t.kind ≠ 21 ∧ t.kind ≠ 26 ∧ t.kind ≠ 22 ∧ t.kind ≠ 27 ∧ t.kind ≠ 28 ∧ t.kind ≠ 14) (h4 : ¬ (t.kind = 18 ∧ (kd t 0).kind = 17) ∨ (Bn t).isSome = true) : Ak t = Bn t := by
 unfold Ak
 rw [if_neg h1, if_neg h2, if_neg A2, if_neg A2, if_neg A2, if_neg A2, if_neg A2, if_neg A2]
 cases h : Bn t with
 | some x => rfl
 | none =>
  simp only
  rw [if_neg]
  rcases h4 with h4 | h4
  ·exact h4
  ·rw [h] at h4; cases h4
theorem Z5 (t : T) : Gp (Eu t) = 0 := by unfold Eu; (repeat' split) <;> rfl
theorem B1h (t : T) : Gp (Ee t) = 0 := by unfold Ee; (repeat' split) <;> rfl
theorem C1a (t : T) : Gp (H9 t) = 0 := by unfold H9; (repeat' split) <;> rfl
theorem C2f {s : Option (Int × T)} (h : D9 s = true) : Pj (Gp s) (Nt s) = A0f s := by
 cases s with
 | none => cases h
 | some x => rfl
theorem A7u (t : T) (i : Nat) : size (kd t i) ≤ size t := by
 by_cases h : i < t.kids.length
 ·exact Nat.le_of_lt (Fs (t := t) (i := i) h)
 ·have e : kd t i = t0 := by unfold kd; rw [List.getD_eq_getElem?_getD, List.getElem?_eq_none A2]; rfl
  rw [e]
  have h1 : size t0 = 1 := by decide +kernel
  have := size_pos' t
  omega
theorem C9f (t : T) : size ((Gm t).getD 0 t0) ≤ size t := by
 have h1 : size t0 = 1 := by decide +kernel
 have hp := size_pos' t
 by_cases h : (E9 t.sys).toNat < t.sys.length
 ·by_cases h2 : 0 < (Gm t).length
  ·have := Kk (t := t) h (k := 0) (by unfold Gm at h2; omega)
   unfold Gm
   omega
  ·rw [List.getD_eq_getElem?_getD, List.getElem?_eq_none A2]
   show size t0 ≤ _
   omega
 ·have e : Gm t = [] := by
   unfold Gm
   rw [List.getD_eq_getElem?_getD, List.getElem?_eq_none A2]
   rfl
  rw [e]
  show size t0 ≤ _
  omega
theorem C6b (k : Int) (r : List Cl) (a : T) : size (Cx k r [a]) = 1 + size a := by rw [Du]; show 1 + Dp [a] + G6 [] = _; simp [Dp, G6]
theorem B1t (k : Int) (r : List Cl) (a b : T) : size (Cx k r [a, b]) = 1 + size a + size b := by rw [Du]; show 1 + Dp [a, b] + G6 [] = _; simp [Dp, G6]; omega
theorem B1s (k : Int) (r : List Cl) (a b c : T) : size (Cx k r [a, b, c]) = 1 + size a + size b + size c := by rw [Du]; show 1 + Dp [a, b, c] + G6 [] = _; simp [Dp, G6]; omega
theorem C6c (k : Int) (r : List Cl) : size (Cx k r []) = 1 := by rw [Du]; show 1 + Dp [] + G6 [] = _; simp [Dp, G6]
theorem Y1 {W : D1} {t : T} {d : Int} : size (Ca W t d).2 ≤ size t := T7
theorem take_size (t : T) (i : Int) (r : List Cl) : size (Am t i r).2 ≤ size t := by
 have h1 : size t0 = 1 := by decide +kernel
 have hp := size_pos' t
 unfold Am
 split
 ·show size t0 ≤ _; omega
 ·split
  ·show size t0 ≤ _; omega
  ·unfold Yd
   split
   ·show size t0 ≤ _; omega
   ·exact Nat.le_trans Y1 Y1
theorem Yg {t : T} {y : Int × T} (h : Ak t = some y) : size y.2 ≤ 20000 + 10 * size t := by
 have hp := size_pos' t
 have k := fun i => A7u t i
 have kk := fun i j => Nat.le_trans (A7u (kd t i) j) (A7u t i)
 have ht := C9f t
 unfold Ak at h
 (repeat' split at h)
 ·injection h with h; subst h; have := B0t (kd (kd t 0) 0) (kd t 1) 0; omega
 ·injection h with h; subst h; have := kk 0 (t.kind - 9).toNat; show size (kd (kd t 0) _) ≤ _; omega
 ·unfold Gi at h
  (repeat' split at h)
  ·injection h with h; subst h; have := k (1 + (G5 t.r).toNat); show size (kd t _) ≤ _; omega
  ·injection h with h; subst h; have h1 := take_size (kd (kd t 0) 0) 0 t.r; have := kk 0 0; omega
  ·cases h
 ·unfold Eu at h
  (repeat' split at h)
  ·cases h
  all_goals (injection h with h; subst h; show size (Cx _ _ _) ≤ _; rw [C6c]; omega)
 ·unfold Ee at h
  (repeat' split at h)
  ·injection h with h; subst h; have := k 1; show size (kd t _) ≤ _; omega
  ·injection h with h; subst h; show size (Cx _ _ _) ≤ _; rw [B1s]; have := k 1; have := k 2; omega
  ·cases h
 ·unfold H9 at h
  (repeat' split at h)
  ·injection h with h; subst h; have := k 1; show size (kd t _) ≤ _; omega
  ·injection h with h; subst h; have := k 2; show size (kd t _) ≤ _; omega
  ·injection h with h; subst h; show size (Cx _ _ _) ≤ _; rw [B1s, B1t]; have := k 1; have := k 2; have := k 3; have := kk 4 0; omega
  ·cases h
 ·injection h with h; subst h; have := k 0; show size (kd t _) ≤ _; omega
 ·injection h with h; subst h; have := k 1; show size (kd t _) ≤ _; omega
 ·cases h
 ·rename_i x hx
  injection h with h; subst h
  unfold Bn at hx
  (repeat' split at hx)
  ·cases hx
  ·injection hx with hx; subst hx; have h1 := take_size ((Gm t).getD 0 t0) 0 [Bc]; omega
  ·injection hx with hx; subst hx; show size (Cx _ _ _) ≤ _; rw [B1t, C6b]; have := k 0; omega
  ·injection hx with hx; subst hx; show size ((Gm t).getD 0 t0) ≤ _; omega
  ·cases hx
 ·injection h with h; subst h; have := kk 0 0; show size (kd (kd t 0) 0) ≤ _; omega
 ·cases h
theorem Spec.C9m {P : Program} {k : FuncId} {args : Array Value} {pre : List Fact} (y : Tys) {u : T} (g : Value → Value) (h : Spec P k args pre [] (fun x : {h : HT // h.er = u ∧ N9 u} => g (.agg (tc u x.1.vr x.1.vk x.1.vs).toArray)) (fun _ => []) (fun x => [Cu (F6 y x.1)])) :
  Spec P k args pre [] (fun x : SH × SH × SH => g (.agg (tc u x.1 x.2.1 x.2.2).toArray)) (fun x => [RT u x.1 x.2.1 x.2.2]) (fun _ => []) := fun ok w hk hs => (h ok w hk hs).mono fun e w' hh => by
 obtain ⟨x, he, hs'⟩ := hh
 have h1 : St ⟨ok, Bh [], w⟩ [] (F6 y x.1 ++ []) w' := hs'.unpack
 have h2 := St.Ic y trivial x.1 (by rw [x.2.1]; exact x.2.2) h1
 rw [x.2.1] at h2
 exact ⟨(x.1.vr, x.1.vk, x.1.vs), he, h2⟩
def Hg (p : Bool) (g : List Cl) : Prop := if p = true then Aj g = true else Ag g = true
def A5j (p : Bool) (P N : Wd) : Prop := p = true → J2 P N
theorem A3p {p : Bool} {g : List Cl} (h : Hg p g) : Ag g = true := by
 unfold Hg at h
 split at h
 ·exact (Fp h).1
 ·exact h
theorem C0c {C : Type} {A : Tr C} {n m : Int} {c : C} (h : A.own c 1 n ⟨#[]⟩ [] = .ok (.inr (m, []))) : B1 A (vE n) c = .ok (vE m) := by
 rw [Cy]
 show ((A.own c 1 n ⟨#[]⟩ []).bind fun o => match o with
  | .inl u => .ok u
  | .inr p => (Cn A 1 0 [] c).bind fun ks' => (C6 A 1 [] c).bind fun ss' => .ok (.mk 1 p.1 ⟨#[]⟩ p.2 ks' ss')) = _
 rw [h]
 simp only [A5.bind]
 rw [C4]
 simp only
 rw [Bs]
 rfl
theorem C2x (k i : Int) : ((binds k i).1 = 0 ∨ (binds k i).1 = 1) ∧ ((binds k i).2 = 0 ∨ (binds k i).2 = 1) ∧ ¬ ((binds k i).1 = 1 ∧ (binds k i).2 = 1) := by
 unfold binds
 (repeat' split) <;> simp
def Xo (S : Nat → Prop) (c : Cl) : Prop := ∀ j, (c.pos ||| c.neg).testBit j = true → S j
def Dc (S : Nat → Prop) (f : List Cl) : Prop := ∀ c, c ∈ f → Xo S c
variable {S : Nat → Prop}
theorem Ht : Dc S [] := fun c hc => by cases hc
theorem C8c : Xo S Bc := fun j hj => by simp [Bc] at hj
theorem C0o : Dc S [Bc] := fun c hc => by rw [List.mem_singleton] at hc; subst hc; exact C8c
theorem Jh {c : Cl} (h : Xo S c) : Dc S [c] := fun d hd => by rw [List.mem_singleton] at hd; subst hd; exact h
theorem A3m {f g : List Cl} (h : Dc S f) (h2 : Dc S g) : Dc S (f ++ g) := fun c hc => by
 rcases List.mem_append.mp hc with hc | hc
 ·exact h c hc
 ·exact h2 c hc
theorem It {l : List Cl} (h : Dc S l) : Dc S (Bk l).2 := by
 by_cases h0 : (Bk l).1 = 0
 ·exact fun c hc => h c (K7 h0 hc)
 ·rw [Sx h0]; exact Ht
theorem A5h {a b : Cl} (h : Xo S a) (h2 : Xo S b) : Xo S (Dq a b) := fun j hj => by
 unfold Dq at hj
 simp only [Nat.testBit_or, Bool.or_eq_true] at hj
 rcases hj with (hj | hj) | (hj | hj)
 ·exact h j (by rw [Nat.testBit_or, hj]; rfl)
 ·exact h2 j (by rw [Nat.testBit_or, hj]; rfl)
 ·exact h j (by rw [Nat.testBit_or, hj, Bool.or_true])
 ·exact h2 j (by rw [Nat.testBit_or, hj, Bool.or_true])
theorem B0k {f g : List Cl} (h : Dc S f) (h2 : Dc S g) : Dc S (Mu f g) := fun c hc => by
 obtain ⟨a, ha, hc⟩ := List.mem_flatMap.mp hc
 obtain ⟨b, hb, rfl⟩ := List.mem_map.mp hc
 exact A5h (h a ha) (h2 b hb)
theorem Pw {f g : List Cl} (h : Dc S f) (h2 : Dc S g) : Dc S (Jm f g).2 := It (B0k h h2)
theorem B4v {f : List Cl} (h : Dc S f) : Dc S (F9 f) := fun c hc => h c (List.mem_filter.mp hc).1
theorem B4t {c : Cl} (h : Xo S c) : Dc S (A1p c) := fun d hd => by
 unfold A1p at hd
 rcases List.mem_append.mp hd with hd | hd
 ·obtain ⟨i, hi, rfl⟩ := List.mem_map.mp hd
  have h1 := R8.mp hi
  intro j hj
  simp only [Nat.zero_or] at hj
  obtain ⟨_, e⟩ := Vb.mp hj
  have : j = i.toNat := by omega
  subst this
  exact h _ (by rw [Nat.testBit_or, h1.2.2]; rfl)
 ·obtain ⟨i, hi, rfl⟩ := List.mem_map.mp hd
  have h1 := R8.mp hi
  intro j hj
  simp only [Nat.or_zero] at hj
  obtain ⟨_, e⟩ := Vb.mp hj
  have : j = i.toNat := by omega
  subst this
  exact h _ (by rw [Nat.testBit_or, h1.2.2, Bool.or_true])
theorem Gn {x : EL} {k : List Cl → EL} (hx : Dc S x.2) (hk : ∀ g, Dc S g → Dc S (k g).2) : Dc S (Ez x k).2 := by
 unfold Ez
 split
 ·exact Ht
 ·exact hk _ hx
theorem Oe {g : List Cl → Cl → EL} : ∀ {l h : List Cl}, (∀ c, c ∈ l → ∀ h, Dc S h → Dc S (g h c).2) → Dc S h → Dc S (D6 g h l).2
 | [], h, _, hh => hh
 | c :: l, h, hg, hh => by
  rw [D6]
  exact Gn (hg c List.mem_cons_self h hh) fun h' hh' => Oe (fun d hd => hg d (List.mem_cons_of_mem _ hd)) hh'
theorem Yp {f : List Cl} (h : Dc S f) : Dc S (Ph f).2 := Oe (fun c hc g hg => Gn (It (B4t (h c hc))) fun o ho => Pw hg ho) C0o
theorem A3l {f : List Cl} (h : Dc S f) : Dc S (Xr f).2 := by
 unfold Xr
 split
 ·exact It (B4v h)
 ·exact Ht
theorem B4u {f : List Cl} (h : Dc S f) : Dc S (Sr f).2 := by
 unfold Sr
 split
 ·exact Yp h
 ·exact Ht
theorem A6p {f : List Cl} (h : Dc S f) : Dc S (H4 f).2 := Gn (B4u h) fun g hg => A3l hg
theorem Ws {f g : List Cl} (h : Dc S f) (h2 : Dc S g) : Dc S (Kq f g).2 := It fun c hc => by
 obtain ⟨a, ha, hc⟩ := List.mem_flatMap.mp hc
 obtain ⟨b, hb, rfl⟩ := List.mem_map.mp (List.mem_filter.mp hc).1
 exact A5h (h a ha) (h2 b hb)
theorem A1n {f r : List Cl} {i : Int} (hf : ∀ c, c ∈ f → Xo S (Cb c i)) (hr : Dc S r) : Dc S (B4 f i r).2 := by
 unfold B4
 split
 ·exact Ht
 ·split
  ·exact Ht
  ·refine Oe (fun c hc h hh => ?_) Ht
   unfold Cd
   refine Gn ?_ fun g hg => Gn ?_ fun g2 hg2 => ?_
   ·unfold H3
    split
    ·exact Pw (Jh (hf c hc)) hr
    ·exact Jh (hf c hc)
   ·unfold Ji
    split
    ·exact Gn (Yp hr) fun s hs => Pw hg hs
    ·exact hg
   ·exact It (A3m hh hg2)
theorem A1o {f r : List Cl} {i : Int} (hf : ∀ c, c ∈ f → Xo S (Cb c i)) (hr : Dc S r) : Dc S (Aw f i r).2 := by
 unfold Aw
 split
 ·exact Ht
 ·refine Oe (fun c hc h hh => ?_) Ht
  unfold Cm
  refine Gn ?_ fun g hg => It (A3m hh hg)
  unfold D7
  split
  ·exact Gn (A3l hr) fun x hx => Ws (Jh (hf c hc)) hx
  ·split
   ·exact Gn (A6p hr) fun x hx => Ws (Jh (hf c hc)) hx
   ·exact Jh (hf c hc)
theorem C3w {c : Cl} {i : Int} {d : Int} (h : Xo (fun j => (j : Int) < d) c) : Xo (fun j => (j : Int) < d ∧ (j : Int) ≠ i) (Cb c i) := fun j hj => by
 unfold Cb at hj
 rw [Nat.testBit_or, Bool.or_eq_true] at hj
 rcases hj with hj | hj
 ·obtain ⟨_, h2, h3⟩ := Jc.mp hj
  exact ⟨h j (by rw [Nat.testBit_or, h2]; rfl), h3⟩
 ·obtain ⟨_, h2, h3⟩ := Jc.mp hj
  exact ⟨h j (by rw [Nat.testBit_or, h2, Bool.or_true]), h3⟩
abbrev bnd (b : Int × Int) : Prop := (b.1 = 0 ∨ b.1 = 1) ∧ (b.2 = 0 ∨ b.2 = 1) ∧ ¬ (b.1 = 1 ∧ b.2 = 1)
theorem C8g (k : Int) : bnd (0, more k) := ⟨.inl rfl, by have := R7 k; show more k = 0 ∨ more k = 1; omega, fun h => by cases h.1⟩
theorem A2p {CA CB : Type} {A : Tr CA} {B : Tr CB} {k : Int} {f : List Cl} {ks : List T} {bs : List Br} {a b : List Br} {ca : CA} {cb : CB} (ha : C6 A k (.mk f ks :: bs) ca = .ok a) (hb : C6 B k a cb = .ok b) :
  ∃ oa ob, A.Ad ca f = .ok oa ∧ (oa = none → ob = none) ∧ (∀ fa, oa = some fa → B.Ad cb fa = .ok ob) ∧ ∃ ba bb, C6 A k bs ca = .ok ba ∧ C6 B k ba cb = .ok bb ∧ ((ob = none ∧ b = bb) ∨ ∃ g ka kb, ob = some g ∧ Bv A k ks ca = .ok ka ∧ Bv B k ka cb = .ok kb ∧ b = .mk g kb :: bb) := by
 rw [Bq] at ha
 simp only [Br.Ad, Br.kids] at ha
 obtain ⟨oa, a1, ha⟩ := A5.A0 ha
 cases oa with
 | none => exact ⟨none, none, a1, fun _ => rfl, fun fa h => (by cases h), a, b, ha, hb, .inl ⟨rfl, rfl⟩⟩
 | some fa =>
  obtain ⟨ka, a2, ha⟩ := A5.A0 ha
  obtain ⟨ba, a3, ha⟩ := A5.A0 ha
  injection ha with ha
  subst ha
  rw [Bq] at hb
  simp only [Br.Ad, Br.kids] at hb
  obtain ⟨ob, b1, hb⟩ := A5.A0 hb
  cases ob with
  | none => exact ⟨some fa, none, a1, fun h => (by cases h), fun fa' h => (by injection h with h; subst h; exact b1), ba, b, a3, hb, .inl ⟨rfl, rfl⟩⟩
  | some g =>
   obtain ⟨kb, b2, hb⟩ := A5.A0 hb
   obtain ⟨bb, b3, hb⟩ := A5.A0 hb
   injection hb with hb
   exact ⟨some fa, some g, a1, fun h => (by cases h), fun fa' h => (by injection h with h; subst h; exact b1), ba, bb, a3, b3, .inr ⟨g, ka, kb, rfl, a2, b2, hb.symm⟩⟩
section
variable {CA CB CC CD : Type} {A : Tr CA} {B : Tr CB} {C : Tr CC} {D : Tr CD} (nv mv : Bool) (R : CA → CB → CC → CD → Int → Int → Prop)
structure Sq4 : Prop where
 leaf : ∀ t a b c x ca cb cc cd v d, R ca cb cc cd v d → Er t → (mv = true → Rq t v d) → t.kind = 1 → B1 A t ca = .ok a → B1 B a cb = .ok b → B1 C t cc = .ok c → B1 D c cd = .ok x → b = x
 nA : ∀ ca k n nm r u, k ≠ 1 → A.own ca k n nm r ≠ .ok (.inl u)
 nB : ∀ ca k n nm r u, k ≠ 1 → B.own ca k n nm r ≠ .ok (.inl u)
 nC : ∀ ca k n nm r u, k ≠ 1 → C.own ca k n nm r ≠ .ok (.inl u)
 nD : ∀ ca k n nm r u, k ≠ 1 → D.own ca k n nm r ≠ .ok (.inl u)
 own : ∀ ca cb cc cd v d k n nm r pa pb pc pd, R ca cb cc cd v d → (mv = true → d ≤ 24) → Ma k n nm r → k ≠ 1 → (mv = true → within r d = true) → A.own ca k n nm r = .ok (.inr pa) → B.own cb k pa.1 nm pa.2 = .ok (.inr pb) → C.own cc k n nm r = .ok (.inr pc) → D.own cd k pc.1 nm pc.2 = .ok (.inr pd) → pb = pd
 Ad : ∀ ca cb cc cd v d f oa ob oc od, R ca cb cc cd v d → (mv = true → d ≤ 24) → Aj f = true → (nv = true → f ≠ []) → (mv = true → within f d = true) → A.Ad ca f = .ok oa → (oa = none → ob = none) → (∀ fa, oa = some fa → B.Ad cb fa = .ok ob) → C.Ad cc f = .ok oc → (oc = none → od = none) → (∀ fc, oc = some fc → D.Ad cd fc = .ok od) → ob = od
 Hu : ∀ ca cb cc cd v d b ca' cb' cc' cd', R ca cb cc cd v d → bnd b → (mv = true → d + b.2 ≤ 24) → A.Hu ca b = .ok ca' → B.Hu cb b = .ok cb' → C.Hu cc b = .ok cc' → D.Hu cd b = .ok cd' → R ca' cb' cc' cd' (v + b.1) (d + b.2)
variable {nv mv R}
mutual
theorem sq4 (F : Sq4 (A := A) (B := B) (C := C) (D := D) nv mv R) : ∀ {t a b c x : T} {ca : CA} {cb : CB} {cc : CC} {cd : CD} {v d : Int}, Er t → (mv = true → Rq t v d) → (nv = true → H5 t = false) → R ca cb cc cd v d → B1 A t ca = .ok a → B1 B a cb = .ok b → B1 C t cc = .ok c → B1 D c cd = .ok x → b = x
 | .mk k n nm r ks ss, a, b, c, x, ca, cb, cc, cd, v, d, hf, hm, hn, hr, ha, hb, hc, hx => by
  by_cases hk : k = 1
  ·exact F.leaf _ _ _ _ _ _ _ _ _ _ _ hr hf hm hk ha hb hc hx
  ·simp only [Er] at hf
   obtain ⟨h1, h2, h3, h4, h5⟩ := hf
   have m1 : mv = true → d ≤ 24 := fun hq => (by have := hm hq; simp only [Rq] at this; exact this.1.1)
   have m3 : mv = true → within r d = true := fun hq => (by have := hm hq; simp only [Rq] at this; exact this.1.2.2)
   have m4 : mv = true → Zj k 0 ks v d := fun hq => (by have := hm hq; simp only [Rq] at this; exact this.2.1)
   have m5 : mv = true → Xi k ss v d := fun hq => (by have := hm hq; simp only [Rq] at this; exact this.2.2)
   have n1 : nv = true → H6 ks = false := fun hq => by
    have := hn hq
    simp only [H5, Bool.or_eq_false_iff] at this
    exact this.1
   have n2 : nv = true → Na ss = false := fun hq => by
    have := hn hq
    simp only [H5, Bool.or_eq_false_iff] at this
    exact this.2
   rw [Cy] at ha hc
   simp only [T.kind, T.n, T.name, T.r, T.kids, T.sys] at ha hc
   obtain ⟨oa, a1, ha⟩ := A5.A0 ha
   obtain ⟨oc, c1, hc⟩ := A5.A0 hc
   cases oa with
   | inl v => exact absurd a1 (F.nA _ _ _ _ _ _ hk)
   | inr pa =>
    cases oc with
    | inl v => exact absurd c1 (F.nC _ _ _ _ _ _ hk)
    | inr pc =>
     obtain ⟨ka, a2, ha⟩ := A5.A0 ha
     obtain ⟨sa, a3, ha⟩ := A5.A0 ha
     obtain ⟨kc, c2, hc⟩ := A5.A0 hc
     obtain ⟨sc, c3, hc⟩ := A5.A0 hc
     injection ha with ha
     injection hc with hc
     subst ha hc
     rw [Cy] at hb hx
     simp only [T.kind, T.n, T.name, T.r, T.kids, T.sys] at hb hx
     obtain ⟨ob, b1, hb⟩ := A5.A0 hb
     obtain ⟨od, d1, hx⟩ := A5.A0 hx
     cases ob with
     | inl v => exact absurd b1 (F.nB _ _ _ _ _ _ hk)
     | inr pb =>
      cases od with
      | inl v => exact absurd d1 (F.nD _ _ _ _ _ _ hk)
      | inr pd =>
       obtain ⟨kb, b2, hb⟩ := A5.A0 hb
       obtain ⟨sb, b3, hb⟩ := A5.A0 hb
       obtain ⟨kd, d2, hx⟩ := A5.A0 hx
       obtain ⟨sd, d3, hx⟩ := A5.A0 hx
       injection hb with hb
       injection hx with hx
       subst hb hx
       rw [F.own _ _ _ _ _ _ _ _ _ _ _ _ _ _ hr m1 h1 hk m3 a1 b1 c1 d1, D8l F h4 m4 n1 hr a2 b2 c2 d2, D8m F m1 h5 m5 n2 hr a3 b3 c3 d3]
termination_by structural t => t
theorem D8l (F : Sq4 (A := A) (B := B) (C := C) (D := D) nv mv R) {k : Int} : ∀ {ts a b c x : List T} {i : Nat} {ca : CA} {cb : CB} {cc : CC} {cd : CD} {v d : Int}, J1 ts → (mv = true → Zj k i ts v d) → (nv = true → H6 ts = false) → R ca cb cc cd v d → Cn A k i ts ca = .ok a → Cn B k i a cb = .ok b → Cn C k i ts cc = .ok c → Cn D k i c cd = .ok x → b = x
 | [], a, b, c, x, i, ca, cb, cc, cd, v, d, hf, hm, hn, hr, ha, hb, hc, hx => by
  rw [C4] at ha hc
  injection ha with ha
  injection hc with hc
  subst ha hc
  rw [C4] at hb hx
  injection hb with hb
  injection hx with hx
  rw [← hb, ← hx]
 | t :: ts, a, b, c, x, i, ca, cb, cc, cd, v, d, hf, hm, hn, hr, ha, hb, hc, hx => by
  simp only [J1] at hf
  have hm1 : mv = true → Rq t (v + (binds k i).1) (d + (binds k i).2) := fun hq => (by have := hm hq; simp only [Zj] at this; exact this.1)
  have hm2 : mv = true → Zj k (i + 1) ts v d := fun hq => (by have := hm hq; simp only [Zj] at this; exact this.2)
  have n1 : nv = true → H5 t = false := fun hq => by
   have := hn hq
   simp only [H6, Bool.or_eq_false_iff] at this
   exact this.1
  have n2 : nv = true → H6 ts = false := fun hq => by
   have := hn hq
   simp only [H6, Bool.or_eq_false_iff] at this
   exact this.2
  rw [C3] at ha hc
  obtain ⟨ca', a1, ha⟩ := A5.A0 ha
  obtain ⟨ta, a2, ha⟩ := A5.A0 ha
  obtain ⟨tsa, a3, ha⟩ := A5.A0 ha
  obtain ⟨cc', c1, hc⟩ := A5.A0 hc
  obtain ⟨tc, c2, hc⟩ := A5.A0 hc
  obtain ⟨tsc, c3, hc⟩ := A5.A0 hc
  injection ha with ha
  injection hc with hc
  subst ha hc
  rw [C3] at hb hx
  obtain ⟨cb', b1, hb⟩ := A5.A0 hb
  obtain ⟨tb, b2, hb⟩ := A5.A0 hb
  obtain ⟨tsb, b3, hb⟩ := A5.A0 hb
  obtain ⟨cd', d1, hx⟩ := A5.A0 hx
  obtain ⟨td, d2, hx⟩ := A5.A0 hx
  obtain ⟨tsd, d3, hx⟩ := A5.A0 hx
  injection hb with hb
  injection hx with hx
  subst hb hx
  rw [sq4 F hf.1 hm1 n1 (F.Hu _ _ _ _ _ _ _ _ _ _ _ hr (C2x k i) (fun hq => (B1u.mp (hm1 hq)).1.1) a1 b1 c1 d1) a2 b2 c2 d2, D8l F hf.2 hm2 n2 hr a3 b3 c3 d3]
termination_by structural ts => ts
theorem D8k (F : Sq4 (A := A) (B := B) (C := C) (D := D) nv mv R) {k : Int} : ∀ {ts a b c x : List T} {ca : CA} {cb : CB} {cc : CC} {cd : CD} {v d : Int}, J1 ts → (mv = true → Zi k ts v d) → (nv = true → H6 ts = false) → R ca cb cc cd v d → Bv A k ts ca = .ok a → Bv B k a cb = .ok b → Bv C k ts cc = .ok c → Bv D k c cd = .ok x → b = x
 | [], a, b, c, x, ca, cb, cc, cd, v, d, hf, hm, hn, hr, ha, hb, hc, hx => by
  rw [Cr] at ha hc
  injection ha with ha
  injection hc with hc
  subst ha hc
  rw [Cr] at hb hx
  injection hb with hb
  injection hx with hx
  rw [← hb, ← hx]
 | t :: ts, a, b, c, x, ca, cb, cc, cd, v, d, hf, hm, hn, hr, ha, hb, hc, hx => by
  simp only [J1] at hf
  have hm1 : mv = true → Rq t v (d + more k) := fun hq => (by have := hm hq; simp only [Zi] at this; exact this.1)
  have hm2 : mv = true → Zi k ts v d := fun hq => (by have := hm hq; simp only [Zi] at this; exact this.2)
  have n1 : nv = true → H5 t = false := fun hq => by
   have := hn hq
   simp only [H6, Bool.or_eq_false_iff] at this
   exact this.1
  have n2 : nv = true → H6 ts = false := fun hq => by
   have := hn hq
   simp only [H6, Bool.or_eq_false_iff] at this
   exact this.2
  rw [C2] at ha hc
  obtain ⟨ca', a1, ha⟩ := A5.A0 ha
  obtain ⟨ta, a2, ha⟩ := A5.A0 ha
  obtain ⟨tsa, a3, ha⟩ := A5.A0 ha
  obtain ⟨cc', c1, hc⟩ := A5.A0 hc
  obtain ⟨tc, c2, hc⟩ := A5.A0 hc
  obtain ⟨tsc, c3, hc⟩ := A5.A0 hc
  injection ha with ha
  injection hc with hc
  subst ha hc
  rw [C2] at hb hx
  obtain ⟨cb', b1, hb⟩ := A5.A0 hb
  obtain ⟨tb, b2, hb⟩ := A5.A0 hb
  obtain ⟨tsb, b3, hb⟩ := A5.A0 hb
  obtain ⟨cd', d1, hx⟩ := A5.A0 hx
  obtain ⟨td, d2, hx⟩ := A5.A0 hx
  obtain ⟨tsd, d3, hx⟩ := A5.A0 hx
  injection hb with hb
  injection hx with hx
  subst hb hx
  have hkk := F.Hu _ _ _ _ _ _ _ _ _ _ _ hr (C8g k) (fun hq => (B1u.mp (hm1 hq)).1.1) a1 b1 c1 d1
  rw [show v + ((0, more k) : Int × Int).1 = v from Int.add_zero v] at hkk
  rw [sq4 F hf.1 hm1 n1 hkk a2 b2 c2 d2, D8k F hf.2 hm2 n2 hr a3 b3 c3 d3]
termination_by structural ts => ts
theorem D8m (F : Sq4 (A := A) (B := B) (C := C) (D := D) nv mv R) {k : Int} : ∀ {bs a b c x : List Br} {ca : CA} {cb : CB} {cc : CC} {cd : CD} {v d : Int}, (mv = true → d ≤ 24) → Pb k bs → (mv = true → Xi k bs v d) → (nv = true → Na bs = false) → R ca cb cc cd v d → C6 A k bs ca = .ok a → C6 B k a cb = .ok b → C6 C k bs cc = .ok c → C6 D k c cd = .ok x → b = x
 | [], a, b, c, x, ca, cb, cc, cd, v, d, hd, hf, hm, hn, hr, ha, hb, hc, hx => by
  rw [Bs] at ha hc
  injection ha with ha
  injection hc with hc
  subst ha hc
  rw [Bs] at hb hx
  injection hb with hb
  injection hx with hx
  rw [← hb, ← hx]
 | .mk f ks :: bs, a, b, c, x, ca, cb, cc, cd, v, d, hd, hf, hm, hn, hr, ha, hb, hc, hx => by
  simp only [Pb] at hf
  have hb1 : mv = true → within f d = true := fun hq => (by have := hm hq; simp only [Xi] at this; exact this.1)
  have hb2 : mv = true → Zi k ks v d := fun hq => (by have := hm hq; simp only [Xi] at this; exact this.2.1)
  have hb3 : mv = true → Xi k bs v d := fun hq => (by have := hm hq; simp only [Xi] at this; exact this.2.2)
  have nn : nv = true → f ≠ [] ∧ H6 ks = false ∧ Na bs = false := fun hq => by
   have := hn hq
   simp only [Na, Bool.or_eq_false_iff] at this
   refine ⟨fun h9 => ?_, this.1.2, this.2⟩
   have h8 := this.1.1
   rw [h9] at h8
   cases h8
  obtain ⟨oa, ob, a1, a2, a3, ba, bb, a4, a5, a6⟩ := A2p ha hb
  obtain ⟨oc, od, c1, c2, c3, bc, bd, c4, c5, c6⟩ := A2p hc hx
  have e := F.Ad _ _ _ _ _ _ f oa ob oc od hr hd hf.2.1 (fun hq => (nn hq).1) hb1 a1 a2 a3 c1 c2 c3
  have et := D8m F hd hf.2.2.2 hb3 (fun hq => (nn hq).2.2) hr a4 a5 c4 c5
  subst e
  rcases a6 with ⟨e1, e2⟩ | ⟨g, ka, kb, e1, e2, e3, e4⟩
  ·rcases c6 with ⟨e5, e6⟩ | ⟨g', kc, kd, e5, e6, e7, e8⟩
   ·rw [e2, e6, et]
   ·rw [e1] at e5; cases e5
  ·rcases c6 with ⟨e5, e6⟩ | ⟨g', kc, kd, e5, e6, e7, e8⟩
   ·rw [e1] at e5; cases e5
   ·rw [e1] at e5
    injection e5 with e5
    rw [e4, e8, e5, et, D8k F hf.2.2.1 hb2 (fun hq => (nn hq).2.1) hr e2 e3 e6 e7]
termination_by structural bs => bs
end
end
theorem C7y (P : Wd) : Kx (Kx P) = P := funext fun i => propext Classical.not_not
theorem D6z {k n : Int} {nm : ByteArray} {r : List Cl} (h : Ma k n nm r) : Hg (decide (k = 14)) r := by
 obtain ⟨q1, q2⟩ := Zu h
 unfold Hg
 by_cases h14 : k = 14
 ·rw [if_pos (by simp [h14])]; exact q1 h14
 ·rw [if_neg (by simp [h14])]; exact q2
theorem A3o {p : Bool} {l m : List Cl} (h1 : Hg p l) (h2 : Hg p m) (h : ∀ P N, A5j p P N → (sat l P N ↔ sat m P N)) : l = m := by
 cases p with
 | false => exact B2o h1 h2 fun P N => h P N fun h => by cases h
 | true => exact B2t h1 h2 fun P N hw => h P N fun _ => hw
theorem U1 (P : Wd) {b : Int} (h : b = 0) (f : Int) : Gh P f b = P := by
 subst h
 funext j
 unfold Gh
 split
 ·rfl
 ·rfl
theorem D3l {S : Nat → Prop} {f : List Cl} {P N P' N' : Wd} (hf : Dc S f) (h1 : ∀ j, S j → (P j ↔ P' j)) (h2 : ∀ j, S j → (N j ↔ N' j)) : sat f P N ↔ sat f P' N' := by
 have key : ∀ c, c ∈ f → (G4 c P N ↔ G4 c P' N') := fun c hc => by
  have hs := hf c hc
  constructor
  ·rintro ⟨a1, a2⟩
   exact ⟨fun j hj => (h1 j (hs j (by rw [Nat.testBit_or, hj]; rfl))).mp (a1 j hj), fun j hj => (h2 j (hs j (by rw [Nat.testBit_or, hj, Bool.or_true]))).mp (a2 j hj)⟩
  ·rintro ⟨a1, a2⟩
   exact ⟨fun j hj => (h1 j (hs j (by rw [Nat.testBit_or, hj]; rfl))).mpr (a1 j hj), fun j hj => (h2 j (hs j (by rw [Nat.testBit_or, hj, Bool.or_true]))).mpr (a2 j hj)⟩
 constructor
 ·rintro ⟨c, hc, h⟩; exact ⟨c, hc, (key c hc).mp h⟩
 ·rintro ⟨c, hc, h⟩; exact ⟨c, hc, (key c hc).mpr h⟩
def S3 (i : Int) (s : List Cl) : D1 := ⟨fun d f => Ez (B6 B4 i s d f) (Cz i d), fun d f => Ez (B6 Aw i s d f) (Cz i d)⟩
theorem C1z (i : Int) (s : List Cl) : C3d (A := Ax (Em i s)) (B := Ax (Mw i)) (D := Ax (S3 i s)) (fun a b c => b = a ∧ c = a) where
 inl := fun ca cb cc k n nm r u _ _ h => absurd h D5
 inr := by
  rintro ca cb cc k n nm r p ⟨rfl, rfl⟩ _ h
  obtain ⟨h1, h2⟩ := F2.mp h
  show (Xl _).bind _ = (Xl _).bind _
  have e : (Mw i).row k cc p.2 = (S3 i s).row k cc r := by
   unfold D1.row at h1 ⊢
   split
   ·rename_i hk
    rw [if_pos hk] at h1
    show Cz i cc p.2 = Ez (B6 Aw i s cc r) (Cz i cc)
    rw [show B6 Aw i s cc r = (0, p.2) from h1]
    rfl
   ·rename_i hk
    rw [if_neg hk] at h1
    show Cz i cc p.2 = Ez (B6 B4 i s cc r) (Cz i cc)
    rw [show B6 B4 i s cc r = (0, p.2) from h1]
    rfl
  rw [e, h2]
 none := by
  rintro ca cb cc f ⟨rfl, rfl⟩ _ h
  have h1 := Il.mp h
  refine Il.mpr ?_
  show Ez (B6 Aw i s cc f) (Cz i cc) = _
  rw [show B6 Aw i s cc f = (0, []) from h1]
  rfl
 some := by
  rintro ca cb cc f f' ⟨rfl, rfl⟩ _ h
  obtain ⟨h1, _⟩ := Ik.mp h
  show (Xl _).bind _ = (Xl _).bind _
  have e : (Mw i).Ad cc f' = (S3 i s).Ad cc f := by
   show Cz i cc f' = Ez (B6 Aw i s cc f) (Cz i cc)
   rw [show B6 Aw i s cc f = (0, f') from h1]
   rfl
  rw [e]
 Hu := by
  rintro ca cb cc b ca' _ _ ⟨rfl, rfl⟩ h
  injection h with h
  subst h
  exact .inl ⟨_, _, rfl, rfl, rfl, rfl⟩
theorem S9 {t : T} {i : Int} {r : List Cl} (h : (Am t i r).1 = 0) : A9 t = 0 ∧ (0 ≤ i ∧ i < 24) ∧ Ag r = true ∧ (A6 r i 1).1 = 0 ∧ B1 (Ax (S3 i (A6 r i 1).2)) t 0 = .ok (Am t i r).2 := by
 unfold Am at h ⊢
 split at h
 ·rename_i h1; exact absurd h h1
 rename_i h1
 rw [if_neg h1]
 split at h
 ·rename_i h2; exact absurd h h2
 rename_i h2
 rw [if_neg h2]
 obtain ⟨w1, w2, w3⟩ := O9 (Decidable.not_not.mp h1)
 have hf := (D0.mp w1).2
 refine ⟨w1, w2, w3, Decidable.not_not.mp h2, ?_⟩
 rcases Vi (W := Em i (A6 r i 1).2) (t := t) (d := 0) with ⟨u, a1, a2⟩ | ⟨e, a1, a2⟩
 ·rw [a2, Tw rfl] at h ⊢
  rw [← D1a (C1z i _) hf (show (0 : Int) = 0 ∧ (0 : Int) = 0 from ⟨rfl, rfl⟩) a1]
  rcases Vi (W := Mw i) (t := u) (d := 0) with ⟨x, b1, b2⟩ | ⟨e, b1, b2⟩
  ·rw [b2]; exact b1
  ·rw [b2] at h; exact absurd h (Is u b1)
 ·rw [a2] at h
  rw [Qw (Is t a1)] at h
  exact absurd h (Is t a1)
def tkP (r : List Cl) (d : Nat) (P N : Wd) : Wd := fun j => if j < d then P j else if j = d then sat r (Gh P 0 d) (Gh N 0 d) else P (j - 1)
def tkN (r : List Cl) (d : Nat) (P N : Wd) : Wd := fun j => if j < d then N j else if j = d then ¬ sat r (Kx (Gh N 0 d)) (Kx (Gh P 0 d)) else N (j - 1)
theorem B9f {r : List Cl} {d : Nat} {P N : Wd} (h : J2 P N) : J2 (tkP r d P N) (tkN r d P N) := fun j hj => by
 unfold tkP tkN at hj
 by_cases h1 : j < d
 ·rw [if_pos h1, if_pos h1] at hj; exact h j hj
 ·rw [if_neg h1, if_neg h1] at hj
  by_cases h2 : j = d
  ·rw [if_pos h2, if_pos h2] at hj
   exact hj.2 (B0g (fun i hi hn => Ql h i ⟨hi, hn⟩) (fun i hi hp => Ql h i ⟨hp, hi⟩) hj.1)
  ·rw [if_neg h2, if_neg h2] at hj; exact h _ hj
theorem A4o {r : List Cl} {d : Nat} (h1 : (A6 r 0 1).1 = 0) (h2 : (A6 (A6 r 0 1).2 0 d).1 = 0) : Dc (fun j => (j : Int) ≠ d) (A6 (A6 r 0 1).2 0 d).2 := fun c hc j hj => by
 have r1 : Az 1 r 0 = .ok (A6 r 0 1).2 := by rw [U8 (Fg h1).1 A2 A2, if_pos h1]
 have r2 : Az d (A6 r 0 1).2 0 = .ok (A6 (A6 r 0 1).2 0 d).2 := by rw [U8 (Fg h2).1 A2 A2, if_pos h2]
 have hr := List.all_eq_true.mp (K8 (Qe h2)) c hc
 obtain ⟨b1, b2⟩ := F3 hr
 have h24 : j < 24 := by
  rw [Nat.testBit_or, Bool.or_eq_true] at hj
  rcases hj with hj | hj
  ·exact b1 j hj
  ·exact b2 j hj
 obtain ⟨k, _, hk, q1⟩ := U7 A2 r2 (Lo.mpr ⟨h24, c, hc, hj⟩)
 obtain ⟨m, _, hm, q2⟩ := U7 A2 r1 hk
 omega
theorem C2h {l : List Cl} {i d : Int} (hl : Aj l = true) (h : (Cz i d l).1 = 0) : Aj (Cz i d l).2 = true := by
 have hf : Ag (Cz i d l).2 = true := Nx h
 obtain ⟨h1, h2⟩ := Fp hl
 unfold Aj
 rw [Bool.and_eq_true, Bool.not_eq_true']
 refine ⟨hf, ?_⟩
 rw [List.any_eq_false]
 intro c hc
 obtain ⟨e, he, rfl⟩ := List.mem_map.mp (K7 h hc)
 rw [Bool.not_eq_true]
 refine K9.mpr fun k hk => ?_
 have hcalm := K9.mp (h2 e he)
 by_cases h0 : 0 ≤ i + d
 ·obtain ⟨j, _, j1, j2⟩ := (O3 h0).mp hk.1
  obtain ⟨m, _, m1, m2⟩ := (O3 h0).mp hk.2
  have : j = m := by omega
  subst this
  exact hcalm j ⟨j1, m1⟩
 ·have e1 : E6 e.pos (i + d) = e.pos &&& 16777215 := by unfold E6; rw [if_neg A2]
  have e2 : E6 e.neg (i + d) = e.neg &&& 16777215 := by unfold E6; rw [if_neg A2]
  have h3 : (e.pos &&& 16777215).testBit k = true := by rw [← e1]; exact hk.1
  have h4 : (e.neg &&& 16777215).testBit k = true := by rw [← e2]; exact hk.2
  rw [Nat.testBit_and, Bool.and_eq_true] at h3 h4
  exact hcalm k ⟨h3.1, h4.1⟩
theorem A9w {p : Bool} {r f x : List Cl} {d : Nat} (hr : (A6 r 0 1).1 = 0) (hp : Hg p f) (h : Ez (B6 (if p = true then Aw else B4) 0 (A6 r 0 1).2 d f) (Cz 0 d) = (0, x)) :
  Hg p x ∧ ∀ P N, A5j p P N → (sat x P N ↔ sat f (tkP r d P N) (tkN r d P N)) := by
 have h0 : (Ez (B6 (if p = true then Aw else B4) 0 (A6 r 0 1).2 d f) (Cz 0 d)).1 = 0 := by rw [h]
 obtain ⟨a1, a2, a3⟩ := Da h0
 rw [a3] at h
 have hff := A3p hp
 generalize ha : (B6 (if p = true then Aw else B4) 0 (A6 r 0 1).2 d f).2 = y at *
 have hy : B6 (if p = true then Aw else B4) 0 (A6 r 0 1).2 d f = (0, y) := Prod.ext a1 ha
 have hry : Hg p y := by
  unfold Hg at hp ⊢
  cases p with
  | false => simp only [Bool.false_eq_true, if_false] at hp hy ⊢; exact (Ft (P := fun _ => True) (N := fun _ => True) hp hy).1
  | true => simp only [if_true] at hp hy ⊢; exact (F7 hp hy).1
 have hgone : Dc (fun j => (j : Int) ≠ d) y := by
  by_cases hh : F4 (G3 f) (0 + (d : Int)) = false
  ·unfold B6 at hy
   rw [if_pos hh] at hy
   injection hy with _ hy
   subst hy
   intro c hc j hj
   have := B2l (K8 hff) hh hc j hj
   omega
  ·unfold B6 at hy
   rw [if_neg hh] at hy
   obtain ⟨q1, q2, q3⟩ := Da (show (Ez (A6 (A6 r 0 1).2 0 d) fun s => (if p = true then Aw else B4) f (0 + (d : Int)) s).1 = 0 by rw [hy])
   rw [q3] at hy
   have hin : Dc (fun j => (j : Int) ≠ d) ((if p = true then Aw else B4) f (0 + (d : Int)) (A6 (A6 r 0 1).2 0 d).2).2 := by
    have hc : ∀ c, c ∈ f → Xo (fun j => (j : Int) ≠ d) (Cb c (0 + (d : Int))) := fun c hc j hj => by
     obtain ⟨b1, b2⟩ := F3 (List.all_eq_true.mp (K8 hff) c hc)
     have := (C3w (c := c) (i := 0 + (d : Int)) (d := 24) (fun j hj => by
      rw [Nat.testBit_or, Bool.or_eq_true] at hj
      rcases hj with hj | hj
      ·have := b1 j hj; omega
      ·have := b2 j hj; omega) j hj).2
     omega
    cases p with
    | false => simp only [Bool.false_eq_true, if_false]; exact A1n hc (A4o hr q1)
    | true => simp only [if_true]; exact A1o hc (A4o hr q1)
   rw [hy] at hin
   exact hin
 have hx : x = (Cz 0 d y).2 := by rw [h]
 have hd : ∀ P N : Wd, _ := fun P N => C4g (P := P) (N := N) (f := y) (i := 0) (d := d) (fun c hc => List.all_eq_true.mp (K8 (A3p hry)) c hc) A2 a2
 simp only [← hx] at hd
 refine ⟨?_, fun P N hw => ?_⟩
 ·unfold Hg at hry ⊢
  cases p with
  | false => simp only [Bool.false_eq_true, if_false] at hry ⊢; rw [hx]; exact Nx a2
  | true => simp only [if_true] at hry ⊢; rw [hx]; exact C2h hry a2
 ·let Q : Wd := fun j => if j < d then P j else if j = d then False else P (j - 1)
  let M : Wd := fun j => if j < d then N j else if j = d then False else N (j - 1)
  have e1 : sat y (drW P (0 + (d : Int))) (drW N (0 + (d : Int))) ↔ sat y Q M := D3l hgone (fun j hj => by
   show drW P (0 + (d : Int)) j ↔ if j < d then P j else if j = d then False else P (j - 1)
   unfold drW
   by_cases h1 : j < d
   ·rw [if_pos A2, if_pos h1]
   ·rw [if_neg A2, if_neg h1, if_neg A2, if_neg A2]) (fun j hj => by
   show drW N (0 + (d : Int)) j ↔ if j < d then N j else if j = d then False else N (j - 1)
   unfold drW
   by_cases h1 : j < d
   ·rw [if_pos A2, if_pos h1]
   ·rw [if_neg A2, if_neg h1, if_neg A2, if_neg A2])
  have hcalm : J2 P N → J2 Q M := fun hc j hj => by
   have hj : (if j < d then P j else if j = d then False else P (j - 1)) ∧ (if j < d then N j else if j = d then False else N (j - 1)) := hj
   by_cases h1 : j < d
   ·rw [if_pos h1, if_pos h1] at hj; exact hc j hj
   ·rw [if_neg h1, if_neg h1] at hj
    by_cases h2 : j = d
    ·rw [if_pos h2] at hj; exact hj.1
    ·rw [if_neg h2, if_neg h2] at hj; exact hc _ hj
  have sQ : ∀ X : Wd, Gh (Gh (fun j => if j < d then X j else if j = d then False else X (j - 1)) 0 (d : Int)) 0 1 = Gh X 0 d := fun X => by
   funext j
   unfold Gh
   rw [if_neg A2, if_neg A2]
   dsimp only
   rw [if_neg A2, if_neg A2]
   congr 1
   omega
  have eP : atP (A6 r 0 1).2 d Q M = sat r (Gh P 0 d) (Gh N 0 d) := propext (by
   unfold atP
   rw [Pu hr, sQ P, sQ N])
  have eN : atN (A6 r 0 1).2 d Q M = ¬ sat r (Kx (Gh N 0 d)) (Kx (Gh P 0 d)) := propext (by
   unfold atN
   rw [Pu hr, A6l, A6l, sQ P, sQ N])
  have oP : N6 Q (0 + (d : Int)) (atP (A6 r 0 1).2 d Q M) = tkP r d P N := by
   rw [eP]
   funext j
   unfold N6 tkP
   show (if (j : Int) = 0 + (d : Int) then _ else if j < d then P j else if j = d then False else P (j - 1)) = _
   by_cases h1 : j < d
   ·rw [if_neg A2, if_pos h1, if_pos h1]
   ·by_cases h2 : j = d
    ·rw [if_pos A2, if_neg h1, if_pos h2]
    ·rw [if_neg A2, if_neg h1, if_neg h2, if_neg h1, if_neg h2]
  have oN : N6 M (0 + (d : Int)) (atN (A6 r 0 1).2 d Q M) = tkN r d P N := by
   rw [eN]
   funext j
   unfold N6 tkN
   show (if (j : Int) = 0 + (d : Int) then _ else if j < d then N j else if j = d then False else N (j - 1)) = _
   by_cases h1 : j < d
   ·rw [if_neg A2, if_pos h1, if_pos h1]
   ·by_cases h2 : j = d
    ·rw [if_pos A2, if_neg h1, if_pos h2]
    ·rw [if_neg A2, if_neg h1, if_neg h2, if_neg h1, if_neg h2]
  rw [hd P N, e1]
  cases p with
  | false =>
   have hp : Ag f = true := hp
   have hy : B6 B4 0 (A6 r 0 1).2 d f = (0, y) := hy
   rw [(Ft (P := Q) (N := M) hp hy).2, oP, oN]
  | true =>
   have hp : Aj f = true := hp
   have hy : B6 Aw 0 (A6 r 0 1).2 d f = (0, y) := hy
   rw [(F7 hp hy).2 Q M (hcalm (hw rfl)), oP, oN]
theorem A3a {r f x : List Cl} {d : Nat} {k : Int} (hr : (A6 r 0 1).1 = 0) (hp : Hg (decide (k = 14)) f) (h : (S3 0 (A6 r 0 1).2).row k d f = (0, x)) :
  Hg (decide (k = 14)) x ∧ ∀ P N, A5j (decide (k = 14)) P N → (sat x P N ↔ sat f (tkP r d P N) (tkN r d P N)) := by
 refine A9w hr hp ?_
 unfold D1.row at h
 by_cases h14 : k = 14
 ·rw [if_pos h14] at h
  simp only [h14, decide_true, if_true]
  exact h
 ·rw [if_neg h14] at h
  simp only [h14, decide_false, Bool.false_eq_true, if_false]
  exact h
theorem Yf {r f x : List Cl} {d : Nat} (hr : (A6 r 0 1).1 = 0) (hp : Aj f = true) (h : (S3 0 (A6 r 0 1).2).Ad d f = (0, x)) : Hg true x ∧ ∀ P N, A5j true P N → (sat x P N ↔ sat f (tkP r d P N) (tkN r d P N)) :=
 A9w (p := true) hr hp h
def puP (i : Int) (r : List Cl) (d : Nat) (P N : Wd) : Wd := N6 P (i + d) (atP r d P N)
def puN (i : Int) (r : List Cl) (d : Nat) (P N : Wd) : Wd := N6 N (i + d) (atN r d P N)
theorem B9g {i : Int} {r : List Cl} {d : Nat} {P N : Wd} (h : J2 P N) : J2 (puP i r d P N) (puN i r d P N) := fun j hj => by
 unfold puP puN N6 at hj
 by_cases h1 : (j : Int) = i + d
 ·rw [if_pos h1, if_pos h1] at hj
  obtain ⟨q1, q2⟩ := hj
  unfold atP at q1
  unfold atN at q2
  exact q2 (B0g (fun k hk hn => Ql h k ⟨hk, hn⟩) (fun k hk hp => Ql h k ⟨hp, hk⟩) q1)
 ·rw [if_neg h1, if_neg h1] at hj
  exact h j hj
theorem B7p {i : Int} {r f x : List Cl} {d : Nat} {k : Int} (hp : Hg (decide (k = 14)) f) (h : (Em i r).row k d f = (0, x)) : Hg (decide (k = 14)) x ∧ ∀ P N, A5j (decide (k = 14)) P N → (sat x P N ↔ sat f (puP i r d P N) (puN i r d P N)) := by
 unfold D1.row at h
 by_cases h14 : k = 14
 ·rw [if_pos h14] at h
  simp only [h14, decide_true] at hp ⊢
  have hp : Aj f = true := hp
  have h : B6 Aw i r d f = (0, x) := h
  exact ⟨(F7 hp h).1, fun P N hw => (F7 hp h).2 P N (hw rfl)⟩
 ·rw [if_neg h14] at h
  simp only [h14, decide_false] at hp ⊢
  have hp : Ag f = true := hp
  have h : B6 B4 i r d f = (0, x) := h
  exact ⟨(Ft (P := fun _ => True) (N := fun _ => True) hp h).1, fun P N _ => (Ft hp h).2⟩
theorem B0n {i : Int} {r f x : List Cl} {d : Nat} (hp : Aj f = true) (h : (Em i r).Ad d f = (0, x)) : Hg true x ∧ ∀ P N, A5j true P N → (sat x P N ↔ sat f (puP i r d P N) (puN i r d P N)) :=
 ⟨(F7 hp h).1, fun P N hw => (F7 hp h).2 P N (hw rfl)⟩
theorem B0o {i : Int} (hi : 0 ≤ i) {r : List Cl} {d : Nat} {P N : Wd} : Gh (puP i r d P N) 0 d = N6 (Gh P 0 d) i (sat r (Gh P 0 d) (Gh N 0 d)) ∧ Gh (puN i r d P N) 0 d = N6 (Gh N 0 d) i (¬ sat r (Kx (Gh N 0 d)) (Kx (Gh P 0 d))) := by
 refine ⟨?_, ?_⟩
 ·funext j
  unfold Gh puP N6
  rw [if_neg A2]
  by_cases h1 : (j : Int) = i
  ·rw [if_pos A2, if_pos h1]; rfl
  ·rw [if_neg A2, if_neg h1]
   exact (if_neg A2).symm
 ·funext j
  unfold Gh puN N6
  rw [if_neg A2]
  by_cases h1 : (j : Int) = i
  ·rw [if_pos A2, if_pos h1]; rfl
  ·rw [if_neg A2, if_neg h1]
   exact (if_neg A2).symm
theorem Tv {R : List Cl} {d : Nat} {P N : Wd} : Gh (tkP R d P N) 0 ((d + 1 : Nat) : Int) = Gh P 0 d ∧ Gh (tkN R d P N) 0 ((d + 1 : Nat) : Int) = Gh N 0 d := by
 refine ⟨?_, ?_⟩
 ·funext j
  unfold Gh tkP
  rw [if_neg A2, if_neg A2, if_neg A2, if_neg A2]
  congr 1
 ·funext j
  unfold Gh tkN
  rw [if_neg A2, if_neg A2, if_neg A2, if_neg A2]
  congr 1
theorem D2a {i : Int} (hi : 0 ≤ i) {r R R' : List Cl} {d : Nat} (hR : Ag R = true) (h : B6 B4 i r ((0 : Nat) : Int) R = (0, R')) (P N : Wd) :
  tkP R d (puP i r d P N) (puN i r d P N) = puP i r (d + 1) (tkP R' d P N) (tkN R' d P N) ∧ tkN R d (puP i r d P N) (puN i r d P N) = puN i r (d + 1) (tkP R' d P N) (tkN R' d P N) := by
 have key : ∀ P N : Wd, sat R' P N ↔ sat R (N6 P i (sat r P N)) (N6 N i (¬ sat r (Kx N) (Kx P))) := fun P N => by
  have h1 := (Ft (P := P) (N := N) hR h).2
  rw [show i + ((0 : Nat) : Int) = i by omega] at h1
  have e1 : atP r ((0 : Nat) : Int) P N = sat r P N := by unfold atP; rw [U1 P (b := ((0 : Nat) : Int)) rfl, U1 N (b := ((0 : Nat) : Int)) rfl]
  have e2 : atN r ((0 : Nat) : Int) P N = ¬ sat r (Kx N) (Kx P) := by unfold atN; rw [U1 P (b := ((0 : Nat) : Int)) rfl, U1 N (b := ((0 : Nat) : Int)) rfl]
  rw [e1, e2] at h1
  exact h1
 have coO : ∀ (Q : Wd) (A : Prop), Kx (N6 Q i A) = N6 (Kx Q) i (¬ A) := fun Q A => by
  funext j
  unfold Kx N6
  split <;> rfl
 have aP : atP r ((d + 1 : Nat) : Int) (tkP R' d P N) (tkN R' d P N) = atP r d P N := by unfold atP; rw [Tv.1, Tv.2]
 have aN : atN r ((d + 1 : Nat) : Int) (tkP R' d P N) (tkN R' d P N) = atN r d P N := by unfold atN; rw [Tv.1, Tv.2]
 constructor
 ·funext j
  unfold puP
  rw [aP]
  unfold N6 tkP
  by_cases h1 : j < d
  ·have n1 : ¬ (j : Int) = i + (d : Int) := by omega
   have n2 : ¬ (j : Int) = i + ((d + 1 : Nat) : Int) := by omega
   simp only [if_pos h1, if_neg n1, if_neg n2]
  ·by_cases h2 : j = d
   ·have n2 : ¬ (j : Int) = i + ((d + 1 : Nat) : Int) := by omega
    simp only [if_neg h1, if_pos h2, if_neg n2]
    have e := B0o hi (r := r) (d := d) (P := P) (N := N)
    have e1 : Gh (fun j => if (j : Int) = i + (d : Int) then atP r d P N else P j) 0 d = N6 (Gh P 0 d) i (sat r (Gh P 0 d) (Gh N 0 d)) := e.1
    rw [e1, e.2]
    exact propext (key _ _).symm
   ·simp only [if_neg h1, if_neg h2]
    by_cases h3 : (j : Int) = i + ((d + 1 : Nat) : Int)
    ·have n3 : ((j - 1 : Nat) : Int) = i + (d : Int) := by omega
     simp only [if_pos h3, if_pos n3]
    ·have n3 : ¬ ((j - 1 : Nat) : Int) = i + (d : Int) := by omega
     simp only [if_neg h3, if_neg n3]
 ·funext j
  unfold puN
  rw [aN]
  unfold N6 tkN
  by_cases h1 : j < d
  ·have n1 : ¬ (j : Int) = i + (d : Int) := by omega
   have n2 : ¬ (j : Int) = i + ((d + 1 : Nat) : Int) := by omega
   simp only [if_pos h1, if_neg n1, if_neg n2]
  ·by_cases h2 : j = d
   ·have n2 : ¬ (j : Int) = i + ((d + 1 : Nat) : Int) := by omega
    simp only [if_neg h1, if_pos h2, if_neg n2]
    have e := B0o hi (r := r) (d := d) (P := P) (N := N)
    have e1 : Gh (fun j => if (j : Int) = i + (d : Int) then atN r d P N else N j) 0 d = N6 (Gh N 0 d) i (¬ sat r (Kx (Gh N 0 d)) (Kx (Gh P 0 d))) := e.2
    have k := key (Kx (Gh N 0 d)) (Kx (Gh P 0 d))
    rw [C7y, C7y] at k
    have c1 := coO (Gh N 0 d) (¬ sat r (Kx (Gh N 0 d)) (Kx (Gh P 0 d)))
    have c2 := coO (Gh P 0 d) (sat r (Gh P 0 d) (Gh N 0 d))
    have e3 : (¬ ¬ sat r (Kx (Gh N 0 d)) (Kx (Gh P 0 d))) = sat r (Kx (Gh N 0 d)) (Kx (Gh P 0 d)) := propext Classical.not_not
    rw [e1, e.1, c1, c2, e3]
    exact propext (not_congr k.symm)
   ·simp only [if_neg h1, if_neg h2]
    by_cases h3 : (j : Int) = i + ((d + 1 : Nat) : Int)
    ·have n3 : ((j - 1 : Nat) : Int) = i + (d : Int) := by omega
     simp only [if_pos h3, if_pos n3]
    ·have n3 : ¬ ((j - 1 : Nat) : Int) = i + (d : Int) := by omega
     simp only [if_neg h3, if_neg n3]
theorem R1 {W : D1} {d : Int} {t u : T} (hW : W.form d [] = (0, [])) (hf : Er t) (hk : t.kind = 1) (h : B1 (Ax W) t d = .ok u) : u = t := by
 obtain ⟨e, _⟩ := Kt hf hk
 have hrow : W.row 1 d [] = (0, []) := by
  unfold D1.row
  rw [if_neg Fb]
  exact hW
 have hown := Mq (W := W) (d := d) (k := 1) (n := t.n) (nm := ⟨#[]⟩) (r := []) (by rw [hrow])
 rw [hrow] at hown
 have h9 := C0c hown
 have e9 : t = vE t.n := e
 rw [← e9, h] at h9
 injection h9
theorem Yq (i : Int) (r : List Cl) (d : Int) : (Em i r).form d [] = (0, []) := by
 show B6 B4 i r d [] = _
 unfold B6
 rw [if_pos (by unfold F4; simp [G3])]
theorem A2z (s : List Cl) (d : Int) : (S3 0 s).form d [] = (0, []) := by
 show Ez (B6 B4 0 s d []) (Cz 0 d) = _
 rw [show B6 B4 0 s d [] = (0, []) from Yq 0 s d]
 rfl
theorem A9x {i : Int} (hi : 0 ≤ i) {r R R' : List Cl} (hR : Ag R = true) (h : B6 B4 i r ((0 : Nat) : Int) R = (0, R')) (hs : (A6 R 0 1).1 = 0) (hs' : (A6 R' 0 1).1 = 0) :
  Sq4 (A := Ax (S3 0 (A6 R 0 1).2)) (B := Ax (Em i r)) (C := Ax (Em i r)) (D := Ax (S3 0 (A6 R' 0 1).2)) false false (fun ca cb cc cd v d => ∃ δ : Nat, ca = (δ : Int) ∧ cb = (δ : Int) ∧ cc = ((δ + 1 : Nat) : Int) ∧ cd = (δ : Int)) where
 leaf := by
  rintro t a b c x ca cb cc cd v d ⟨δ, rfl, rfl, rfl, rfl⟩ hf hm hk h1 h2 h3 h4
  have e1 := R1 (A2z _ _) hf hk h1
  subst e1
  have e2 := R1 (Yq _ _ _) hf hk h2
  have e3 := R1 (Yq _ _ _) hf hk h3
  subst e2 e3
  exact (R1 (A2z _ _) hf hk h4).symm
 nA := fun _ _ _ _ _ _ _ => D5
 nB := fun _ _ _ _ _ _ _ => D5
 nC := fun _ _ _ _ _ _ _ => D5
 nD := fun _ _ _ _ _ _ _ => D5
 own := by
  rintro ca cb cc cd v d k n nm f pa pb pc pd ⟨δ, rfl, rfl, rfl, rfl⟩ hd hh hk hw h1 h2 h3 h4
  obtain ⟨a1, a2⟩ := F2.mp h1
  obtain ⟨b1, b2⟩ := F2.mp h2
  obtain ⟨c1, c2⟩ := F2.mp h3
  obtain ⟨d1, d2⟩ := F2.mp h4
  have hp := D6z hh
  obtain ⟨x1, x2⟩ := A3a hs hp a1
  obtain ⟨y1, y2⟩ := B7p x1 b1
  obtain ⟨z1, z2⟩ := B7p hp c1
  obtain ⟨w1, w2⟩ := A3a hs' z1 d1
  refine Prod.ext (by rw [b2, a2, d2, c2]) (A3o y1 w1 fun P N hc => ?_)
  have e := D2a hi hR h (d := δ) P N
  rw [y2 P N hc, x2 _ _ (fun hq => B9g (hc hq)), w2 P N hc, z2 _ _ (fun hq => B9f (hc hq)), e.1, e.2]
 Ad := by
  rintro ca cb cc cd v d f oa ob oc od ⟨δ, rfl, rfl, rfl, rfl⟩ hd hf9 hnv hw h1 h1n h2 h3 h3n h4
  obtain ⟨ga, a1, rfl⟩ := H2 h1
  obtain ⟨gc, c1, rfl⟩ := H2 h3
  obtain ⟨x1, x2⟩ := Yf hs hf9 a1
  obtain ⟨z1, z2⟩ := B0n hf9 c1
  have hob : ∃ gb, (Em i r).Ad (δ : Int) ga = (0, gb) ∧ ob = if gb = [] then none else some gb := by
   by_cases hg : ga = []
   ·rw [if_pos hg] at h1n
    subst hg
    refine ⟨[], ?_, h1n rfl⟩
    show B6 Aw i r δ [] = _
    unfold B6
    rw [if_pos (by unfold F4; simp [G3])]
   ·rw [if_neg hg] at h2
    exact H2 (h2 _ rfl)
  have hod : ∃ gd, (S3 0 (A6 R' 0 1).2).Ad (δ : Int) gc = (0, gd) ∧ od = if gd = [] then none else some gd := by
   by_cases hg : gc = []
   ·rw [if_pos hg] at h3n
    subst hg
    refine ⟨[], ?_, h3n rfl⟩
    show Ez (B6 Aw 0 (A6 R' 0 1).2 δ []) (Cz 0 δ) = _
    unfold B6
    rw [if_pos (by unfold F4; simp [G3])]
    rfl
   ·rw [if_neg hg] at h4
    exact H2 (h4 _ rfl)
  obtain ⟨gb, b1, rfl⟩ := hob
  obtain ⟨gd, d1, rfl⟩ := hod
  obtain ⟨y1, y2⟩ := B0n x1 b1
  obtain ⟨w1, w2⟩ := Yf hs' z1 d1
  have e : gb = gd := A3o y1 w1 fun P N hc => by
   have e := D2a hi hR h (d := δ) P N
   rw [y2 P N hc, x2 _ _ (fun hq => B9g (hc hq)), w2 P N hc, z2 _ _ (fun hq => B9f (hc hq)), e.1, e.2]
  rw [e]
 Hu := by
  rintro ca cb cc cd v d b' ca' cb' cc' cd' ⟨δ, rfl, rfl, rfl, rfl⟩ p1 p2 h1 h2 h3 h4
  injection h1 with h1
  injection h2 with h2
  injection h3 with h3
  injection h4 with h4
  subst h1 h2 h3 h4
  exact ⟨δ + b'.2.toNat, by omega, by omega, by omega, by omega⟩
theorem B2z {g : Nat → T → A5 T} : ∀ {l us : List T} {i j : Nat}, E5 g i l = .ok us → j < l.length → g (i + j) (l.getD j t0) = .ok (us.getD j t0)
 | [], us, i, j, h, hj => by simp at hj
 | t :: l, us, i, j, h, hj => by
  rw [E5] at h
  obtain ⟨u, h1, h⟩ := A5.A0 h
  obtain ⟨vs, h2, h⟩ := A5.A0 h
  injection h with h
  subst h
  cases j with
  | zero => exact h1
  | succ j =>
   rw [List.getD_cons_succ, List.getD_cons_succ]
   have := B2z (j := j) h2 (by simpa using hj)
   rw [show i + 1 + j = i + (j + 1) by omega] at this
   exact this
theorem A2j {W : D1} {t u : T} {d : Int} (h : B1 (Ax W) t d = .ok u) : u.kind = t.kind ∧ W.row t.kind d t.r = (0, u.r) ∧ u.kids.length = t.kids.length ∧ (∀ j, j < t.kids.length → B1 (Ax W) (kd t j) (d + (binds t.kind (j : Int)).2) = .ok (kd u j)) ∧ (t.sys = [] → u.sys = []) := by
 rw [Cy] at h
 obtain ⟨o, h1, h⟩ := A5.A0 h
 cases o with
 | inl x => exact absurd h1 D5
 | inr p =>
  obtain ⟨ks, h2, h⟩ := A5.A0 h
  obtain ⟨ss, h3, h⟩ := A5.A0 h
  injection h with h
  subst h
  obtain ⟨o1, o2⟩ := F2.mp h1
  rw [Qt] at h2
  refine ⟨rfl, o1, Wa h2, fun j hj => ?_, fun hs => ?_⟩
  ·have := B2z h2 hj
   rw [Nat.zero_add] at this
   exact this
  ·rw [hs, Bs] at h3
   injection h3 with h3
   exact h3.symm
theorem T4 {b b' : T} {i : Int} {r : List Cl} (hb : A9 b = 0) (hi : 0 ≤ i ∧ i < 24) (hr : Ag r = true) (h : B1 (Ax (Em i r)) b 0 = .ok b') : B9 b i r = (0, b') := by
 have hw : Cs b i r = 0 := by
  unfold Cs
  rw [if_neg (by simp [hb]), if_neg (by rw [hr]; unfold Ff; simp; omega)]
 unfold B9
 rw [if_neg (by simp [hw]), show Ca (Em i r) b 0 = Mz (B1 (Ax (Em i r)) b 0) from rfl, h]
 rfl
theorem C3v {i : Int} {r R R' : List Cl} {b b' : T} (hi : 0 ≤ i ∧ i < 24) (h : B6 B4 i r 0 R = (0, R')) (hb : B1 (Ax (Em i r)) b 1 = .ok b') (h1 : (Am b 0 R).1 = 0) (h2 : (Am b' 0 R').1 = 0) (h3 : (B9 (Am b 0 R).2 i r).1 = 0) :
  (Am b' 0 R').2 = (B9 (Am b 0 R).2 i r).2 := by
 obtain ⟨f1, _, hR, s1, t1⟩ := S9 h1
 obtain ⟨f2, _, _, s2, t2⟩ := S9 h2
 obtain ⟨_, _, _, t3⟩ := Jp h3
 exact (sq4 (v := 0) (d := 0) (A9x hi.1 hR h s1 s2) (D0.mp f1).2 (fun h => by cases h) (fun h => by cases h) (ca := 0) (cb := 0) (cc := 1) (cd := 0) ⟨0, rfl, rfl, rfl, rfl⟩ t1 t3 hb t2).symm
def D8d (i : Int) (r : List Cl) (x y : Option (Int × T)) : Prop := (x = none ∧ y = none) ∨ ∃ p q, x = some p ∧ y = some q ∧ (p.1 = 0 → A9 p.2 = 0 → q.1 = 0 → (B9 p.2 i r).1 = 0 → q.2 = (B9 p.2 i r).2)
theorem Y6 {i : Int} {r : List Cl} {b b' : T} (hi : 0 ≤ i ∧ i < 24) (hr : Ag r = true) (h : B1 (Ax (Em i r)) b 0 = .ok b') : D8d i r (some (0, b)) (some (0, b')) :=
 .inr ⟨_, _, rfl, rfl, fun _ hf _ _ => by rw [T4 hf hi hr h]⟩
theorem C0g {t u : T} {i : Int} {r : List Cl} (hf : A9 t = 0) (hi : 0 ≤ i ∧ i < 24) (hr : Ag r = true) (hu : B1 (Ax (Em i r)) t 0 = .ok u) (hsys : t.sys = []) (hk : t.kind ≠ 22 ∧ t.kind ≠ 27 ∧ t.kind ≠ 14 ∧ t.kind ≠ 21 ∧ t.kind ≠ 26) (he : t.kind = 13 → G5 t.r < 0 ∧ G5 u.r < 0) : D8d i r (Ak t) (Ak u) := by
 obtain ⟨k1, k2, k3, k4, k5⟩ := A2j hu
 have hfi := (D0.mp hf).2
 have us := k5 hsys
 have tb : ∀ {x : T}, x.sys = [] → Bn x = none := fun {x} hx => by
  unfold Bn
  rw [if_pos (by rw [hx]; decide)]
 have kid0 : ∀ {n : Nat} {k : Int}, t.kind = k → De k = (n : Int) → ∀ j, j < n → (binds k (j : Int)).2 = 0 → B1 (Ax (Em i r)) (kd t j) 0 = .ok (kd u j) := fun {n k} h1 h2 j hj hb => by
  have h3 : t.kids.length = n := by
   have := (Hv.mp hfi).2.1
   rw [h1, h2] at this
   omega
  have := k4 j A2
  rwa [h1, hb, Int.add_zero] at this
 have kidf : ∀ {n : Nat} {k : Int}, t.kind = k → De k = (n : Int) → ∀ j, j < n → A9 (kd t j) = 0 := fun {n k} h1 h2 j hj => A4s hf (by rw [h1, h2]; omega)
 have sub : ∀ {n : Nat} {k : Int} {a a' : T} (j : Nat), A9 a = 0 → B1 (Ax (Em i r)) a 0 = .ok a' → a.kind = k → De k = (n : Int) → j < n → B1 (Ax (Em i r)) (kd a j) (binds k (j : Int)).2 = .ok (kd a' j) := fun {n k a a'} j ha ht h1 h2 hj => by
  obtain ⟨_, _, _, q4, _⟩ := A2j ht
  have h3 : a.kids.length = n := by
   have := (Hv.mp (D0.mp ha).2).2.1
   rw [h1, h2] at this
   omega
  have := q4 j A2
  rwa [h1, Int.zero_add] at this
 have hkk : ∀ {n : Nat} {k : Int}, t.kind = k → De k = (n : Int) → 0 < n → (binds k 0).2 = 0 → (kd u 0).kind = (kd t 0).kind := fun {n k} h1 h2 hn hb => C0m (kid0 h1 h2 0 hn hb)
 by_cases c6 : t.kind = 6
 ·have e0 := hkk (n := 2) c6 Fb A2 Fb
  by_cases c5 : (kd t 0).kind = 5
  ·have s1 : Ak t = some (Ar (kd (kd t 0) 0) 0 (kd t 1)) := by unfold Ak; rw [if_pos ⟨c6, c5⟩]
   have s2 : Ak u = some (Ar (kd (kd u 0) 0) 0 (kd u 1)) := by unfold Ak; rw [if_pos ⟨k1.trans c6, e0.trans c5⟩]
   rw [s1, s2]
   refine .inr ⟨_, _, rfl, rfl, fun p1 p2 p3 p4 => ?_⟩
   have q0 := kid0 (n := 2) c6 Fb 0 A2 Fb
   have q1 := kid0 (n := 2) c6 Fb 1 A2 Fb
   have f0 := kidf (n := 2) c6 Fb 0 A2
   have f1 := kidf (n := 2) c6 Fb 1 A2
   have q2 := sub (n := 1) (k := 5) 0 f0 q0 c5 Fb A2
   rw [show (binds 5 ((0 : Nat) : Int)).2 = 0 by decide] at q2
   have f2 : A9 (kd (kd t 0) 0) = 0 := A4s f0 (by rw [c5]; decide)
   have d1 := T4 f2 hi hr q2
   have d2 := T4 f1 hi hr q1
   have := B6j (t := kd (kd t 0) 0) (u := kd t 1) (n := 0) (i := i) (r := r) p1 p4 (by rw [d1]) (by rw [d2]) (by rw [d1, d2]; exact p3)
   rw [d1, d2] at this
   exact this.symm
  ·have g1 : Ak t = none := by
    unfold Ak
    rw [if_neg (fun h => c5 h.2), if_neg A2, if_neg A2, if_neg A2, if_neg A2, if_neg A2, if_neg A2, if_neg A2, tb hsys]
    simp only
    rw [if_neg A2]
   have g2 : Ak u = none := by
    unfold Ak
    rw [if_neg (fun h => c5 (e0.symm.trans h.2)), if_neg A2, if_neg A2, if_neg A2, if_neg A2, if_neg A2, if_neg A2, if_neg A2, tb us]
    simp only
    rw [if_neg A2]
   exact .inl ⟨g1, g2⟩
 by_cases c9 : t.kind = 9 ∨ t.kind = 10
 ·have hn : De t.kind = ((1 : Nat) : Int) := by rcases c9 with h | h <;> rw [h] <;> decide
  have Xu : (binds t.kind 0).2 = 0 := by rcases c9 with h | h <;> rw [h] <;> decide
  have e0 := hkk (n := 1) rfl hn A2 Xu
  by_cases c8 : (kd t 0).kind = 8
  ·have s1 : Ak t = some (0, kd (kd t 0) (t.kind - 9).toNat) := by unfold Ak; rw [if_neg (fun h => c6 h.1), if_pos ⟨c9, c8⟩]
   have s2 : Ak u = some (0, kd (kd u 0) (t.kind - 9).toNat) := by unfold Ak; rw [k1, if_neg (fun h => c6 h.1), if_pos ⟨c9, e0.trans c8⟩]
   rw [s1, s2]
   have q0 := kid0 (n := 1) rfl hn 0 A2 Xu
   have f0 := kidf (n := 1) rfl hn 0 A2
   have q2 := sub (n := 2) (k := 8) (t.kind - 9).toNat f0 q0 c8 Fb A2
   rw [show (binds 8 (((t.kind - 9).toNat : Nat) : Int)).2 = 0 by rcases c9 with h | h <;> rw [h] <;> decide] at q2
   exact Y6 hi hr q2
  ·have g1 : Ak t = none := by
    unfold Ak
    rw [if_neg (fun h => c6 h.1), if_neg (fun h => c8 h.2), if_neg A2, if_neg A2, if_neg A2, if_neg A2, if_neg A2, if_neg A2, tb hsys]
    simp only
    rw [if_neg A2]
   have g2 : Ak u = none := by
    unfold Ak
    rw [if_neg (fun h => c6 (k1.symm.trans h.1)), if_neg (fun h => c8 (e0.symm.trans h.2)), if_neg A2, if_neg A2, if_neg A2, if_neg A2, if_neg A2, if_neg A2, tb us]
    simp only
    rw [if_neg A2]
   exact .inl ⟨g1, g2⟩
 by_cases c13 : t.kind = 13
 ·obtain ⟨e1, e2⟩ := he c13
  have e0 := hkk (n := 3) c13 Fb A2 Fb
  have s1 : Ak t = Gi t := by unfold Ak; rw [if_neg (fun h => c6 h.1), if_neg (fun h => c9 h.1), if_pos c13]
  have s2 : Ak u = Gi u := by unfold Ak; rw [if_neg (fun h => c6 (k1.symm.trans h.1)), if_neg (fun h => c9 (by rw [← k1]; exact h.1)), if_pos (k1.trans c13)]
  rw [s1, s2]
  unfold Gi
  rw [if_neg (show ¬ 0 ≤ G5 t.r by omega), if_neg (show ¬ 0 ≤ G5 u.r by omega)]
  by_cases c12 : (kd t 0).kind = 12
  ·rw [if_pos c12, if_pos (e0.trans c12)]
   refine .inr ⟨_, _, rfl, rfl, fun p1 p2 p3 p4 => ?_⟩
   have q0 := kid0 (n := 3) c13 Fb 0 A2 Fb
   have f0 := kidf (n := 3) c13 Fb 0 A2
   have q2 := sub (n := 1) (k := 12) 0 f0 q0 c12 Fb A2
   rw [show (binds 12 ((0 : Nat) : Int)).2 = 1 by decide] at q2
   have hrow : B6 B4 i r 0 t.r = (0, u.r) := by
    unfold D1.row at k2
    rw [if_neg A2] at k2
    exact k2
   exact C3v hi hrow q2 p1 p3 p4
  ·rw [if_neg c12, if_neg (fun h => c12 (e0.symm.trans h))]
   exact .inl ⟨rfl, rfl⟩
 by_cases c28 : t.kind = 28
 ·have s1 : Ak t = some (0, kd t 0) := by unfold Ak; rw [if_neg (fun h => c6 h.1), if_neg (fun h => c9 h.1), if_neg c13, if_neg A2, if_neg A2, if_neg A2, if_pos c28]
  have s2 : Ak u = some (0, kd u 0) := by unfold Ak; rw [k1, if_neg (fun h => c6 h.1), if_neg (fun h => c9 h.1), if_neg c13, if_neg A2, if_neg A2, if_neg A2, if_pos c28]
  rw [s1, s2]
  exact Y6 hi hr (kid0 (n := 2) c28 Fb 0 A2 Fb)
 have s1 : Ak t = if t.kind = 18 ∧ (kd t 0).kind = 17 then some (0, kd (kd t 0) 0) else none := by
  unfold Ak
  rw [if_neg (fun h => c6 h.1), if_neg (fun h => c9 h.1), if_neg c13, if_neg A2, if_neg A2, if_neg A2, if_neg c28, if_neg A2, tb hsys]
 have s2 : Ak u = if t.kind = 18 ∧ (kd u 0).kind = 17 then some (0, kd (kd u 0) 0) else none := by
  unfold Ak
  rw [k1, if_neg (fun h => c6 h.1), if_neg (fun h => c9 h.1), if_neg c13, if_neg A2, if_neg A2, if_neg A2, if_neg c28, if_neg A2, tb us]
 rw [s1, s2]
 by_cases c18 : t.kind = 18
 ·have e0 := hkk (n := 1) c18 Fb A2 Fb
  by_cases c17 : (kd t 0).kind = 17
  ·rw [if_pos ⟨c18, c17⟩, if_pos ⟨c18, e0.trans c17⟩]
   have q0 := kid0 (n := 1) c18 Fb 0 A2 Fb
   have f0 := kidf (n := 1) c18 Fb 0 A2
   have q2 := sub (n := 1) (k := 17) 0 f0 q0 c17 Fb A2
   rw [show (binds 17 ((0 : Nat) : Int)).2 = 0 by decide] at q2
   exact Y6 hi hr q2
  ·rw [if_neg (fun h => c17 h.2), if_neg (fun h => c17 (e0.symm.trans h.2))]
   exact .inl ⟨rfl, rfl⟩
 ·rw [if_neg (fun h => c18 h.1), if_neg (fun h => c18 h.1)]
  exact .inl ⟨rfl, rfl⟩
theorem C2y {t : T} {i : Int} {r : List Cl} (hsys : t.sys = []) (hp : (B9 t i r).1 = 0) (hk : t.kind ≠ 22 ∧ t.kind ≠ 27 ∧ t.kind ≠ 14 ∧ t.kind ≠ 21 ∧ t.kind ≠ 26) (he : t.kind = 13 → G5 t.r < 0 ∧ G5 (B9 t i r).2.r < 0) (h1 : (D2 t).1 = 0) (h2 : (D2 (B9 t i r).2).1 = 0) :
  (D2 t).2.1 = (D2 (B9 t i r).2).2.1 ∧ ((D2 t).2.1 = true → (B9 (D2 t).2.2 i r).1 = 0 → (D2 (B9 t i r).2).2.2 = (B9 (D2 t).2.2 i r).2) := by
 obtain ⟨hf, hi, hr, hu⟩ := Jp hp
 have hfu : A9 (B9 t i r).2 = 0 := by
  refine Decidable.byContradiction fun h => ?_
  rw [Vo h] at h2
  exact h h2
 rw [Ps hf] at h1 ⊢
 rw [Ps hfu] at h2 ⊢
 rcases C0g hf hi hr hu hsys hk he with ⟨e1, e2⟩ | ⟨p, q, e1, e2, e3⟩
 ·rw [e1, e2]
  exact ⟨rfl, fun h => by cases h⟩
 ·rw [e1] at h1
  rw [e2] at h2
  rw [e1, e2]
  have dn : ∀ {x : Int × T}, (A0f (some x)).1 = 0 → x.1 = 0 ∧ A9 x.2 = 0 ∧ A0f (some x) = (0, true, x.2) := fun {x} h => by
   simp only [A0f] at h ⊢
   split at h
   ·rename_i h9; exact absurd h h9
   ·rename_i h9
    rw [if_neg h9]
    split at h
    ·rename_i h8; exact absurd h h8
    ·rename_i h8
     rw [if_neg h8]
     exact ⟨Decidable.not_not.mp h9, Decidable.not_not.mp h8, rfl⟩
  obtain ⟨a1, a2, a3⟩ := dn h1
  obtain ⟨b1, b2, b3⟩ := dn h2
  rw [a3, b3]
  exact ⟨rfl, fun _ hd => e3 a1 a2 b1 hd⟩
theorem C7s (r : List Cl) : (decide ((r.length : Int) = 0) || (decide ((r.length : Int) = 1) && decide (r.getD 0 Bc = (⟨0, 0⟩ : Cl)))) = decide (0 ≤ G5 r) := by
 by_cases h0 : r.length = 0
 ·rw [B2w h0, decide_eq_true (show (r.length : Int) = 0 by omega)]; rfl
 ·by_cases h1 : r.length = 1
  ·by_cases h2 : r.getD 0 Bc = (⟨0, 0⟩ : Cl)
   ·rw [B8y h1 h2, decide_eq_true h2, decide_eq_true (show (r.length : Int) = 1 by omega), decide_eq_false (show ¬ (r.length : Int) = 0 by omega)]; rfl
   ·rw [A8e h0 (.inr h2), decide_eq_false h2, decide_eq_false (show ¬ (r.length : Int) = 0 by omega), Bool.and_false]; rfl
  ·rw [A8e h0 (.inl h1), decide_eq_false (show ¬ (r.length : Int) = 1 by omega), decide_eq_false (show ¬ (r.length : Int) = 0 by omega)]; rfl
theorem B4k (t : T) : size (D2 t).2.2 ≤ 20000 + 10 * size t := by
 have hp := size_pos' t
 have h1 : size t0 = 1 := by decide +kernel
 by_cases hf : A9 t = 0
 ·rw [Ps hf]
  cases hs : Ak t with
  | none => show size t0 ≤ _; omega
  | some y =>
   have := Yg hs
   simp only [A0f]
   split
   ·show size t0 ≤ _; omega
   ·split
    ·show size t0 ≤ _; omega
    ·exact this
 ·rw [Vo hf]
  show size t0 ≤ _; omega
def T6 : T := .mk 20 0 ⟨#[]⟩ [] [] []
def paE : T := .mk 13 0 ⟨#[]⟩ [⟨0, 2⟩] [.mk 12 0 ⟨#[]⟩ [] [lpE [⟨1, 0⟩]] [], T6, T6] []
theorem C7r : D2 (aE (lE (vE 0)) uE) = (0, true, uE) := by decide +kernel
theorem C7q : D2 paE = (0, true, lpE [⟨0, 2⟩]) := by decide +kernel
theorem C7p : D2 uE = (0, false, t0) := by decide +kernel
theorem A0d : size (aE (lE (vE 0)) uE) = 4 ∧ size paE = 5 ∧ size uE = 1 := by decide +kernel
end Go.Hy
namespace Go.Hy
open Go.RowKit Go.Shelf
theorem C0p {F : Fence} {n : Nat} {P : Program} {α : Type} {g : Operand} {ps : Array Tmp} {assign body : Code} {Q : Exit → Act → World → Prop} {a : Act} {w : World}
  (hro : F.round = none) (h1 : 1 ≤ n) {gf : Nat} {lb : Array Value} (hg : a.eval g = .func (.func gf) #[] lb) (hFg : F.fn gf) (eg : ∀ args w, (callFunc gf args).run P w = .ok (.enter gf args) w)
  {encs : α → Array Value} (hps : ∀ x, (encs x).size = ps.size) (I : List α → World → Prop) (Px : List α → α → Prop) (Kp : World → World → Prop)
  (hIp : ∀ (pre : List α) (A : World) (l : Nat) (o o0 : Obj), I pre A → A.heap[l]? = some o0 → o0.isCells = false → w.heap.size ≤ l → I pre (A.putObj l o)) (hIa : ∀ (pre : List α) (A : World) (o : Obj), I pre A → w.heap.size ≤ A.heap.size → I pre (A.alloc o)) (h0 : I [] w)
  (hKt : ∀ {A B C : World}, Kp A B → Kp B C → Kp A C) (hKp : ∀ (A : World) (l : Nat) (o o0 : Obj), A.heap[l]? = some o0 → o0.isCells = false → w.heap.size ≤ l → Kp A (A.putObj l o))
  (xs : List α)
  (hit : ∀ (l : Nat) (J : List α → World → Prop) (W1 : World), (∀ pre W, J pre W → I pre W) →
   (∀ pre A B, J pre A → I pre B → (∀ (k : Nat) (o : Obj), A.heap[k]? = some o → o.isCells = false → B.heap[k]? = some o) → J pre B) →
   (∀ pre x W, J pre W → Px pre x → YieldAt F (n - 1 - 1) P l (encs x) W fun e W' => e = .returned (.bool true) ∧ J (pre ++ [x]) W' ∧ Kp W W') → J [] W1 → (∀ (k : Nat), k < w.heap.size → W1.heap[k]? = w.heap[k]?) →
   CallsIn F (n - 1) P gf (#[.func (.yield l) #[] #[]] ++ lb) W1 fun e W' => (∃ v, e = .returned v) ∧ J xs W')
  (a₁ : α → Act)
  (hassign : ∀ (l : Nat) (x : α) (W : World) (K : Act → World → Prop), K (a₁ x) W →
   assign.wpIn (F.inRound l) (n - 1 - 1) P (Exit.then K (fun _ _ _ => False)) { tmps := (ps.zip (encs x)).foldl (fun t (p, v) => t.setIfInBounds p v) a.tmps, defers := [] } W)
  (hbody : ∀ (l : Nat) (pre : List α) (x : α) (W : World), I pre W → Px pre x →
   body.wpIn (F.inRound l) (n - 1 - 1) P (fun e _ W' => e = .normal ∧ KeepsOthers W W' ∧ Kp W W' ∧ I (pre ++ [x]) W') (a₁ x) W)
  (hdone : ∀ (D : Nat) (W : World), w.heap.size ≤ D → I xs W → W.heap[D]? = some (.deferred (some [])) → Q .normal { a with defers := { target := .collected D, args := #[] } :: a.defers } W) :
  (Code.rangeFunc g ps assign body).wpIn F n P Q a w := by
 refine wpIn_rangeFunc ?_
 intro fn hfn
 rw [hro]
 obtain ⟨rec, hrec⟩ : ∃ rec : LoopState → Option Code → Loop, rec = fun st pe => { state := st, pending := pe, fn, tmps := a.tmps, params := ps, assign, body, defers := w.heap.size } := ⟨_, rfl⟩
 obtain ⟨W1, hW1⟩ : ∃ W1, (w.alloc (.deferred (some []))).alloc (.loop (rec .ready none)) = W1 := ⟨_, rfl⟩
 have hL1 : W1.heap[w.heap.size + 1]? = some (.loop (rec .ready none)) := by
  rw [← hW1]; have := World.alloc_heap_new (w.alloc (.deferred (some []))) (.loop (rec .ready none)); rwa [World.size_alloc] at this
 have hK1 : W1.heap[w.heap.size]? = some (.deferred (some [])) := by
  rw [← hW1]; exact (Below.heap_alloc _ _ _ D8).trans (World.alloc_heap_new w _)
 have hI1 : I [] W1 := by rw [← hW1]; exact hIa _ _ _ (hIa _ _ _ h0 (Nat.le_refl _)) D8
 refine ⟨w.heap.size + 1, [{ target := .collected w.heap.size, args := #[] }], W1, { target := .fn (.func gf) lb, args := #[.func (.yield (w.heap.size + 1)) #[] #[]] }, W1, gf,
  #[.func (.yield (w.heap.size + 1)) #[] #[]] ++ lb, W1, ?_, ?_, ?_, ?_, fun _ => h1, ?_⟩
 ·rw [← hW1, hrec]; exact run_enterLoop_outer _ _ _ _ _
 ·simp only [resolve, hg]
  simp [go_sem]
 ·intro f' hf'; simp [Target.leads] at hf'; subst hf'; exact hFg
 ·simp [invoke, go_sem, eg]
 ·refine (hit (w.heap.size + 1) (fun pre W => I pre W ∧ W.heap[w.heap.size + 1]? = some (.loop (rec .ready none)) ∧ W.heap[w.heap.size]? = some (.deferred (some []))) W1
   (fun pre W h => h.1) (fun pre A B hA hB hk => ⟨hB, hk _ _ hA.2.1 rfl, hk _ _ hA.2.2 rfl⟩) ?_ ⟨hI1, hL1, hK1⟩ (fun k hk => by rw [← hW1]; exact (Below.heap_alloc _ _ _ (by simp; omega)).trans (Below.heap_alloc _ _ _ hk))).mono ?_
  ·rintro pre x W ⟨hi, hl, hk⟩ hpx
   have hlt : w.heap.size + 1 < W.heap.size := (Array.getElem?_eq_some_iff.1 hl).1
   have hy := run_yield (P := P) (args := encs x) hl (by rw [hrec]; exact hps x)
   rw [hrec] at hy
   refine ⟨fn, _, assign, body, hy, roundIn_of_wpIn hfn (hassign _ x W _ ⟨_, run_beginRound hl (by rw [hrec]), ?_⟩)⟩
   have hl2 : (W.putObj (w.heap.size + 1) (.loop { rec .ready none with state := .busy })).heap[w.heap.size + 1]? = some (.loop { rec .ready none with state := .busy }) := World.putObj_heap_same hlt
   have hk2 : (W.putObj (w.heap.size + 1) (.loop { rec .ready none with state := .busy })).heap[w.heap.size]? = some (.deferred (some [])) := (World.putObj_heap_other A2).trans hk
   refine wpIn_mono (hbody _ pre x _ (hIp _ _ _ _ _ hi hl rfl A2) hpx) ?_
   rintro e a3 W3 ⟨rfl, hk3, hkp3, hi3⟩
   have hl3 := hk3.same _ _ hl2 rfl
   have hend := run_endRound (P := P) none hl3
   rw [hrec] at hl3 hend
   refine ⟨_, _, hend, rfl, ⟨hIp _ _ _ _ _ hi3 hl3 rfl A2, ?_, ?_⟩, hKt (hKt (hKp _ _ _ _ hl rfl A2) hkp3) (hKp _ _ _ _ hl3 rfl A2)⟩
   ·rw [hrec]; exact World.putObj_heap_same (Array.getElem?_eq_some_iff.1 hl3).1
   ·exact (World.putObj_heap_other A2).trans (hk3.same _ _ hk2 rfl)
  ·rintro e W2 ⟨⟨v, rfl⟩, hi, hl, hk⟩
   exact ⟨none, _, by have := run_endLoop (P := P) hl (by rw [hrec]; simp); rw [hrec] at this; exact this, hdone _ _ (Nat.le_refl _) (hIp _ _ _ _ _ hi hl rfl A2) ((World.putObj_heap_other A2).trans hk)⟩
end Go.Hy
namespace Go.Hy
open Go.Proofs Go.Proofs.Tryz
set_option maxRecDepth 100000
theorem B4r (l : List Cl) (a_l : SH) (m : List Cl) (a_m : SH)  : Spec prog 31 #[sl a_l (l.length), sl a_m (m.length)] [CL l a_l, CL m a_m] [] (fun _ : Unit => .bool ((decide (l = m)))) (fun _ => []) (fun _ => []) := by
 refine Dv ntmps31 fun B hB => ?_
 refine A4 (l := l) (a := a_l) (fun hl1 hA1 hU1 => ?_); refine A4 (l := m) (a := a_m) (fun hl2 hA2 hU2 => ?_); refine Wi ?_; refine Kg ?_; refine Ef ?_; refine Kg ?_; refine Xf ?_; refine Cc (decide ((l.length : Int) ≠ (m.length : Int))) (fun h10 c10 => ?_) (fun h10 c10 => ?_)
 ·have hne : ¬ l = m := fun e => by subst e; simp at h10
  refine Cv ?_; refine Av f_ rfl Ab () (by rw [decide_eq_false hne]) (fun w hs => hs.none)
 ·have hlen : l.length = m.length := by simp at h10; omega
  refine Jt ?_; refine Cv ?_; refine Hq ?_; refine Bt (X := Nat) (fun s_ => s_ ≤ l.length ∧ ∀ j, j < s_ → l.getD j Bc = m.getD j Bc) (fun s_ => [(0, sl a_l (l.length)), (1, sl a_m (m.length)), (5, iv ((s_ : Int)))]) (fun s_ G_ => G_) (fun s_ => []) (fun s_ => l.length - s_) (0) (⟨by omega, fun j hj => by omega⟩) (by exact Fm) ?_ ?_
  ·exact fun w hs => hs
  ·intro i base0 ⟨hi, hok⟩ next0; refine Ha ?_; refine Ef ?_; refine Kg ?_; refine Vf ?_; refine Ij ?_; refine Cc (decide ((i : Int) < (l.length : Int))) (fun h14 c14 => ?_) (fun h14 c14 => ?_)
   ·refine Jv ?_; refine Bd (pn := 1000000) (tn := false) (A := [0, 0, 3, 7, 0, 0, 48, 112, 255]) (l := [0, 1, 2, 3, 4, 5, 6, 7, 8]) (fin := []) Tab.mixed ⟨_, func31⟩ (by rfl) ?_; refine Hx ?_; obtain ⟨bk3, o3, hav3⟩ := hA1 A2; refine n0 rfl (Fq ?_ (j := i)); refine n0 rfl (B7f ?_); refine Hx ?_; obtain ⟨bk4, o4, hav4⟩ := hA2 A2; refine n0 rfl (Fq ?_ (j := i)); refine n0 rfl (B7f ?_); refine n0 rfl (D1u ?_ (c := (l.getD i Bc)) (c' := (m.getD i Bc))); refine I6 ?_; refine Cc (!decide ((l.getD i Bc) = (m.getD i Bc))) (fun h25 c25 => ?_) (fun h25 c25 => ?_)
    ·refine Cv ?_; refine Av f_ rfl Ab () (by rw [decide_eq_false (fun e => by subst e; simp at h25)]) (fun w hs => hs.none)
    ·refine I5 ?_; refine Ey ?_; refine P6 ?_; have hb : l.getD i Bc = m.getD i Bc := by simpa using h25
     refine A3 (fun w hs => ?_) (next0 (i + 1) _ (⟨by omega, C4a hok hb⟩) A2 Fm); exact (hs.l9)
   ·refine Dz ?_; refine Cv ?_; refine Av f_ rfl Ab () (by rw [decide_eq_true (Ou hlen (fun j hj => hok j A2))]) (fun w hs => hs.none)
end Go.Hy
namespace Go.Hy
open Go.Proofs Go.Proofs.Tryz
set_option maxRecDepth 100000
attribute [local go_sem] Oper.semAt_some
open Go.RowKit Go.Shelf
set_option maxHeartbeats 1000000
theorem E1r (F : Fence) (n : Nat) (hF : F.fn 258) (hro : F.round = none) (r : Nat) (k idx : Nat) (hk : k < 24) (h0 : ((r : Int) == 0) = false)
  (key : bits BinOp.and IntKind.u32 (r : Int) (-(r : Int) % 4294967296) * 125613361 % 4294967296 / 134217728 = (idx : Int)) (hi : idx < 32) (W : World) (hc : W.cell? ⟨0, idx, none⟩ = some (.int .u8 (k : Int))) :
  CallsIn F n prog 258 #[.int .u32 (r : Int)] W fun e w' => e = .returned (iv (k : Int)) ∧ w' = W := by
 refine callsIn_of_wp func258 rfl hF ?_ hro; simp only [ntmps258, List.size_toArray, List.length_cons, List.length_nil, Nat.reduceAdd, Nat.reduceSub, Array.replicate_succ, Array.replicate_zero, List.push_toArray, List.append_toArray, List.nil_append, List.cons_append]
 gi_wp2_with (simp only [key])
 go_ret
 exact ⟨rfl, rfl⟩
theorem tz32' (F : Fence) (n : Nat) (hF : F.fn 258) (hro : F.round = none) (r : Nat) (h0 : ¬ r = 0) (hr : r < 16777216) (W : World) (hT : TabAt 0 Lib.deBruijn32tab W) :
  CallsIn F n prog 258 #[.int .u32 (r : Int)] W fun e w' => e = .returned (iv (Lib.ctz 32 r : Int)) ∧ w' = W := by
 obtain ⟨hlow, hk⟩ := Lib.lowest_bit 32 r h0 A2; obtain ⟨hi, htab⟩ := Lib.deBruijn32_at _ hk; have hcell := hT _ hi; rw [htab] at hcell; exact E1r F n hF hro r _ _ (A4m h0 hr).1 (by simp; omega) (tz32_key r _ A2 h0 hlow) hi W hcell
theorem in1 (F : Fence) (n : Nat) (h208 : F.fn 257) (h209 : F.fn 258) (hro : F.round = none) (hn : 1 ≤ n) (l g : Nat) (s : Nat) (J : List Int → World → Prop)
  (hY : ∀ pre x W, J pre W → pre.length < 24 → (0 ≤ x ∧ x < 24) → YieldAt F (n - 1) prog l #[iv x] W fun e W' => e = .returned (.bool true) ∧ J (pre ++ [x]) W' ∧ W'.heap[g]? = W.heap[g]?)
  (hT : ∀ pre W, J pre W → TabAt 0 Lib.deBruijn32tab W)
  (hJ : ∀ pre W v, J pre W → J pre (W.setCell ⟨g, 0, none⟩ v))
  (hs : s < 4294967296) (W : World) (hg : Boxed W g 89 (.int .u32 (s : Int))) (h0 : J [] W) :
  CallsIn F n prog 257 #[.func (.yield l) #[] #[], pz g] W fun e W' => (∃ v, e = .returned v) ∧ J (Bi s) W' := by
 refine callsIn_of_wp func257 rfl h208 ?_ hro; simp only [ntmps257, List.size_toArray, List.length_cons, List.length_nil, Nat.reduceAdd, Nat.reduceSub, Array.replicate_succ, Array.replicate_zero, List.push_toArray, List.append_toArray, List.nil_append, List.cons_append]; have hc := hg.cell; have hf := hg.frozen
 gi_wp2
 gi_loopw [] (fun wr => ∃ (pre : List Int) (r : Nat), Bi s = pre ++ Bi r ∧ r < 16777216 ∧ Boxed wr g 89 (.int .u32 (r : Int)) ∧ J pre wr)
  (fun wr => match wr.cell? ⟨g, 0, none⟩ with | some (.int _ v) => v.toNat | _ => 0)
 case atStart =>
  refine ⟨[], s &&& 16777215, by rw [List.nil_append, C1n], by rw [A5p]; exact Nat.mod_lt _ Fb, ?_, hJ _ _ _ h0⟩; rw [← bits_and_u32_nat s 16777215 hs Fb]; exact hg.set _
 case round =>
  obtain ⟨pre, r, hx, hr, hb, hj⟩ := hrel; have hc2 := hb.cell; have hf2 := hb.frozen; by_cases hr0 : r = 0
  ·subst hr0
   gi_wp2
   go_end0
   exact ⟨⟨_, rfl⟩, by rw [hx, show Bi 0 = [] from by decide, List.append_nil]; exact hj⟩
  ·obtain ⟨hk, hlist⟩ := A4m hr0 hr
   have hlen : pre.length < 24 := by
    have h1 := congrArg List.length hx; have h2 : (Bi s).length ≤ 24 := K6 s 24; rw [List.length_append, hlist, List.length_cons] at h1; omega
   obtain ⟨fn, tmps, assign, body, hy, hR⟩ := hY pre (Lib.ctz 32 r : Int) wr hj hlen A2; have hbe : ((r : Int) != 0) = true := by simp; omega
   gi_wp2_with (gi_at_call 258; refine (tz32' F (n - 1) h209 hro r hr0 hr wr (hT _ _ hj)).mono ?_; rintro e w' ⟨rfl, rfl⟩)
   refine hR.mono ?_; rintro e W3 ⟨rfl, hJ3, hg3⟩; have hb3 : Boxed W3 g 89 (.int .u32 (r : Int)) := hg3.trans hb; have hc3 := hb3.cell; have hf3 := hb3.frozen
   gi_wp2
   have e1 : bits BinOp.and IntKind.u32 (r : Int) ((r : Int) - 1) = ((r &&& (r - 1) : Nat) : Int) := by
    rw [show (r : Int) - 1 = ((r - 1 : Nat) : Int) by omega]; exact bits_and_u32_nat r (r - 1) A2 A2
   rw [e1]; have hb4 := hb3.set (.int .u32 ((r &&& (r - 1) : Nat) : Int)); have hlt := D4v hr0
   go_roundw
   case rel => exact ⟨pre ++ [(Lib.ctz 32 r : Int)], r &&& (r - 1), by rw [hx, hlist, List.append_assoc]; rfl, by omega, hb4, hJ _ _ _ hJ3⟩
   case measure =>
    rw [hb4.cell, hc2]; simp only [Int.toNat_natCast]; exact hlt
theorem D9n (F : Fence) (n : Nat) (h : F.fn 206) (hro : F.round = none) (s : Nat) (w : World) :
  CallsIn F n prog 206 #[.int .u32 (s : Int)] w fun e w' => e = .returned (.func (.func 257) #[] #[.pointer (some ⟨w.heap.size, 0, none⟩)]) ∧ w' = w.alloc (.cells #[.int .u32 (s : Int)] 89) := by
 refine callsIn_of_wp func206 rfl h ?_ hro; simp only [ntmps206, List.size_toArray, List.length_cons, List.length_nil, Nat.reduceAdd, Nat.reduceSub, Array.replicate_succ, Array.replicate_zero, List.push_toArray, List.append_toArray, List.nil_append, List.cons_append]
 gi_wp2
 go_ret
 exact ⟨rfl, rfl⟩
theorem D0t : (prog.info? 3).map (fun i => (i.zero, i.size, i.bytes)) = some (some (iv 0), 1, 8) := by kernel_rfl
theorem D0p (F : Fence) (n : Nat) (h81 : F.fn 123) (h156 : F.fn 206) (h208 : F.fn 257) (h209 : F.fn 258) (hro : F.round = none) (hn : 3 ≤ n) (s : Nat) (hs : s < 4294967296) (w : World) (hw : 0 < w.heap.size) (hT : TabAt 0 Lib.deBruijn32tab w) :
  CallsIn F n prog 123 #[.int .u32 (s : Int)] w fun e W' => ∃ v, e = .returned v ∧ W'.ownsRow w.heap.size 3 1 v (Bi s).length ((Bi s).map (Value.int .i64)) ∧ Below w.heap.size w W' := by
 have h1 : 1 ≤ n := by omega
 obtain ⟨i0, hi, hz0, hz1, hz2⟩ := info_parts D0t; refine callsIn_of_wp_marks func123 rfl h81 ?_ hro; simp only [ntmps123, List.size_toArray, List.length_cons, List.length_nil, Nat.reduceAdd, Nat.reduceSub, Array.replicate_succ, Array.replicate_zero, List.push_toArray, List.append_toArray, List.nil_append, List.cons_append]
 gi_wp2_with (gi_at_call 206; refine (D9n F (n - 1) h156 hro _ _).mono ?_; rintro e w' ⟨rfl, rfl⟩)
 obtain ⟨w2, hw2⟩ : ∃ w2, (w.alloc (.cells #[.slice none 0 0] 140)).alloc (.cells #[.int .u32 (s : Int)] 89) = w2 := ⟨_, rfl⟩; have bO : Boxed w2 w.heap.size 140 (.slice none 0 0) := by rw [← hw2]; exact (Boxed.new w 140 (.slice none 0 0)).alloc _
 have bS : Boxed w2 (w.heap.size + 1) 89 (.int .u32 (s : Int)) := by rw [← hw2]; have := Boxed.new (w.alloc (.cells #[.slice none 0 0] 140)) 89 (.int .u32 (s : Int)); rwa [World.size_alloc] at this
 have hsz2 : w2.heap.size = w.heap.size + 2 := by rw [← hw2]; simp
 have hB2 : Below w.heap.size w w2 := by rw [← hw2]; exact ((Below.refl _ w).alloc (Nat.le_refl _) _).alloc D8 _
 have hrw : ∀ {A B : World}, B.heap[w.heap.size + 1]? = A.heap[w.heap.size + 1]? → ∀ u, Boxed A (w.heap.size + 1) 89 u → Boxed B (w.heap.size + 1) 89 u := fun h u hu => h.trans hu
 simp only [World.size_alloc, hw2]
 refine C0p hro h1 (gf := 257) (lb := #[.pointer (some ⟨w.heap.size + 1, 0, none⟩)]) rfl h208 (enters_of func257 (by kernel_rfl) rfl) (encs := fun x : Int => #[iv x]) (fun _ => rfl)
  (fun pre W => (∃ v, Boxed W w.heap.size 140 v ∧ W.ownsRow w.heap.size 3 1 v pre.length (pre.map (Value.int .i64))) ∧ (∃ u, Boxed W (w.heap.size + 1) 89 u) ∧ Below w.heap.size w W)
  (fun pre x => pre.length < 24 ∧ (0 ≤ x ∧ x < 24)) (fun W W' => W'.heap[w.heap.size + 1]? = W.heap[w.heap.size + 1]?)
  ?ip ?ia ⟨⟨_, bO, World.ownsRow_nil _ _ _ _⟩, ⟨_, bS⟩, hB2⟩ (fun h k => k.trans h) ?kp (Bi s) ?it
  (fun x => { tmps := #[.int .u32 (s : Int), undef, .slice none 0 0, .pointer (some ⟨w.heap.size, 0, none⟩), iv x, .int .u32 (s : Int), .func (.func 257) #[] #[.pointer (some ⟨w.heap.size + 1, 0, none⟩)], iv x, undef, undef, undef, undef, undef], defers := [] }) ?assign ?body ?done
 case ip =>
  rintro pre A l o o0 ⟨⟨v, hv, hr⟩, ⟨u, hu⟩, hB⟩ hl hc hle; refine ⟨⟨v, (World.putObj_heap_other A2).trans hv, ownsRow_putObj hr o hl hc⟩, ⟨u, (World.putObj_heap_other A2).trans hu⟩, hB.trans ⟨rfl, rfl, rfl, by simp, fun k hk => World.putObj_heap_other A2⟩⟩
 case ia =>
  rintro pre A o ⟨⟨v, hv, hr⟩, ⟨u, hu⟩, hB⟩ hle; exact ⟨⟨v, hv.alloc o, hr.kept (World.grownBy_alloc A o none) (by rcases hr.2 with ⟨rfl, _⟩ | ⟨g, cap, cur, rfl, _⟩; exact .inl rfl; exact .inr (by simp [Value.ownBlock]))⟩, ⟨u, hu.alloc o⟩, hB.alloc A2 o⟩
 case kp =>
  intro A l o o0 hl hc hle; exact World.putObj_heap_other A2
 case it =>
  intro l J W1 hJI hJk hY h0 hk1; refine in1 F (n - 1) h208 h209 hro A2 l (w.heap.size + 1) s J (fun pre x W hj hl hx => hY pre x W hj ⟨hl, hx⟩) (fun pre W hj => ?_) (fun pre W v hj => ?_) hs W1 ?_ h0
  ·intro i hi; exact ((hJI _ _ hj).2.2.cell (p := ⟨0, i, none⟩) hw).trans (hT i hi)
  ·obtain ⟨⟨v0, hv0, hr⟩, ⟨u, hu⟩, hB⟩ := hJI _ _ hj; refine hJk pre W _ hj ⟨⟨v0, hv0.other A2 v, hr.kept (grownBy_setCell' W (w.heap.size + 1) v) (.inr (hu.not_row Fb hr).symm)⟩, ⟨_, hu.set v⟩, hB.setCell (p := ⟨w.heap.size + 1, 0, none⟩) D8 v⟩ (fun k o hk ho => (KeepsOthers.setCell W _ v).same k o hk ho)
  ·exact (hk1 _ A2).trans bS
 case assign =>
  intro l x W K hK
  gi_wp2
  exact hK
 case body =>
  rintro l pre x W ⟨⟨v, hv, hrow⟩, ⟨u, hu⟩, hB⟩ ⟨hlt, hx⟩; have hc := hv.cell
  gi_wp2_with (gi_at_builtin; refine wpListIn_append_own _ rfl _ _ 140 rfl w.heap.size 3 i0 (iv 0) 1 8 Tryz.underlying140 hi hz0 hz1 hz2 rfl Fb _ _ _ rfl (hrow.alloc _) ⟨W.heap.size, 0, none⟩ 1 1 [iv x] rfl rfl (cell_one_new _ _ _) (by simp [Value.oneCell']) (by unfold maxLen; omega) A2 (by have := hB.size; simp; omega) ?_; intro v' w1 hown' hgrow _; obtain ⟨g', cap', rfl⟩ := ownsRow_succ hown'; obtain ⟨hv1, hv2, hr2, hk2, hb2⟩ := hv.appended Fb hrow hB.size (Nat.le_refl _) hown' hgrow; have hc1 := hv1.cell; have hf1 := hv1.frozen)
  have hu1 := ((hu.alloc (.cells #[iv x] 3)).kept hgrow (hu.not_row Fb hrow)).other (B' := w.heap.size) A2 (.slice (some ⟨g', 0, none⟩) (pre.length + 1) cap'); exact ⟨hu1.trans hu.symm, ⟨_, hv2, by simpa using hr2⟩, ⟨u, hu1⟩, hB.trans hb2⟩
 case done =>
  rintro D W hD ⟨⟨v, hv, hrow⟩, _, hB⟩ hK; have hc := hv.cell
  gi_wp2
  refine ⟨by simp, .inl ⟨_, _, rfl, run_takeDeferred hK, ?_⟩⟩; exact ⟨_, results_tmp rfl _ _ _, v, rfl, ownsRow_putObj hrow _ hK rfl, hB.trans ⟨rfl, rfl, rfl, by simp, fun k hk => World.putObj_heap_other A2⟩⟩
abbrev P1 : Fact := At 0 0 (Lib.deBruijn32tab.map fun (v : Nat) => Value.int .u8 (v : Int))
theorem D3f {ok : Nat → Prop} {w : World} (h : P1.f ok w) (hk : ∀ b, ok b → b < w.heap.size) : TabAt 0 Lib.deBruijn32tab w ∧ 0 < w.heap.size := by
 refine ⟨fun j hj => ?_, hk _ h.1⟩; have h1 := h.2 j (.int .u8 (Lib.deBruijn32tab.getD j 0 : Nat)) (by rw [List.getElem?_map, List.getD_eq_getElem?_getD, List.getElem?_eq_getElem hj]; rfl)
 rwa [Nat.zero_add] at h1
theorem C1l (s : Nat) (hs : s < 4294967296) : Spec prog 123 #[.int .u32 (s : Int)] [P1] [] (fun x : SH => sl x (Bi s).length) (fun _ => []) (fun x => [Ap 1 3 x (Bi s).length (Rb (Bi s))]) := fun ok w hok hst => by
 obtain ⟨hT, hw⟩ := D3f (hst.facts P1 List.mem_cons_self) (fun b hb => hb.2.1); refine (callsIn_wide.mp (D0p Fence.wide 3 trivial trivial trivial trivial rfl (Nat.le_refl _) s hs w hw hT)).mono fun e w' hh => ?_
 obtain ⟨v, rfl, hrow, hB⟩ := hh; obtain ⟨a, rfl⟩ := B8b hrow
 have hrow0 : w'.ownsRow 0 3 1 (sl a (Bi s).length) (Bi s).length (Rb (Bi s)) := by
  have h1 : w'.ownsRow 0 3 1 (sl a (Bi s).length) (Bi s).length ((Bi s).map (Value.int .i64)) := ⟨hrow.1, hrow.2.imp id (fun ⟨g, cap, cur, q1, q2, q3⟩ => ⟨g, cap, cur, q1, Nat.zero_le _, q3⟩)⟩
  rwa [show (Bi s).map (Value.int .i64) = Rb (Bi s) from by induction (Bi s) with | nil => rfl | cons y ys ih => (simp only [List.map_cons, Rb, List.flatMap_cons, Qb, List.singleton_append] at ih ⊢; rw [ih])] at h1
 refine ⟨a, rfl, ⟨hB.os, hB.tape, hB.output, hB.size, fun b hb _ => hB.block b hb⟩, fun _ hF => (by cases hF), ?_, ?_, List.pairwise_singleton _ _⟩
 ·intro m hm w2 hw2; rw [List.mem_singleton] at hm; subst hm; exact Ym hrow0 (fun b hb => hw2 b hb)
 ·intro m hm b hb; rw [List.mem_singleton] at hm; subst hm; have := hrow.lt b hb; exact ⟨this.2, .inr this.1⟩
theorem A4k (s : Nat) (hs : s < 4294967296) : Spec prog 123 #[.int .u32 (s : Int)] [P1] [] (fun x : SH => sl x (Bi s).length) (fun x => [IL (Bi s) x]) (fun _ => []) := fun ok w hok hst => (C1l s hs ok w hok hst).mono fun e w' hh => by
 obtain ⟨x, he, h⟩ := hh; have hl : (Bi s).length ≤ 24 := K6 s 24; exact ⟨x, he, h.B0c trivial rfl rfl (by unfold reach; omega) (fun c hc => by have := A4l hc; unfold Ao; omega)⟩
end Go.Hy
namespace Go.Hy
open Go.Proofs Go.Proofs.Tryz
set_option maxRecDepth 100000
theorem Hl (i : Int) : Spec prog 195 #[iv i] [] [] (fun _ : Unit => .bool (decide (0 ≤ i) && decide (i < 24))) (fun _ => []) (fun _ => []) := by
 refine Dv ntmps195 fun B hB => ?_
 refine I4 ?_; refine B4b ?_; refine Ef ?_; refine qI rfl rfl rfl Mk (fun hg5 => G8 ?_) (fun hg5 => ?_)
 ·refine qT rfl rfl rfl (A4f ?_); refine H7 ?_; refine Av f_ rfl Ab () (by first | (simp_all; done) | (simp_all; omega)) (fun w hs => hs.none)
 ·refine zq4 ?_; refine Gt ?_; refine Av f_ rfl Ab () (by first | (simp_all; done) | (simp_all; omega)) (fun w hs => hs.none)
theorem Q4 (s : Nat) (hs : s < 4294967296) : Spec prog 249 #[.int .u32 (s : Int)] [] [] (fun _ : Unit => .bool (decide (s < 16777216))) (fun _ => []) (fun _ => []) := by
 refine Dv ntmps249 fun B hB => ?_
 refine I4 ?_; refine q0 rfl (Q2 ?_ (b := 16777215)); refine q0 rfl (X1 ?_ (b := 0)); refine Ce ?_; refine Av f_ rfl Ab () (by rw [B3r hs]) (fun w hs => hs.none)
theorem Vg (s : Nat) (hs : s < 4294967296) : Spec prog 112 #[.int .u32 (s : Int), iv (-1)] [] [] (fun _ : Unit => .int .u32 ((s &&& 16777215 : Nat) : Int)) (fun _ => []) (fun _ => []) := by
 refine Dv ntmps112 fun B hB => ?_
 refine I4 ?_; refine q0 rfl (I8 ?_ (b := 16777215)); refine Ce ?_; refine Ha ?_; refine q0 rfl (A1 call195 (Hl (-1)) (fun x8 => ?_)); refine Jw ?_; refine A7 (fun h9 => ?_) (fun h9 => ?_)
 ·refine L0 ?_; refine Av f_ rfl Ab () rfl (fun w hs => hs.none)
 ·exact absurd h9 Fb
theorem Sz : C8t := by
 intro l a; refine Dv ntmps64 fun B hB => ?_
 refine A4 (l := l) (a := a) (fun hl1 hA1 hU1 => ?_); refine Cv ?_; refine P4 ?_; refine Fv (X := Nat) (fun i => i ≤ l.length) (fun i => [(3, .int .u32 (Om l i : Int)), (6, sl a l.length), (7, iv (l.length : Int)), (8, iv (i : Int))]) (fun i => [CL l a]) (fun i => []) (fun i => l.length - i) (0) (Nat.zero_le _) (by exact Fm) ?_ ?_
 ·exact fun w hs => hs.l8
 ·intro i base0 hi next0; refine Gs ?_; refine A7 (fun h9 => ?_) (fun h9 => ?_)
  ·have hlt : i < l.length := by have := of_decide_eq_true h9; omega
   obtain ⟨bk, o, hav⟩ := hA1 A2; have hu := hU1 _ (Ai (d := Bc) hlt); have hup := A4a hU1 i; have hor : (l.getD i Bc).pos ||| (l.getD i Bc).neg < 4294967296 := Nat.or_lt_two_pow (n := 32) hu.1 hu.2; refine Jb ?_; refine Tf ?_; refine Td ?_; refine q0 rfl (B7 fun b5 => ?_); refine E8 ?_; refine Ey ?_; refine Lp ?_; refine Lp ?_; refine q0 rfl (Oq ?_ (a := (l.getD i Bc).pos) (b := (l.getD i Bc).neg) (ha := hu.1) (hb := hu.2)); refine q0 rfl (Oq ?_ (a := Om l i) (b := (l.getD i Bc).pos ||| (l.getD i Bc).neg)); refine Kz ?_; refine A3 (fun w hs => ?_) (next0 (i + 1) _ hlt A2 ⟨by rw [B1g hlt]; rfl, rfl, rfl, rfl, trivial⟩); exact (hs.l8).bare
  ·have hge : i = l.length := by have := of_decide_eq_false h9; omega
   refine Dz ?_; refine Es ?_; refine q0 rfl (A1 call112 (Vg (Om l i) (A4a hU1 i)) (fun x21 => ?_)); refine Ce ?_; refine Av f_ rfl Ab () (by rw [B2v, ← hge]) (fun w hs => hs.none)
theorem O6 (c : Cl) (hc : u32 c) : Spec prog 196 #[.agg (Al c).toArray] [] [] (fun _ : Unit => .bool (Bw c)) (fun _ => []) (fun _ => []) := by
 refine Dv ntmps196 fun B hB => ?_
 refine Ay ?_; refine q0 rfl (B8 fun b1 => ?_); refine Ce ?_; refine Hd ?_; refine q0 rfl (A1 call249 (Q4 c.pos hc.1) (fun x5 => ?_)); refine Ef ?_; refine qI rfl rfl rfl Mk (fun hg6 => Xh ?_) (fun hg6 => ?_)
 ·refine Se ?_; refine qT rfl rfl rfl (A1 call249 (Q4 c.neg hc.2) (fun x9 => ?_)); refine H7 ?_; refine Av f_ rfl Ab () (by first | (simp_all [Bw]; done) | (simp_all [Bw]; intros; omega)) (fun w hs => hs.none)
 ·refine Fc ?_; refine Gt ?_; refine Av f_ rfl Ab () (by first | (simp_all [Bw]; done) | (simp_all [Bw]; intros; omega)) (fun w hs => hs.none)
theorem A0m (c : Cl) (hc : u32 c) : Spec prog 248 #[.agg (Al c).toArray] [] [] (fun _ : Unit => .bool (Gy c)) (fun _ => []) (fun _ => []) := by
 refine Dv ntmps248 fun B hB => ?_
 refine Ay ?_; refine q0 rfl (B8 fun b1 => ?_); refine Ce ?_; refine Hd ?_; refine Lp ?_; refine q0 rfl (I8 ?_ (a := c.pos) (b := c.neg) (ha := hc.1) (hb := hc.2)); refine q0 rfl (B1n ?_ (b := 0)); refine Ce ?_; refine Av f_ rfl Ab () (by simp only [Gy]; congr 1; apply decide_eq_decide.mpr; omega) (fun w hs => hs.none)
theorem Vx (c d : Cl) (hc : u32 c) (hd : u32 d) : Spec prog 251 #[.agg (Al c).toArray, .agg (Al d).toArray] [] [] (fun _ : Unit => .agg (Al (Dq c d)).toArray) (fun _ => []) (fun _ => []) := by
 refine Dv ntmps251 fun B hB => ?_
 refine Ay ?_; refine q0 rfl (B8 fun b2 => ?_); refine q0 rfl (B8 fun b3 => ?_); refine q0 rfl (B7 fun b4 => ?_); refine Ij ?_; refine Hd ?_; refine Lp ?_; refine q0 rfl (Oq ?_ (a := c.pos) (b := d.pos) (ha := hc.1) (hb := hd.1)); refine Lp ?_; refine Lp ?_; refine q0 rfl (Oq ?_ (a := c.neg) (b := d.neg) (ha := hc.2) (hb := hd.2)); refine q0 rfl (B5 (cs := Al (Dq c d)) ?_); refine E8 ?_; refine Og f_ rfl () rfl Ea rfl rfl rfl rfl (fun w hs => hs.none)
theorem B6v (c d : Cl) (hc : u32 c) (hd : u32 d) : Spec prog 200 #[.agg (Al c).toArray, .agg (Al d).toArray] [] [] (fun _ : Unit => .bool (below c d)) (fun _ => []) (fun _ => []) := by
 refine Dv ntmps200 fun B hB => ?_
 refine Ay ?_; refine q0 rfl (B8 fun b2 => ?_); refine q0 rfl (B8 fun b3 => ?_); refine J4 ?_; refine Bd (pn := 1000000) (tn := false) (A := [0, 0, 3, 0, 15, 31]) (l := [0, 1, 3, 2, 4, 5]) (fin := []) Tab.mixed ⟨_, func200⟩ (by rfl) ?_; refine Lr ?_; refine Lr ?_; refine Lr ?_; refine n0 rfl (Be call251 (Vx c d hc hd) (fun x7 => ?_)); refine n0 rfl (D8b ?_ (c := Dq c d) (c' := c)); refine A1c ?_; refine I6 ?_; refine Av f_ rfl Ab () (by rw [B6x]) (fun w hs => hs.none)
end Go.Hy
namespace Go.Hy
open Go.Proofs Go.Proofs.Tryz
set_option maxRecDepth 100000
open Go.Shelf Go.RowKit Go.Lib Go.Sort
theorem D0s (a : Int) (W : World) : Calls prog 291 #[.int .u32 a] W fun e w' => e = .returned (.bool false) ∧ w' = W := by
 go_enter func291, ntmps291
 go_wp2
 go_ret
 exact ⟨by simp, rfl⟩
theorem C2o (a b : Int) (W : World) : Calls prog 254 #[.int .u32 a, .int .u32 b] W fun e w' => e = .returned (iv (compareInt a b)) ∧ w' = W := by
 go_enter func254, ntmps254
 go_wp2_with (go_at_call 291; refine (D0s _ _).mono ?_; rintro e w' ⟨rfl, rfl⟩)
 all_goals (go_ret; refine ⟨?_, rfl⟩; unfold Lib.compareInt; (repeat' split) <;> first | rfl | (exfalso; omega))
def B3g (c d : Cl) : Int := if c.pos = d.pos then compareInt c.neg d.neg else compareInt c.pos d.pos
set_option maxHeartbeats 1000000 in
theorem E1e (c d : Cl) (W : World) : Calls prog 202 #[.agg #[.int .u32 c.pos, .int .u32 c.neg], .agg #[.int .u32 d.pos, .int .u32 d.neg]] W fun e w' => e = .returned (iv (B3g c d)) ∧ ∃ q os', w' = grow (W.drewN q) os' := by
 have hcon := fun a b W' => C2o a b W'
 have e1 : B3g c d = if (c.pos : Int) = d.pos then compareInt c.neg d.neg else compareInt c.pos d.pos := by unfold B3g; simp only [Int.ofNat_inj]
 generalize hr : B3g c d = r at e1 ⊢
 go_enter func202, ntmps202
 go_wp2_with (go_at_call 254; refine (hcon _ _ _).mono ?_; rintro e w' ⟨rfl, rfl⟩)
 all_goals (go_ret; refine ⟨?_, 0, _, by rw [alloc_eq_grow, alloc_eq_grow, grow_grow]; rfl⟩)
 all_goals (rw [e1]; simp_all)
instance : Inhabited Cl := ⟨Bc⟩
theorem A8l (c d : Cl) : ltOf B3g c d = Dj c d := by
 unfold ltOf B3g Dj compareInt; by_cases h : c.pos = d.pos
 ·simp only [h, if_true]; by_cases h2 : c.neg < d.neg
  ·rw [if_pos A2]; simp [h2]
  ·rw [if_neg A2]; split <;> simp [h2]
 ·simp only [h, if_false]; by_cases h2 : c.pos < d.pos
  ·rw [if_pos A2]; simp [h2]
  ·rw [if_neg A2, if_pos A2]; simp [h2]
theorem D1c : SWO (ltOf B3g) where
 irrefl x := by rw [A8l]; simp [Dj]
 trans x y z h1 h2 := by
  rw [A8l] at *; simp only [Dj, Bool.or_eq_true, Bool.and_eq_true, decide_eq_true_eq] at *; omega
 ntrans x y z h1 h2 := by
  rw [A8l] at *; simp only [Dj, Bool.or_eq_false_iff, Bool.and_eq_false_iff, decide_eq_false_iff_not] at *; omega
theorem V1 (d : Array Cl) : (flatK Al 2 d).toList = A8 d.toList := by
 apply List.ext_getElem?; intro t; have hl : (A8 d.toList).length = d.size * 2 := by rw [Md El]; simp
 by_cases ht : t < d.size * 2
 ·have h1 : (flatK Al 2 d).toList[t]? = some (Al d[t / 2]!)[t % 2]! := by
   have hs : t < (flatK Al 2 d).size := by rw [size_flatK]; exact ht
   rw [Array.getElem?_toList, Array.getElem?_eq_getElem hs]; have := get_flatK Al 2 d t ht; rw [getElem!_pos _ t hs] at this; rw [this]
  rw [h1]; have hd : t / 2 < d.toList.length := by simp; omega
  have e : d.toList.getD (t / 2) Bc = d[t / 2]! := by
   have : t / 2 < d.size := by simpa using hd
   rw [getElem!_pos d (t / 2) this, List.getD_eq_getElem?_getD, List.getElem?_eq_getElem hd]; simp
  have h2 : (Al (d.toList.getD (t / 2) Bc))[t % 2]? = some (Al d[t / 2]!)[t % 2]! := by
   rw [e]; have : t % 2 < (Al d[t / 2]!).length := by rw [El]; omega
   rw [List.getElem?_eq_getElem this, getElem!_pos (Al d[t / 2]!) (t % 2) this]
  have := A7y El Bc d.toList (t / 2) (t % 2) _ hd h2; rw [show t / 2 * 2 + t % 2 = t by omega] at this; exact this.symm
 ·rw [List.getElem?_eq_none (by simp; omega), List.getElem?_eq_none A2]
theorem C0q (d : Array Cl) (l : List Cl) (rest : List Value) (hs : d.size = l.length) : putCells id 0 (flatK Al 2 d) (A8 l ++ rest).toArray = (A8 d.toList ++ rest).toArray := by
 apply Array.ext_getElem?; intro t; have hl : (A8 l).length = d.size * 2 := by rw [Md El, hs]
 have hl2 : (A8 d.toList).length = d.size * 2 := by rw [Md El]; simp
 simp only [putCells, Array.getElem?_mapIdx, List.getElem?_toArray, size_flatK, Nat.zero_add, Nat.zero_le, true_and, Nat.sub_zero, id]; by_cases ht : t < d.size * 2
 ·rw [List.getElem?_append_left A2, List.getElem?_append_left A2]
  have h1 : (A8 d.toList)[t]? = some (flatK Al 2 d)[t]! := by
   rw [← V1, Array.getElem?_toList]; have hsz : t < (flatK Al 2 d).size := by rw [size_flatK]; exact ht
   rw [Array.getElem?_eq_getElem hsz, getElem!_pos _ t hsz]
  rw [h1]; obtain ⟨v, hv⟩ : ∃ v, (A8 l)[t]? = some v := ⟨_, List.getElem?_eq_getElem A2⟩; rw [hv, Option.map_some, if_pos ht]
 ·rw [List.getElem?_append_right A2, List.getElem?_append_right A2, hl, hl2]; cases rest[t - d.size * 2]? with
  | none => rfl
  | some v => rw [Option.map_some, if_neg ht]
theorem C0h (l : List Cl) (g cap : Nat) (rest : List Value) (hn : l.length < 4611686018427387904) :
  Spec prog 201 #[.slice (some ⟨g, 0, none⟩) l.length cap, .func (.func 202) #[] #[]] [] [Aa g (A8 l ++ rest) 107] (fun _ : {l' : List Cl // l'.Perm l ∧ l'.Pairwise fun a b => Dj b a = false} => .tuple #[]) (fun _ => []) (fun x => [Aa g (A8 x.1 ++ rest) 107]) := by
 intro ok w hok hs; have hg : w.heap[g]? = some (.cells (A8 l ++ rest).toArray 107 (0, 0)) := hs.res _ List.mem_cons_self w (fun _ _ => rfl); have hlt : g < w.heap.size := (Array.getElem?_eq_some_iff.mp hg).1; have hu : prog.underlying 107 = some (.struct (TyF.fC prog)) := TyF.uC
 have aE : ∀ w, (isAgg (Tryz.Vp.t 24)).run prog w = .ok true w := fun w => by
  show (isAgg 107).run prog w = _; simp [isAgg, run_underlying hu]
 have zE : ∀ w, (Go.sizeOf (Tryz.Vp.t 24)).run prog w = .ok 2 w := fun w => Ir (P := prog) (t := 107) rfl w
 have hH : HoldsK Al 2 w g 0 l.toArray := by
  intro j hj; rw [size_flatK] at hj; have e : (flatK Al 2 l.toArray).toList = A8 l := by rw [V1]
  have hsz : j < (flatK Al 2 l.toArray).size := by rw [size_flatK]; exact hj
  have h1 : (A8 l)[j]? = some (flatK Al 2 l.toArray)[j]! := by
   rw [← e, Array.getElem?_toList, Array.getElem?_eq_getElem hsz, getElem!_pos _ j hsz]
  refine ⟨?_, by simp [World.frozen?, hg]⟩; have hlen : j < (A8 l).length := (List.getElem?_eq_some_iff.mp h1).1; simp only [World.cell?, hg, Nat.zero_add, Option.isSome_none, Bool.false_eq_true, if_false, List.getElem?_toArray, id]; rw [List.getElem?_append_left hlen]; exact h1
 have hc := AnyQ.slices_SortFunc (P := prog) Tryz.D1y 2 aE zE Al El (fun x v hv => by
   simp only [Al, List.mem_cons, List.not_mem_nil, or_false] at hv; rcases hv with rfl | rfl <;> rfl) B3g D1c 202 #[] g 0 cap l.toArray w call202
  (fun m os dk hsz x y => E1e x y _) hH hlt (by simpa using hn)
 have hc2 : Calls prog 201 #[.slice (some ⟨g, 0, none⟩) l.length cap, .func (.func 202) #[] #[]] w _ := hc; refine hc2.mono ?_; rintro e w' ⟨he, d', n, os, hp, hsd, hw⟩; have hsize : d'.size = l.length := by simpa using hp.1
 have hperm : d'.toList.Perm l := by
  have := hp.2.2; have e1 : d'.extract 0 l.toArray.size = d' := by rw [show l.toArray.size = d'.size by simp [hsize]]; simp
  have e2 : l.toArray.extract 0 l.toArray.size = l.toArray := by simp
  rw [e1, e2] at this; exact this
 have hsorted : d'.toList.Pairwise fun a b => Dj b a = false := by
  rw [List.pairwise_iff_getElem]; intro i j hi hj hij; have hi' : i < d'.size := by simpa using hi
  have hj' : j < d'.size := by simpa using hj
  have := hsd i j (Nat.zero_le _) hij (by simp; omega); rw [A8l, getElem!_pos d' j hj', getElem!_pos d' i hi'] at this; simpa using this
 have hg' : w'.heap[g]? = some (.cells (A8 d'.toList ++ rest).toArray 107 (0, 0)) := by
  rw [hw]; show ((mapBlock (Go.Sort.ahead w n) g (putCells id 0 (flatK Al 2 d'))).heap ++ os)[g]? = _; rw [Array.getElem?_append_left (by simp [mapBlock, Go.Sort.ahead]; exact hlt)]; simp only [mapBlock, Go.Sort.ahead, Array.getElem?_modify, if_true, hg, Option.map_some, onCells]; rw [C0q d' l rest hsize]
 have hold : ∀ b, b < w.heap.size → b ≠ g → w'.heap[b]? = w.heap[b]? := by
  intro b hb hne; rw [hw]; show ((mapBlock (Go.Sort.ahead w n) g (putCells id 0 (flatK Al 2 d'))).heap ++ os)[b]? = _; rw [Array.getElem?_append_left (by simp [mapBlock, Go.Sort.ahead]; exact hb)]; simp only [mapBlock, Go.Sort.ahead, Array.getElem?_modify, if_neg (Ne.symm hne)]
 have hsz' : w.heap.size ≤ w'.heap.size := by rw [hw]; simp [sortWorldK, putRowK, Go.Sort.ahead]
 refine ⟨⟨d'.toList, hperm, hsorted⟩, he, ?_⟩; have h0 : St ⟨ok, Bh [Aa g (A8 l ++ rest) 107], w⟩ [] ([Aa g (A8 l ++ rest) 107]) w := hs
 refine h0.Eb (m' := Aa g (A8 d'.toList ++ rest) 107) ⟨by rw [hw]; rfl, by rw [hw]; rfl, by rw [hw]; rfl, hsz', fun b hb hn => hold b hb hn⟩ (fun w2 hw2 => by
  show w2.heap[g]? = _; rw [hw2 g rfl]; exact hg') (fun b hb => ?_)
 have hb : b = g := hb; subst hb; exact ⟨by omega, .inl rfl⟩
end Go.Hy
namespace Go.Hy
open Go.Proofs Go.Proofs.Tryz
set_option maxRecDepth 100000
theorem B7w {M : List Bb} : M.Perm (M ++ []) := by rw [List.append_nil]
theorem B5y (l : List Cl) (a : SH) (c : FuncId) (cap : List Value) (FΓ : List Fact) (M : List Bb) (g : Cl → Bool) (hc : ∀ (args : Array Value) (w : World), (callFunc c args).run prog w = .ok (.enter c args) w) (hcl : ∀ x, x ∈ l → Spec prog c (Hb x :: cap).toArray FΓ M (fun _ : Unit => .bool (g x)) (fun _ => []) (fun _ => M)) : Spec prog 250 #[sl a l.length, .func (.func c) #[] cap.toArray] (CL l a :: FΓ) M (fun _ : Unit => iv (B5z g l)) (fun _ => []) (fun _ => M) := by
 refine Dv ntmps250 fun B hB => ?_
 refine A4 (l := l) (a := a) (fun hl1 hA1 hU1 => ?_); refine P4 ?_; refine Fv (X := Nat) (fun i => i ≤ l.length ∧ ∀ j, j < i → g (l.getD j Bc) = false) (fun i => [(0, sl a l.length), (1, .func (.func c) #[] cap.toArray), (7, iv (l.length : Int)), (8, iv (i : Int))]) (fun i => CL l a :: FΓ) (fun i => M) (fun i => l.length - i) (0) (⟨Nat.zero_le _, fun j hj => by omega⟩) (by exact Fm) ?_ ?_
 ·exact fun w hs => hs
 ·intro i base0 ⟨hi, hok⟩ next0; refine Gs ?_; refine A7 (fun h9 => ?_) (fun h9 => ?_)
  ·have hlt : i < l.length := by have := of_decide_eq_true h9; omega
   obtain ⟨bk, o, hav⟩ := hA1 A2; refine A5u ?_; refine L0 ?_; refine Es ?_; refine Ip ?_; refine Tf ?_; refine Td ?_; refine q0 rfl (Eo hc (hcl _ (Ai hlt)) (cap := cap) (fun x16 => ?_) (hm := B7w)); refine Ij ?_; refine A7 (fun h16 => ?_) (fun h16 => ?_)
   ·refine L0 ?_; refine Av f_ rfl Ab () (by rw [D0u hlt h16 hok]) (fun w hs => (hs.l8).Au)
   ·refine He ?_; refine A3 (fun w hs => ?_) (next0 (i + 1) _ ⟨hlt, fun j hj => (by rcases Nat.lt_succ_iff_lt_or_eq.mp hj with h | h; exact hok j h; subst h; exact h16)⟩ A2 Fm); exact (hs.l9).Au
  ·have hge : i = l.length := by have := of_decide_eq_false h9; omega
   refine Dz ?_; refine Cv ?_; refine Av f_ rfl Ab () (by rw [C1u (by rw [← hge]; exact hok)]) (fun w hs => hs.l8)
theorem Sb (l : List Cl) (a : SH) (c : FuncId) (cap : List Value) (FΓ : List Fact) (M : List Bb) (g : Cl → Bool) (hc : ∀ (args : Array Value) (w : World), (callFunc c args).run prog w = .ok (.enter c args) w) (hcl : ∀ x, x ∈ l → Spec prog c (Hb x :: cap).toArray FΓ M (fun _ : Unit => .bool (g x)) (fun _ => []) (fun _ => M)) : Spec prog 198 #[sl a l.length, .func (.func c) #[] cap.toArray] (CL l a :: FΓ) M (fun _ : Unit => .bool (l.any g)) (fun _ => []) (fun _ => M) := by
 refine Dv ntmps198 fun B hB => ?_
 refine I4 ?_; refine Ef ?_; refine q0 rfl (A1 call250 (B5y l a c cap FΓ M g hc hcl) (fun x7 => ?_) (hm := B7w)); refine B4b ?_; refine Ce ?_; refine Av f_ rfl Ab () (by rw [B2k]) (fun w hs => (hs.l8).Au)
theorem A7q (c d : Cl) (hc : u32 c) (hd : u32 d) (b : Nat) : Spec prog 199 #[Hb d, pz b] [] [Aa b (Al c) 107] (fun _ : Unit => .bool (!decide (c = d) && below c d)) (fun _ => []) (fun _ => [Aa b (Al c) 107]) := by
 refine Dv ntmps199 fun B hB => ?_
 refine Ay ?_; refine q0 rfl (B8 fun b2 => ?_); refine Ce ?_; refine Hp ?_; refine J5 ?_; refine q0 rfl (D9a ?_ (c := c) (c' := d)); refine Ef ?_; refine qI rfl rfl rfl Mk (fun hg7 => Ul ?_) (fun hg7 => ?_)
 ·refine qT rfl rfl rfl (Ul ?_); refine qT rfl rfl rfl (A1 call200 (B6v c d hc hd) (fun x10 => ?_)); refine H7 ?_; refine Av f_ rfl Ab () (by simp_all) (fun w hs => (hs.l8).drop)
 ·refine Fc ?_; refine Gt ?_; refine Av f_ rfl Ab () (by simp_all) (fun w hs => (hs.l8).drop)
theorem B2e (l : List Cl) (a : SH) (c : Cl) (hc : u32 c) (b : Nat) : Spec prog 197 #[Hb c, pz b] [CL l a] [Aa b [sl a l.length] 22] (fun _ : Unit => .bool (Cw l c)) (fun _ => []) (fun _ => [Aa b [sl a l.length] 22]) := by
 refine Dv ntmps197 fun B hB => ?_
 refine A4 (l := l) (a := a) (fun hl1 hA1 hU1 => ?_); refine Ay ?_; refine q0 rfl (B8 fun b2 => ?_); refine Ce ?_; refine Pn ?_; refine Pf ?_; refine q0 rfl (A1 call198 (Sb l a 199 [pz b2] [] [Aa b2 (Al c) 107] (fun d => !decide (c = d) && below c d) call199 (fun d hd => A7q c d hc (hU1 d hd) b2)) (fun x6 => ?_)); refine Ce ?_; refine Av f_ rfl Ab () rfl (fun w hs => (hs.l8).drop)
end Go.Hy
