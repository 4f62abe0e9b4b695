/- Contracts of this program's functions and the laws that they need. -/
import Derived.RangeFuncNested
import Derived.RangeFuncBound
import Derived.RangeFuncCalls
import Derived.RangeFuncLeaves
import Derived.RangeFuncBox
import Derived.Shelf.Abstract
import Derived.Shelf.RegionOpen
import Derived.WalkKit
import Derived.OwnWalkIn
import Derived.TacticsInMore
import Derived.LoopNIn
import Derived.LoopIn
import Derived.Tactics2
import Derived.Shelf.SlSortCmp.NoneTotal
import Derived.Test.YtibignmpjeemeaaGreatDoorP7
set_option linter.unusedVariables false
set_option linter.unusedSimpArgs false
set_option linter.unusedSectionVars false
namespace Go.Hy
theorem B1g {l : List Cl} {f b : Int} (hl : A5 l = true) (h0 : 0 ≤ f) (hb : 0 ≤ b) (h : ∀ j : Nat, (Eo l).testBit j = true → f ≤ (j : Int) → (j : Int) + b < 24) : ∃ g, Ah b l f = .ok g := by
 have hr := F4 hl
 have hm : ∀ c, c ∈ l → (An c f b).1 = 0 := fun c hc => by
  have h24 := List.all_eq_true.mp hr c hc
  have key : ∀ {s : Nat}, (∀ j, s.testBit j = true → (c.pos ||| c.neg).testBit j = true) → (Aa s f b).1 = 0 := fun {s} hs => by
   rw [Ts h0 hb fun x hx => ?_]
   obtain ⟨x0, x1, x2⟩ := Db.mp hx
   by_cases hxf : x < f
   ·exact .inl hxf
   ·right
    have := h x.toNat (G2.mpr ⟨by omega, c, hc, hs _ x2⟩) A3
    omega
  have p1 := key (s := c.pos) fun j hj => by rw [Nat.testBit_or, hj]; rfl
  have p2 := key (s := c.neg) fun j hj => by rw [Nat.testBit_or, hj, Bool.or_true]
  unfold An
  rw [if_neg (by rw [h24]; decide), if_neg (by simp [p1]), if_neg (by simp [p2])]
 have h1 : (Ad l f b).1 = 0 := by
  have e := Zu (Tx.mpr hm)
  unfold Ad
  rw [if_neg (by rw [hl]; decide), e, if_neg D2]
  refine A5o (List.all_eq_true.mpr fun d hd => ?_) (by rw [List.length_map]; exact H6 hl)
  obtain ⟨c, hc, rfl⟩ := List.mem_map.mp hd
  exact Sr (hm c hc)
 exact ⟨_, by rw [Mm hl h0 hb, if_pos h1]⟩
theorem Ny {l g : List Cl} {f b : Int} (hl : A5 l = true) (h0 : 0 ≤ f) (hb : 0 ≤ b) (h : Ah b l f = .ok g) (j : Nat) (hj : (Eo l).testBit j = true) (hf : f ≤ (j : Int)) : (j : Int) + b < 24 := by
 refine Decidable.byContradiction fun hn => ?_
 obtain ⟨h24, c, hc, hbit⟩ := G2.mp hj
 have hcl := (Rn hl h0 hb h).1 c hc
 obtain ⟨_, m1, m2, _⟩ := F5 hcl
 rw [Nat.testBit_or, Bool.or_eq_true] at hbit
 rcases hbit with hbit | hbit
 ·rw [A5d h0 hb (Db.mpr ⟨by omega, by omega, by simpa using hbit⟩ : (j : Int) ∈ Aq c.pos) hf A3] at m1
  cases m1
 ·rw [A5d h0 hb (Db.mpr ⟨by omega, by omega, by simpa using hbit⟩ : (j : Int) ∈ Aq c.neg) hf A3] at m2
  cases m2
theorem C7s {l g : List Cl} {f b : Int} (hl : A5 l = true) (h0 : 0 ≤ f) (hb : 0 ≤ b) (h : Ah b l f = .ok g) {j : Nat} (hj : (Eo l).testBit j = true) (hf : f ≤ (j : Int)) : (Eo g).testBit (j + b.toNat) = true := by
 obtain ⟨h24, c, hc, hbit⟩ := G2.mp hj
 have hlt := Ny hl h0 hb h j hj hf
 obtain ⟨q1, q2⟩ := Rn hl h0 hb h
 obtain ⟨_, m1, m2, m3⟩ := F5 (q1 c hc)
 refine G2.mpr ⟨by omega, _, (q2 _).mpr ⟨c, hc, rfl⟩, ?_⟩
 rw [m3]
 rw [Nat.testBit_or, Bool.or_eq_true] at hbit ⊢
 rcases hbit with hbit | hbit
 ·exact .inl ((C8 m1 _).mpr ⟨j, h24, hbit, .inr ⟨hf, by omega⟩⟩)
 ·exact .inr ((C8 m2 _).mpr ⟨j, h24, hbit, .inr ⟨hf, by omega⟩⟩)
theorem row_one {r g : List Cl} {f b : Int} (hl : A5 r = true) (h0 : 0 ≤ f) (hb : 0 ≤ b) (h : Ah b r f = .ok g) : Ah 1 g f = Ah (b + 1) r f := by
 have hg := Gv h hl
 cases h1 : Ah 1 g f with
 | ok x =>
  obtain ⟨y, hy⟩ := B1g (b := b + 1) hl h0 A3 fun j hj hf => by
   have := Ny hg h0 A3 h1 _ (C7s hl h0 hb h hj hf) A3
   omega
  rw [hy, A1f hl h0 hb A3 (Int.le_refl f) A3 h h1 hy]
 | bad e =>
  cases h2 : Ah (b + 1) r f with
  | bad e' => rw [Ui A3 h0 hg h1, Ui A3 h0 hl h2]
  | ok y =>
   obtain ⟨x, hx⟩ := B1g (b := 1) hg h0 A3 fun i hi hf => by
    obtain ⟨j, _, hj, h3⟩ := A1g h0 h hi
    rcases h3 with ⟨h3, h4⟩ | ⟨h3, h4⟩
    ·omega
    ·have := Ny hl h0 A3 h2 j hj h3
     omega
   rw [hx] at h1
   cases h1
theorem C4v {a b : Int} (ha : 0 ≤ a) (hb : 0 ≤ b) : B6h (A := Av a b) (B := Av 0 1) (D := Av a (b + 1)) (fun x y z => R3 x y z ∧ 0 ≤ x.2) where
 inl := fun ca cb cc k n nm r u _ _ h => absurd h Em
 inr := by
  rintro ca cb cc k n nm r p ⟨⟨rfl, rfl⟩, e⟩ hh h
  obtain ⟨h1, h2, h3⟩ := Im h
  rw [En, En, row_one (A5w hh) e hb h1, h3]
  congr 1
  funext g
  have h4 : Cr 0 ca.1 k (Cr a ca.1 k n) = Cr a ca.1 k n := Ws
  rw [h4, if_neg h2, if_neg]
  unfold Cr
  rintro ⟨h5, h6, h7⟩
  split at h6 <;> split at h7 <;> omega
 none := fun ca cb cc f _ _ h => absurd h G8
 some := by
  rintro ca cb cc f f' ⟨⟨rfl, rfl⟩, e⟩ hf h
  have h1 := Hn h
  rw [G0, G0, row_one (X8 hf) e hb h1]
 Gq := by
  rintro ca cb cc b' ca' hb1 hb2 ⟨⟨rfl, rfl⟩, e⟩ h
  have h := H5 h
  subst h
  exact .inl ⟨_, _, rfl, rfl, ⟨rfl, rfl⟩, by dsimp only; omega⟩
def Lf (a b : Nat) (x y : T) : Prop := if a = 0 ∧ b = 0 then y = x else Bh (Av a b) x (0, 0) = .ok y
theorem Mv {x y : T} : Lf 0 0 x y ↔ y = x := by unfold Lf; rw [if_pos ⟨rfl, rfl⟩]
theorem Mw {a b : Nat} {x y : T} (h : ¬ (a = 0 ∧ b = 0)) : Lf a b x y ↔ Bh (Av a b) x (0, 0) = .ok y := by unfold Lf; rw [if_neg h]
theorem C9l {a b : Nat} {x y z : T} (hx : Cm x) (h : Lf a b x y) (hz : Bh (Av 1 0) y (0, 0) = .ok z) : Lf (a + 1) b x z := by
 rw [Mw A3]
 by_cases h0 : a = 0 ∧ b = 0
 ·obtain ⟨rfl, rfl⟩ := h0
  rw [Mv] at h
  subst h
  exact hz
 ·rw [Mw h0] at h
  rw [C4w (C4u (c := 1) A3 A3) hx (show R3 (0, 0) (0, 0) (0, 0) from ⟨rfl, rfl⟩) h] at hz
  rw [← hz]
  congr 1
theorem C9m {a b : Nat} {x y z : T} (hx : Cm x) (h : Lf a b x y) (hz : Bh (Av 0 1) y (0, 0) = .ok z) : Lf a (b + 1) x z := by
 rw [Mw A3]
 by_cases h0 : a = 0 ∧ b = 0
 ·obtain ⟨rfl, rfl⟩ := h0
  rw [Mv] at h
  subst h
  exact hz
 ·rw [Mw h0] at h
  rw [C4w (C4v (a := a) (b := b) A3 A3) hx (show R3 (0, 0) (0, 0) (0, 0) ∧ (0 : Int) ≤ 0 from ⟨⟨rfl, rfl⟩, by omega⟩) h] at hz
  rw [← hz]
  congr 1
structure Xw (e0 : Ev) (a b : Nat) (e : Ev) : Prop where
 lv : e.1.length = a + e0.1.length
 v0 : ∀ i, i < a → e.1.getD i t0 = vE i
 v1 : ∀ i, i < e0.1.length → Lf a b (e0.1.getD i t0) (e.1.getD (a + i) t0)
 ld : e.2.length = b + e0.2.length
 d0 : ∀ j, j < b → e.2.getD j [] = [N1 j]
 d1 : ∀ j, j < e0.2.length → Ah b (e0.2.getD j []) 0 = .ok (e.2.getD (b + j) [])
theorem Sw (e : Ev) : Xw e 0 0 e := ⟨by omega, fun i hi => by omega, fun i hi => by rw [Mv, Nat.zero_add], by omega, fun j hj => by omega, fun j hj => by rw [Nat.zero_add]; exact J8 _ _⟩
theorem Ge {α β : Type} (g : α → β) {l : List α} {i : Nat} (h : i < l.length) (d : α) (d' : β) : (l.map g).getD i d' = g (l.getD i d) := by
 rw [Cq (d := d') (by simpa using h), Cq (d := d) h, List.getElem_map]
theorem D2r {n : Int} {z : T} (h0 : 0 ≤ n) (h : Bh (Av 1 0) (vE n) (0, 0) = .ok z) : z = vE (n + 1) := by
 obtain ⟨rfl, _⟩ := Lw (T5 h0) rfl h
 show T.mk 1 (Cr 1 0 1 n) _ _ _ _ = _
 rw [show Cr 1 0 1 n = n + 1 from if_pos ⟨rfl, h0⟩]
 rfl
theorem C4m {n : Int} {z : T} (h0 : 0 ≤ n) (h : Bh (Av 0 1) (vE n) (0, 0) = .ok z) : z = vE n := by
 obtain ⟨rfl, _⟩ := Lw (T5 h0) rfl h
 show T.mk 1 (Cr 0 0 1 n) _ _ _ _ = _
 rw [show Cr 0 0 1 n = n from Ws]
 rfl
theorem Yn {e e' : Ev} (h : Vf e = .ok e') : e' = (vE 0 :: e.1.map (fun t => (Bk t 0 1).2), e.2) ∧ ∀ t, t ∈ e.1 → Bh (Av 1 0) t (0, 0) = .ok (Bk t 0 1).2 := by
 unfold Vf at h
 obtain ⟨l, h3, h4⟩ := A8.A0 h
 injection h4 with h4
 obtain ⟨h5, h6⟩ := Th h3
 obtain ⟨h7, h8⟩ := I3 h5
 rw [h8] at h6
 subst h6
 exact ⟨h4.symm, fun t ht => B3p (h7 t ht)⟩
theorem U2 {e e' : Ev} (h : Sm e = .ok e') : e' = (e.1.map (fun t => (Bl t 0 1).2), [⟨1, 0⟩] :: e.2.map (fun f => (Ad f 0 1).2)) ∧ (∀ t, t ∈ e.1 → Bh (Av 0 1) t (0, 0) = .ok (Bl t 0 1).2) ∧ ∀ f, f ∈ e.2 → Ah 1 f 0 = .ok (Ad f 0 1).2 := by
 unfold Sm at h
 obtain ⟨D, h3, h4⟩ := A8.A0 h
 obtain ⟨l, h5, h6⟩ := A8.A0 h4
 injection h6 with h6
 obtain ⟨a1, a2⟩ := Th h3
 obtain ⟨a3, a4⟩ := I3 a1
 rw [a4] at a2
 subst a2
 obtain ⟨b1, b2⟩ := Th h5
 obtain ⟨b3, b4⟩ := I3 b1
 rw [b4] at b2
 subst b2
 refine ⟨h6.symm, fun t ht => B5u (b3 t ht), fun f hf => ?_⟩
 have h9 := a3 f hf
 rw [Mm (Eb h9).1 A3 A3, if_pos h9]
theorem D1y {e0 e e' : Ev} {a b : Nat} (hf : ∀ x, x ∈ e0.1 → Cm x) (h : Xw e0 a b e) (hk : Vf e = .ok e') : Xw e0 (a + 1) b e' := by
 obtain ⟨rfl, ht⟩ := Yn hk
 have hl := h.lv
 refine ⟨by simp only [List.length_cons, List.length_map]; omega, fun i hi => ?_, fun i hi => ?_, h.ld, h.d0, h.d1⟩
 ·cases i with
  | zero => rfl
  | succ i =>
   simp only [List.getD_cons_succ]
   rw [Ge _ (show i < e.1.length by omega) t0]
   have hm := ht _ (Af (d := t0) (show i < e.1.length by omega))
   rw [h.v0 i A3] at hm ⊢
   rw [D2r A3 hm]
   rfl
 ·simp only [show a + 1 + i = (a + i) + 1 by omega, List.getD_cons_succ]
  rw [Ge _ (show a + i < e.1.length by omega) t0]
  exact C9l (hf _ (Af hi)) (h.v1 i hi) (ht _ (Af (show a + i < e.1.length by omega)))
theorem C7k {j : Nat} {z : List Cl} (hj : j < 24) (h : Ah 1 [N1 (j : Int)] 0 = .ok z) : z = [N1 ((j + 1 : Nat) : Int)] := by
 have hr : A5 [N1 (j : Int)] = true := U1
 have h1 := Ny hr A3 A3 h j (G2.mpr ⟨hj, _, List.mem_singleton.mpr rfl, by
  show (Ec (j : Int) ||| 0).testBit j = true
  rw [Nat.or_zero]
  exact M3.mpr ⟨⟨by omega, by omega⟩, rfl⟩⟩) A3
 have h2 := B9w (i := j) (d := 1) A3 A3 A3
 rw [Mm hr A3 A3, if_pos (by rw [h2]), h2] at h
 injection h with h
 exact h.symm
theorem D1z {e0 e e' : Ev} {a b : Nat} (hb : b ≤ 24) (hf : ∀ x, x ∈ e0.1 → Cm x) (hr : ∀ f, f ∈ e0.2 → A5 f = true) (h : Xw e0 a b e) (hk : Sm e = .ok e') : Xw e0 a (b + 1) e' := by
 obtain ⟨rfl, ht, hd⟩ := U2 hk
 have hl := h.lv
 have hl2 := h.ld
 refine ⟨by simp only [List.length_map]; omega, fun i hi => ?_, fun i hi => ?_, by simp only [List.length_cons, List.length_map]; omega, fun j hj => ?_, fun j hj => ?_⟩
 ·show (e.1.map _).getD i t0 = _
  rw [Ge _ (show i < e.1.length by omega) t0]
  have hm := ht _ (Af (d := t0) (show i < e.1.length by omega))
  rw [h.v0 i A3] at hm ⊢
  exact C4m A3 hm
 ·show Lf a (b + 1) _ ((e.1.map _).getD (a + i) t0)
  rw [Ge _ (show a + i < e.1.length by omega) t0]
  exact C9m (hf _ (Af hi)) (h.v1 i hi) (ht _ (Af (show a + i < e.1.length by omega)))
 ·cases j with
  | zero => rfl
  | succ j =>
   simp only [List.getD_cons_succ]
   rw [Ge _ (show j < e.2.length by omega) []]
   have hm := hd _ (Af (d := []) (show j < e.2.length by omega))
   rw [h.d0 j A3] at hm ⊢
   exact C7k A3 hm
 ·simp only [show b + 1 + j = (b + j) + 1 by omega, List.getD_cons_succ]
  rw [Ge _ (show b + j < e.2.length by omega) []]
  have hm := hd _ (Af (d := []) (show b + j < e.2.length by omega))
  have h1 := h.d1 j hj
  rw [row_one (hr _ (Af hj)) A3 A3 h1] at hm
  exact hm
theorem C5i {e e' : Ev} {e0 : Ev} {a b : Nat} (h : Xw e0 a b e) (hk : Sm e = .ok e') : b < 24 ∨ 24 < b := by
 refine Decidable.byContradiction fun hn => ?_
 have hb : b = 24 := by omega
 obtain ⟨_, _, hd⟩ := U2 hk
 have hm := hd _ (Af (d := []) (show 23 < e.2.length by have := h.ld; omega))
 rw [h.d0 23 A3] at hm
 have := Ny (U1 (i := ((23 : Nat) : Int))) A3 A3 hm 23 (G2.mpr ⟨by decide, _, List.mem_singleton.mpr rfl, by decide⟩) A3
 omega
theorem Sv {e0 e e' : Ev} {a b : Nat} {p : Int × Int} (hb : b ≤ 24) (hf : ∀ x, x ∈ e0.1 → Cm x) (hr : ∀ f, f ∈ e0.2 → A5 f = true) (hp : bnd p) (h : Xw e0 a b e) (hk : Kf e p = .ok e') : b + p.2.toNat ≤ 24 ∧ Xw e0 (a + p.1.toNat) (b + p.2.toNat) e' := by
 obtain ⟨p1, p2⟩ := p
 simp only at hp ⊢
 unfold Kf at hk
 by_cases h1 : p1 = 1
 ·have h2 : p2 = 0 := by omega
  subst h1 h2
  rw [if_pos rfl] at hk
  exact ⟨hb, D1y hf h hk⟩
 ·have h1 : p1 = 0 := by omega
  subst h1
  rw [if_neg (show ¬ ((0 : Int) = 1) by decide)] at hk
  by_cases h3 : p2 = 1
  ·subst h3
   rw [if_pos rfl] at hk
   have := C5i h hk
   exact ⟨by show b + 1 ≤ 24; omega, D1z hb hf hr h hk⟩
  ·have h3 : p2 = 0 := by omega
   subst h3
   rw [if_neg (show ¬ ((0 : Int) = 1) by decide)] at hk
   injection hk with hk
   subst hk
   exact ⟨hb, h⟩
theorem C1s (P : Wd) : Q6 (Q6 P) = P := funext fun i => propext Classical.not_not
theorem D1v (D : List (List Cl)) (P N : Wd) : Q6 (Si D P N) = Q2 D (Q6 N) (Q6 P) := funext fun j => propext (show ¬ ¬ sat (D.getD j []) (Q6 N) (Q6 P) ↔ _ from Classical.not_not)
theorem D1u (D : List (List Cl)) (P N : Wd) : Q6 (Q2 D P N) = Si D (Q6 N) (Q6 P) := funext fun j => by
 show (¬ sat (D.getD j []) P N) = ¬ sat (D.getD j []) (Q6 (Q6 P)) (Q6 (Q6 N))
 rw [C1s, C1s]
theorem C5k {D : List (List Cl)} {P N : Wd} (h : Ni P N) : Ni (Q2 D P N) (Si D P N) := fun j hj => hj.2 (B7l (fun i hi hn => h i ⟨hi, hn⟩) (fun i hi hp => h i ⟨hp, hi⟩) hj.1)
theorem A2j {D : List (List Cl)} {P N : Wd} {j : Nat} (h : D.length ≤ j) : (¬ Q2 D P N j) ∧ Si D P N j := by
 have e : D.getD j [] = [] := by rw [List.getD_eq_getElem?_getD, List.getElem?_eq_none h]; rfl
 unfold Q2 Si
 rw [e]
 exact ⟨V6, V6⟩
theorem Ol {e0 e : Ev} {a b : Nat} (hr : ∀ f, f ∈ e0.2 → A5 f = true) (hb : b ≤ 24) (h : Xw e0 a b e) (P N : Wd) (j : Nat) : Q2 e.2 P N j ↔ if j < b then P j else Q2 e0.2 (Ke P 0 b) (Ke N 0 b) (j - b) := by
 by_cases h1 : j < b
 ·rw [if_pos h1]
  unfold Q2
  rw [h.d0 j h1, C3e ⟨by omega, by omega⟩, Int.toNat_natCast]
 ·rw [if_neg h1]
  by_cases h2 : j - b < e0.2.length
  ·unfold Q2
   have h3 := h.d1 (j - b) h2
   rw [show b + (j - b) = j by omega] at h3
   exact Nx (hr _ (Af h2)) h3
  ·have e1 := (A2j (D := e.2) (P := P) (N := N) (j := j) (by have := h.ld; omega)).1
   have e2 := (A2j (D := e0.2) (P := Ke P 0 b) (N := Ke N 0 b) (j := j - b) A3).1
   exact ⟨fun h => absurd h e1, fun h => absurd h e2⟩
theorem Qt {e0 e : Ev} {a b : Nat} (hr : ∀ f, f ∈ e0.2 → A5 f = true) (hb : b ≤ 24) (h : Xw e0 a b e) (P N : Wd) (j : Nat) : Si e.2 P N j ↔ if j < b then N j else Si e0.2 (Ke P 0 b) (Ke N 0 b) (j - b) := by
 have e : Si e.2 P N j ↔ ¬ Q2 e.2 (Q6 N) (Q6 P) j := Iff.rfl
 rw [e, Ol hr hb h]
 split
 ·exact Classical.not_not
 ·show ¬ Q2 _ _ _ _ ↔ ¬ sat _ _ _
  rw [B7i, B7i]
  exact Iff.rfl
theorem Fy {e0 e : Ev} {a b : Nat} (hr : ∀ f, f ∈ e0.2 → A5 f = true) (h : Xw e0 a b e) (j : Nat) : A5 (e.2.getD j []) = true := by
 by_cases h1 : j < b
 ·rw [h.d0 j h1]; exact U1
 ·by_cases h2 : j - b < e0.2.length
  ·have h3 := h.d1 (j - b) h2
   rw [show b + (j - b) = j by omega] at h3
   exact Gv h3 (hr _ (Af h2))
  ·rw [List.getD_eq_getElem?_getD, List.getElem?_eq_none (by have := h.ld; omega)]
   exact Mz
theorem Sk {t : T} {e : Ev} (hk : t.kind = 1) : Bh Bd t e = .ok (e.1.getD t.n.toNat t0) := by
 rw [D5]
 have : Bd.own e t.kind t.n t.name t.r = .ok (.inl (e.1.getD t.n.toNat t0)) := by
  simp only [Bd]
  rw [if_pos hk]
 rw [this]
 rfl
theorem C4z (e : Ev) : Bh Bd t0 e = .ok t0 := by
 rw [D5]
 rfl
theorem Xc {e : Ev} {k n : Int} {nm : ByteArray} {r : List Cl} {u : T} (hk : k ≠ 1) : Bd.own e k n nm r ≠ .ok (.inl u) := fun h => by
 simp only [Bd] at h
 rw [if_neg hk] at h
 obtain ⟨g, _, h⟩ := A8.A0 h
 injection h with h
 cases h
theorem Sl {e : Ev} {k n : Int} {nm : ByteArray} {r : List Cl} {p : Int × List Cl} (hk : k ≠ 1) (h : Bd.own e k n nm r = .ok (.inr p)) : p.1 = 0 ∧ El (decide (k = 14)) e.2 r = (0, p.2) := by
 simp only [Bd] at h
 rw [if_neg hk] at h
 obtain ⟨g, hg, h⟩ := A8.A0 h
 injection h with h
 injection h with h
 subst h
 exact ⟨rfl, Xd.mp hg⟩
theorem Og {e : Ev} {f : List Cl} {o : Option (List Cl)} (h : Bd.As e f = .ok o) : ∃ g, El true e.2 f = (0, g) ∧ o = if g = [] then none else some g := by
 simp only [Bd] at h
 obtain ⟨g, hg, h⟩ := A8.A0 h
 injection h with h
 refine ⟨g, Xd.mp hg, ?_⟩
 rw [← h]
 by_cases h1 : g = []
 ·subst h1; rfl
 ·rw [if_neg h1, if_neg (fun h2 => h1 (List.eq_nil_of_length_eq_zero h2))]
theorem C0r {k n : Int} {nm : ByteArray} {r : List Cl} (h : It k n nm r) : C3 (decide (k = 14)) r := by
 obtain ⟨q1, q2⟩ := Qm h
 unfold C3
 by_cases h14 : k = 14
 ·rw [if_pos (by simp [h14])]; exact q1 h14
 ·rw [if_neg (by simp [h14])]; exact q2
theorem Z6 {p : Bool} {l m : List Cl} (h1 : C3 p l) (h2 : C3 p m) (h : ∀ P N, Ss p P N → (sat l P N ↔ sat m P N)) : l = m := by
 cases p with
 | false => exact C0y h1 h2 fun P N => h P N fun h => by cases h
 | true => exact C1i h1 h2 fun P N hw => h P N fun _ => hw
theorem Ml {p : Bool} {f0 f1 f2 : Ev} {a b V D : Nat} {r g x y z : List Cl} (hr : ∀ f, f ∈ f0.2 → A5 f = true) (h1 : Xw f0 (a + V) (b + D) f2) (h2 : Xw f0 a b f1) (hb : b + D ≤ 24) (hp : C3 p r)
  (k1 : Ah D r b = .ok g) (k2 : El p f2.2 g = (0, x)) (k3 : El p f1.2 r = (0, y)) (k4 : Ah D y b = .ok z) : x = z := by
 have hrr := Jf hp
 have hg : C3 p g := by
  unfold C3 at hp ⊢
  cases p with
  | false => simp only [Bool.false_eq_true, if_false] at hp ⊢; exact Gv k1 hp
  | true => simp only [if_true] at hp ⊢; exact Ro k1 hp
 obtain ⟨x1, x2⟩ := Lj (p := p) (D := f2.2) (F4 (Jf hg)) (fun c hc j hj => Fy hr h1 j) (by rw [k2])
 obtain ⟨y1, y2⟩ := Lj (p := p) (D := f1.2) (F4 hrr) (fun c hc j hj => Fy hr h2 j) (by rw [k3])
 rw [k2] at x1 x2
 rw [k3] at y1 y2
 simp only at x1 x2 y1 y2
 have hz : C3 p z := by
  unfold C3 at y1 ⊢
  cases p with
  | false => simp only [Bool.false_eq_true, if_false] at y1 ⊢; exact Gv k4 y1
  | true => simp only [if_true] at y1 ⊢; exact Ro k4 y1
 refine Z6 x1 hz fun P N hw => ?_
 have hw2 : Ss p (Ke P b D) (Ke N b D) := fun hq => C1v (hw hq)
 rw [x2 P N hw, Nx hrr k1, Nx (Jf y1) k4, y2 _ _ hw2]
 refine Tf (fun c hc => List.all_eq_true.mp (F4 hrr) c hc) (fun j _ => ?_) (fun j _ => ?_)
 ·rw [Ol hr A3 h2]
  unfold Ke
  by_cases hj : j < b
  ·rw [if_pos A3, if_pos hj, if_pos A3, Ol hr hb h1, if_pos A3]
  ·rw [if_neg A3, if_neg hj, Ol hr hb h1, if_neg A3, show j + (D : Int).toNat - (b + D) = j - b by omega]
   have e : ∀ Q : Wd, Ke Q 0 ((b + D : Nat) : Int) = Ke (Ke Q b D) 0 b := fun Q => by
    rw [B1d A3 A3]
    congr 1
    omega
   rw [e, e]
   exact Iff.rfl
 ·rw [Qt hr A3 h2]
  unfold Ke
  by_cases hj : j < b
  ·rw [if_pos A3, if_pos hj, if_pos A3, Qt hr hb h1, if_pos A3]
  ·rw [if_neg A3, if_neg hj, Qt hr hb h1, if_neg A3, show j + (D : Int).toNat - (b + D) = j - b by omega]
   have e : ∀ Q : Wd, Ke Q 0 ((b + D : Nat) : Int) = Ke (Ke Q b D) 0 b := fun Q => by
    rw [B1d A3 A3]
    congr 1
    omega
   rw [e, e]
   exact Iff.rfl
theorem B9u {a b : Int} {c : Int × Int} : Bh (Av a b) t0 c = .ok t0 := by
 rw [D5]
 show ((Av a b).own c 0 0 ⟨#[]⟩ []).bind _ = _
 rw [En, Nz]
 rfl
theorem B2f {a b : Int} {c : Int × Int} {n : Int} {z : T} (h0 : 0 ≤ n) (h : Bh (Av a b) (vE n) c = .ok z) : z = vE (if c.1 ≤ n then n + a else n) := by
 obtain ⟨rfl, _⟩ := Lw (T5 h0) rfl h
 unfold Cr vE
 simp only [T.n]
 congr 1
 by_cases h1 : c.1 ≤ n
 ·rw [if_pos ⟨trivial, h1⟩, if_pos h1]
 ·rw [if_neg (fun h => h1 h.2), if_neg h1]
theorem C9n {a b V D : Nat} {y c x z : T} (hy : Cm y) (hn : ¬ (V = 0 ∧ D = 0)) (h1 : Lf a b y c) (h2 : Bh (Av V D) c (a, b) = .ok x) (h3 : Lf (a + V) (b + D) y z) : x = z := by
 rw [Mw A3] at h3
 by_cases h0 : a = 0 ∧ b = 0
 ·obtain ⟨rfl, rfl⟩ := h0
  rw [Mv] at h1
  subst h1
  rw [Nat.zero_add, Nat.zero_add] at h3
  have : A8.ok x = A8.ok z := h2.symm.trans h3
  injection this
 ·rw [Mw h0] at h1
  exact sq (C7r (a := a) (b := b) (c := V) (d := D) A3 A3 A3 A3) hy (ca := (0, 0)) (cb := ((a : Int), (b : Int))) (cc := ()) (cd := (0, 0)) ⟨rfl, by dsimp only; omega, by dsimp only; omega, by dsimp only; omega, by dsimp only; omega, by dsimp only; omega⟩ h1 h2 (id_eq y) h3
theorem A3m {f0 : Ev} {V D : Nat} (hn : ¬ (V = 0 ∧ D = 0)) (hf : ∀ x, x ∈ f0.1 → Cm x) (hr : ∀ f, f ∈ f0.2 → A5 f = true) :
  Sq4 (A := Av V D) (B := Bd) (C := Bd) (D := Av V D) false false (fun ca cb cc cd v d => ∃ a b : Nat, ca = ((a : Int), (b : Int)) ∧ cd = ca ∧ b + D ≤ 24 ∧ Xw f0 (a + V) (b + D) cb ∧ Xw f0 a b cc) where
 leaf := by
  rintro t a' b' c x ca cb cc cd v d ⟨a, b, rfl, rfl, hb, k1, k2⟩ hft hm hk h1 h2 h3 h4
  obtain ⟨e, hn0⟩ := Ly hft hk
  have e : t = vE t.n := e
  rw [e] at h1
  have h1 := B2f hn0 h1
  rw [Sk hk] at h3
  injection h3 with h3
  subst h3 h1
  rw [Sk rfl] at h2
  injection h2 with h2
  subst h2
  by_cases q1 : t.n.toNat < a
  ·rw [k2.v0 _ q1] at h4
   rw [B2f A3 h4, if_neg (by dsimp only; omega), if_neg (by dsimp only; omega)]
   exact k1.v0 _ (by show t.n.toNat < _; omega)
  ·rw [if_pos (by dsimp only; omega)]
   show cb.1.getD (t.n + V).toNat t0 = x
   by_cases q2 : t.n.toNat - a < f0.1.length
   ·have k3 := k2.v1 _ q2
    have k4 := k1.v1 _ q2
    rw [show a + (t.n.toNat - a) = t.n.toNat by omega] at k3
    rw [show a + V + (t.n.toNat - a) = (t.n + V).toNat by omega] at k4
    exact (C9n (hf _ (Af q2)) hn k3 h4 k4).symm
   ·have l1 := k1.lv
    have l2 := k2.lv
    rw [List.getD_eq_getElem?_getD, List.getElem?_eq_none A3] at h4 ⊢
    have h4 : Bh (Av (V : Int) D) t0 ((a : Int), (b : Int)) = .ok x := h4
    rw [B9u] at h4
    injection h4
 nA := fun _ _ _ _ _ _ _ => Em
 nB := fun _ _ _ _ _ _ hk => Xc hk
 nC := fun _ _ _ _ _ _ hk => Xc hk
 nD := fun _ _ _ _ _ _ _ => Em
 own := by
  rintro ca cb cc cd v d k n nm r pa pb pc pd ⟨a, b, rfl, rfl, hb, k1, k2⟩ hd hh hk hw h1 h2 h3 h4
  obtain ⟨a1, a2⟩ := S3 h1
  obtain ⟨b1, b2⟩ := Sl hk h2
  obtain ⟨c1, c2⟩ := Sl hk h3
  obtain ⟨d1, d2⟩ := S3 h4
  refine Prod.ext (by rw [b1, d1, S6 hk, c1]) ?_
  exact Ml hr k1 k2 hb (C0r hh) a2 b2 c2 d2
 As := by
  rintro ca cb cc cd v d f oa ob oc od ⟨a, b, rfl, rfl, hb, k1, k2⟩ hd hf9 hnv hw h1 h1n h2 h3 h3n h4
  obtain ⟨fa, rfl, a2⟩ := O7 h1
  obtain ⟨gb, b1, rfl⟩ := Og (h2 _ rfl)
  obtain ⟨gc, c1, rfl⟩ := Og h3
  have hp : C3 true f := hf9
  by_cases hg : gc = []
  ·subst hg
   rw [if_pos rfl] at h3n
   rw [h3n rfl, Ml hr k1 k2 hb hp a2 b1 c1 (Nz _ _), if_pos rfl]
  ·rw [if_neg hg] at h4
   obtain ⟨g, rfl, d2⟩ := O7 (h4 _ rfl)
   rw [Ml hr k1 k2 hb hp a2 b1 c1 d2, if_neg (A8a d2 hg)]
 Gq := by
  rintro ca cb cc cd v d b' ca' cb' cc' cd' ⟨a, b, rfl, rfl, hb, k1, k2⟩ p1 p2 h1 h2 h3 h4
  have h1 := H5 h1
  have h4 := H5 h4
  subst h1 h4
  obtain ⟨m1, m2⟩ := Sv hb hf hr p1 k1 h2
  obtain ⟨m3, m4⟩ := Sv A3 hf hr p1 k2 h3
  refine ⟨a + b'.1.toNat, b + b'.2.toNat, ?_, rfl, by omega, ?_, m4⟩
  ·refine Prod.ext ?_ ?_ <;> (dsimp only; omega)
  ·rw [show a + b'.1.toNat + V = a + V + b'.1.toNat by omega, show b + b'.2.toNat + D = b + D + b'.2.toNat by omega]
   exact m2
theorem C5s {e0 e : Ev} (h : Xw e0 0 0 e) : e = e0 := by
 have l1 := h.lv
 have l2 := h.ld
 refine Prod.ext (List.ext_getElem A3 fun i h1 h2 => ?_) (List.ext_getElem A3 fun i h1 h2 => ?_)
 ·have := Mv.mp (h.v1 i h2)
  rw [Nat.zero_add, Cq (d := t0) h1, Cq (d := t0) h2] at this
  exact this
 ·have := h.d1 i h2
  rw [show ((0 : Nat) : Int) = 0 from rfl, J8, Nat.zero_add, Cq (d := []) h1, Cq (d := []) h2] at this
  injection this with this
  exact this.symm
theorem B9v {f0 f : Ev} {V D : Nat} {x y b c w : T} {v0 d0 : Int} (hf : ∀ x, x ∈ f0.1 → Cm x) (hr : ∀ f, f ∈ f0.2 → A5 f = true) (hx : Cm x) (hm : G7 x v0 d0) (hD : D ≤ 24) (h : Xw f0 V D f)
  (h1 : Lf V D x y) (h2 : Bh Bd y f = .ok b) (h3 : Bh Bd x f0 = .ok c) (h4 : Lf V D c w) : b = w := by
 by_cases h0 : V = 0 ∧ D = 0
 ·obtain ⟨rfl, rfl⟩ := h0
  have h5 := C5s h
  subst h5
  have h6 := Mv.mp h1
  have h7 := Mv.mp h4
  subst h6 h7
  rw [h2] at h3
  injection h3
 ·rw [Mw h0] at h1 h4
  exact sq4 (v := v0) (d := d0) (A3m h0 hf hr) hx (fun h => by cases h) (fun h => by cases h) (ca := (0, 0)) (cb := f) (cc := f0) (cd := (0, 0)) ⟨0, 0, rfl, rfl, by omega, by rw [Nat.zero_add, Nat.zero_add]; exact h, Sw f0⟩ h1 h2 h3 h4
theorem Vv {p : Bool} {De Df Dg : List (List Cl)} {r x y z : List Cl} (hp : C3 p r) (hDe : ∀ j, A5 (De.getD j []) = true) (hDf : ∀ j, A5 (Df.getD j []) = true) (hDg : ∀ j, A5 (Dg.getD j []) = true)
  (hw : ∀ P N j, (Q2 De (Q2 Df P N) (Si Df P N) j ↔ Q2 Dg P N j) ∧ (Si De (Q2 Df P N) (Si Df P N) j ↔ Si Dg P N j)) (h1 : El p De r = (0, x)) (h2 : El p Df x = (0, y)) (h3 : El p Dg r = (0, z)) : y = z := by
 have hr := Jf hp
 obtain ⟨x1, x2⟩ := Lj (p := p) (D := De) (F4 hr) (fun c hc j hj => hDe j) (by rw [h1])
 rw [h1] at x1 x2
 simp only at x1 x2
 obtain ⟨y1, y2⟩ := Lj (p := p) (D := Df) (F4 (Jf x1)) (fun c hc j hj => hDf j) (by rw [h2])
 obtain ⟨z1, z2⟩ := Lj (p := p) (D := Dg) (F4 hr) (fun c hc j hj => hDg j) (by rw [h3])
 rw [h2] at y1 y2
 rw [h3] at z1 z2
 simp only at y1 y2 z1 z2
 refine Z6 y1 z1 fun P N hc => ?_
 rw [y2 P N hc, x2 _ _ (fun hq => C5k (hc hq)), z2 P N hc]
 exact Tf (fun c hc => List.all_eq_true.mp (F4 hr) c hc) (fun j _ => (hw P N j).1) (fun j _ => (hw P N j).2)
structure A6y (e0 f0 g0 : Ev) : Prop where
 fe : ∀ x, x ∈ e0.1 → Cm x
 ff : ∀ x, x ∈ f0.1 → Cm x
 fg : ∀ x, x ∈ g0.1 → Cm x
 re : ∀ f, f ∈ e0.2 → A5 f = true
 rf : ∀ f, f ∈ f0.2 → A5 f = true
 rg : ∀ f, f ∈ g0.2 → A5 f = true
 lv : g0.1.length = e0.1.length
 ld : g0.2.length = e0.2.length
 vars : ∀ i, i < e0.1.length → Bh Bd (e0.1.getD i t0) f0 = .ok (g0.1.getD i t0) ∧ ∃ v d, G7 (e0.1.getD i t0) v d
 dims : ∀ j, j < e0.2.length → El false f0.2 (e0.2.getD j []) = (0, g0.2.getD j [])
theorem B6w {e0 f0 g0 : Ev} (h : A6y e0 f0 g0) (P N : Wd) (j : Nat) : Q2 e0.2 (Q2 f0.2 P N) (Si f0.2 P N) j ↔ Q2 g0.2 P N j := by
 by_cases hj : j < e0.2.length
 ·have h1 := h.dims j hj
  have h2 := (Lj (p := false) (D := f0.2) (F4 (h.re _ (Af hj))) (fun c hc k hk => by
   have := Fy h.rf (Sw f0) k
   exact this) (by rw [h1])).2 P N (fun h => by cases h)
  rw [h1] at h2
  exact h2.symm
 ·exact ⟨fun h9 => absurd h9 (A2j A3).1, fun h9 => absurd h9 (A2j (by have := h.ld; omega)).1⟩
theorem C7l {e0 f0 g0 : Ev} (h : A6y e0 f0 g0) (P N : Wd) (j : Nat) : Si e0.2 (Q2 f0.2 P N) (Si f0.2 P N) j ↔ Si g0.2 P N j := by
 have e : Si e0.2 (Q2 f0.2 P N) (Si f0.2 P N) j ↔ ¬ Q2 e0.2 (Q6 (Si f0.2 P N)) (Q6 (Q2 f0.2 P N)) j := Iff.rfl
 rw [e, D1v, D1u, B6w h]
 exact Iff.rfl
theorem A2s {e0 f0 g0 ca cb cd : Ev} {a b : Nat} (h : A6y e0 f0 g0) (hb : b ≤ 24) (k1 : Xw e0 a b ca) (k2 : Xw f0 a b cb) (k3 : Xw g0 a b cd) (P N : Wd) (j : Nat) : (Q2 ca.2 (Q2 cb.2 P N) (Si cb.2 P N) j ↔ Q2 cd.2 P N j) ∧ (Si ca.2 (Q2 cb.2 P N) (Si cb.2 P N) j ↔ Si cd.2 P N j) := by
 have sp : Ke (Q2 cb.2 P N) 0 b = Q2 f0.2 (Ke P 0 b) (Ke N 0 b) := funext fun i => propext (by
  have := Ol h.rf hb k2 P N (i + b)
  rw [if_neg A3, show i + b - b = i by omega] at this
  unfold Ke at this ⊢
  rw [if_neg A3]
  exact this)
 have sn : Ke (Si cb.2 P N) 0 b = Si f0.2 (Ke P 0 b) (Ke N 0 b) := funext fun i => propext (by
  have := Qt h.rf hb k2 P N (i + b)
  rw [if_neg A3, show i + b - b = i by omega] at this
  unfold Ke at this ⊢
  rw [if_neg A3]
  exact this)
 constructor
 ·rw [Ol h.re hb k1, Ol h.rg hb k3]
  by_cases hj : j < b
  ·rw [if_pos hj, if_pos hj, Ol h.rf hb k2, if_pos hj]
  ·rw [if_neg hj, if_neg hj, sp, sn]
   exact B6w h _ _ _
 ·rw [Qt h.re hb k1, Qt h.rg hb k3]
  by_cases hj : j < b
  ·rw [if_pos hj, if_pos hj, Qt h.rf hb k2, if_pos hj]
  ·rw [if_neg hj, if_neg hj, sp, sn]
   exact C7l h _ _ _
theorem C4q {k n : Int} {nm : ByteArray} {r : List Cl} {p : Int × List Cl} (h : V4.own () k n nm r = .ok (.inr p)) : p = (n, r) := by
 injection h with h
 injection h with h
 exact h.symm
theorem C3a {e0 f0 g0 : Ev} (h : A6y e0 f0 g0) : Sq4 (A := Bd) (B := Bd) (C := V4) (D := Bd) false false (fun ca cb _ cd v d => ∃ a b : Nat, b ≤ 24 ∧ Xw e0 a b ca ∧ Xw f0 a b cb ∧ Xw g0 a b cd) where
 leaf := by
  rintro t a' b' c x ca cb cc cd v d ⟨a, b, hb, k1, k2, k3⟩ hft hm hk h1 h2 h3 h4
  rw [id_eq] at h3
  injection h3 with h3
  subst h3
  obtain ⟨_, hn0⟩ := Ly hft hk
  rw [Sk hk] at h1 h4
  injection h1 with h1
  injection h4 with h4
  subst h1 h4
  by_cases q1 : t.n.toNat < a
  ·rw [k1.v0 _ q1, Sk rfl] at h2
   injection h2 with h2
   rw [← h2, k3.v0 _ q1]
   have : (vE ((t.n.toNat : Nat) : Int)).n.toNat = t.n.toNat := by show ((t.n.toNat : Nat) : Int).toNat = _; omega
   rw [this, k2.v0 _ q1]
  ·by_cases q2 : t.n.toNat - a < e0.1.length
   ·have m1 := k1.v1 _ q2
    have m3 := k3.v1 _ (show t.n.toNat - a < g0.1.length by have := h.lv; omega)
    rw [show a + (t.n.toNat - a) = t.n.toNat by omega] at m1 m3
    obtain ⟨m4, v9, d9, m5⟩ := h.vars _ q2
    exact B9v h.ff h.rf (h.fe _ (Af q2)) m5 hb k2 m1 h2 m4 m3
   ·have l1 := k1.lv
    have l3 := k3.lv
    have l9 := h.lv
    rw [List.getD_eq_getElem?_getD, List.getElem?_eq_none A3] at h2 ⊢
    have h2 : Bh Bd t0 cb = .ok b' := h2
    rw [C4z] at h2
    injection h2 with h2
    exact h2.symm
 nA := fun _ _ _ _ _ _ hk => Xc hk
 nB := fun _ _ _ _ _ _ hk => Xc hk
 nC := fun _ _ _ _ _ _ _ h => (by injection h with h; cases h)
 nD := fun _ _ _ _ _ _ hk => Xc hk
 own := by
  rintro ca cb cc cd v d k n nm r pa pb pc pd ⟨a, b, hb, k1, k2, k3⟩ hd hh hk hw h1 h2 h3 h4
  have h3 := C4q h3
  subst h3
  obtain ⟨a1, a2⟩ := Sl hk h1
  obtain ⟨b1, b2⟩ := Sl hk h2
  obtain ⟨d1, d2⟩ := Sl hk h4
  exact Prod.ext (by rw [b1, d1]) (Vv (C0r hh) (Fy h.re k1) (Fy h.rf k2) (Fy h.rg k3) (A2s h hb k1 k2 k3) a2 b2 d2)
 As := by
  rintro ca cb cc cd v d f oa ob oc od ⟨a, b, hb, k1, k2, k3⟩ hd hf9 hnv hw h1 h1n h2 h3 h3n h4
  injection h3 with h3
  subst h3
  obtain ⟨ga, a1, rfl⟩ := Og h1
  obtain ⟨gd, d1, rfl⟩ := Og (h4 _ rfl)
  have hp : C3 true f := hf9
  by_cases hg : ga = []
  ·subst hg
   rw [if_pos rfl] at h1n
   rw [h1n rfl, if_pos]
   exact (Vv hp (Fy h.re k1) (Fy h.rf k2) (Fy h.rg k3) (A2s h hb k1 k2 k3) a1 (show El true cb.2 [] = (0, []) from rfl) d1).symm
  ·rw [if_neg hg] at h2
   obtain ⟨gb, b1, rfl⟩ := Og (h2 _ rfl)
   rw [Vv hp (Fy h.re k1) (Fy h.rf k2) (Fy h.rg k3) (A2s h hb k1 k2 k3) a1 b1 d1]
 Gq := by
  rintro ca cb cc cd v d b' ca' cb' cc' cd' ⟨a, b, hb, k1, k2, k3⟩ p1 p2 h1 h2 h3 h4
  obtain ⟨m1, m2⟩ := Sv hb h.fe h.re p1 k1 h1
  obtain ⟨_, m3⟩ := Sv hb h.ff h.rf p1 k2 h2
  obtain ⟨_, m4⟩ := Sv hb h.fg h.rg p1 k3 h4
  exact ⟨_, _, m1, m2, m3, m4⟩
theorem Tb {e : Ev} (h : D1 e = true) : ∀ f, f ∈ e.2 → A5 f = true := List.all_eq_true.mp h
theorem C1l {t : T} {e f : Ev} (h1 : (Fs e f).1 = 0) (h2 : (A2 t e).1 = 0) (h3 : (A2 (A2 t e).2 f).1 = 0) (h4 : (A2 t (Fs e f).2).1 = 0) (hz : Fw t ≤ 1000) (hv : ∀ x, x ∈ e.1 → Fw x ≤ 1000) :
  (A2 (A2 t e).2 f).2 = (A2 t (Fs e f).2).2 := by
 obtain ⟨p1, p2, p3, p4, p5, p6⟩ := Gr h2
 obtain ⟨q1, q2, q3, q4, q5, q6⟩ := Gr h3
 obtain ⟨r1, r2, r3, r4, r5, r6⟩ := Gr h4
 have hth : (Fh (fun g => Bc g f) e.2).1 = 0 ∧ (Fh (fun t => A2 t f) e.1).1 = 0 ∧ (Fs e f).2 = ((Fh (fun t => A2 t f) e.1).2, (Fh (fun g => Bc g f) e.2).2) := by
  unfold Fs at h1 ⊢
  split at h1
  ·rename_i h9; exact absurd h1 h9
  ·rename_i h9
   rw [if_neg h9]
   split at h1
   ·rename_i h8; exact absurd h1 h8
   ·rename_i h8
    rw [if_neg h8]
    exact ⟨Decidable.not_not.mp h9, Decidable.not_not.mp h8, rfl⟩
 obtain ⟨m1, m2, m3⟩ := hth
 obtain ⟨n1, n2⟩ := I3 m1
 obtain ⟨n3, n4⟩ := I3 m2
 rw [n2, n4] at m3
 have hrow : ∀ g, g ∈ e.2 → El false f.2 g = (0, (Bc g f).2) := fun g hg => by
  have h9 := n1 g hg
  unfold Bc at h9 ⊢
  split at h9
  ·rename_i h8
   rw [if_pos h8]
   exact Prod.ext h9 rfl
  ·cases h9
 have H : A6y e f (Fs e f).2 := by
  refine ⟨fun x hx => (Od.mp (p4 x hx)).2, fun x hx => (Od.mp (q4 x hx)).2, fun x hx => (Od.mp (r4 x hx)).2, Tb p3, Tb q3, Tb r3, by rw [m3]; simp, by rw [m3]; simp, fun i hi => ?_, fun j hj => ?_⟩
  ·rw [m3]
   simp only
   rw [Ge _ hi t0]
   have hmem := Af (d := t0) hi
   obtain ⟨s1, s2, s3, s4, s5, s6⟩ := Gr (n3 _ hmem)
   exact ⟨s5, _, _, ((P1 A3 (by have := hv _ hmem; unfold E2 at q1; rw [Bool.and_eq_true] at q1; have := of_decide_eq_true q1.1; omega)).mp s2).2.2.2.2⟩
  ·rw [m3]
   simp only
   rw [Ge _ hj []]
   exact hrow _ (Af hj)
 have hl1 : e.1.length ≤ 200 := by unfold E2 at p1; rw [Bool.and_eq_true] at p1; exact of_decide_eq_true p1.1
 obtain ⟨_, _, _, hf, hm⟩ := (P1 (t := t) (v := e.1.length) (d := e.2.length) A3 A3).mp p2
 exact sq4 (v := 0) (d := 0) (C3a H) hf (fun h => by cases h) (fun h => by cases h) (ca := e) (cb := f) (cc := ()) (cd := (Fs e f).2) ⟨0, 0, by omega, Sw _, Sw _, Sw _⟩ p5 q5 (id_eq t) r5
theorem B4n (f : List Cl) : Qk (Lu f) := by
 unfold Lu
 split
 ·exact B1v f
 ·exact Cp
theorem Ru {p neg : Bool} {f : List Cl} (h : Ai f) : Qk (ofE p neg f) := by
 unfold ofE
 split
 ·split
  ·exact A8r f
  ·exact B8w h
 ·split
  ·exact B4n f
  ·exact h
theorem A4j {p : Bool} {g k : List Cl} (hg : Ai g) (hk : Ai k) : Qk (Jb p g k) := by
 unfold Jb
 split
 ·by_cases h : (A6 g && A6 k) = false
  ·unfold F1; rw [if_pos h]; exact Cp
  ·have h2 : A6 g = true ∧ A6 k = true := by simpa using h
   rw [L3 h2.1 h2.2]
   exact B4o hg hk
 ·unfold Nc
  split
  ·exact Cp
  ·exact A4k hg hk
theorem B8x {p : Bool} {g k : List Cl} (hg : Ai g) (hk : Ai k) : Qk (Tu p g k) := by
 unfold Tu
 split
 ·unfold Io
  split
  ·exact Cp
  ·exact A4l hg hk
 ·unfold Nd
  split
  ·exact Cp
  ·exact A4l hg hk
theorem B9x (p : Bool) (g k : List Cl) : (Jb p g k).2.length ≤ 64 := by
 unfold Jb
 split
 ·unfold F1
  split
  ·show ([] : List Cl).length ≤ 64; simp
  ·exact Jn _
 ·unfold Nc
  split
  ·show ([] : List Cl).length ≤ 64; simp
  ·exact Jn _
theorem B9y (p : Bool) (g k : List Cl) : (Tu p g k).2.length ≤ 64 := by
 unfold Tu
 split
 ·unfold Io
  split
  ·show ([] : List Cl).length ≤ 64; simp
  ·exact Jn _
 ·unfold Nd
  split
  ·show ([] : List Cl).length ≤ 64; simp
  ·exact Jn _
theorem Zo {x : EL} {k : List Cl → EL} {n : Nat} (h : ∀ g, (k g).2.length ≤ n) : (J1 x k).2.length ≤ n := by
 by_cases h0 : x.1 = 0
 ·rw [C5 h0]; exact h _
 ·rw [Bi h0]; exact Nat.zero_le _
theorem Jl {x : EL} {k : List Cl → EL} (h : Qk x) (hk : ∀ g, Ai g → Qk (k g)) : Qk (J1 x k) := by
 by_cases h0 : x.1 = 0
 ·rw [C5 h0]; exact hk _ h
 ·rw [Bi h0]; exact Cp
def Dt (p neg : Bool) (f g : List Cl) : EL := J1 (ofE p neg f) fun h => Jb p g h
theorem H4 {p neg : Bool} {f g : List Cl} (hf : Ai f) (hg : Ai g) : Qk (Dt p neg f g) := Jl (Ru hf) fun _ h => A4j hg h
theorem Er {l : List CP} {j : Nat} (h : j < l.length) : (l.map (·.1)).getD j [] = (l.getD j Cj).1 := Ge _ h Cj []
theorem Mr {p neg : Bool} {D : List (List Cl)} {f : List Cl} {l : List Int} {z hv : List Cl} {k j : Nat} (hk : k < l.length) (h : Cx p neg D (l.take k) z = (0, hv)) (hj : l.getD k 0 = (j : Int)) (hD : D.getD j [] = f) (h0 : (Dt p neg f hv).1 = 0) : Cx p neg D (l.take (k + 1)) z = (0, (Dt p neg f hv).2) := by
 unfold Dt at h0 ⊢
 obtain ⟨h1, h2, e⟩ := Fl h0
 have e1 : D.getD (l.getD k 0).toNat [] = f := by rw [hj, Int.toNat_natCast]; exact hD
 rw [C4e hk h (by rw [e1]; exact h1) (by rw [e1]; exact h2), e1, e]
theorem Ks {p neg : Bool} {D : List (List Cl)} {f : List Cl} {l : List Int} {z hv : List Cl} {k j : Nat} (hk : k < l.length) (h : Cx p neg D (l.take k) z = (0, hv)) (hj : l.getD k 0 = (j : Int)) (hD : D.getD j [] = f) (h0 : (Dt p neg f hv).1 ≠ 0) : Cx p neg D l z = ((Dt p neg f hv).1, []) := by
 unfold Dt at h0 ⊢
 have e1 : D.getD (l.getD k 0).toNat [] = f := by rw [hj, Int.toNat_natCast]; exact hD
 by_cases h1 : (ofE p neg f).1 = 0
 ·rw [C5 h1] at h0 ⊢
  rw [B4x hk h (by rw [e1]; exact h1) (by rw [e1]; exact h0), e1]
 ·rw [Bi h1] at h0 ⊢
  rw [B4y hk h (by rw [e1]; exact h1), e1]
theorem K2 {p neg : Bool} {D : List (List Cl)} (hD : ∀ j, Ai (D.getD j [])) : ∀ {l : List Int} {g : List Cl}, Ai g → Qk (Cx p neg D l g)
 | [], g, hg => hg
 | i :: l, g, hg => by
  rw [Cx]
  exact Jl (Ru (hD _)) fun h hh => Jl (A4j hg hh) fun g hg => K2 hD hg
theorem O8 {p neg : Bool} {D : List (List Cl)} : ∀ {l : List Int} {g : List Cl}, g.length ≤ 64 → (Cx p neg D l g).2.length ≤ 64
 | [], g, hg => hg
 | i :: l, g, hg => by
  rw [Cx]
  refine Zo fun h => ?_
  by_cases h0 : (Jb p g h).1 = 0
  ·rw [C5 h0]; exact O8 (B9x _ _ _)
  ·rw [Bi h0]; exact Nat.zero_le _
theorem B8y {p : Bool} {D : List (List Cl)} {c : Cl} (hD : ∀ j, Ai (D.getD j [])) : Qk (Sp p D c) := Jl (K2 hD Hx) fun _ hg => K2 hD hg
theorem Wb {p : Bool} {D : List (List Cl)} {c : Cl} {h : List Cl} (hD : ∀ j, Ai (D.getD j [])) (hh : Ai h) : Qk (Ey p D h c) := Jl (B8y hD) fun _ hg => B8x hh hg
theorem A5m (p : Bool) (D : List (List Cl)) (h : List Cl) (c : Cl) : (Ey p D h c).2.length ≤ 64 := Zo fun _ => B9y _ _ _
theorem B5m {g : List Cl → Cl → EL} {m : List Cl} (hg : ∀ h c, Ai h → Qk (g h c)) : ∀ {h : List Cl}, Ai h → Qk (Ck g h m) := by
 induction m with
 | nil => intro h hh; exact hh
 | cons c m ih =>
  intro h hh
  rw [Ck]
  exact Jl (hg h c hh) fun _ h2 => ih h2
theorem Wc {p : Bool} {D : List (List Cl)} {f : List Cl} (hD : ∀ j, Ai (D.getD j [])) : Qk (El p D f) := B5m (fun h c hh => Wb hD hh) Cp
theorem Qq {l : List CP} (h : ∀ j, j < l.length → Ai (l.getD j Cj).1) (j : Nat) : Ai ((l.map (·.1)).getD j []) := by
 by_cases hj : j < l.length
 ·rw [Er hj]; exact h j hj
 ·rw [List.getD_eq_getElem?_getD, List.getElem?_eq_none (by simpa using hj)]
  exact Cp
theorem Spec.B2q {P : Program} {k : FuncId} {args : Array Value} {pre : List Fact} {Ms0 : List B3} {r r' : EL} (he : r' = r) (h : Spec P k args pre Ms0 (fun x : SH => .tuple #[sl x r.2.length, .int .i64 r.1]) (fun x => [CL r.2 x]) (fun _ => [])) : Spec P k args pre Ms0 (fun x : SH => .tuple #[sl x r'.2.length, .int .i64 r'.1]) (fun x => [CL r'.2 x]) (fun _ => []) := by
 subst he
 exact h
def B0 {α β : Type} (g : α → Int × β) (z : List β) (l : List α) : Int × List β := if (Fh g l).1 ≠ 0 then ((Fh g l).1, []) else (0, z ++ (Fh g l).2)
theorem Ll {α β : Type} {g : α → Int × β} {z : List β} {l : List α} (h : ∀ a, a ∈ l → (g a).1 = 0) : B0 g z l = (0, z ++ l.map fun a => (g a).2) := by
 unfold B0
 rw [B2e h, if_neg D2]
theorem Lk {α β : Type} {g : α → Int × β} {z : List β} {d : α} {l : List α} {i : Nat} (hi : i < l.length) (h : ∀ j, j < i → (g (l.getD j d)).1 = 0) (h2 : (g (l.getD i d)).1 ≠ 0) : B0 g z l = ((g (l.getD i d)).1, []) := by
 unfold B0
 rw [A5h hi h h2, if_pos h2]
theorem Xr {α β : Type} {g : α → Int × β} {d : α} {l : List α} {i : Nat} (hi : i = l.length) (h : ∀ j, j < i → (g (l.getD j d)).1 = 0) : ∀ a, a ∈ l → (g a).1 = 0 := fun a ha => by
 obtain ⟨j, hj, rfl⟩ := List.mem_iff_getElem.mp ha
 rw [← Cq (d := d) hj]
 exact h j A3
theorem Nv {α β : Type} {f : α → β} {d : α} {l : List α} {k : Nat} (h : k < l.length) : (l.take (k + 1)).map f = (l.take k).map f ++ [f (l.getD k d)] := by rw [Aj (d := d) h, List.map_append]; rfl
def Lr (r : A8 Ev) (c : Int) (e : Ev) : Prop := (c = 0 → r = .ok e) ∧ (c ≠ 0 → r = .bad c)
theorem B6n (ts : List T) (D : List (List Cl)) : Lr (Vf (ts, D)) (B0 (fun t => Bk t 0 1) [vE 0] ts).1 ((B0 (fun t => Bk t 0 1) [vE 0] ts).2, D) := by
 unfold B0 Vf Lr Y5
 by_cases h : (Fh (fun t => Bk t 0 1) ts).1 ≠ 0
 ·rw [if_pos h]
  refine ⟨fun h0 => absurd h0 h, fun _ => ?_⟩
  rw [if_neg h]; rfl
 ·rw [if_neg h]
  refine ⟨fun _ => ?_, fun h0 => absurd rfl h0⟩
  rw [if_pos (Decidable.not_not.mp h)]; rfl
theorem B5w {ts : List T} {D : List (List Cl)} (h : (B0 (fun f => Ad f 0 1) [[⟨1, 0⟩]] D).1 ≠ 0) : Sm (ts, D) = .bad (B0 (fun f => Ad f 0 1) [[⟨1, 0⟩]] D).1 := by
 unfold B0 at h ⊢
 unfold Sm Y5
 by_cases h1 : (Fh (fun f => Ad f 0 1) D).1 ≠ 0
 ·rw [if_pos h1, if_neg h1]; rfl
 ·rw [if_neg h1] at h; exact absurd rfl h
theorem B5v {ts : List T} {D : List (List Cl)} (h : (B0 (fun f => Ad f 0 1) [[⟨1, 0⟩]] D).1 = 0) : Lr (Sm (ts, D)) (B0 (fun t => Bl t 0 1) [] ts).1 ((B0 (fun t => Bl t 0 1) [] ts).2, (B0 (fun f => Ad f 0 1) [[⟨1, 0⟩]] D).2) := by
 unfold B0 at h
 by_cases h1 : (Fh (fun f => Ad f 0 1) D).1 ≠ 0
 ·rw [if_pos h1] at h; exact absurd h h1
 ·unfold B0 Lr Sm Y5
  rw [if_neg h1, if_pos (Decidable.not_not.mp h1)]
  by_cases h2 : (Fh (fun t => Bl t 0 1) ts).1 ≠ 0
  ·rw [if_pos h2]
   refine ⟨fun h0 => absurd h0 h2, fun _ => ?_⟩
   rw [if_neg h2]; rfl
  ·rw [if_neg h2]
   refine ⟨fun _ => ?_, fun h0 => absurd rfl h0⟩
   rw [if_pos (Decidable.not_not.mp h2)]; rfl
theorem B2u {ok : Nat → Prop} {w : World} {l : List CP} {a : SH} (h : (Hf l a).f ok w) (j : Nat) (hj : j < l.length) : Ai (l.getD j Cj).1 := Bw (h.2 _ (Af hj))
def Ex (t : T) (e : Ev) : Int × T := M5 (Bh Bd t e)
def Fu (t : T) (e : Ev) (b : Int × Int) : Int × T := M5 ((Kf e b).bind fun e' => Bh Bd t e')
theorem C0h {t : T} {e : Ev} {b : Int × Int} {c : Int} (h : Kf e b = .bad c) : Fu t e b = (c, t0) := by unfold Fu; rw [h]; rfl
theorem C4k {t : T} {e e' : Ev} {b : Int × Int} (h : Kf e b = .ok e') : Fu t e b = Ex t e' := by unfold Fu; rw [h]; rfl
theorem Xn {e e' : Ev} {b : Int × Int} {n : Nat} (hn : 1 ≤ n) (h : ∀ x, x ∈ e.1 → size x ≤ n) (hk : Kf e b = .ok e') : (∀ x, x ∈ e'.1 → size x ≤ n) ∧ (bnd b → (e'.1.length : Int) = e.1.length + b.1 ∧ (e'.2.length : Int) = e.2.length + b.2) := by
 unfold Kf at hk
 split at hk
 ·rename_i h1
  obtain ⟨rfl, ht⟩ := Yn hk
  refine ⟨fun x hx => ?_, fun hb => ?_⟩
  ·rcases List.mem_cons.mp hx with rfl | hx
   ·have : size (vE 0) = 1 := by decide +kernel
    omega
   ·obtain ⟨y, hy, rfl⟩ := List.mem_map.mp hx
    rw [P5 (ht y hy)]; exact h y hy
  ·simp only [List.length_cons, List.length_map]; omega
 ·split at hk
  ·rename_i h1 h2
   obtain ⟨rfl, ht, _⟩ := U2 hk
   refine ⟨fun x hx => ?_, fun hb => ?_⟩
   ·obtain ⟨y, hy, rfl⟩ := List.mem_map.mp hx
    rw [P5 (ht y hy)]; exact h y hy
   ·simp only [List.length_cons, List.length_map]; omega
  ·injection hk with hk
   subst hk
   exact ⟨h, fun hb => by omega⟩
theorem St.A4x {B : C0} {Γ : List Fact} {Ms : List B3} {w : World} (c : Nat) (hs : St B Γ Ms w) : St B (Hf [] (Option.none, c) :: Γ) Ms w := hs.add ⟨⟨Nat.zero_le _, by simp, fun h => absurd h D2⟩, fun x hx => by cases hx⟩
def A5r (t : T) (e : Ev) (b : Int × Int) : A8 T := (Kf e b).bind fun e' => Bh Bd t e'
theorem C4l {t : T} {e : Ev} {b : Int × Int} {x : Int} (h : A5r t e b = .bad x) : x ≠ 0 := by
 unfold A5r at h
 rcases Be h with h | ⟨e', _, h⟩
 ·exact Xo h
 ·exact N0 _ h
theorem Qu {r : A8 T} (hn : ∀ e, r = .bad e → e ≠ 0) (h : (M5 r).1 = 0) : r = .ok (M5 r).2 := by
 cases r with
 | ok u => rfl
 | bad e => exact absurd h (hn e rfl)
theorem C2b {r : A8 T} (h : (M5 r).1 ≠ 0) : r = .bad (M5 r).1 := by
 cases r with
 | ok u => exact absurd rfl h
 | bad e => rfl
theorem Zr {t : T} {e : Ev} {b : Int × Int} (h : (Fu t e b).1 = 0) : A5r t e b = .ok (Fu t e b).2 := Qu (fun _ h => C4l h) h
theorem B2k {t : T} {e : Ev} {b : Int × Int} (h : (Fu t e b).1 ≠ 0) : A5r t e b = .bad (Fu t e b).1 := C2b h
theorem A9u {k : Int} {ts : List T} {i : Nat} {l : List T} {e : Ev} {u : T} (hi : i < ts.length) (hl : Ci Bd k 0 (ts.take i) e = .ok l) (h : A5r (ts.getD i t0) e (binds k i) = .ok u) : Ci Bd k 0 (ts.take (i + 1)) e = .ok (l ++ [u]) := by
 obtain ⟨e', h1, h2⟩ := A8.A0 h
 exact U9 hi hl h1 h2
theorem A6g {t : T} {e : Ev} {x : Int} {p : Int × List Cl} {i : Nat} {l : List T} (ho : Bd.own e t.kind t.n t.name t.r = .ok (.inr p)) (hi : i < t.kids.length) (hl : Ci Bd t.kind 0 (t.kids.take i) e = .ok l) (h : A5r (t.kids.getD i t0) e (binds t.kind i) = .bad x) : Bh Bd t e = .bad x := by
 rcases Be h with h | ⟨e', h1, h2⟩
 ·have h1 : Ci Bd t.kind 0 (t.kids.take (i + 1)) e = .bad x := by
   rw [Aj (d := t0) hi, Mg, hl]
   simp only [A8.bind, List.length_take, Nat.zero_add, Nat.min_eq_left (Nat.le_of_lt hi)]
   rw [show Bd.Gq e (binds t.kind i) = .bad x from h]
  have h2 := T8 (m := t.kids.drop (i + 1)) h1
  rw [List.take_append_drop] at h2
  exact Y2 ho h2
 ·exact Rf ho hi hl h1 h2
theorem C1m {k : Int} {ts : List T} {i : Nat} {l : List T} {e : Ev} {u : T} (hi : i < ts.length) (hl : Bt Bd k (ts.take i) e = .ok l) (h : A5r (ts.getD i t0) e (0, more k) = .ok u) : Bt Bd k (ts.take (i + 1)) e = .ok (l ++ [u]) := by
 obtain ⟨e', h1, h2⟩ := A8.A0 h
 exact Ua hi hl h1 h2
theorem B5r {k : Int} {ts : List T} {i : Nat} {l : List T} {e : Ev} {x : Int} (hi : i < ts.length) (hl : Bt Bd k (ts.take i) e = .ok l) (h : A5r (ts.getD i t0) e (0, more k) = .bad x) : Bt Bd k ts e = .bad x := by
 rcases Be h with h | ⟨e', h1, h2⟩
 ·have h1 : Bt Bd k (ts.take (i + 1)) e = .bad x := by
   rw [Aj (d := t0) hi, Me, hl]
   simp only [A8.bind]
   rw [show Bd.Gq e (0, more k) = .bad x from h]
  have h2 := T7 (m := ts.drop (i + 1)) h1
  rwa [List.take_append_drop] at h2
 ·exact Rg hi hl h1 h2
theorem Rh {C : Type} {A : Tr C} {k : Int} {c : C} {ss : List Br} {s : Nat} {bs : List Br} {e : Int} (hs : s < ss.length) (hb : Bu A k (ss.take s) c = .ok bs) (hf : A.As c (ss.getD s C4).As = .bad e ∨ ∃ f', A.As c (ss.getD s C4).As = .ok (some f') ∧ Bt A k (ss.getD s C4).kids c = .bad e) : Bu A k ss c = .bad e := by
 have h1 : Bu A k (ss.take (s + 1)) c = .bad e := by
  rw [Aj (d := C4) hs, Jw, hb]
  simp only [A8.bind]
  rcases hf with hf | ⟨f', hf, h2⟩
  ·rw [hf]
  ·rw [hf]; simp only; rw [h2]
 have h2 := Oy (m := ss.drop (s + 1)) h1
 rwa [List.take_append_drop] at h2
def Nl (t : T) (e : Ev) (g : List Cl) (ks : List T) : Int × T := M5 ((Bu Bd t.kind t.sys e).bind fun bs => .ok (.mk t.kind 0 t.name g ks bs))
theorem A6l {t : T} {e : Ev} {g : List Cl} {ks : List T} {x : Int} (h : Bu Bd t.kind t.sys e = .bad x) : Nl t e g ks = (x, t0) := by unfold Nl; rw [h]; rfl
theorem C5n {t : T} {e : Ev} {g : List Cl} {ks : List T} {bs : List Br} (h : Bu Bd t.kind t.sys e = .ok bs) : Nl t e g ks = (0, .mk t.kind 0 t.name g ks bs) := by unfold Nl; rw [h]; rfl
theorem A2k {e : Ev} {f : List Cl} (h : (El true e.2 f).1 ≠ 0) : Bd.As e f = .bad (El true e.2 f).1 := by show (elR _).bind _ = _; rw [B2s h]; rfl
theorem Yi {e : Ev} {f : List Cl} (h : (El true e.2 f).1 = 0) (h2 : (El true e.2 f).2.length = 0) : Bd.As e f = .ok none := by show (elR _).bind _ = _; rw [A9y h]; show A8.ok (if _ then _ else _) = _; rw [if_pos h2]
theorem Yh {e : Ev} {f : List Cl} (h : (El true e.2 f).1 = 0) (h2 : (El true e.2 f).2.length ≠ 0) : Bd.As e f = .ok (some (El true e.2 f).2) := by show (elR _).bind _ = _; rw [A9y h]; show A8.ok (if _ then _ else _) = _; rw [if_neg h2]
theorem A6f {e : Ev} {k n : Int} {nm : ByteArray} {r : List Cl} (hk : k ≠ 1) (h : (El (decide (k = 14)) e.2 r).1 ≠ 0) : Bd.own e k n nm r = .bad (El (decide (k = 14)) e.2 r).1 := by
 show (if k = 1 then _ else _) = _
 rw [if_neg hk, B2s h]; rfl
theorem A9t {e : Ev} {k n : Int} {nm : ByteArray} {r : List Cl} (hk : k ≠ 1) (h : (El (decide (k = 14)) e.2 r).1 = 0) : Bd.own e k n nm r = .ok (.inr (0, (El (decide (k = 14)) e.2 r).2)) := by
 show (if k = 1 then _ else _) = _
 rw [if_neg hk, A9y h]; rfl
theorem C5a {t : T} {e : Ev} {g : List Cl} {ks : List T} (ho : Bd.own e t.kind t.n t.name t.r = .ok (.inr (0, g))) (hl : Ci Bd t.kind 0 t.kids e = .ok ks) : Ex t e = Nl t e g ks := by
 show M5 _ = M5 _
 rw [D5, ho]; simp only [A8.bind]; rw [hl]
theorem C3f {t : T} {v : Int} {d : Nat} (hf : Cm t) (hm : G7 t v d) : ∀ c, c ∈ t.r → ∀ j, (c.pos ||| c.neg).testBit j = true → j < d := by
 obtain ⟨⟨m1, m2, m3⟩, m4, m5⟩ := Ik.mp hm
 have h1 := (Lz.mp hf).1
 by_cases hk : t.kind = 1
 ·rw [(Ly hf hk).1]
  intro c hc
  cases hc
 ·have hr : C3 (decide (t.kind = 14)) t.r := by
   unfold C3
   by_cases h14 : t.kind = 14
   ·rw [if_pos (by simp [h14])]; exact (Qm h1).1 h14
   ·rw [if_neg (by simp [h14])]; exact (Qm h1).2
  exact Qd A3 (F4 (Jf hr)) m3
theorem C1h {t : T} {v : Int} {d : Nat} {s : Nat} (hf : Cm t) (hm : G7 t v d) (hs : s < t.sys.length) : ∀ c, c ∈ (t.sys.getD s C4).As → ∀ j, (c.pos ||| c.neg).testBit j = true → j < d := by
 obtain ⟨⟨m1, m2, m3⟩, m4, m5⟩ := Ik.mp hm
 have hb := Af (d := C4) hs
 exact Qd A3 (F4 (Dn (B5p hf hb)).1) (m4 _ hb)
def Iq (ts : List T) (D n : Nat) : Prop := ts.length + n ≤ 10000000 ∧ D + n ≤ 10000000 ∧ ∀ x, x ∈ ts → size x ≤ 1000000000
theorem Iq.less {ts : List T} {D n m : Nat} (h : Iq ts D n) (hm : m ≤ n) : Iq ts D m := ⟨by have := h.1; omega, by have := h.2.1; omega, h.2.2⟩
theorem C0f {e e' : Ev} {b : Int × Int} {n : Nat} (hb : bnd b) (h : Iq e.1 e.2.length (n + 1)) (hk : Kf e b = .ok e') : Iq e'.1 e'.2.length n := by
 obtain ⟨h1, h2⟩ := Xn (n := 1000000000) A3 h.2.2 hk
 obtain ⟨h3, h4⟩ := h2 hb
 have h5 := h.1
 have h6 := h.2.1
 have h7 := hb.1
 have h8 := hb.2.1
 exact ⟨by omega, by omega, h1⟩
theorem C4j {e e' : Ev} {b : Int × Int} {t : T} (hb : bnd b) (hm : G7 t (e.1.length + b.1) (e.2.length + b.2)) {n : Nat} (h : Iq e.1 e.2.length n) (hk : Kf e b = .ok e') : G7 t e'.1.length e'.2.length := by
 obtain ⟨h1, h2⟩ := Xn (n := 1000000000) A3 h.2.2 hk
 obtain ⟨h3, h4⟩ := h2 hb
 rw [h3, h4]; exact hm
theorem B9n {t : T} {v d : Int} (hm : G7 t v d) {i : Nat} (hi : i < t.kids.length) : G7 (t.kids.getD i t0) (v + (binds t.kind i).1) (d + (binds t.kind i).2) := (Ik.mp hm).2.2 _ (List.mem_of_getElem? (Jk t i hi))
theorem B9m {t : T} {v d : Int} (hm : G7 t v d) {s k : Nat} (hs : s < t.sys.length) (hk : k < (t.sys.getD s C4).kids.length) : G7 ((t.sys.getD s C4).kids.getD k t0) (v + 0) (d + more t.kind) := (Ik.mp hm).2.2 _ (List.mem_of_getElem? (Jh t s k hs hk))
theorem B0i (k i : Int) : bnd ((binds k i).1, (binds k i).2) := A0g k i
theorem A3s {l : List CP} {ts : List T} {n : Nat} (h : Iq ts l.length n) : Iq (ts, l.map (·.1)).1 (ts, l.map (·.1)).2.length n := by
 show Iq ts (l.map (·.1)).length n
 rw [List.length_map]; exact h
theorem B9o {l : List CP} {ts : List T} {n : Nat} (h : Iq (ts, l.map (·.1)).1 (ts, l.map (·.1)).2.length n) : Iq ts l.length n := by
 have h : Iq ts (l.map (·.1)).length n := h
 rwa [List.length_map] at h
section
variable {P : Program} [Tab P] {f : FuncId} {fn : Func} {B : C0} {n : Fz} {K : List Item} {σ : Nat → Value} {Γ : List Fact} {Ms : List B3} {X : Type} {val : X → Value} {N : X → List Fact} {Ms1 : X → List B3}
end
def kpT (e : Int) (t : T) : T := if e = 0 then t else t0
def kpS (e : Int) (s : SH) : SH := if e = 0 then s else (none, 0)
theorem C9z {e : Int} {t : T} (h : e = 0) : kpT e t = t := if_pos h
theorem C4i {e : Int} {t : T} (h : e ≠ 0) : kpT e t = t0 := if_neg h
theorem A9i {e : Int} {t : SH} (h : e = 0) : kpS e t = t := if_pos h
theorem A2a {e : Int} {t : SH} (h : e ≠ 0) : kpS e t = (none, 0) := if_neg h
theorem St.kp {B : C0} {Γ : List Fact} {Ms : List B3} {w : World} (e : Int) {t : T} {a b c : SH} (hs : St B Γ Ms w) (h : RT t a b c ∈ Γ) : St B (RT (kpT e t) (kpS e a) (kpS e b) (kpS e c) :: Γ) Ms w := by
 by_cases he : e = 0
 ·rw [C9z he, A9i he, A9i he, A9i he]
  exact hs.less (by
   intro F hF
   rcases List.mem_cons.mp hF with rfl | hF
   ·exact h
   ·exact hF)
 ·rw [C4i he, A2a he, A2a he, A2a he]
  exact hs.Ju
section
variable {tn : Bool} {pn : Nat} {P : Program} [Tab P] {f : FuncId} {R : Ending → World → Prop} {B : C0} {n : Fz} {K : List Item} {ops : Array Oper} {fin l : List Nat} {σ : Nat → Value} {Γ : List Fact} {Ms : List B3} {i : Nat} {dst : Option Tmp} {ty : TypeId} {x y z : Operand}
end
section
variable {M : Nat}
theorem C0g {e e' : Ev} {b : Int × Int} (hM : 1 ≤ M) (h : ∀ x, x ∈ e.1 → size x ≤ M) (hk : Bd.Gq e b = .ok e') : ∀ x, x ∈ e'.1 → size x ≤ M := (Xn hM h hk).1
mutual
theorem Xb : ∀ {t u : T} {e : Ev}, 1 ≤ M → (∀ x, x ∈ e.1 → size x ≤ M) → Bh Bd t e = .ok u → size u ≤ size t * M
 | .mk k n nm r ks ss, u, e, hM, he, hu => by
  rw [D5] at hu
  simp only [T.kind, T.n, T.name, T.r, T.kids, T.sys] at hu
  obtain ⟨o, h9, hu⟩ := A8.A0 hu
  cases o with
  | inl v =>
   injection hu with hu
   subst hu
   simp only [Bd] at h9
   split at h9
   ·injection h9 with h9
    injection h9 with h9
    subst h9
    have h1 : size (e.1.getD n.toNat t0) ≤ M := by
     by_cases hl : n.toNat < e.1.length
     ·exact he _ (Af hl)
     ·rw [List.getD_eq_getElem?_getD, List.getElem?_eq_none A3]
      show size t0 ≤ M
      rw [A0y]; exact hM
    exact Nat.le_trans h1 (Nat.le_mul_of_pos_left M (size_pos' _))
   ·obtain ⟨g, _, h9⟩ := A8.A0 h9
    injection h9 with h9
    cases h9
  | inr p =>
   obtain ⟨ks', h10, hu⟩ := A8.A0 hu
   obtain ⟨ss', h11, hu⟩ := A8.A0 hu
   injection hu with hu
   subst hu
   rw [Vr, Vr (.mk k n nm r ks ss)]
   simp only [T.kids, T.sys]
   have h1 := Zz hM he h10
   have h2 := U0 hM he h11
   rw [Nat.add_mul, Nat.add_mul]
   omega
theorem Zz {k : Int} : ∀ {ts us : List T} {i : Nat} {e : Ev}, 1 ≤ M → (∀ x, x ∈ e.1 → size x ≤ M) → Ci Bd k i ts e = .ok us → Li us ≤ Li ts * M
 | [], us, i, e, hM, he, hu => by rw [Ct] at hu; injection hu with hu; subst hu; exact Nat.zero_le _
 | t :: ts, us, i, e, hM, he, hu => by
  rw [Ch] at hu
  obtain ⟨c', h1, hu⟩ := A8.A0 hu
  obtain ⟨t', h2, hu⟩ := A8.A0 hu
  obtain ⟨ts', h3, hu⟩ := A8.A0 hu
  injection hu with hu
  subst hu
  have h4 := Xb hM (C0g hM he h1) h2
  have h5 := Zz hM he h3
  simp only [Li]
  rw [Nat.add_mul]
  omega
theorem Zy {k : Int} : ∀ {ts us : List T} {e : Ev}, 1 ≤ M → (∀ x, x ∈ e.1 → size x ≤ M) → Bt Bd k ts e = .ok us → Li us ≤ Li ts * M
 | [], us, e, hM, he, hu => by rw [Cy] at hu; injection hu with hu; subst hu; exact Nat.zero_le _
 | t :: ts, us, e, hM, he, hu => by
  rw [Cg] at hu
  obtain ⟨c', h1, hu⟩ := A8.A0 hu
  obtain ⟨t', h2, hu⟩ := A8.A0 hu
  obtain ⟨ts', h3, hu⟩ := A8.A0 hu
  injection hu with hu
  subst hu
  have h4 := Xb hM (C0g hM he h1) h2
  have h5 := Zy hM he h3
  simp only [Li]
  rw [Nat.add_mul]
  omega
theorem U0 {k : Int} : ∀ {bs us : List Br} {e : Ev}, 1 ≤ M → (∀ x, x ∈ e.1 → size x ≤ M) → Bu Bd k bs e = .ok us → Uf us ≤ Uf bs * M
 | [], us, e, hM, he, hu => by rw [Co] at hu; injection hu with hu; subst hu; exact Nat.zero_le _
 | .mk f ks :: bs, us, e, hM, he, hu => by
  rw [C7] at hu
  simp only [Br.As, Br.kids] at hu
  obtain ⟨o, h5, hu⟩ := A8.A0 hu
  cases o with
  | none => have h6 := U0 hM he hu; simp only [Uf]; rw [Nat.add_mul]; omega
  | some g =>
   obtain ⟨ks', h7, hu⟩ := A8.A0 hu
   obtain ⟨bs', h8, hu⟩ := A8.A0 hu
   injection hu with hu
   subst hu
   have h1 := Zy hM he h7
   have h2 := U0 hM he h8
   simp only [Uf, Br.kids]
   rw [Nat.add_mul]
   omega
end
end
theorem B5t {t : T} {e : Ev} {M : Nat} (hM : 1 ≤ M) (he : ∀ x, x ∈ e.1 → size x ≤ M) : size (Ex t e).2 ≤ size t * M := by
 unfold Ex
 cases h : Bh Bd t e with
 | ok u => exact Xb hM he h
 | bad x => show size t0 ≤ _; rw [A0y]; exact Nat.le_trans hM (Nat.le_mul_of_pos_left M (size_pos' t))
theorem C2e {α : Type} {p : α → Bool} {l : List α} {d : α} {i : Nat} (hi : i < l.length) (h : p (l.getD i d) = true) : l.any p = true := List.any_eq_true.mpr ⟨_, Af hi, h⟩
theorem any_none {α : Type} {p : α → Bool} {l : List α} {d : α} (h : ∀ j, j < l.length → p (l.getD j d) = false) : l.any p = false := by
 rw [List.any_eq_false]
 intro x hx
 obtain ⟨j, hj, rfl⟩ := List.mem_iff_getElem.mp hx
 have := h j hj
 rw [Cq (d := d) hj] at this
 rw [this]; decide
theorem C0n {α : Type} {p : α → Bool} {l : List α} {d : α} {i : Nat} (hi : i < l.length) (h : p (l.getD i d) = true) : decide (0 ≤ (i : Int)) = l.any p := by rw [C2e hi h]; exact decide_eq_true A3
theorem A5u {α : Type} {p : α → Bool} {l : List α} {d : α} (h : ∀ j, j < l.length → p (l.getD j d) = false) : decide (0 ≤ (-1 : Int)) = l.any p := by rw [any_none h]; decide
theorem B7e (ts : List T) (l : List CP) : (!(l.any fun x => !A5 x.1)) = D1 (ts, l.map (·.1)) := by
 unfold D1
 show _ = (l.map (·.1)).all fun f => A5 f
 rw [List.all_map, Bool.eq_iff_iff]
 simp [List.any_eq_false]
theorem B2p (ts : List T) (l : List CP) : (decide ((ts.length : Int) ≤ 200) && decide ((l.length : Int) ≤ 24)) = E2 (ts, l.map (·.1)) := by
 unfold E2
 show _ = (decide (ts.length ≤ 200) && decide ((l.map (·.1)).length ≤ 24))
 rw [List.length_map, Bool.eq_iff_iff]
 simp only [Bool.and_eq_true, decide_eq_true_eq]
 omega
theorem Oe {ts : List T} {l : List CP} (h : E2 (ts, l.map (·.1)) = true) : ts.length ≤ 200 ∧ l.length ≤ 24 := by
 rw [← B2p] at h
 simp only [Bool.and_eq_true, decide_eq_true_eq] at h
 omega
theorem A9d {f : List Cl} {n : Nat} (h : n ≤ 24) : Tt f n = decide (Eo f / 2 ^ (min n 32) = 0) := by unfold Tt; rw [Nat.min_eq_left A3]
theorem B0o {t : T} {e : Ev} (h : E2 e = false) : A2 t e = (2, t0) := by unfold A2; rw [if_pos h]
theorem A6r {t : T} {e : Ev} (h : E2 e = true) (h2 : Dm t e.1.length e.2.length ≠ 0) : A2 t e = (Dm t e.1.length e.2.length, t0) := by unfold A2; rw [if_neg (by rw [h]; decide), if_pos h2]
theorem A6q {t : T} {e : Ev} (h : E2 e = true) (h2 : Dm t e.1.length e.2.length = 0) (h3 : (D1 e && e.1.all fun x => decide (Ax x = 0)) = false) : A2 t e = (2, t0) := by unfold A2; rw [if_neg (by rw [h]; decide), if_neg (by rw [h2]; decide), if_pos h3]
theorem Ux {ts : List T} : (ts.all fun x => decide (Ax x = 0)) = !(ts.any fun t => decide (Ax t ≠ 0)) := by
 rw [Bool.eq_iff_iff]
 simp [List.any_eq_false]
theorem B6e {t : T} {e : Ev} (h : E2 e = true) (h2 : Dm t e.1.length e.2.length = 0) (h3 : (D1 e && e.1.all fun x => decide (Ax x = 0)) = true) (h4 : (Ex t e).1 ≠ 0) : A2 t e = ((Ex t e).1, t0) := by
 unfold A2
 rw [if_neg (by rw [h]; decide), if_neg (by rw [h2]; decide), if_neg (by rw [h3]; decide)]
 unfold Ex at h4 ⊢
 cases hq : Bh Bd t e with
 | ok u => rw [hq] at h4; exact absurd rfl h4
 | bad x => rfl
theorem A6s {t : T} {e : Ev} (h : E2 e = true) (h2 : Dm t e.1.length e.2.length = 0) (h3 : (D1 e && e.1.all fun x => decide (Ax x = 0)) = true) (h4 : (Ex t e).1 = 0) (h5 : Ax (Ex t e).2 ≠ 0) : A2 t e = (Ax (Ex t e).2, t0) := by
 have hz := Qu (r := Bh Bd t e) (fun x hx => N0 t hx) h4
 unfold A2
 rw [if_neg (by rw [h]; decide), if_neg (by rw [h2]; decide), if_neg (by rw [h3]; decide), hz]
 exact if_pos h5
theorem C2d {t : T} {e : Ev} (h : E2 e = true) (h2 : Dm t e.1.length e.2.length = 0) (h3 : (D1 e && e.1.all fun x => decide (Ax x = 0)) = true) (h4 : (Ex t e).1 = 0) (h5 : Ax (Ex t e).2 = 0) : A2 t e = (0, (Ex t e).2) := by
 have hz := Qu (r := Bh Bd t e) (fun x hx => N0 t hx) h4
 unfold A2
 rw [if_neg (by rw [h]; decide), if_neg (by rw [h2]; decide), if_neg (by rw [h3]; decide), hz]
 exact if_neg (by rw [show (M5 (Bh Bd t e)).2 = (Ex t e).2 from rfl, h5]; decide)
theorem B0n {t : T} {ts : List T} {l : List CP} (h : E2 (ts, l.map (·.1)) = true) (h2 : Dm t ts.length l.length = 0) (h3 : ∀ x, x ∈ ts → Ax x = 0) (hz : size t ≤ 20000) : Iq ts l.length (size t) ∧ Cm t ∧ G7 t ts.length l.length := by
 have hl := Oe h
 obtain ⟨_, _, _, hf, hm⟩ := (P1 (t := t) (v := ts.length) (d := l.length) A3 A3).mp h2
 exact ⟨⟨by omega, by omega, fun x hx => by have := Ip (h3 x hx); omega⟩, hf, hm⟩
theorem A8d {t : T} {v d : Int} (hv : 0 ≤ v) (hb : v ≤ 1000000000000) (h : Dm t v d = 0) : size t ≤ 20000 := (Qf.mp ((P1 hv hb).mp h).2.2.1).2
theorem A9w {f : List Cl} {e : Ev} (h : (A5 f && E2 e && Tt f e.2.length && D1 e) = false) : Bc f e = (2, []) := by unfold Bc; rw [if_neg (by rw [h]; decide)]
theorem B5s {f : List Cl} {e : Ev} (h : (A5 f && E2 e && Tt f e.2.length && D1 e) = true) : Bc f e = El false e.2 f := by unfold Bc; rw [if_pos h]
theorem A8s {f : List Cl} {e : Ev} (hD : ∀ j, Ai (e.2.getD j [])) : Qk (Bc f e) := by
 unfold Bc
 split
 ·exact Wc hD
 ·exact Cp
theorem B9p {f : List Cl} {n : Nat} (hn : n ≤ 24) (h : A5 f = true) (h2 : Tt f n = true) : ∀ c, c ∈ f → ∀ j, (c.pos ||| c.neg).testBit j = true → j < n := by
 have hall : f.all Az = true := by
  unfold A5 at h
  simp only [Bool.and_eq_true] at h
  exact h.1.1.1
 refine Qd hn hall ?_
 rw [A9d hn] at h2
 unfold within
 rw [Bool.or_eq_true]
 right
 have h3 := of_decide_eq_true h2
 rw [Int.toNat_natCast]
 exact decide_eq_true A3
def Gh (ts : List T) (l : List CP) : Bool := decide (30 < ts.length) || decide (30 < l.length) || (l.any fun x => decide (6 < x.1.length)) || decide (150 < Fw (.mk 0 0 ⟨#[]⟩ [] ts []))
theorem X1 {ts : List T} {l : List CP} (h : Gh ts l = false) : ts.length ≤ 30 ∧ l.length ≤ 30 ∧ (∀ x, x ∈ l → x.1.length ≤ 6) ∧ Fw (.mk 0 0 ⟨#[]⟩ [] ts []) ≤ 150 := by
 unfold Gh at h
 simp only [Bool.or_eq_false_iff, decide_eq_false_iff_not] at h
 obtain ⟨⟨⟨h1, h2⟩, h3⟩, h4⟩ := h
 refine ⟨by omega, by omega, fun x hx => ?_, by omega⟩
 have := List.any_eq_false.mp h3 x hx
 simp only [decide_eq_true_eq] at this
 omega
theorem B5k {ts : List T} {l : List CP} (h : 30 < ts.length ∨ 30 < l.length) : Gh ts l = true := by
 unfold Gh
 rcases h with h | h <;> simp [h]
theorem A9n {ts : List T} {l : List CP} {i : Nat} (hi : i < l.length) (h : 6 < (l.getD i Cj).1.length) : Gh ts l = true := by
 unfold Gh
 rw [C2e (p := fun x : CP => decide (6 < x.1.length)) (d := Cj) hi (decide_eq_true h)]
 simp
theorem A9o {ts : List T} {l : List CP} (h1 : ts.length ≤ 30) (h2 : l.length ≤ 30) (h3 : ∀ j, j < l.length → (l.getD j Cj).1.length ≤ 6) : Gh ts l = decide (150 < Fw (.mk 0 0 ⟨#[]⟩ [] ts [])) := by
 unfold Gh
 rw [any_none (p := fun x : CP => decide (6 < x.1.length)) (d := Cj) (fun j hj => decide_eq_false (by have := h3 j hj; omega)), decide_eq_false (show ¬ 30 < ts.length by omega), decide_eq_false (show ¬ 30 < l.length by omega)]
 simp
theorem A7y {f : List Cl} {ts : List T} {l : List CP} (h : (!A5 f || !E2 (ts, l.map (·.1)) || decide (Eo f / 2 ^ (min l.length 32) ≠ 0) || !D1 (ts, l.map (·.1))) = false) : (A5 f && E2 (ts, l.map (·.1)) && Tt f (ts, l.map (·.1)).2.length && D1 (ts, l.map (·.1))) = true := by
 simp only [Bool.or_eq_false_iff, Bool.not_eq_false'] at h
 obtain ⟨⟨⟨h1, h2⟩, h3⟩, h4⟩ := h
 have hl := Oe h2
 show (_ && _ && Tt f (l.map (·.1)).length && _) = true
 rw [List.length_map, A9d hl.2, h1, h2, h4]
 simpa using h3
theorem A7z {f : List Cl} {ts : List T} {l : List CP} (h : (!A5 f || !E2 (ts, l.map (·.1)) || decide (Eo f / 2 ^ (min l.length 32) ≠ 0) || !D1 (ts, l.map (·.1))) = true) : (A5 f && E2 (ts, l.map (·.1)) && Tt f (ts, l.map (·.1)).2.length && D1 (ts, l.map (·.1))) = false := by
 cases h1 : A5 f with
 | false => rfl
 | true =>
  cases h2 : E2 (ts, l.map (·.1)) with
  | false => rfl
  | true =>
   have hl := Oe h2
   show (_ && Tt f (l.map (·.1)).length && _) = false
   rw [List.length_map, A9d hl.2]
   rw [h1, h2] at h
   cases h3 : D1 (ts, l.map (·.1)) with
   | false => simp
   | true => rw [h3] at h; simpa using h
theorem A1e {f : List Cl} {ts : List T} {l : List CP} (h : (A5 f && E2 (ts, l.map (·.1)) && Tt f (ts, l.map (·.1)).2.length && D1 (ts, l.map (·.1))) = true) : ∀ c, c ∈ f → ∀ j, (c.pos ||| c.neg).testBit j = true → j < l.length := by
 simp only [Bool.and_eq_true] at h
 have hl := Oe h.1.1.2
 have h2 : Tt f (l.map (·.1)).length = true := h.1.2
 rw [List.length_map] at h2
 exact B9p hl.2 h.1.1.1 h2
theorem Tj {α β : Type} {g : α → Int × β} {l : List α} (h : (B0 g [] l).1 = 0) : (Fh g l).1 = 0 ∧ (B0 g [] l).2 = (Fh g l).2 := by
 unfold B0 at h ⊢
 by_cases h1 : (Fh g l).1 ≠ 0
 ·rw [if_pos h1] at h; exact absurd h h1
 ·rw [if_neg h1]
  exact ⟨Decidable.not_not.mp h1, rfl⟩
theorem A3v {α β : Type} {g : α → Int × β} {l : List α} (h : (B0 g [] l).1 ≠ 0) : (Fh g l).1 ≠ 0 ∧ (B0 g [] l).1 = (Fh g l).1 := by
 unfold B0 at h ⊢
 by_cases h1 : (Fh g l).1 ≠ 0
 ·rw [if_pos h1]; exact ⟨h1, rfl⟩
 ·rw [if_neg h1] at h; exact absurd rfl h
theorem B3v {e f : Ev} (h : (B0 (fun g => Bc g f) [] e.2).1 ≠ 0) : Fs e f = ((B0 (fun g => Bc g f) [] e.2).1, [], []) := by
 obtain ⟨h1, h2⟩ := A3v h
 unfold Fs
 rw [if_pos h1, h2]
theorem B3u {e f : Ev} (h : (B0 (fun g => Bc g f) [] e.2).1 = 0) (h2 : (B0 (fun t => A2 t f) [] e.1).1 ≠ 0) : Fs e f = ((B0 (fun t => A2 t f) [] e.1).1, [], []) := by
 obtain ⟨h3, h4⟩ := A3v h2
 unfold Fs
 rw [if_neg (by rw [(Tj h).1]; decide), if_pos h3, h4]
theorem B6v {e f : Ev} (h : (B0 (fun g => Bc g f) [] e.2).1 = 0) (h2 : (B0 (fun t => A2 t f) [] e.1).1 = 0) : Fs e f = (0, (B0 (fun t => A2 t f) [] e.1).2, (B0 (fun g => Bc g f) [] e.2).2) := by
 obtain ⟨h3, h4⟩ := Tj h
 obtain ⟨h5, h6⟩ := Tj h2
 unfold Fs
 rw [if_neg (by rw [h3]; decide), if_neg (by rw [h5]; decide), h4, h6]
def sE : T := Nn 19 [] []
theorem C4y : A2 (aE (vE 0) (vE 1)) ([uE, sE], []) = (0, aE uE sE) := by decide +kernel
theorem C4x : A2 (lE (aE (vE 0) (vE 1))) ([vE 3], []) = (0, lE (aE (vE 0) (vE 4))) := by decide +kernel
theorem Sh : size (aE (vE 0) (vE 1)) ≤ 100 ∧ size (lE (aE (vE 0) (vE 1))) ≤ 100 ∧ (∀ t, t ∈ [uE, sE] → size t ≤ 100) ∧ ∀ t, t ∈ [vE 3] → size t ≤ 100 := by decide +kernel
theorem A3l : ∀ {l : List Nat} {x : Nat}, x ∈ l → x ≤ l.sum
 | [], x, h => by cases h
 | a :: l, x, h => by
  rw [List.sum_cons]
  rcases List.mem_cons.mp h with rfl | h
  ·omega
  ·have := A3l h; omega
theorem C1w {ts : List T} {x : T} (hx : x ∈ ts) : Fw x ≤ Fw (.mk 0 0 ⟨#[]⟩ [] ts []) := by
 have h := A3l (l := ts.map Fw) (x := Fw x) (List.mem_map.mpr ⟨x, hx, rfl⟩)
 have e := Su (.mk 0 0 ⟨#[]⟩ [] ts [])
 simp only [T.kids, T.sys, T.r, T.name] at e
 omega
theorem Up {ts : List T} {l : List CP} (h : Gh ts l = false) : ∀ t, t ∈ ts → Fw t ≤ 150 := fun t ht => Nat.le_trans (C1w ht) (X1 h).2.2.2
theorem Ku {ts : List T} {l : List CP} (h : Gh ts l = false) : ∀ t, t ∈ ts → size t ≤ 1152921504606846 := fun t ht => by
 have h1 := Up h t ht
 have h2 := Rl t
 omega
theorem Yj {t : T} {e : Ev} (h : (A2 t e).1 ≠ 0) : (A2 t e).2 = t0 := by
 unfold A2 at h ⊢
 split
 ·rfl
 ·rename_i h1
  rw [if_neg h1] at h
  split
  ·rfl
  ·rename_i h2
   rw [if_neg h2] at h
   split
   ·rfl
   ·rename_i h3
    rw [if_neg h3] at h
    cases h5 : Bh Bd t e with
    | ok x =>
     rw [h5] at h
     simp only at h ⊢
     split
     ·rfl
     ·rename_i h6
      rw [if_neg h6] at h
      exact absurd rfl h
    | bad e => rfl
theorem Q3 (t : T) (e : Ev) : size (A2 t e).2 ≤ 20000 := by
 by_cases h : (A2 t e).1 = 0
 ·exact Ip (Gr h).2.2.2.2.2
 ·rw [Yj h, A0y]; decide
theorem A7p {e f : Ev} : ∀ x, x ∈ (Fs e f).2.1 → size x ≤ 20000 := by
 intro x hx
 unfold Fs at hx
 split at hx
 ·cases hx
 ·split at hx
  ·cases hx
  ·rename_i h1 h2
   rw [(I3 (Decidable.not_not.mp h2)).2] at hx
   obtain ⟨t, _, rfl⟩ := List.mem_map.mp hx
   exact Q3 t f
end Go.Hy
namespace Go.Hy
open Go.RowKit Go.Shelf
theorem B4d {F : Fence} {n : Nat} {P : Program} {α : Type} {g : Operand} {ps : Array Tmp} {assign body : Code} {Q : Exit → Act → World → Prop} {a : Act} {w : World}
  (hro : F.round = none) (h1 : 1 ≤ n) {gf : Nat} {lb : Array Value} (hg : a.eval g = .func (.func gf) #[] lb) (hFg : F.fn gf) (eg : ∀ args w, (callFunc gf args).run P w = .ok (.enter gf args) w)
  {encs : α → Array Value} (hps : ∀ x, (encs x).size = ps.size) (I : List α → World → Prop) (Px : List α → α → Prop) (Kp : World → World → Prop)
  (hIp : ∀ (pre : List α) (A : World) (l : Nat) (o o0 : Obj), I pre A → A.heap[l]? = some o0 → o0.isCells = false → w.heap.size ≤ l → I pre (A.putObj l o)) (hIa : ∀ (pre : List α) (A : World) (o : Obj), I pre A → w.heap.size ≤ A.heap.size → I pre (A.alloc o)) (h0 : I [] w)
  (hKt : ∀ {A B C : World}, Kp A B → Kp B C → Kp A C) (hKp : ∀ (A : World) (l : Nat) (o o0 : Obj), A.heap[l]? = some o0 → o0.isCells = false → w.heap.size ≤ l → Kp A (A.putObj l o))
  (xs : List α)
  (hit : ∀ (l : Nat) (J : List α → World → Prop) (W1 : World), (∀ pre W, J pre W → I pre W) →
   (∀ pre A B, J pre A → I pre B → (∀ (k : Nat) (o : Obj), A.heap[k]? = some o → o.isCells = false → B.heap[k]? = some o) → J pre B) →
   (∀ pre x W, J pre W → Px pre x → YieldAt F (n - 1 - 1) P l (encs x) W fun e W' => e = .returned (.bool true) ∧ J (pre ++ [x]) W' ∧ Kp W W') → J [] W1 → (∀ (k : Nat), k < w.heap.size → W1.heap[k]? = w.heap[k]?) →
   CallsIn F (n - 1) P gf (#[.func (.yield l) #[] #[]] ++ lb) W1 fun e W' => (∃ v, e = .returned v) ∧ J xs W')
  (a₁ : α → Act)
  (hassign : ∀ (l : Nat) (x : α) (W : World) (K : Act → World → Prop), K (a₁ x) W →
   assign.wpIn (F.inRound l) (n - 1 - 1) P (Exit.then K (fun _ _ _ => False)) { tmps := (ps.zip (encs x)).foldl (fun t (p, v) => t.setIfInBounds p v) a.tmps, defers := [] } W)
  (hbody : ∀ (l : Nat) (pre : List α) (x : α) (W : World), I pre W → Px pre x →
   body.wpIn (F.inRound l) (n - 1 - 1) P (fun e _ W' => e = .normal ∧ KeepsOthers W W' ∧ Kp W W' ∧ I (pre ++ [x]) W') (a₁ x) W)
  (hdone : ∀ (D : Nat) (W : World), w.heap.size ≤ D → I xs W → W.heap[D]? = some (.deferred (some [])) → Q .normal { a with defers := { target := .collected D, args := #[] } :: a.defers } W) :
  (Code.rangeFunc g ps assign body).wpIn F n P Q a w := by
 refine wpIn_rangeFunc ?_
 intro fn hfn
 rw [hro]
 obtain ⟨rec, hrec⟩ : ∃ rec : LoopState → Option Code → Loop, rec = fun st pe => { state := st, pending := pe, fn, tmps := a.tmps, params := ps, assign, body, defers := w.heap.size } := ⟨_, rfl⟩
 obtain ⟨W1, hW1⟩ : ∃ W1, (w.alloc (.deferred (some []))).alloc (.loop (rec .ready none)) = W1 := ⟨_, rfl⟩
 have hL1 : W1.heap[w.heap.size + 1]? = some (.loop (rec .ready none)) := by
  rw [← hW1]; have := World.alloc_heap_new (w.alloc (.deferred (some []))) (.loop (rec .ready none)); rwa [World.size_alloc] at this
 have hK1 : W1.heap[w.heap.size]? = some (.deferred (some [])) := by
  rw [← hW1]; exact (Below.heap_alloc _ _ _ D2).trans (World.alloc_heap_new w _)
 have hI1 : I [] W1 := by rw [← hW1]; exact hIa _ _ _ (hIa _ _ _ h0 (Nat.le_refl _)) D2
 refine ⟨w.heap.size + 1, [{ target := .collected w.heap.size, args := #[] }], W1, { target := .fn (.func gf) lb, args := #[.func (.yield (w.heap.size + 1)) #[] #[]] }, W1, gf,
  #[.func (.yield (w.heap.size + 1)) #[] #[]] ++ lb, W1, ?_, ?_, ?_, ?_, fun _ => h1, ?_⟩
 ·rw [← hW1, hrec]; exact run_enterLoop_outer _ _ _ _ _
 ·simp only [resolve, hg]
  simp [go_sem]
 ·intro f' hf'; simp [Target.leads] at hf'; subst hf'; exact hFg
 ·simp [invoke, go_sem, eg]
 ·refine (hit (w.heap.size + 1) (fun pre W => I pre W ∧ W.heap[w.heap.size + 1]? = some (.loop (rec .ready none)) ∧ W.heap[w.heap.size]? = some (.deferred (some []))) W1
   (fun pre W h => h.1) (fun pre A B hA hB hk => ⟨hB, hk _ _ hA.2.1 rfl, hk _ _ hA.2.2 rfl⟩) ?_ ⟨hI1, hL1, hK1⟩ (fun k hk => by rw [← hW1]; exact (Below.heap_alloc _ _ _ (by simp; omega)).trans (Below.heap_alloc _ _ _ hk))).mono ?_
  ·rintro pre x W ⟨hi, hl, hk⟩ hpx
   have hlt : w.heap.size + 1 < W.heap.size := (Array.getElem?_eq_some_iff.1 hl).1
   have hy := run_yield (P := P) (args := encs x) hl (by rw [hrec]; exact hps x)
   rw [hrec] at hy
   refine ⟨fn, _, assign, body, hy, roundIn_of_wpIn hfn (hassign _ x W _ ⟨_, run_beginRound hl (by rw [hrec]), ?_⟩)⟩
   have hl2 : (W.putObj (w.heap.size + 1) (.loop { rec .ready none with state := .busy })).heap[w.heap.size + 1]? = some (.loop { rec .ready none with state := .busy }) := World.putObj_heap_same hlt
   have hk2 : (W.putObj (w.heap.size + 1) (.loop { rec .ready none with state := .busy })).heap[w.heap.size]? = some (.deferred (some [])) := (World.putObj_heap_other A3).trans hk
   refine wpIn_mono (hbody _ pre x _ (hIp _ _ _ _ _ hi hl rfl A3) hpx) ?_
   rintro e a3 W3 ⟨rfl, hk3, hkp3, hi3⟩
   have hl3 := hk3.same _ _ hl2 rfl
   have hend := run_endRound (P := P) none hl3
   rw [hrec] at hl3 hend
   refine ⟨_, _, hend, rfl, ⟨hIp _ _ _ _ _ hi3 hl3 rfl A3, ?_, ?_⟩, hKt (hKt (hKp _ _ _ _ hl rfl A3) hkp3) (hKp _ _ _ _ hl3 rfl A3)⟩
   ·rw [hrec]; exact World.putObj_heap_same (Array.getElem?_eq_some_iff.1 hl3).1
   ·exact (World.putObj_heap_other A3).trans (hk3.same _ _ hk2 rfl)
  ·rintro e W2 ⟨⟨v, rfl⟩, hi, hl, hk⟩
   exact ⟨none, _, by have := run_endLoop (P := P) hl (by rw [hrec]; simp); rw [hrec] at this; exact this, hdone _ _ (Nat.le_refl _) (hIp _ _ _ _ _ hi hl rfl A3) ((World.putObj_heap_other A3).trans hk)⟩
end Go.Hy
namespace Go.Hy
open Go.Proofs Go.Proofs.Tryz
set_option maxRecDepth 100000
theorem B7q (l : List Cl) (a_l : SH) (m : List Cl) (a_m : SH)  : Spec prog 31 #[sl a_l (l.length), sl a_m (m.length)] [CL l a_l, CL m a_m] [] (fun _ : Unit => .bool ((decide (l = m)))) (fun _ => []) (fun _ => []) := by
 refine Dj ntmps31 fun B hB => ?_
 refine Ab (l := l) (a := a_l) (fun hl1 hA1 hU1 => ?_); refine Ab (l := m) (a := a_m) (fun hl2 hA2 hU2 => ?_); refine Cn ?_; refine Hv ?_; refine Hw ?_; refine Ef ?_; refine Hw ?_; refine A7c ?_; refine Dc (decide ((l.length : Int) ≠ (m.length : Int))) (fun h10 c10 => ?_) (fun h10 c10 => ?_)
 ·have hne : ¬ l = m := fun e => by subst e; simp at h10
  refine Cn ?_; refine Ar f_ rfl Ac () (by rw [decide_eq_false hne]) (fun w hs => hs.none)
 ·have hlen : l.length = m.length := by simp at h10; omega
  refine Jq ?_; refine Cn ?_; refine Xx ?_; refine Ba (X := Nat) (fun s_ => s_ ≤ l.length ∧ ∀ j, j < s_ → l.getD j Bz = m.getD j Bz) (fun s_ => [(0, sl a_l (l.length)), (1, sl a_m (m.length)), (5, iv ((s_ : Int)))]) (fun s_ G_ => G_) (fun s_ => []) (fun s_ => l.length - s_) (0) (⟨by omega, fun j hj => by omega⟩) (by exact Ea) ?_ ?_
  ·exact fun w hs => hs
  ·intro i base0 ⟨hi, hok⟩ next0; refine Hv ?_; refine Ef ?_; refine Hw ?_; refine Vc ?_; refine Kj ?_; refine Dc (decide ((i : Int) < (l.length : Int))) (fun h14 c14 => ?_) (fun h14 c14 => ?_)
   ·refine Hs ?_; refine Cf (pn := 1000000) (tn := false) (A := [0, 0, 3, 7, 0, 0, 48, 112, 255]) (l := [0, 1, 2, 3, 4, 5, 6, 7, 8]) (fin := []) Tab.mixed ⟨_, func31⟩ (by rfl) ?_; refine Kg ?_; obtain ⟨bk3, o3, hav3⟩ := hA1 A3; refine n0 rfl (Kk ?_ (j := i)); refine n0 rfl (B0x ?_); refine Kg ?_; obtain ⟨bk4, o4, hav4⟩ := hA2 A3; refine n0 rfl (Kk ?_ (j := i)); refine n0 rfl (B0x ?_); refine n0 rfl (C5y ?_ (c := (l.getD i Bz)) (c' := (m.getD i Bz))); refine B3g ?_; refine Dc (!decide ((l.getD i Bz) = (m.getD i Bz))) (fun h25 c25 => ?_) (fun h25 c25 => ?_)
    ·refine Cn ?_; refine Ar f_ rfl Ac () (by rw [decide_eq_false (fun e => by subst e; simp at h25)]) (fun w hs => hs.none)
    ·refine Hg ?_; refine Qa ?_; refine E5 ?_; refine Np ?_; have hb : l.getD i Bz = m.getD i Bz := by simpa using h25
     refine A7 (fun w hs => ?_) (next0 (i + 1) _ (⟨by omega, B7c hok hb⟩) A3 Ea); exact (hs.l9)
   ·refine Na ?_; refine Ar f_ rfl Ac () (by rw [decide_eq_true (Mt hlen (fun j hj => hok j A3))]) (fun w hs => hs.none)
end Go.Hy
namespace Go.Hy
open Go.Proofs Go.Proofs.Tryz
set_option maxRecDepth 100000
attribute [local go_sem] Oper.semAt_some
open Go.RowKit Go.Shelf
set_option maxHeartbeats 1000000
theorem D6b (F : Fence) (n : Nat) (hF : F.fn 258) (hro : F.round = none) (r : Nat) (k idx : Nat) (hk : k < 24) (h0 : ((r : Int) == 0) = false)
  (key : bits BinOp.and IntKind.u32 (r : Int) (-(r : Int) % 4294967296) * 125613361 % 4294967296 / 134217728 = (idx : Int)) (hi : idx < 32) (W : World) (hc : W.cell? ⟨0, idx, none⟩ = some (.int .u8 (k : Int))) :
  CallsIn F n prog 258 #[.int .u32 (r : Int)] W fun e w' => e = .returned (iv (k : Int)) ∧ w' = W := by
 refine callsIn_of_wp func258 rfl hF ?_ hro; simp only [ntmps258, List.size_toArray, List.length_cons, List.length_nil, Nat.reduceAdd, Nat.reduceSub, Array.replicate_succ, Array.replicate_zero, List.push_toArray, List.append_toArray, List.nil_append, List.cons_append]
 gi_wp2_with (simp only [key])
 go_ret
 exact ⟨rfl, rfl⟩
theorem tz32' (F : Fence) (n : Nat) (hF : F.fn 258) (hro : F.round = none) (r : Nat) (h0 : ¬ r = 0) (hr : r < 16777216) (W : World) (hT : TabAt 0 Lib.deBruijn32tab W) :
  CallsIn F n prog 258 #[.int .u32 (r : Int)] W fun e w' => e = .returned (iv (Lib.ctz 32 r : Int)) ∧ w' = W := by
 obtain ⟨hlow, hk⟩ := Lib.lowest_bit 32 r h0 A3; obtain ⟨hi, htab⟩ := Lib.deBruijn32_at _ hk; have hcell := hT _ hi; rw [htab] at hcell; exact D6b F n hF hro r _ _ (Zl h0 hr).1 (by simp; omega) (tz32_key r _ A3 h0 hlow) hi W hcell
theorem in1 (F : Fence) (n : Nat) (h208 : F.fn 257) (h209 : F.fn 258) (hro : F.round = none) (hn : 1 ≤ n) (l g : Nat) (s : Nat) (J : List Int → World → Prop)
  (hY : ∀ pre x W, J pre W → pre.length < 24 → (0 ≤ x ∧ x < 24) → YieldAt F (n - 1) prog l #[iv x] W fun e W' => e = .returned (.bool true) ∧ J (pre ++ [x]) W' ∧ W'.heap[g]? = W.heap[g]?)
  (hT : ∀ pre W, J pre W → TabAt 0 Lib.deBruijn32tab W)
  (hJ : ∀ pre W v, J pre W → J pre (W.setCell ⟨g, 0, none⟩ v))
  (hs : s < 4294967296) (W : World) (hg : Boxed W g 89 (.int .u32 (s : Int))) (h0 : J [] W) :
  CallsIn F n prog 257 #[.func (.yield l) #[] #[], pz g] W fun e W' => (∃ v, e = .returned v) ∧ J (Aq s) W' := by
 refine callsIn_of_wp func257 rfl h208 ?_ hro; simp only [ntmps257, List.size_toArray, List.length_cons, List.length_nil, Nat.reduceAdd, Nat.reduceSub, Array.replicate_succ, Array.replicate_zero, List.push_toArray, List.append_toArray, List.nil_append, List.cons_append]; have hc := hg.cell; have hf := hg.frozen
 gi_wp2
 gi_loopw [] (fun wr => ∃ (pre : List Int) (r : Nat), Aq s = pre ++ Aq r ∧ r < 16777216 ∧ Boxed wr g 89 (.int .u32 (r : Int)) ∧ J pre wr)
  (fun wr => match wr.cell? ⟨g, 0, none⟩ with | some (.int _ v) => v.toNat | _ => 0)
 case atStart =>
  refine ⟨[], s &&& 16777215, by rw [List.nil_append, B4z], by rw [Xp]; exact Nat.mod_lt _ Iu, ?_, hJ _ _ _ h0⟩; rw [← bits_and_u32_nat s 16777215 hs Iu]; exact hg.set _
 case round =>
  obtain ⟨pre, r, hx, hr, hb, hj⟩ := hrel; have hc2 := hb.cell; have hf2 := hb.frozen; by_cases hr0 : r = 0
  ·subst hr0
   gi_wp2
   go_end0
   exact ⟨⟨_, rfl⟩, by rw [hx, show Aq 0 = [] from by decide, List.append_nil]; exact hj⟩
  ·obtain ⟨hk, hlist⟩ := Zl hr0 hr
   have hlen : pre.length < 24 := by
    have h1 := congrArg List.length hx; have h2 : (Aq s).length ≤ 24 := I4 s 24; rw [List.length_append, hlist, List.length_cons] at h1; omega
   obtain ⟨fn, tmps, assign, body, hy, hR⟩ := hY pre (Lib.ctz 32 r : Int) wr hj hlen A3; have hbe : ((r : Int) != 0) = true := by simp; omega
   gi_wp2_with (gi_at_call 258; refine (tz32' F (n - 1) h209 hro r hr0 hr wr (hT _ _ hj)).mono ?_; rintro e w' ⟨rfl, rfl⟩)
   refine hR.mono ?_; rintro e W3 ⟨rfl, hJ3, hg3⟩; have hb3 : Boxed W3 g 89 (.int .u32 (r : Int)) := hg3.trans hb; have hc3 := hb3.cell; have hf3 := hb3.frozen
   gi_wp2
   have e1 : bits BinOp.and IntKind.u32 (r : Int) ((r : Int) - 1) = ((r &&& (r - 1) : Nat) : Int) := by
    rw [show (r : Int) - 1 = ((r - 1 : Nat) : Int) by omega]; exact bits_and_u32_nat r (r - 1) A3 A3
   rw [e1]; have hb4 := hb3.set (.int .u32 ((r &&& (r - 1) : Nat) : Int)); have hlt := C8y hr0
   go_roundw
   case rel => exact ⟨pre ++ [(Lib.ctz 32 r : Int)], r &&& (r - 1), by rw [hx, hlist, List.append_assoc]; rfl, by omega, hb4, hJ _ _ _ hJ3⟩
   case measure =>
    rw [hb4.cell, hc2]; simp only [Int.toNat_natCast]; exact hlt
theorem D3t (F : Fence) (n : Nat) (h : F.fn 206) (hro : F.round = none) (s : Nat) (w : World) :
  CallsIn F n prog 206 #[.int .u32 (s : Int)] w fun e w' => e = .returned (.func (.func 257) #[] #[.pointer (some ⟨w.heap.size, 0, none⟩)]) ∧ w' = w.alloc (.cells #[.int .u32 (s : Int)] 89) := by
 refine callsIn_of_wp func206 rfl h ?_ hro; simp only [ntmps206, List.size_toArray, List.length_cons, List.length_nil, Nat.reduceAdd, Nat.reduceSub, Array.replicate_succ, Array.replicate_zero, List.push_toArray, List.append_toArray, List.nil_append, List.cons_append]
 gi_wp2
 go_ret
 exact ⟨rfl, rfl⟩
theorem C4o : (prog.info? 3).map (fun i => (i.zero, i.size, i.bytes)) = some (some (iv 0), 1, 8) := by kernel_rfl
theorem C4f (F : Fence) (n : Nat) (h81 : F.fn 123) (h156 : F.fn 206) (h208 : F.fn 257) (h209 : F.fn 258) (hro : F.round = none) (hn : 3 ≤ n) (s : Nat) (hs : s < 4294967296) (w : World) (hw : 0 < w.heap.size) (hT : TabAt 0 Lib.deBruijn32tab w) :
  CallsIn F n prog 123 #[.int .u32 (s : Int)] w fun e W' => ∃ v, e = .returned v ∧ W'.ownsRow w.heap.size 3 1 v (Aq s).length ((Aq s).map (Value.int .i64)) ∧ Below w.heap.size w W' := by
 have h1 : 1 ≤ n := by omega
 obtain ⟨i0, hi, hz0, hz1, hz2⟩ := info_parts C4o; refine callsIn_of_wp_marks func123 rfl h81 ?_ hro; simp only [ntmps123, List.size_toArray, List.length_cons, List.length_nil, Nat.reduceAdd, Nat.reduceSub, Array.replicate_succ, Array.replicate_zero, List.push_toArray, List.append_toArray, List.nil_append, List.cons_append]
 gi_wp2_with (gi_at_call 206; refine (D3t F (n - 1) h156 hro _ _).mono ?_; rintro e w' ⟨rfl, rfl⟩)
 obtain ⟨w2, hw2⟩ : ∃ w2, (w.alloc (.cells #[.slice none 0 0] 140)).alloc (.cells #[.int .u32 (s : Int)] 89) = w2 := ⟨_, rfl⟩; have bO : Boxed w2 w.heap.size 140 (.slice none 0 0) := by rw [← hw2]; exact (Boxed.new w 140 (.slice none 0 0)).alloc _
 have bS : Boxed w2 (w.heap.size + 1) 89 (.int .u32 (s : Int)) := by rw [← hw2]; have := Boxed.new (w.alloc (.cells #[.slice none 0 0] 140)) 89 (.int .u32 (s : Int)); rwa [World.size_alloc] at this
 have hsz2 : w2.heap.size = w.heap.size + 2 := by rw [← hw2]; simp
 have hB2 : Below w.heap.size w w2 := by rw [← hw2]; exact ((Below.refl _ w).alloc (Nat.le_refl _) _).alloc D2 _
 have hrw : ∀ {A B : World}, B.heap[w.heap.size + 1]? = A.heap[w.heap.size + 1]? → ∀ u, Boxed A (w.heap.size + 1) 89 u → Boxed B (w.heap.size + 1) 89 u := fun h u hu => h.trans hu
 simp only [World.size_alloc, hw2]
 refine B4d hro h1 (gf := 257) (lb := #[.pointer (some ⟨w.heap.size + 1, 0, none⟩)]) rfl h208 (enters_of func257 (by kernel_rfl) rfl) (encs := fun x : Int => #[iv x]) (fun _ => rfl)
  (fun pre W => (∃ v, Boxed W w.heap.size 140 v ∧ W.ownsRow w.heap.size 3 1 v pre.length (pre.map (Value.int .i64))) ∧ (∃ u, Boxed W (w.heap.size + 1) 89 u) ∧ Below w.heap.size w W)
  (fun pre x => pre.length < 24 ∧ (0 ≤ x ∧ x < 24)) (fun W W' => W'.heap[w.heap.size + 1]? = W.heap[w.heap.size + 1]?)
  ?ip ?ia ⟨⟨_, bO, World.ownsRow_nil _ _ _ _⟩, ⟨_, bS⟩, hB2⟩ (fun h k => k.trans h) ?kp (Aq s) ?it
  (fun x => { tmps := #[.int .u32 (s : Int), undef, .slice none 0 0, .pointer (some ⟨w.heap.size, 0, none⟩), iv x, .int .u32 (s : Int), .func (.func 257) #[] #[.pointer (some ⟨w.heap.size + 1, 0, none⟩)], iv x, undef, undef, undef, undef, undef], defers := [] }) ?assign ?body ?done
 case ip =>
  rintro pre A l o o0 ⟨⟨v, hv, hr⟩, ⟨u, hu⟩, hB⟩ hl hc hle; refine ⟨⟨v, (World.putObj_heap_other A3).trans hv, ownsRow_putObj hr o hl hc⟩, ⟨u, (World.putObj_heap_other A3).trans hu⟩, hB.trans ⟨rfl, rfl, rfl, by simp, fun k hk => World.putObj_heap_other A3⟩⟩
 case ia =>
  rintro pre A o ⟨⟨v, hv, hr⟩, ⟨u, hu⟩, hB⟩ hle; exact ⟨⟨v, hv.alloc o, hr.kept (World.grownBy_alloc A o none) (by rcases hr.2 with ⟨rfl, _⟩ | ⟨g, cap, cur, rfl, _⟩; exact .inl rfl; exact .inr (by simp [Value.ownBlock]))⟩, ⟨u, hu.alloc o⟩, hB.alloc A3 o⟩
 case kp =>
  intro A l o o0 hl hc hle; exact World.putObj_heap_other A3
 case it =>
  intro l J W1 hJI hJk hY h0 hk1; refine in1 F (n - 1) h208 h209 hro A3 l (w.heap.size + 1) s J (fun pre x W hj hl hx => hY pre x W hj ⟨hl, hx⟩) (fun pre W hj => ?_) (fun pre W v hj => ?_) hs W1 ?_ h0
  ·intro i hi; exact ((hJI _ _ hj).2.2.cell (p := ⟨0, i, none⟩) hw).trans (hT i hi)
  ·obtain ⟨⟨v0, hv0, hr⟩, ⟨u, hu⟩, hB⟩ := hJI _ _ hj; refine hJk pre W _ hj ⟨⟨v0, hv0.other A3 v, hr.kept (grownBy_setCell' W (w.heap.size + 1) v) (.inr (hu.not_row Iu hr).symm)⟩, ⟨_, hu.set v⟩, hB.setCell (p := ⟨w.heap.size + 1, 0, none⟩) D2 v⟩ (fun k o hk ho => (KeepsOthers.setCell W _ v).same k o hk ho)
  ·exact (hk1 _ A3).trans bS
 case assign =>
  intro l x W K hK
  gi_wp2
  exact hK
 case body =>
  rintro l pre x W ⟨⟨v, hv, hrow⟩, ⟨u, hu⟩, hB⟩ ⟨hlt, hx⟩; have hc := hv.cell
  gi_wp2_with (gi_at_builtin; refine wpListIn_append_own _ rfl _ _ 140 rfl w.heap.size 3 i0 (iv 0) 1 8 Tryz.underlying140 hi hz0 hz1 hz2 rfl Iu _ _ _ rfl (hrow.alloc _) ⟨W.heap.size, 0, none⟩ 1 1 [iv x] rfl rfl (cell_one_new _ _ _) (by simp [Value.oneCell']) (by unfold maxLen; omega) A3 (by have := hB.size; simp; omega) ?_; intro v' w1 hown' hgrow _; obtain ⟨g', cap', rfl⟩ := ownsRow_succ hown'; obtain ⟨hv1, hv2, hr2, hk2, hb2⟩ := hv.appended Iu hrow hB.size (Nat.le_refl _) hown' hgrow; have hc1 := hv1.cell; have hf1 := hv1.frozen)
  have hu1 := ((hu.alloc (.cells #[iv x] 3)).kept hgrow (hu.not_row Iu hrow)).other (B' := w.heap.size) A3 (.slice (some ⟨g', 0, none⟩) (pre.length + 1) cap'); exact ⟨hu1.trans hu.symm, ⟨_, hv2, by simpa using hr2⟩, ⟨u, hu1⟩, hB.trans hb2⟩
 case done =>
  rintro D W hD ⟨⟨v, hv, hrow⟩, _, hB⟩ hK; have hc := hv.cell
  gi_wp2
  refine ⟨by simp, .inl ⟨_, _, rfl, run_takeDeferred hK, ?_⟩⟩; exact ⟨_, results_tmp rfl _ _ _, v, rfl, ownsRow_putObj hrow _ hK rfl, hB.trans ⟨rfl, rfl, rfl, by simp, fun k hk => World.putObj_heap_other A3⟩⟩
abbrev M8 : Fact := At 0 0 (Lib.deBruijn32tab.map fun (v : Nat) => Value.int .u8 (v : Int))
theorem C7m {ok : Nat → Prop} {w : World} (h : M8.f ok w) (hk : ∀ b, ok b → b < w.heap.size) : TabAt 0 Lib.deBruijn32tab w ∧ 0 < w.heap.size := by
 refine ⟨fun j hj => ?_, hk _ h.1⟩; have h1 := h.2 j (.int .u8 (Lib.deBruijn32tab.getD j 0 : Nat)) (by rw [List.getElem?_map, List.getD_eq_getElem?_getD, List.getElem?_eq_getElem hj]; rfl)
 rwa [Nat.zero_add] at h1
theorem B4v (s : Nat) (hs : s < 4294967296) : Spec prog 123 #[.int .u32 (s : Int)] [M8] [] (fun x : SH => sl x (Aq s).length) (fun _ => []) (fun x => [Am 1 3 x (Aq s).length (P7 (Aq s))]) := fun ok w hok hst => by
 obtain ⟨hT, hw⟩ := C7m (hst.facts M8 List.mem_cons_self) (fun b hb => hb.2.1); refine (callsIn_wide.mp (C4f Fence.wide 3 trivial trivial trivial trivial rfl (Nat.le_refl _) s hs w hw hT)).mono fun e w' hh => ?_
 obtain ⟨v, rfl, hrow, hB⟩ := hh; obtain ⟨a, rfl⟩ := B1q hrow
 have hrow0 : w'.ownsRow 0 3 1 (sl a (Aq s).length) (Aq s).length (P7 (Aq s)) := by
  have h1 : w'.ownsRow 0 3 1 (sl a (Aq s).length) (Aq s).length ((Aq s).map (Value.int .i64)) := ⟨hrow.1, hrow.2.imp id (fun ⟨g, cap, cur, q1, q2, q3⟩ => ⟨g, cap, cur, q1, Nat.zero_le _, q3⟩)⟩
  rwa [show (Aq s).map (Value.int .i64) = P7 (Aq s) from by induction (Aq s) with | nil => rfl | cons y ys ih => (simp only [List.map_cons, P7, List.flatMap_cons, Ob, List.singleton_append] at ih ⊢; rw [ih])] at h1
 refine ⟨a, rfl, ⟨hB.os, hB.tape, hB.output, hB.size, fun b hb _ => hB.block b hb⟩, fun _ hF => (by cases hF), ?_, ?_, List.pairwise_singleton _ _⟩
 ·intro m hm w2 hw2; rw [List.mem_singleton] at hm; subst hm; exact Vw hrow0 (fun b hb => hw2 b hb)
 ·intro m hm b hb; rw [List.mem_singleton] at hm; subst hm; have := hrow.lt b hb; exact ⟨this.2, .inr this.1⟩
theorem Jm (s : Nat) (hs : s < 4294967296) : Spec prog 123 #[.int .u32 (s : Int)] [M8] [] (fun x : SH => sl x (Aq s).length) (fun x => [IL (Aq s) x]) (fun _ => []) := fun ok w hok hst => (B4v s hs ok w hok hst).mono fun e w' hh => by
 obtain ⟨x, he, h⟩ := hh; have hl : (Aq s).length ≤ 24 := I4 s 24; exact ⟨x, he, h.A3o trivial rfl rfl (by unfold reach; omega) (fun c hc => by have := Zk hc; unfold Aw; omega)⟩
end Go.Hy
namespace Go.Hy
open Go.Proofs Go.Proofs.Tryz
set_option maxRecDepth 100000
theorem Oh (i : Int) : Spec prog 195 #[iv i] [] [] (fun _ : Unit => .bool (decide (0 ≤ i) && decide (i < 24))) (fun _ => []) (fun _ => []) := by
 refine Dj ntmps195 fun B hB => ?_
 refine Pq ?_; refine A3d ?_; refine Ef ?_; refine qI rfl rfl rfl Ix (fun hg5 => Eg ?_) (fun hg5 => ?_)
 ·refine B3l ?_; refine Hi ?_; refine Ar f_ rfl Ac () (by first | (simp_all; done) | (simp_all; omega)) (fun w hs => hs.none)
 ·refine Qy ?_; refine Gx ?_; refine Ar f_ rfl Ac () (by first | (simp_all; done) | (simp_all; omega)) (fun w hs => hs.none)
theorem O6 (s : Nat) (hs : s < 4294967296) : Spec prog 249 #[.int .u32 (s : Int)] [] [] (fun _ : Unit => .bool (decide (s < 16777216))) (fun _ => []) (fun _ => []) := by
 refine Dj ntmps249 fun B hB => ?_
 refine Pq ?_; refine q0 rfl (Ul ?_ (b := 16777215)); refine q0 rfl (A4t ?_ (b := 0)); refine Cu ?_; refine Ar f_ rfl Ac () (by rw [A6t hs]) (fun w hs => hs.none)
theorem T3 (s : Nat) (hs : s < 4294967296) : Spec prog 112 #[.int .u32 (s : Int), iv (-1)] [] [] (fun _ : Unit => .int .u32 ((s &&& 16777215 : Nat) : Int)) (fun _ => []) (fun _ => []) := by
 refine Dj ntmps112 fun B hB => ?_
 refine Pq ?_; refine q0 rfl (Lt ?_ (b := 16777215)); refine Cu ?_; refine Hv ?_; refine q0 rfl (A1 call195 (Oh (-1)) (fun x8 => ?_)); refine Jt ?_; refine A4 (fun h9 => ?_) (fun h9 => ?_)
 ·refine Ki ?_; refine Ar f_ rfl Ac () rfl (fun w hs => hs.none)
 ·exact absurd h9 Iu
theorem X9 : C2m := by
 intro l a; refine Dj ntmps64 fun B hB => ?_
 refine Ab (l := l) (a := a) (fun hl1 hA1 hU1 => ?_); refine Cn ?_; refine No ?_; refine E0 (X := Nat) (fun i => i ≤ l.length) (fun i => [(3, .int .u32 (Mn l i : Int)), (6, sl a l.length), (7, iv (l.length : Int)), (8, iv (i : Int))]) (fun i => [CL l a]) (fun i => []) (fun i => l.length - i) (0) (Nat.zero_le _) (by exact Ea) ?_ ?_
 ·exact fun w hs => hs.l8
 ·intro i base0 hi next0; refine Ej ?_; refine A4 (fun h9 => ?_) (fun h9 => ?_)
  ·have hlt : i < l.length := by have := of_decide_eq_true h9; omega
   obtain ⟨bk, o, hav⟩ := hA1 A3; have hu := hU1 _ (Af (d := Bz) hlt); have hup := Zd hU1 i; have hor : (l.getD i Bz).pos ||| (l.getD i Bz).neg < 4294967296 := Nat.or_lt_two_pow (n := 32) hu.1 hu.2; refine J3 ?_; refine Pd ?_; refine T1 ?_; refine q0 rfl (B8 fun b5 => ?_); refine G3 ?_; refine E5 ?_; refine Ib ?_; refine Ib ?_; refine q0 rfl (P3 ?_ (a := (l.getD i Bz).pos) (b := (l.getD i Bz).neg) (ha := hu.1) (hb := hu.2)); refine q0 rfl (P3 ?_ (a := Mn l i) (b := (l.getD i Bz).pos ||| (l.getD i Bz).neg)); refine Y0 ?_; refine A7 (fun w hs => ?_) (next0 (i + 1) _ hlt A3 ⟨by rw [A4f hlt]; rfl, rfl, rfl, rfl, trivial⟩); exact (hs.l8).bare
  ·have hge : i = l.length := by have := of_decide_eq_false h9; omega
   refine G4 ?_; refine Ew ?_; refine q0 rfl (A1 call112 (T3 (Mn l i) (Zd hU1 i)) (fun x21 => ?_)); refine Cu ?_; refine Ar f_ rfl Ac () (by rw [A6e, ← hge]) (fun w hs => hs.none)
theorem M1 (c : Cl) (hc : u32 c) : Spec prog 196 #[.agg (Al c).toArray] [] [] (fun _ : Unit => .bool (Az c)) (fun _ => []) (fun _ => []) := by
 refine Dj ntmps196 fun B hB => ?_
 refine B5 ?_; refine q0 rfl (B2 fun b1 => ?_); refine Cu ?_; refine Kc ?_; refine q0 rfl (A1 call249 (O6 c.pos hc.1) (fun x5 => ?_)); refine Ef ?_; refine qI rfl rfl rfl Ix (fun hg6 => Pj ?_) (fun hg6 => ?_)
 ·refine Mb ?_; refine qT rfl rfl rfl (A1 call249 (O6 c.neg hc.2) (fun x9 => ?_)); refine Hi ?_; refine Ar f_ rfl Ac () (by first | (simp_all [Az]; done) | (simp_all [Az]; intros; omega)) (fun w hs => hs.none)
 ·refine Gl ?_; refine Gx ?_; refine Ar f_ rfl Ac () (by first | (simp_all [Az]; done) | (simp_all [Az]; intros; omega)) (fun w hs => hs.none)
theorem Xh (c : Cl) (hc : u32 c) : Spec prog 248 #[.agg (Al c).toArray] [] [] (fun _ : Unit => .bool (Hb c)) (fun _ => []) (fun _ => []) := by
 refine Dj ntmps248 fun B hB => ?_
 refine B5 ?_; refine q0 rfl (B2 fun b1 => ?_); refine Cu ?_; refine Kc ?_; refine Ib ?_; refine q0 rfl (Lt ?_ (a := c.pos) (b := c.neg) (ha := hc.1) (hb := hc.2)); refine q0 rfl (Wg ?_ (b := 0)); refine Cu ?_; refine Ar f_ rfl Ac () (by simp only [Hb]; congr 1; apply decide_eq_decide.mpr; omega) (fun w hs => hs.none)
theorem Tq (c d : Cl) (hc : u32 c) (hd : u32 d) : Spec prog 251 #[.agg (Al c).toArray, .agg (Al d).toArray] [] [] (fun _ : Unit => .agg (Al (Dh c d)).toArray) (fun _ => []) (fun _ => []) := by
 refine Dj ntmps251 fun B hB => ?_
 refine B5 ?_; refine q0 rfl (B2 fun b2 => ?_); refine q0 rfl (B2 fun b3 => ?_); refine q0 rfl (B8 fun b4 => ?_); refine Kj ?_; refine Kc ?_; refine Ib ?_; refine q0 rfl (P3 ?_ (a := c.pos) (b := d.pos) (ha := hc.1) (hb := hd.1)); refine Ib ?_; refine Ib ?_; refine q0 rfl (P3 ?_ (a := c.neg) (b := d.neg) (ha := hc.2) (hb := hd.2)); refine q0 rfl (B9 (cs := Al (Dh c d)) ?_); refine G3 ?_; refine A1i f_ rfl () rfl Dz rfl rfl rfl rfl (fun w hs => hs.none)
theorem B0j (c d : Cl) (hc : u32 c) (hd : u32 d) : Spec prog 200 #[.agg (Al c).toArray, .agg (Al d).toArray] [] [] (fun _ : Unit => .bool (below c d)) (fun _ => []) (fun _ => []) := by
 refine Dj ntmps200 fun B hB => ?_
 refine B5 ?_; refine q0 rfl (B2 fun b2 => ?_); refine q0 rfl (B2 fun b3 => ?_); refine G6 ?_; refine Cf (pn := 1000000) (tn := false) (A := [0, 0, 3, 0, 15, 31]) (l := [0, 1, 3, 2, 4, 5]) (fin := []) Tab.mixed ⟨_, func200⟩ (by rfl) ?_; refine Q9 ?_; refine Q9 ?_; refine Q9 ?_; refine n0 rfl (Bj call251 (Tq c d hc hd) (fun x7 => ?_)); refine n0 rfl (D2p ?_ (c := Dh c d) (c' := c)); refine A3f ?_; refine Ar f_ rfl Ac () (by rw [B0l]) (fun w hs => hs.none)
end Go.Hy
namespace Go.Hy
open Go.Proofs Go.Proofs.Tryz
set_option maxRecDepth 100000
open Go.Shelf Go.RowKit Go.Lib Go.Sort
theorem C4n (a : Int) (W : World) : Calls prog 291 #[.int .u32 a] W fun e w' => e = .returned (.bool false) ∧ w' = W := by
 go_enter func291, ntmps291
 go_wp2
 go_ret
 exact ⟨by simp, rfl⟩
theorem B6b (a b : Int) (W : World) : Calls prog 254 #[.int .u32 a, .int .u32 b] W fun e w' => e = .returned (iv (compareInt a b)) ∧ w' = W := by
 go_enter func254, ntmps254
 go_wp2_with (go_at_call 291; refine (C4n _ _).mono ?_; rintro e w' ⟨rfl, rfl⟩)
 all_goals (go_ret; refine ⟨?_, rfl⟩; unfold Lib.compareInt; (repeat' split) <;> first | rfl | (exfalso; omega))
def A6i (c d : Cl) : Int := if c.pos = d.pos then compareInt c.neg d.neg else compareInt c.pos d.pos
set_option maxHeartbeats 1000000 in
theorem D5t (c d : Cl) (W : World) : Calls prog 202 #[.agg #[.int .u32 c.pos, .int .u32 c.neg], .agg #[.int .u32 d.pos, .int .u32 d.neg]] W fun e w' => e = .returned (iv (A6i c d)) ∧ ∃ q os', w' = grow (W.drewN q) os' := by
 have hcon := fun a b W' => B6b a b W'
 have e1 : A6i c d = if (c.pos : Int) = d.pos then compareInt c.neg d.neg else compareInt c.pos d.pos := by unfold A6i; simp only [Int.ofNat_inj]
 generalize hr : A6i c d = r at e1 ⊢
 go_enter func202, ntmps202
 go_wp2_with (go_at_call 254; refine (hcon _ _ _).mono ?_; rintro e w' ⟨rfl, rfl⟩)
 all_goals (go_ret; refine ⟨?_, 0, _, by rw [alloc_eq_grow, alloc_eq_grow, grow_grow]; rfl⟩)
 all_goals (rw [e1]; simp_all)
instance : Inhabited Cl := ⟨Bz⟩
theorem A2o (c d : Cl) : ltOf A6i c d = Cv c d := by
 unfold ltOf A6i Cv compareInt; by_cases h : c.pos = d.pos
 ·simp only [h, if_true]; by_cases h2 : c.neg < d.neg
  ·rw [if_pos A3]; simp [h2]
  ·rw [if_neg A3]; split <;> simp [h2]
 ·simp only [h, if_false]; by_cases h2 : c.pos < d.pos
  ·rw [if_pos A3]; simp [h2]
  ·rw [if_neg A3, if_pos A3]; simp [h2]
theorem C5j : SWO (ltOf A6i) where
 irrefl x := by rw [A2o]; simp [Cv]
 trans x y z h1 h2 := by
  rw [A2o] at *; simp only [Cv, Bool.or_eq_true, Bool.and_eq_true, decide_eq_true_eq] at *; omega
 ntrans x y z h1 h2 := by
  rw [A2o] at *; simp only [Cv, Bool.or_eq_false_iff, Bool.and_eq_false_iff, decide_eq_false_iff_not] at *; omega
theorem Se (d : Array Cl) : (flatK Al 2 d).toList = A9 d.toList := by
 apply List.ext_getElem?; intro t; have hl : (A9 d.toList).length = d.size * 2 := by rw [K7 Ds]; simp
 by_cases ht : t < d.size * 2
 ·have h1 : (flatK Al 2 d).toList[t]? = some (Al d[t / 2]!)[t % 2]! := by
   have hs : t < (flatK Al 2 d).size := by rw [size_flatK]; exact ht
   rw [Array.getElem?_toList, Array.getElem?_eq_getElem hs]; have := get_flatK Al 2 d t ht; rw [getElem!_pos _ t hs] at this; rw [this]
  rw [h1]; have hd : t / 2 < d.toList.length := by simp; omega
  have e : d.toList.getD (t / 2) Bz = d[t / 2]! := by
   have : t / 2 < d.size := by simpa using hd
   rw [getElem!_pos d (t / 2) this, List.getD_eq_getElem?_getD, List.getElem?_eq_getElem hd]; simp
  have h2 : (Al (d.toList.getD (t / 2) Bz))[t % 2]? = some (Al d[t / 2]!)[t % 2]! := by
   rw [e]; have : t % 2 < (Al d[t / 2]!).length := by rw [Ds]; omega
   rw [List.getElem?_eq_getElem this, getElem!_pos (Al d[t / 2]!) (t % 2) this]
  have := A2f Ds Bz d.toList (t / 2) (t % 2) _ hd h2; rw [show t / 2 * 2 + t % 2 = t by omega] at this; exact this.symm
 ·rw [List.getElem?_eq_none (by simp; omega), List.getElem?_eq_none A3]
theorem B4e (d : Array Cl) (l : List Cl) (rest : List Value) (hs : d.size = l.length) : putCells id 0 (flatK Al 2 d) (A9 l ++ rest).toArray = (A9 d.toList ++ rest).toArray := by
 apply Array.ext_getElem?; intro t; have hl : (A9 l).length = d.size * 2 := by rw [K7 Ds, hs]
 have hl2 : (A9 d.toList).length = d.size * 2 := by rw [K7 Ds]; simp
 simp only [putCells, Array.getElem?_mapIdx, List.getElem?_toArray, size_flatK, Nat.zero_add, Nat.zero_le, true_and, Nat.sub_zero, id]; by_cases ht : t < d.size * 2
 ·rw [List.getElem?_append_left A3, List.getElem?_append_left A3]
  have h1 : (A9 d.toList)[t]? = some (flatK Al 2 d)[t]! := by
   rw [← Se, Array.getElem?_toList]; have hsz : t < (flatK Al 2 d).size := by rw [size_flatK]; exact ht
   rw [Array.getElem?_eq_getElem hsz, getElem!_pos _ t hsz]
  rw [h1]; obtain ⟨v, hv⟩ : ∃ v, (A9 l)[t]? = some v := ⟨_, List.getElem?_eq_getElem A3⟩; rw [hv, Option.map_some, if_pos ht]
 ·rw [List.getElem?_append_right A3, List.getElem?_append_right A3, hl, hl2]; cases rest[t - d.size * 2]? with
  | none => rfl
  | some v => rw [Option.map_some, if_neg ht]
theorem B3y (l : List Cl) (g cap : Nat) (rest : List Value) (hn : l.length < 4611686018427387904) :
  Spec prog 201 #[.slice (some ⟨g, 0, none⟩) l.length cap, .func (.func 202) #[] #[]] [] [Ag g (A9 l ++ rest) 107] (fun _ : {l' : List Cl // l'.Perm l ∧ l'.Pairwise fun a b => Cv b a = false} => .tuple #[]) (fun _ => []) (fun x => [Ag g (A9 x.1 ++ rest) 107]) := by
 intro ok w hok hs; have hg : w.heap[g]? = some (.cells (A9 l ++ rest).toArray 107 (0, 0)) := hs.res _ List.mem_cons_self w (fun _ _ => rfl); have hlt : g < w.heap.size := (Array.getElem?_eq_some_iff.mp hg).1; have hu : prog.underlying 107 = some (.struct (TyF.fC prog)) := TyF.uC
 have aE : ∀ w, (isAgg (Tryz.Tc.t 24)).run prog w = .ok true w := fun w => by
  show (isAgg 107).run prog w = _; simp [isAgg, run_underlying hu]
 have zE : ∀ w, (Go.sizeOf (Tryz.Tc.t 24)).run prog w = .ok 2 w := fun w => H2 (P := prog) (t := 107) rfl w
 have hH : HoldsK Al 2 w g 0 l.toArray := by
  intro j hj; rw [size_flatK] at hj; have e : (flatK Al 2 l.toArray).toList = A9 l := by rw [Se]
  have hsz : j < (flatK Al 2 l.toArray).size := by rw [size_flatK]; exact hj
  have h1 : (A9 l)[j]? = some (flatK Al 2 l.toArray)[j]! := by
   rw [← e, Array.getElem?_toList, Array.getElem?_eq_getElem hsz, getElem!_pos _ j hsz]
  refine ⟨?_, by simp [World.frozen?, hg]⟩; have hlen : j < (A9 l).length := (List.getElem?_eq_some_iff.mp h1).1; simp only [World.cell?, hg, Nat.zero_add, Option.isSome_none, Bool.false_eq_true, if_false, List.getElem?_toArray, id]; rw [List.getElem?_append_left hlen]; exact h1
 have hc := AnyQ.slices_SortFunc (P := prog) Tryz.C6d 2 aE zE Al Ds (fun x v hv => by
   simp only [Al, List.mem_cons, List.not_mem_nil, or_false] at hv; rcases hv with rfl | rfl <;> rfl) A6i C5j 202 #[] g 0 cap l.toArray w call202
  (fun m os dk hsz x y => D5t x y _) hH hlt (by simpa using hn)
 have hc2 : Calls prog 201 #[.slice (some ⟨g, 0, none⟩) l.length cap, .func (.func 202) #[] #[]] w _ := hc; refine hc2.mono ?_; rintro e w' ⟨he, d', n, os, hp, hsd, hw⟩; have hsize : d'.size = l.length := by simpa using hp.1
 have hperm : d'.toList.Perm l := by
  have := hp.2.2; have e1 : d'.extract 0 l.toArray.size = d' := by rw [show l.toArray.size = d'.size by simp [hsize]]; simp
  have e2 : l.toArray.extract 0 l.toArray.size = l.toArray := by simp
  rw [e1, e2] at this; exact this
 have hsorted : d'.toList.Pairwise fun a b => Cv b a = false := by
  rw [List.pairwise_iff_getElem]; intro i j hi hj hij; have hi' : i < d'.size := by simpa using hi
  have hj' : j < d'.size := by simpa using hj
  have := hsd i j (Nat.zero_le _) hij (by simp; omega); rw [A2o, getElem!_pos d' j hj', getElem!_pos d' i hi'] at this; simpa using this
 have hg' : w'.heap[g]? = some (.cells (A9 d'.toList ++ rest).toArray 107 (0, 0)) := by
  rw [hw]; show ((mapBlock (Go.Sort.ahead w n) g (putCells id 0 (flatK Al 2 d'))).heap ++ os)[g]? = _; rw [Array.getElem?_append_left (by simp [mapBlock, Go.Sort.ahead]; exact hlt)]; simp only [mapBlock, Go.Sort.ahead, Array.getElem?_modify, if_true, hg, Option.map_some, onCells]; rw [B4e d' l rest hsize]
 have hold : ∀ b, b < w.heap.size → b ≠ g → w'.heap[b]? = w.heap[b]? := by
  intro b hb hne; rw [hw]; show ((mapBlock (Go.Sort.ahead w n) g (putCells id 0 (flatK Al 2 d'))).heap ++ os)[b]? = _; rw [Array.getElem?_append_left (by simp [mapBlock, Go.Sort.ahead]; exact hb)]; simp only [mapBlock, Go.Sort.ahead, Array.getElem?_modify, if_neg (Ne.symm hne)]
 have hsz' : w.heap.size ≤ w'.heap.size := by rw [hw]; simp [sortWorldK, putRowK, Go.Sort.ahead]
 refine ⟨⟨d'.toList, hperm, hsorted⟩, he, ?_⟩; have h0 : St ⟨ok, B6 [Ag g (A9 l ++ rest) 107], w⟩ [] ([Ag g (A9 l ++ rest) 107]) w := hs
 refine h0.Dq (m' := Ag g (A9 d'.toList ++ rest) 107) ⟨by rw [hw]; rfl, by rw [hw]; rfl, by rw [hw]; rfl, hsz', fun b hb hn => hold b hb hn⟩ (fun w2 hw2 => by
  show w2.heap[g]? = _; rw [hw2 g rfl]; exact hg') (fun b hb => ?_)
 have hb : b = g := hb; subst hb; exact ⟨by omega, .inl rfl⟩
end Go.Hy
namespace Go.Hy
open Go.Proofs Go.Proofs.Tryz
set_option maxRecDepth 100000
theorem B1k {M : List B3} : M.Perm (M ++ []) := by rw [List.append_nil]
theorem A9k (l : List Cl) (a : SH) (c : FuncId) (cap : List Value) (FΓ : List Fact) (M : List B3) (g : Cl → Bool) (hc : ∀ (args : Array Value) (w : World), (callFunc c args).run prog w = .ok (.enter c args) w) (hcl : ∀ x, x ∈ l → Spec prog c (G5 x :: cap).toArray FΓ M (fun _ : Unit => .bool (g x)) (fun _ => []) (fun _ => M)) : Spec prog 250 #[sl a l.length, .func (.func c) #[] cap.toArray] (CL l a :: FΓ) M (fun _ : Unit => iv (A9l g l)) (fun _ => []) (fun _ => M) := by
 refine Dj ntmps250 fun B hB => ?_
 refine Ab (l := l) (a := a) (fun hl1 hA1 hU1 => ?_); refine No ?_; refine E0 (X := Nat) (fun i => i ≤ l.length ∧ ∀ j, j < i → g (l.getD j Bz) = false) (fun i => [(0, sl a l.length), (1, .func (.func c) #[] cap.toArray), (7, iv (l.length : Int)), (8, iv (i : Int))]) (fun i => CL l a :: FΓ) (fun i => M) (fun i => l.length - i) (0) (⟨Nat.zero_le _, fun j hj => by omega⟩) (by exact Ea) ?_ ?_
 ·exact fun w hs => hs
 ·intro i base0 ⟨hi, hok⟩ next0; refine Ej ?_; refine A4 (fun h9 => ?_) (fun h9 => ?_)
  ·have hlt : i < l.length := by have := of_decide_eq_true h9; omega
   obtain ⟨bk, o, hav⟩ := hA1 A3; refine Y1 ?_; refine Ki ?_; refine Pc ?_; refine Ef ?_; refine Pd ?_; refine T1 ?_; refine q0 rfl (Cc hc (hcl _ (Af hlt)) (cap := cap) (fun x16 => ?_) (hm := B1k)); refine Kj ?_; refine A4 (fun h16 => ?_) (fun h16 => ?_)
   ·refine Ki ?_; refine Ar f_ rfl Ac () (by rw [C4p hlt h16 hok]) (fun w hs => (hs.l8).C2)
   ·refine Iw ?_; refine A7 (fun w hs => ?_) (next0 (i + 1) _ ⟨hlt, fun j hj => (by rcases Nat.lt_succ_iff_lt_or_eq.mp hj with h | h; exact hok j h; subst h; exact h16)⟩ A3 Ea); exact (hs.l9).C2
  ·have hge : i = l.length := by have := of_decide_eq_false h9; omega
   refine Na ?_; refine Ar f_ rfl Ac () (by rw [B5h (by rw [← hge]; exact hok)]) (fun w hs => hs.l8)
theorem Q5 (l : List Cl) (a : SH) (c : FuncId) (cap : List Value) (FΓ : List Fact) (M : List B3) (g : Cl → Bool) (hc : ∀ (args : Array Value) (w : World), (callFunc c args).run prog w = .ok (.enter c args) w) (hcl : ∀ x, x ∈ l → Spec prog c (G5 x :: cap).toArray FΓ M (fun _ : Unit => .bool (g x)) (fun _ => []) (fun _ => M)) : Spec prog 198 #[sl a l.length, .func (.func c) #[] cap.toArray] (CL l a :: FΓ) M (fun _ : Unit => .bool (l.any g)) (fun _ => []) (fun _ => M) := by
 refine Dj ntmps198 fun B hB => ?_
 refine B0s ?_; refine q0 rfl (A1 call250 (A9k l a c cap FΓ M g hc hcl) (fun x7 => ?_) (hm := B1k)); refine A3d ?_; refine Cu ?_; refine Ar f_ rfl Ac () (by rw [A5v]) (fun w hs => (hs.l8).C2)
theorem A1z (c d : Cl) (hc : u32 c) (hd : u32 d) (b : Nat) : Spec prog 199 #[G5 d, pz b] [] [Ag b (Al c) 107] (fun _ : Unit => .bool (!decide (c = d) && below c d)) (fun _ => []) (fun _ => [Ag b (Al c) 107]) := by
 refine Dj ntmps199 fun B hB => ?_
 refine B5 ?_; refine q0 rfl (B2 fun b2 => ?_); refine Cu ?_; refine Fo ?_; refine Ff ?_; refine q0 rfl (D3i ?_ (c := c) (c' := d)); refine Ef ?_; refine qI rfl rfl rfl Ix (fun hg7 => Rv ?_) (fun hg7 => ?_)
 ·refine qT rfl rfl rfl (Rv ?_); refine qT rfl rfl rfl (A1 call200 (B0j c d hc hd) (fun x10 => ?_)); refine Hi ?_; refine Ar f_ rfl Ac () (by simp_all) (fun w hs => (hs.l8).drop)
 ·refine Gl ?_; refine Gx ?_; refine Ar f_ rfl Ac () (by simp_all) (fun w hs => (hs.l8).drop)
theorem A5p (l : List Cl) (a : SH) (c : Cl) (hc : u32 c) (b : Nat) : Spec prog 197 #[G5 c, pz b] [CL l a] [Ag b [sl a l.length] 22] (fun _ : Unit => .bool (Bx l c)) (fun _ => []) (fun _ => [Ag b [sl a l.length] 22]) := by
 refine Dj ntmps197 fun B hB => ?_
 refine Ab (l := l) (a := a) (fun hl1 hA1 hU1 => ?_); refine B5 ?_; refine q0 rfl (B2 fun b2 => ?_); refine N9 ?_; refine Qb ?_; refine Ma ?_; refine q0 rfl (A1 call198 (Q5 l a 199 [pz b2] [] [Ag b2 (Al c) 107] (fun d => !decide (c = d) && below c d) call199 (fun d hd => A1z c d hc (hU1 d hd) b2)) (fun x6 => ?_)); refine Cu ?_; refine Ar f_ rfl Ac () rfl (fun w hs => (hs.l8).drop)
theorem Uu (l : List Cl) (c : Cl) : A9 (l ++ [c]) = A9 l ++ Al c := by simp [A9]
theorem A0w (l : List Cl) (a : SH) (n : Nat) (hn : n = l.length) (hb : n * 8 ≤ reach) :
  Spec prog 201 #[sl a n, .func (.func 202) #[] #[]] [] [Am 2 107 a n (A9 l)] (fun _ : {l' : List Cl // A2z l l'} => .tuple #[]) (fun _ => []) (fun x => [Am 2 107 a n (A9 x.1)]) := by
 subst hn; intro ok w hok hs; have hown : w.ownsRow 0 107 2 (sl a l.length) l.length (A9 l) := hs.res _ List.mem_cons_self w (fun _ _ => rfl); rcases hown.2 with ⟨h1, h2⟩ | ⟨g, cap, cur, h1, h2, h3, h4, h5, h6, h7⟩
 ·have hl : l = [] := List.eq_nil_of_length_eq_zero h2; subst hl; have hc := AnyF.slices_SortFunc_none (P := prog) Tryz.C6d a.1 a.2 (.func (.func 202) #[] #[]) w; have hc2 : Calls prog 201 #[sl a 0, .func (.func 202) #[] #[]] w _ := hc; refine hc2.mono ?_; rintro e w' ⟨he, hw⟩; subst hw; exact ⟨⟨[], List.Perm.refl _, List.Pairwise.nil⟩, he, hs⟩
 ·obtain ⟨ao, ac⟩ := a; have e1 : ao = some ⟨g, 0, none⟩ := by injection h1
  have e2 : ac = cap := by injection h1
  subst e1; subst e2
  have hfl : cur.toList = A9 l ++ cur.toList.drop (l.length * 2) := by
   have := List.take_append_drop (l.length * 2) cur.toList; rw [h7] at this; exact this.symm
  have hbox : St ⟨ok, B6 [Am 2 107 (some ⟨g, 0, none⟩, ac) l.length (A9 l)], w⟩ [] [Ag g (A9 l ++ cur.toList.drop (l.length * 2)) 107] w := by
   refine hs.Dq (m' := Ag g (A9 l ++ cur.toList.drop (l.length * 2)) 107) (Qx.refl _ _) (fun w2 hw2 => ?_) (fun b hb => ?_)
   ·show w2.heap[g]? = _; rw [hw2 g rfl, ← hfl, Array.toArray_toList]; exact h3
   ·have hb : b = g := hb; subst hb; exact ⟨(Array.getElem?_eq_some_iff.mp h3).1, .inl rfl⟩
  have hdom : ∀ b, B6 [Am 2 107 (some ⟨g, 0, none⟩, ac) l.length (A9 l)] b ↔ B6 [Ag g (A9 l ++ cur.toList.drop (l.length * 2)) 107] b := by
   intro b; rw [Ep, Ep]
   have : (Am 2 107 (some ⟨g, 0, none⟩, ac) l.length (A9 l)).dom b ↔ b = g := by
    show (sl (some ⟨g, 0, none⟩, ac) l.length).ownBlock = some b ↔ b = g; simp only [sl, Value.ownBlock, Option.some.injEq]; exact eq_comm
   rw [this]; rfl
  have hd2 : B6 [Am 2 107 (some ⟨g, 0, none⟩, ac) l.length (A9 l)] = B6 [Ag g (A9 l ++ cur.toList.drop (l.length * 2)) 107] := funext fun b => propext (hdom b)
  rw [hd2] at hbox; refine (B3y l g ac (cur.toList.drop (l.length * 2)) (by unfold reach at hb; omega) ok w (fun b hb => ⟨(hok b hb).1, by rw [← hd2]; exact (hok b hb).2⟩) hbox).mono ?_; rintro e w' ⟨x, he, hs'⟩; refine ⟨⟨x.1, x.2.1, x.2.2⟩, he, ?_⟩; rw [hd2]; have hlen : x.1.length = l.length := x.2.1.length_eq; have hg : w'.heap[g]? = some (.cells (A9 x.1 ++ cur.toList.drop (l.length * 2)).toArray 107 (0, 0)) := hs'.res _ List.mem_cons_self w' (fun _ _ => rfl); have hfl2 : (A9 x.1).length = l.length * 2 := by rw [K7 Ds, hlen]
  refine hs'.Dq (m' := Am 2 107 (some ⟨g, 0, none⟩, ac) l.length (A9 x.1)) (Qx.refl _ _) (fun w2 hw2 => ⟨hfl2, .inr ⟨g, ac, (A9 x.1 ++ cur.toList.drop (l.length * 2)).toArray, rfl, Nat.zero_le _, ?_, h4, h5, ?_, ?_⟩⟩) (fun b hb => ?_)
  ·rw [hw2 g rfl]; exact hg
  ·have h8 : cur.toList.length = ac * 2 := by simpa using h6
   simp only [List.size_toArray, List.length_append, List.length_drop, hfl2, h8]; omega
  ·rw [← hfl2, List.take_left]
  ·have hb : (sl (some ⟨g, 0, none⟩, ac) l.length).ownBlock = some b := hb; simp only [sl, Value.ownBlock, Option.some.injEq] at hb; subst hb; exact ⟨(Array.getElem?_eq_some_iff.mp hg).1, .inl rfl⟩
theorem Zp (l : List Cl) (a : SH) : Spec prog 110 #[sl a l.length] [CL l a] [] (fun x : {x : SH × Int × List Cl // Gu l x.2} => .tuple #[sl x.1.1 x.1.2.2.length, iv x.1.2.1]) (fun _ => []) (fun x => [Am 2 107 x.1.1 x.1.2.2.length (A9 x.1.2.2)]) := by
 refine Dj ntmps110 fun B hB => ?_
 refine Ab (l := l) (a := a) (fun hl1 hA1 hU1 => ?_); refine F6 ?_; refine B5 ?_; refine q0 rfl (B4r fun b12 => ?_); refine N9 ?_; refine q0 rfl (B8 fun b5 => ?_); refine Kj ?_; refine B6i ?_; refine E0 (X := Nat × SH) (fun s => s.1 ≤ l.length ∧ ∀ j, j < s.1 → Az (l.getD j Bz) = true) (fun s => [(4, .map (some b12)), (5, pz b5), (13, sl a l.length), (14, iv (l.length : Int)), (15, iv (s.1 : Int))]) (fun s => [CL l a]) (fun s => [Wo b12 (once (l.take s.1)), Ag b5 [sl s.2 (once (l.take s.1)).length] 22, Am 2 107 s.2 (once (l.take s.1)).length (A9 (once (l.take s.1)))]) (fun s => l.length - s.1) ((0, (none, 0))) (⟨Nat.zero_le _, fun j hj => absurd hj (Nat.not_lt_zero _)⟩) (by exact Ea) ?_ ?_
 ·exact fun w hs => ((hs.l8).Ca 2 107).perm (Bn.trans ((List.Perm.swap _ _ _).cons _))
 ·intro ⟨i, aO⟩ base0 ⟨hi, hok⟩ next0; dsimp only at hi hok next0 ⊢; refine Ej ?_; refine A4 (fun h16 => ?_) (fun h16 => ?_)
  ·have hlt : i < l.length := by have := of_decide_eq_true h16; omega
   obtain ⟨bk, o, hav⟩ := hA1 A3; have hu := hU1 _ (Af (d := Bz) hlt); have hol := Y6 l i; refine J3 ?_; refine Pd ?_; refine T1 ?_; refine q0 rfl (B8 fun b7 => ?_); refine Le ?_; refine Fo ?_; refine q0 rfl (A1 call196 (M1 (l.getD i Bz) hu) (fun x20 => ?_)); refine Jt ?_; refine A4 (fun h21 => ?_) (fun h21 => ?_)
   ·have hr : Az (l.getD i Bz) = false := by simpa using h21
    refine F6 ?_; refine Bf f_ rfl Ac Ac ⟨((none, 0), 2, []), by (unfold Gu; rw [C5u hlt hr]; rfl)⟩ rfl (fun w hs => (hs.l7).bare.Ca 2 107)
   ·have hr : Az (l.getD i Bz) = true := by simpa using h21
    refine Hg ?_; refine Nu ?_; refine q0 rfl (B4s ?_); refine Jt ?_; refine A4 (fun h25 => ?_) (fun h25 => ?_)
    ·have hnin : l.getD i Bz ∉ once (l.take i) := by simpa using h25
     refine Nu ?_; refine q0 rfl (B9d ?_); refine Kj ?_; refine Jo ?_; refine Qb ?_; refine Ff ?_; refine q0 rfl (Dr fun b30 => ?_); refine q0 rfl (Et (fun a31 => ?_)  ); refine G3 ?_; refine Uz ?_; have hst := O4 hlt; rw [if_neg hnin] at hst; have hlen' : (once (l.take (i + 1))).length = (once (l.take i)).length + 1 := by rw [hst]; simp
     refine A7 (fun w hs => ?_) (next0 (i + 1, a31) _ ⟨hlt, fun j hj => (by rcases Nat.lt_succ_iff_lt_or_eq.mp hj with h | h; exact hok j h; subst h; exact hr)⟩ (by simp only; omega) Ea); dsimp only; rw [hlen', hst, Uu]; exact ((hs.l8).perm F8).C2 (A := [_, _, _])
    ·refine Iw ?_; have hin : l.getD i Bz ∈ once (l.take i) := by simpa using h25
     have hst := O4 hlt; rw [if_pos hin] at hst; refine A7 (fun w hs => ?_) (next0 (i + 1, aO) _ ⟨hlt, fun j hj => (by rcases Nat.lt_succ_iff_lt_or_eq.mp hj with h | h; exact hok j h; subst h; exact hr)⟩ (by simp only; omega) Ea); dsimp only; rw [hst]; exact (hs.l8).drop
  ·have hge : i = l.length := by have := of_decide_eq_false h16; omega
   have hall : l.all Az = true := D2a (by rw [← hge]; exact hok); subst hge; rw [List.take_length]; have hUo : ∀ c, c ∈ once l → u32 c := fun c hc => hU1 c ((Lq c l).mp hc)
   have hol := Rt l; refine A7 (fun w hs => ((hs.perm Bn).Dk hB rfl rfl A3 hUo)) ?_; refine G4 ?_; refine B5 ?_; refine Ma ?_; refine Cu ?_; refine Cn ?_; refine Fq ?_; refine B5 ?_; refine Qb ?_; refine B3h ?_; refine E0 (X := Nat × SH) (fun s => s.1 ≤ (once l).length) (fun s => [(8, .func (.func 197) #[] [pz b5].toArray), (9, sl s.2 (F2 l s.1).length), (34, sl aO (once l).length), (35, iv ((once l).length : Int)), (36, iv (s.1 : Int))]) (fun s => [CL (once l) aO]) (fun s => [Ag b5 [sl aO (once l).length] 22, Am 2 107 s.2 (F2 l s.1).length (A9 (F2 l s.1))]) (fun s => (once l).length - s.1) ((0, (none, 0))) (Nat.zero_le _) (by exact Ea) ?_ ?_
   ·exact fun w hs => (((hs.l9).Ca 2 107).perm Bn).C2 (A := [_, _])
   ·intro ⟨i, aK⟩ base1 hi next1; dsimp only at hi next1 ⊢; refine Ej ?_; refine A4 (fun h37 => ?_) (fun h37 => ?_)
    ·have hlt : i < (once l).length := by have := of_decide_eq_true h37; omega
     refine Ab (l := once l) (a := aO) (fun _ hA2 _ => ?_); obtain ⟨bk, o, hav⟩ := hA2 A3; have hu := hUo _ (Af (d := Bz) hlt); have hkl := A2b l i; refine J3 ?_; refine Pd ?_; refine T1 ?_; refine q0 rfl (B8 fun b11 => ?_); refine G3 ?_; refine Nu ?_; refine q0 rfl (Cc call197 (A5p (once l) aO ((once l).getD i Bz) hu b5) (cap := [pz b5]) (fun x42 => ?_)); refine Jt ?_; refine A4 (fun h43 => ?_) (fun h43 => ?_)
     ·refine E5 ?_; refine Ff ?_; refine q0 rfl (Dr fun b46 => ?_); refine q0 rfl (Et (fun a47 => ?_)  ); refine Y0 ?_; have hnd : Bx (once l) ((once l).getD i Bz) = false := by simpa using h43
      have hst := Pz hlt; rw [hnd, if_neg Iu] at hst; have hlen' : (F2 l (i + 1)).length = (F2 l i).length + 1 := by rw [hst]; simp
      refine A7 (fun w hs => ?_) (next1 (i + 1, a47) _ hlt (by simp only; omega) ⟨rfl, by rw [hlen']; rfl, rfl, rfl, rfl, trivial⟩); dsimp only; rw [hlen', hst, Uu]; exact ((hs.l8).perm Bn).C2 (A := [_, _])
     ·refine Iw ?_; have hnd : Bx (once l) ((once l).getD i Bz) = true := by simpa using h43
      have hst := Pz hlt; rw [hnd, if_pos rfl] at hst; refine A7 (fun w hs => ?_) (next1 (i + 1, aK) _ hlt (by simp only; omega) ⟨rfl, by rw [hst]; rfl, rfl, rfl, rfl, trivial⟩); dsimp only; rw [hst]; exact (hs.l8).C2 (A := [_, _])
    ·have hge2 : i = (once l).length := by have := of_decide_eq_false h37; omega
     subst hge2; rw [A2c]; refine G4 ?_; refine Hv ?_; refine Hw ?_; refine A0o ?_; refine Kj ?_; refine A4 (fun h51 => ?_) (fun h51 => ?_)
     ·have h64 : 64 < (kept l).length := by have := of_decide_eq_true h51; omega
      refine F6 ?_; refine Bf f_ rfl Ac Ac ⟨((none, 0), 3, []), by (unfold Gu; rw [hall, if_neg Iu, if_pos h64])⟩ rfl (fun w hs => (hs.l7).bare.Ca 2 107)
     ·have h64 : ¬ 64 < (kept l).length := by have := of_decide_eq_false h51; omega
      refine Hg ?_; refine Ew ?_; refine q0 rfl (A1 call201 (A0w (kept l) aK (kept l).length rfl (by unfold reach; omega)) (fun x53 => ?_)); refine Kj ?_; refine L8 ?_; have hpl : x53.1.length = (kept l).length := x53.2.1.length_eq; refine Bf f_ rfl Ac Ac ⟨(aK, 0, x53.1), by (unfold Gu; rw [hall, if_neg Iu, if_neg h64]; exact ⟨rfl, x53.2⟩)⟩ (by rw [hpl]; rfl) (fun w hs => ?_); have h := (hs.l7).C2 (A := [_]); rw [← hpl] at h; exact h
theorem A9f (l : List Cl) (a : SH) : Spec prog 110 #[sl a l.length] [CL l a] [] (fun x : {x : SH × Int × List Cl // Gu l x.2} => .tuple #[sl x.1.1 x.1.2.2.length, iv x.1.2.1]) (fun x => [CL x.1.2.2 x.1.1]) (fun _ => []) := fun ok w hok hs => (Zp l a ok w hok hs).mono fun e w' h => by
 obtain ⟨x, he, hs'⟩ := h; have hu := (hs.facts _ List.mem_cons_self).2
 have hx : x.1.2.2.length ≤ 64 ∧ ∀ c, c ∈ x.1.2.2 → u32 c := by
  have h := x.2; unfold Gu at h; split at h
  ·rw [h]; exact ⟨Nat.zero_le _, fun c hc => by cases hc⟩
  ·split at h
   ·rw [h]; exact ⟨Nat.zero_le _, fun c hc => by cases hc⟩
   ·rename_i h64; exact ⟨by rw [h.2.1.length_eq]; omega, fun c hc => hu c (C0j (h.2.1.mem_iff.mp hc))⟩
 exact ⟨x, he, (hs'.Dk trivial rfl rfl (by unfold reach; omega) hx.2).l8⟩
theorem A9s (l m : List Cl) (a b : SH) : Spec prog 111 #[sl a l.length, sl b m.length] [CL l a, CL m b] [] (fun _ : Unit => .bool (decide (l = m))) (fun _ => []) (fun _ => []) := by
 refine Dj ntmps111 fun B hB => ?_
 refine Ab (l := l) (a := a) (fun hl1 hA1 hU1 => ?_); refine Ab (l := m) (a := b) (fun hl2 hA2 hU2 => ?_); refine Cn ?_; refine Hv ?_; refine Hw ?_; refine Ef ?_; refine Hw ?_; refine A7c ?_; refine A4 (fun h10 => ?_) (fun h10 => ?_)
 ·have hne : ¬ l = m := fun e => by subst e; simp at h10
  refine Cn ?_; refine Ar f_ rfl Ac () (by rw [decide_eq_false hne]) (fun w hs => hs.none)
 ·have hlen : l.length = m.length := by simp at h10; omega
  refine Hg ?_; refine B6i ?_; refine E0 (X := Nat) (fun i => i ≤ l.length ∧ ∀ j, j < i → l.getD j Bz = m.getD j Bz) (fun i => [(0, sl a l.length), (1, sl b m.length), (12, iv (l.length : Int)), (13, iv (i : Int))]) (fun i => [CL l a, CL m b]) (fun i => []) (fun i => l.length - i) (0) (⟨Nat.zero_le _, fun j hj => by omega⟩) (by exact Ea) ?_ ?_
  ·exact fun w hs => hs.l9
  ·intro i base0 ⟨hi, hok⟩ next0; refine Ej ?_; refine A4 (fun h14 => ?_) (fun h14 => ?_)
   ·have hlt : i < l.length := by have := of_decide_eq_true h14; omega
    have hlt2 : i < m.length := by omega
    obtain ⟨bk, o, hav⟩ := hA1 A3; obtain ⟨bk2, o2, hav2⟩ := hA2 A3; refine Y1 ?_; refine Ew ?_; refine G6 ?_; refine Cf (pn := 1000000) (tn := false) (A := [0, 0, 3, 7, 0, 0, 48, 112, 255]) (l := [0, 1, 2, 3, 4, 5, 6, 7, 8]) (fin := []) Tab.mixed ⟨_, func111⟩ (by rfl) ?_; refine Kg ?_; refine n0 rfl (Kk ?_); refine n0 rfl (B0x ?_); refine Kg ?_; refine n0 rfl (Kk ?_); refine n0 rfl (B0x ?_); refine n0 rfl (C5y ?_); refine B3g ?_; refine A4 (fun h24 => ?_) (fun h24 => ?_)
    ·refine Cn ?_; refine Ar f_ rfl Ac () (by rw [decide_eq_false (fun e => by subst e; simp at h24)]) (fun w hs => hs.none)
    ·refine Iw ?_; have hb : l.getD i Bz = m.getD i Bz := by simpa using h24
     refine A7 (fun w hs => ?_) (next0 (i + 1) _ ⟨hlt, fun j hj => (by rcases Nat.lt_succ_iff_lt_or_eq.mp hj with h | h; exact hok j h; subst h; exact hb)⟩ A3 Ea); exact hs
   ·have hge : i = l.length := by have := of_decide_eq_false h14; omega
    refine Na ?_; refine Ar f_ rfl Ac () (by rw [decide_eq_true (Mt hlen (by rw [← hge]; exact hok))]) (fun w hs => hs.none)
theorem F3 : C2l := by
 intro l a; refine Dj ntmps63 fun B hB => ?_
 refine Bp (p := True) (fun _ _ => trivial) (fun _ => ?_); refine Pq ?_; refine q0 rfl (A1 call110 (A9f l a) (fun x7 => ?_)); refine Va ?_; refine Ew ?_; refine A7k ?_; refine Ef ?_; refine qI rfl rfl rfl Ix (fun hg12 => Eg ?_) (fun hg12 => ?_)
 ·refine Kd ?_; refine qT rfl rfl rfl (A1 call111 (A9s x7.1.2.2 l x7.1.1 a) (fun x15 => ?_)); refine Hi ?_; have hlr := O9 x7.2; refine Ar f_ rfl Ac () (by rw [← hlr]; simp_all) (fun w hs => hs.none)
 ·refine Gl ?_; refine Gx ?_; have hlr := O9 x7.2; refine Ar f_ rfl Ac () (by rw [← hlr]; simp_all) (fun w hs => hs.none)
theorem Of : A0l := by
 intro l a; refine Dj ntmps193 fun B hB => ?_
 refine Ab (l := l) (a := a) (fun hl1 hA1 hU1 => ?_); refine Pq ?_; refine q0 rfl (A1 call63 (F3 l a) (fun x4 => ?_)); refine Ef ?_; refine qI rfl rfl rfl Ix (fun hg5 => Eg ?_) (fun hg5 => ?_)
 ·refine qT rfl rfl rfl (A1 call198 (Q5 l a 248 [] [] [] Hb call248 (fun x hx => Xh x (hU1 x hx))) (fun x7 => ?_)); refine qT rfl rfl rfl (Zg ?_); refine Hi ?_; refine Ar f_ rfl Ac () (by simp_all [A6]) (fun w hs => hs.none)
 ·refine Gl ?_; refine Gx ?_; refine Ar f_ rfl Ac () (by simp_all [A6]) (fun w hs => hs.none)
theorem P8 : B0q := ⟨F3, Of, X9⟩
theorem B1i {m : Nat} (h : m ≤ 24) : 2 ^ m ≤ 16777216 := Nat.pow_le_pow_right (n := 2) (j := 24) A3 h
theorem B2x (i : Int) (h0 : 0 ≤ i) : Spec prog 239 #[iv (i)] [] [] (fun _ : Unit => .int .u32 (((2 ^ (min i.toNat 24) - 1) : Nat) : Int)) (fun _ => []) (fun _ => []) := by
 refine Dj ntmps239 fun B hB => ?_
 have hp := B1i (m := min i.toNat 24) A3; have hpos : 0 < 2 ^ (min i.toNat 24) := Nat.pow_pos A3; refine Pq ?_; refine q0 rfl (A4q ?_); refine q0 rfl (Rw ?_ (m := min i.toNat 24) (ha := by split <;> omega)); refine q0 rfl (A8t ?_ (a := 1) (m := min i.toNat 24) (hm := by omega) (hb := by omega)); refine q0 rfl (C8n ?_ (a := 1 * 2 ^ (min i.toNat 24)) (b := 1) (h := by omega) (ha := by omega)); refine q0 rfl (A4u ?_ (a := 1 * 2 ^ (min i.toNat 24) - 1) (ha := by omega)); refine Cu ?_; refine Ar f_ rfl Ac () (by rw [Nat.one_mul]) (fun w hs => hs.none)
theorem Py (s : Nat) (f : Int) (b : Int) (hs : s < 4294967296) (hi : Aw f) (hib : Aw b) : Spec prog 238 #[.int .u32 ((s : Nat) : Int), iv (f), iv (b)] [] [] (fun _ : Unit => .tuple #[.int .u32 (((Aa s f b).2 : Nat) : Int), iv ((Aa s f b).1)]) (fun _ => []) (fun _ => []) := by
 refine Dj ntmps238 fun B hB => ?_
 have hs24 := K9 s; have hp := B1i (m := min f.toNat 24) A3; have hpos : 0 < 2 ^ (min f.toNat 24) := Nat.pow_pos A3; have hhi : B1 (s &&& 16777215) (2 ^ (min f.toNat 24) - 1) < 16777216 := A0i hs24; have hlo : (s &&& 16777215) &&& (2 ^ (min f.toNat 24) - 1) < 16777216 := Nat.lt_of_le_of_lt Nat.and_le_left hs24; refine F6 ?_; refine Fq ?_; refine Fq ?_; refine C1 ([(0, .int .u32 ((s : Nat) : Int)), (1, iv (f)), (2, iv (b)), (15, .bool ((decide (f < 0)) || (decide (b < 0))))]) (fun hK => ?_) (fun base => ?_)
 ·refine E5 ?_; refine Vc ?_; refine Ef ?_; refine qi_ rfl (decide (f < 0)) (fun hg12 g12 => ?_) (fun hg12 g12 => ?_)
  ·refine B3k ?_; refine B3l ?_; refine Ie ?_; exact hK _ ⟨rfl, rfl, rfl, Pl, trivial⟩
  ·refine Qy ?_; refine Ia ?_; exact hK _ ⟨rfl, rfl, rfl, Pl, trivial⟩
 ·refine Dc ((decide (f < 0)) || (decide (b < 0))) (fun h15 c15 => ?_) (fun h15 c15 => ?_)
  ·have hg : Aa s f b = (2, 0) := by rw [Aa, if_pos A3]
   refine F6 ?_; refine Bf f_ rfl Ac Ac () (by first | (rw [hg]; done) | (rw [hg]; rfl)) (fun w hs => hs.none)
  ·have hfb : 0 ≤ f ∧ 0 ≤ b := by omega
   refine Hg ?_; refine Ew ?_; refine q0 rfl (Lt ?_ (a := s) (b := 16777215)); refine Cu ?_; refine Pc ?_; refine q0 rfl (A1 call239 (B2x f Pw) (fun x20 => ?_)); refine q0 rfl (Lt ?_ (a := s &&& 16777215) (b := 2 ^ (min f.toNat 24) - 1) (ha := by omega) (hb := by omega)); refine Cu ?_; refine Pc ?_; refine q0 rfl (A1 call239 (B2x f Pw) (fun x24 => ?_)); refine q0 rfl (Ul ?_ (a := (s &&& 16777215)) (b := (2 ^ (min f.toNat 24) - 1))); refine q0 rfl (B9e ?_ (a := B1 (s &&& 16777215) (2 ^ (min f.toNat 24) - 1))); refine Cu ?_; refine Hv ?_; refine q0 rfl (A4t ?_ (a := ((B1 (s &&& 16777215) (2 ^ (min f.toNat 24) - 1) : Nat) : Int)) (b := 0)); refine Kj ?_; refine Dc (decide (((B1 (s &&& 16777215) (2 ^ (min f.toNat 24) - 1) : Nat) : Int) = 0)) (fun h28 c28 => ?_) (fun h28 c28 => ?_)
   ·have hz : B1 (s &&& 16777215) (2 ^ (min f.toNat 24) - 1) = 0 := by omega
    have hg : Aa s f b = (0, (s &&& 16777215) &&& (2 ^ (min f.toNat 24) - 1)) := by rw [Aa, if_neg A3, if_pos hz]
    refine L8 ?_; refine Bf f_ rfl Ac Ac () (by first | (rw [hg]; done) | (rw [hg]; rfl)) (fun w hs => hs.none)
   ·have hz : ¬ B1 (s &&& 16777215) (2 ^ (min f.toNat 24) - 1) = 0 := by omega
    refine Jq ?_; refine Fq ?_; refine C1 ([(2, iv (b)), (8, .int .u32 ((((s &&& 16777215) &&& (2 ^ (min f.toNat 24) - 1)) : Nat) : Int)), (9, .int .u64 (((B1 (s &&& 16777215) (2 ^ (min f.toNat 24) - 1) : Nat) : Int))), (38, .bool ((decide (24 ≤ b)) || (decide (16777215 < ((B1 (s &&& 16777215) (2 ^ (min f.toNat 24) - 1) * 2 ^ b.toNat : Nat) : Int)))))]) (fun hK => ?_) (fun base => ?_)
    ·refine E5 ?_; refine A3d ?_; refine Ef ?_; refine qi_ rfl (decide (24 ≤ b)) (fun hg32 g32 => ?_) (fun hg32 g32 => ?_)
     ·refine B3k ?_; refine Kd ?_; refine qT rfl rfl rfl (Rw ?_ (m := b.toNat) (ha := by omega)); refine qT rfl rfl rfl (A8t ?_ (a := B1 (s &&& 16777215) (2 ^ (min f.toNat 24) - 1)) (m := b.toNat) (hm := by omega) (hb := by have := B1i (m := b.toNat) A3; have h9 := Nat.mul_le_mul (Nat.le_of_lt hhi) this; omega)); refine qT rfl rfl rfl (Wi ?_ (a := ((B1 (s &&& 16777215) (2 ^ (min f.toNat 24) - 1) * 2 ^ b.toNat : Nat) : Int)) (b := 16777215)); refine Ie ?_; exact hK _ ⟨rfl, rfl, rfl, Pl, trivial⟩
     ·refine Ps ?_; refine Ia ?_; exact hK _ ⟨rfl, rfl, rfl, Pl, trivial⟩
    ·refine Dc ((decide (24 ≤ b)) || (decide (16777215 < ((B1 (s &&& 16777215) (2 ^ (min f.toNat 24) - 1) * 2 ^ b.toNat : Nat) : Int)))) (fun h38 c38 => ?_) (fun h38 c38 => ?_)
     ·have hg : Aa s f b = (10, 0) := by rw [Aa, if_neg A3, if_neg hz, if_pos A3]
      refine F6 ?_; refine Bf f_ rfl Ac Ac () (by first | (rw [hg]; done) | (rw [hg]; rfl)) (fun w hs => hs.none)
     ·have hbig : ¬ (24 ≤ b ∨ 16777215 < B1 (s &&& 16777215) (2 ^ (min f.toNat 24) - 1) * 2 ^ b.toNat) := by omega
      have hg : Aa s f b = (0, ((s &&& 16777215) &&& (2 ^ (min f.toNat 24) - 1)) ||| (B1 (s &&& 16777215) (2 ^ (min f.toNat 24) - 1) * 2 ^ b.toNat)) := by rw [Aa, if_neg A3, if_neg hz, if_neg hbig]
      refine Po ?_; refine Ef ?_; refine q0 rfl (Rw ?_ (m := b.toNat) (ha := by omega)); refine q0 rfl (A8t ?_ (a := B1 (s &&& 16777215) (2 ^ (min f.toNat 24) - 1)) (m := b.toNat) (hm := by omega) (hb := by omega)); refine q0 rfl (A4u ?_ (a := B1 (s &&& 16777215) (2 ^ (min f.toNat 24) - 1) * 2 ^ b.toNat) (ha := by omega)); refine q0 rfl (P3 ?_ (a := (s &&& 16777215) &&& (2 ^ (min f.toNat 24) - 1)) (b := B1 (s &&& 16777215) (2 ^ (min f.toNat 24) - 1) * 2 ^ b.toNat) (ha := by omega) (hb := by omega)); refine J5 ?_; refine Bf f_ rfl Ac Ac () (by first | (rw [hg]; done) | (rw [hg]; rfl)) (fun w hs => hs.none)
theorem A6j (c : Cl) (f : Int) (b : Int) (hc : u32 c) (hi : Aw f) (hib : Aw b) : Spec prog 169 #[G5 c, iv (f), iv (b)] [] [] (fun _ : Unit => .tuple #[G5 ((An c f b).2), iv ((An c f b).1)]) (fun _ => []) (fun _ => []) := by
 refine Dj ntmps169 fun B hB => ?_
 have hcp := hc.1; have hcn := hc.2; have hp1 := Fa c.pos f b; have hp2 := Fa c.neg f b; refine B5 ?_; refine q0 rfl (B2 fun b3 => ?_); refine q0 rfl (B8 fun b6 => ?_); refine G6 ?_; refine Fo ?_; refine q0 rfl (A1 call196 (M1 c Pw) (fun x12 => ?_)); refine Jt ?_; refine Dc (!(Az c)) (fun h13 c13 => ?_) (fun h13 c13 => ?_)
 ·have hg : An c f b = (2, Bz) := by rw [An, if_pos (by simpa using h13)]
  refine B5 ?_; refine q0 rfl (B9 (cs := [.int .u32 ((((⟨0, 0⟩ : Cl)).pos : Nat) : Int), .int .u32 ((((⟨0, 0⟩ : Cl)).neg : Nat) : Int)]) ?_); refine Gb ?_; refine E7 f_ rfl () rfl mf_ rfl rfl rfl rfl (by rw [hg]; rfl) (fun w hs => hs.none)
 ·have hr : ¬ Az c = false := by simpa using h13
  refine Hg ?_; refine Kc ?_; refine Gy ?_; refine q0 rfl (A1 call238 (Py ((c).pos) f b Pw Pw Pw) (fun x20 => ?_)); refine Gf ?_; refine Dc (decide (((Aa ((c).pos) f b).1) ≠ 0)) (fun h24 c24 => ?_) (fun h24 c24 => ?_)
  ·have hg : An c f b = ((Aa c.pos f b).1, Bz) := by rw [An, if_neg hr, if_pos (by simpa using h24)]
   refine B5 ?_; refine q0 rfl (B9 (cs := [.int .u32 ((((⟨0, 0⟩ : Cl)).pos : Nat) : Int), .int .u32 ((((⟨0, 0⟩ : Cl)).neg : Nat) : Int)]) ?_); refine Jr ?_; refine E7 f_ rfl () rfl mf_ rfl rfl rfl rfl (by rw [hg]; rfl) (fun w hs => hs.none)
  ·have hr2 : ¬ (Aa c.pos f b).1 ≠ 0 := by simpa using h24
   refine Hg ?_; refine Kc ?_; refine Gy ?_; refine q0 rfl (A1 call238 (Py ((c).neg) f b Pw Pw Pw) (fun x32 => ?_)); refine Gf ?_; refine Dc (decide (((Aa ((c).neg) f b).1) ≠ 0)) (fun h36 c36 => ?_) (fun h36 c36 => ?_)
   ·have hg : An c f b = ((Aa c.neg f b).1, Bz) := by rw [An, if_neg hr, if_neg hr2, if_pos (by simpa using h36)]
    refine B5 ?_; refine q0 rfl (B9 (cs := [.int .u32 ((((⟨0, 0⟩ : Cl)).pos : Nat) : Int), .int .u32 ((((⟨0, 0⟩ : Cl)).neg : Nat) : Int)]) ?_); refine Jr ?_; refine E7 f_ rfl () rfl mf_ rfl rfl rfl rfl (by rw [hg]; rfl) (fun w hs => hs.none)
   ·have hg : An c f b = (0, ⟨(Aa c.pos f b).2, (Aa c.neg f b).2⟩) := by rw [An, if_neg hr, if_neg hr2, if_neg (by simpa using h36)]
    refine Po ?_; refine q0 rfl (B9 (cs := [.int .u32 ((((⟨(Aa ((c).pos) f b).2, (Aa ((c).neg) f b).2⟩ : Cl)).pos : Nat) : Int), .int .u32 ((((⟨(Aa ((c).pos) f b).2, (Aa ((c).neg) f b).2⟩ : Cl)).neg : Nat) : Int)]) ?_); refine Gb ?_; refine E7 f_ rfl () rfl mf_ rfl rfl rfl rfl (by rw [hg]; rfl) (fun w hs => hs.none)
theorem My (l : List CP) (a_l : SH)  : Spec prog 166 #[sl a_l (l.length)] [Hf l a_l] [] (fun _ : Unit => iv ((if l.all (fun p => A5 p.1) then 0 else 2))) (fun _ => []) (fun _ => []) := by
 refine Dj ntmps166 fun B hB => ?_
 refine No ?_; refine Ba (X := Nat) (fun s_ => s_ ≤ l.length ∧ ∀ j, j < s_ → A5 (l.getD j Cj).1 = true) (fun s_ => [(5, sl a_l (l.length)), (6, iv ((l.length : Int))), (7, iv ((s_ : Int)))]) (fun s_ G_ => G_) (fun s_ => []) (fun s_ => l.length - s_) (0) (⟨Nat.zero_le _, fun j hj => absurd hj (Nat.not_lt_zero _)⟩) (by exact Ea) ?_ ?_
 ·exact fun w hs => hs
 ·intro i base0 ⟨hi, hok⟩ next0; refine Ej ?_; refine Dc (decide ((i : Int) < (l.length : Int))) (fun h8 c8 => ?_) (fun h8 c8 => ?_)
  ·refine Hs ?_; refine Eu (l := l) (a := a_l) (bt := 24) (F := Bq) (E := Kb) (d := Cj) Dz (fun hl1 hA1 => ?_); refine I9 (l := l) (a := a_l) (bt := 24) (F := Bq) (E := Kb) (d := Cj) Dz i A3 ?_; refine Jo ?_; obtain ⟨bk2, o2, hav2⟩ := hA1 A3; refine q0 rfl (Du ?_ (j := i)); refine B3j ?_; refine A3g ?_; refine q0 rfl (A1 call63 (F3 (((l).getD i Cj).1) (((l).getD i Cj).2) ) (fun x12 => ?_)); refine Jt ?_; refine Dc (!(A5 (((l).getD i Cj).1))) (fun h13 c13 => ?_) (fun h13 c13 => ?_)
   ·refine Cn ?_; refine Ar f_ rfl Ac () (by rw [if_neg (by rw [N5 (d := Cj) (i := i) A3 (by simpa using h13)]; decide)]) (fun w hs => hs.none)
   ·refine Iw ?_; refine A7 (fun w hs => ?_) (next0 (i + 1) _ (⟨by omega, fun j hj => by rcases Nat.lt_succ_iff_lt_or_eq.mp hj with h | h; exact hok j h; subst h; simpa using h13⟩) A3 Ea); exact (hs.l9)
  ·refine Na ?_; refine Ar f_ rfl Ac () (by rw [if_pos (Oo (d := Cj) (fun j hj => hok j A3))]) (fun w hs => hs.none)
theorem Qp   : Spec prog 118 #[] [] [] (fun _ : Unit => sl (none, 0) 0) (fun _ => []) (fun _ => []) := by
 refine Dj ntmps118 fun B hB => ?_
 refine Cn ?_; refine Cn ?_; refine Ar f_ rfl Ac () (by first | rfl | (simp_all; done) | (simp_all; omega)) (fun w hs => hs.none)
theorem X2 (l : List Cl) (a : SH) (c : Cl) (g4 : Nat) (f : Int) (g5 : Nat) (b : Int) (hc : u32 c) (hi : Aw f) (hib : Aw b) (hl : l.length * 8 ≤ reach) : Spec prog 168 #[sl a (l.length), G5 c, pz g4, pz g5] [At g4 0 [iv (f)], At g5 0 [iv (b)]] [Am 2 107 a (l.length) (A9 l)] (fun x : SH => .tuple #[sl x (l.length + 1), iv (An c f b).1]) (fun x : SH => []) (fun x : SH => [Am 2 107 x (l.length + 1) (A9 (l ++ [(An c f b).2]))]) := by
 refine Dj ntmps168 fun B hB => ?_
 have hu9 := Qr c f b; refine B5 ?_; refine q0 rfl (B2 fun b5 => ?_); refine J5 ?_; refine Fo ?_; refine Pe ?_; refine Pe ?_; refine q0 rfl (A1 call169 (A6j c f b Pw Pw Pw) (fun x14 => ?_)); refine Ic ?_; refine q0 rfl (B8 fun b8 => ?_); refine Gb ?_; refine Nu ?_; refine q0 rfl (Dr fun b19 => ?_); refine q0 rfl (Et (fun a20 => ?_) (a := a) (n' := l.length)); refine Ao (fun w hs => ((hs.perm Ay).drop).Z1 (c := ((An c f b).2))) ?_; refine Ef ?_; refine J5 ?_; refine Bf f_ rfl Ac Ac a20 rfl (fun w hs => ((hs.l8).C2 (A := [_])))
set_option maxHeartbeats 4000000 in
theorem Yg (l : List Cl) (a_l : SH) (f b : Int) (g4 g5 : Nat) (hi : Aw f) (hib : Aw b) : Spec prog 167 #[sl a_l (l.length), sl (none, 0) (0), .func (.func 168) #[] [pz g4, pz g5].toArray] [CL l a_l, At g4 0 [iv f], At g5 0 [iv b]] [Am 2 107 (none, 0) (0) (A9 ([]))] (fun x : SH => .tuple #[sl x (E1 (fun c => An c f b) l).2.length, iv (E1 (fun c => An c f b) l).1]) (fun x : SH => []) (fun x : SH => [Am 2 107 x (E1 (fun c => An c f b) l).2.length (A9 (E1 (fun c => An c f b) l).2)]) := by
 rw [show (#[sl a_l (l.length), sl (none, 0) (0), .func (.func 168) #[] [pz g4, pz g5].toArray] : Array Value) = ([sl a_l (l.length), sl (none, 0) (0), .func (.func 168) #[] [pz g4, pz g5].toArray] : List Value).toArray from rfl]; refine Ek func167 ntmps167 rfl Xz fun B hB => ?_
 refine Ab (l := l) (a := a_l) (fun hl1 hA1 hU1 => ?_); refine Lc ?_; refine Ba (X := Nat × SH) (fun s_ => s_.1 ≤ l.length ∧ ∀ j, j < s_.1 → (An (l.getD j Bz) f b).1 = 0) (fun s_ => [(1, sl s_.2 (s_.1)), (2, .func (.func 168) #[] [pz g4, pz g5].toArray), (13, sl a_l (l.length)), (14, iv ((l.length : Int))), (15, iv ((s_.1 : Int)))]) (fun s_ G_ => G_) (fun s_ => [Am 2 107 s_.2 (s_.1) (A9 ((l.take s_.1).map fun c => (An c f b).2))]) (fun s_ => l.length - s_.1) (0, (none, 0)) (⟨Nat.zero_le _, fun j hj => absurd hj (Nat.not_lt_zero _)⟩) (by exact Ea) ?_ ?_
 ·exact fun w hs => hs
 ·intro ⟨i, a⟩ base0 ⟨hi9, hok⟩ next0; dsimp only at  hi9  hok  next0 ⊢; refine Ej ?_; refine Dc (decide ((i : Int) < (l.length : Int))) (fun h16 c16 => ?_) (fun h16 c16 => ?_)
  ·have hlt9 : ((l.take i).map fun c => (An c f b).2).length = i := by rw [List.length_map, List.length_take]; omega
   refine J3 ?_; obtain ⟨bk2, o2, hav2⟩ := hA1 A3; refine q0 rfl (Du ?_ (j := i)); refine T1 ?_; refine q0 rfl (B8 fun b9 => ?_); refine G3 ?_; refine Pc ?_; refine Ff ?_; refine q0 rfl (Cc call168 ((by have h := X2 ((l.take i).map fun c => (An c f b).2) a (l.getD i Bz) g4 f g5 b (hU1 _ (Af A3)) hi hib (by rw [hlt9]; unfold reach at *; omega); rw [hlt9] at h; exact h)) (cap := [pz g4, pz g5]) (fun x23 => ?_)); refine Gf ?_; refine Dc (decide (((An (l.getD i Bz) f b).1) ≠ 0)) (fun h27 c27 => ?_) (fun h27 c27 => ?_)
   ·refine Lb ?_; have hg : (E1 (fun c => An c f b) l) = ((An (l.getD i Bz) f b).1, []) := B5o A3 hok (by simpa using h27); refine Bf f_ rfl Ac Ac (none, 0) (by rw [hg]; rfl) (fun w hs => by rw [hg]; exact ((hs.l7).bare.Ca 2 107))
   ·refine La ?_; have hst : (l.take (i + 1)).map (fun c => (An c f b).2) = (l.take i).map (fun c => (An c f b).2) ++ [(An (l.getD i Bz) f b).2] := by rw [Aj (d := Bz) A3, List.map_append]; rfl
    refine A7 (fun w hs => ?_) (next0 (i + 1, x23) _ (⟨by omega, fun j hj => by rcases Nat.lt_succ_iff_lt_or_eq.mp hj with h | h; exact hok j h; subst h; simpa using h27⟩) A3 Ea); rw [hst]; exact ((hs.l9).C2 (A := [_]))
  ·refine L9 ?_; have he : i = l.length := by omega
   have hg : (E1 (fun c => An c f b) l) = (0, l.map fun c => (An c f b).2) := X5 (fun j hj => hok j A3); refine Bf f_ rfl Ac Ac a (by rw [hg, List.length_map, ← he]; rfl) (fun w hs => by rw [hg]; have h := (hs.l7); rw [he, List.take_length] at h; dsimp only; rw [List.length_map]; exact h)
theorem K5 (l : List Cl) (a : SH) : Spec prog 110 #[sl a l.length] [CL l a] [] (fun x : SH => .tuple #[sl x (B7 l).2.length, iv (B7 l).1]) (fun _ => []) (fun x => [Am 2 107 x (B7 l).2.length (A9 (B7 l).2)]) := fun ok w hok hs => (Zp l a ok w hok hs).mono fun e w' h => by
 obtain ⟨x, he, hs'⟩ := h; have hx := Ww x.2; exact ⟨x.1.1, by rw [he]; show Ending.returned (.tuple #[sl x.1.1 x.1.2.2.length, iv x.1.2.1]) = Ending.returned (.tuple #[sl x.1.1 (B7 l).2.length, iv (B7 l).1]); rw [hx], by rw [← hx]; exact hs'⟩
theorem Q0 (l : List Cl) (a_l : SH) (f : Int) (b : Int) (hi : Aw f) (hib : Aw b) : Spec prog 89 #[sl a_l (l.length), iv (f), iv (b)] [CL l a_l] [] (fun x : SH => .tuple #[sl x (Ad l f b).2.length, iv (Ad l f b).1]) (fun x : SH => []) (fun x : SH => [Am 2 107 x (Ad l f b).2.length (A9 (Ad l f b).2)]) := by
 refine Dj ntmps89 fun B hB => ?_
 refine Ab (l := l) (a := a_l) (fun hl1 hA1 hU1 => ?_); refine B5 ?_; refine q0 rfl (B2 fun b4 => ?_); refine q0 rfl (B2 fun b5 => ?_); refine J5 ?_; refine Hv ?_; refine q0 rfl (Dr fun b12 => ?_); refine Ao (fun w hs => ((((hs.perm Bn).perm Bn).perm Bn).C6o hB mf_)) ?_; refine q0 rfl (A1 call166 (My [(l, a_l)] (some ⟨b12, 0, none⟩, 1)) (fun x13 => ?_)); refine Nq ?_; refine Dc (decide ((if [(l, a_l)].all (fun p => A5 p.1) then (0 : Int) else 2) ≠ 0)) (fun h15 c15 => ?_) (fun h15 c15 => ?_)
 ·have hg : Ad l f b = (2, []) := by rw [Ad, if_pos (by simpa using h15)]
  have h9 : (if [(l, a_l)].all (fun p => A5 p.1) then (0 : Int) else 2) = 2 := by simpa using h15
  refine L8 ?_; refine Bf f_ rfl Ac Ac (none, 0) (by rw [hg]; (conv => lhs; whnf; rw [h9]); rfl) (fun w hs => by rw [hg]; exact ((hs.l7).bare.Ca 2 107))
 ·have hr : ¬ A5 l = false := by simpa using h15
  refine Jq ?_; refine Nf (Ms' := [Ag b5 [iv (b)] 3, Ag b4 [iv (f)] 3]) (by rfl) ?_; refine A7 (fun w hs => ((hs.perm Ay).C6 hB)) ?_; refine A7 (fun w hs => (hs.C6 hB)) ?_; refine A7 (fun w hs => hs.Ca 2 107) ?_; refine E5 ?_; refine q0 rfl (A1 call118 (Qp ) (fun x19 => ?_)); refine Ma ?_; refine q0 rfl (A1 call167 (Yg l a_l f b b4 b5 hi hib) (fun x21 => ?_)); refine Gf ?_; refine Dc (decide (((E1 (fun c => An c f b) l).1) ≠ 0)) (fun h25 c25 => ?_) (fun h25 c25 => ?_)
  ·have hg : Ad l f b = ((E1 (fun c => An c f b) l).1, []) := by rw [Ad, if_neg hr, if_pos (by simpa using h25)]
   refine L8 ?_; refine Bf f_ rfl Ac Ac (none, 0) (by rw [hg]; rfl) (fun w hs => by rw [hg]; exact ((hs.l7).bare.Ca 2 107))
  ·have hg : Ad l f b = B7 (E1 (fun c => An c f b) l).2 := by rw [Ad, if_neg hr, if_neg (by simpa using h25)]
   refine Jq ?_; refine A7 (fun w hs => (hs.Dk hB rfl rfl (by have := B5n (g := fun c => An c f b) (l := l); omega) (Zt (fun c => Qr c f b)))) ?_; refine E5 ?_; refine q0 rfl (A1 call110 (K5 (E1 (fun c => An c f b) l).2 x21) (fun x28 => ?_)); refine J4 ?_; refine Bf f_ rfl Ac Ac x28 (by rw [hg]; rfl) (fun w hs => by rw [hg]; exact (hs.l8))
end Go.Hy
