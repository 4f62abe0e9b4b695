/- Contracts of this program's functions and the laws that they need. -/
import Derived.RangeFuncNested
import Derived.RangeFuncBound
import Derived.RangeFuncCalls
import Derived.RangeFuncLeaves
import Derived.RangeFuncBox
import Derived.Shelf.Abstract
import Derived.Shelf.RegionOpen
import Derived.WalkKit
import Derived.OwnWalkIn
import Derived.TacticsInMore
import Derived.LoopNIn
import Derived.LoopIn
import Derived.Tactics2
import Derived.Shelf.SlSortCmp.NoneTotal
import Derived.Test.YtibignmpjeemeaaGreatDoorP8
set_option linter.unusedVariables false
set_option linter.unusedSimpArgs false
set_option linter.unusedSectionVars false
namespace Go.Hy
def B5v (t : T) (e : Ev) (b : Int × Int) : Ab T := (Oa e b).bind fun e' => B8 Cg t e'
theorem D6r {t : T} {e : Ev} {b : Int × Int} {x : Int} (h : B5v t e b = .bad x) : x ≠ 0 := by
 unfold B5v at h
 rcases Bt h with h | ⟨e', _, h⟩
 ·exact A4d h
 ·exact R1 _ h
theorem Vc {r : Ab T} (hn : ∀ e, r = .bad e → e ≠ 0) (h : (I1 r).1 = 0) : r = .ok (I1 r).2 := by
 cases r with
 | ok u => rfl
 | bad e => exact absurd h (hn e rfl)
theorem D4g {r : Ab T} (h : (I1 r).1 ≠ 0) : r = .bad (I1 r).1 := by
 cases r with
 | ok u => exact absurd rfl h
 | bad e => rfl
theorem A7y {t : T} {e : Ev} {b : Int × Int} (h : (Hn t e b).1 = 0) : B5v t e b = .ok (Hn t e b).2 := Vc (fun _ h => D6r h) h
theorem C3d {t : T} {e : Ev} {b : Int × Int} (h : (Hn t e b).1 ≠ 0) : B5v t e b = .bad (Hn t e b).1 := D4g h
theorem C0j {k : Int} {ts : List T} {i : Nat} {l : List T} {e : Ev} {u : T} (hi : i < ts.length) (hl : Cm Cg k 0 (ts.take i) e = .ok l) (h : B5v (ts.getD i t0) e (binds k i) = .ok u) : Cm Cg k 0 (ts.take (i + 1)) e = .ok (l ++ [u]) := by
 obtain ⟨e', h1, h2⟩ := Ab.A2 h
 exact S1 hi hl h1 h2
theorem B6q {t : T} {e : Ev} {x : Int} {p : Int × List Cl} {i : Nat} {l : List T} (ho : Cg.own e t.kind t.n t.name t.r = .ok (.inr p)) (hi : i < t.kids.length) (hl : Cm Cg t.kind 0 (t.kids.take i) e = .ok l) (h : B5v (t.kids.getD i t0) e (binds t.kind i) = .bad x) : B8 Cg t e = .bad x := by
 rcases Bt h with h | ⟨e', h1, h2⟩
 ·have h1 : Cm Cg t.kind 0 (t.kids.take (i + 1)) e = .bad x := by
   rw [Ai (d := t0) hi, Qa, hl]
   simp only [Ab.bind, List.length_take, Nat.zero_add, Nat.min_eq_left (Nat.le_of_lt hi)]
   rw [show Cg.Jf e (binds t.kind i) = .bad x from h]
  have h2 := Xt (m := t.kids.drop (i + 1)) h1
  rw [List.take_append_drop] at h2
  exact Ug ho h2
 ·exact Q7 ho hi hl h1 h2
theorem D3o {k : Int} {ts : List T} {i : Nat} {l : List T} {e : Ev} {u : T} (hi : i < ts.length) (hl : C2 Cg k (ts.take i) e = .ok l) (h : B5v (ts.getD i t0) e (0, more k) = .ok u) : C2 Cg k (ts.take (i + 1)) e = .ok (l ++ [u]) := by
 obtain ⟨e', h1, h2⟩ := Ab.A2 h
 exact S2 hi hl h1 h2
theorem C7b {k : Int} {ts : List T} {i : Nat} {l : List T} {e : Ev} {x : Int} (hi : i < ts.length) (hl : C2 Cg k (ts.take i) e = .ok l) (h : B5v (ts.getD i t0) e (0, more k) = .bad x) : C2 Cg k ts e = .bad x := by
 rcases Bt h with h | ⟨e', h1, h2⟩
 ·have h1 : C2 Cg k (ts.take (i + 1)) e = .bad x := by
   rw [Ai (d := t0) hi, Q8, hl]
   simp only [Ab.bind]
   rw [show Cg.Jf e (0, more k) = .bad x from h]
  have h2 := Xr (m := ts.drop (i + 1)) h1
  rwa [List.take_append_drop] at h2
 ·exact Q9 hi hl h1 h2
theorem Vv {C : Type} {A : Tr C} {k : Int} {c : C} {ss : List Br} {s : Nat} {bs : List Br} {e : Int} (hs : s < ss.length) (hb : C9 A k (ss.take s) c = .ok bs) (hf : A.Al c (ss.getD s Bj).Al = .bad e ∨ ∃ f', A.Al c (ss.getD s Bj).Al = .ok (some f') ∧ C2 A k (ss.getD s Bj).kids c = .bad e) : C9 A k ss c = .bad e := by
 have h1 : C9 A k (ss.take (s + 1)) c = .bad e := by
  rw [Ai (d := Bj) hs, Nk, hb]
  simp only [Ab.bind]
  rcases hf with hf | ⟨f', hf, h2⟩
  ·rw [hf]
  ·rw [hf]; simp only; rw [h2]
 have h2 := T5 (m := ss.drop (s + 1)) h1
 rwa [List.take_append_drop] at h2
def Rs (t : T) (e : Ev) (g : List Cl) (ks : List T) : Int × T := I1 ((C9 Cg t.kind t.sys e).bind fun bs => .ok (.mk t.kind 0 t.name g ks bs))
theorem B7c {t : T} {e : Ev} {g : List Cl} {ks : List T} {x : Int} (h : C9 Cg t.kind t.sys e = .bad x) : Rs t e g ks = (x, t0) := by unfold Rs; rw [h]; rfl
theorem D7v {t : T} {e : Ev} {g : List Cl} {ks : List T} {bs : List Br} (h : C9 Cg t.kind t.sys e = .ok bs) : Rs t e g ks = (0, .mk t.kind 0 t.name g ks bs) := by unfold Rs; rw [h]; rfl
theorem B1q {e : Ev} {f : List Cl} (h : (I2 true e.2 f).1 ≠ 0) : Cg.Al e f = .bad (I2 true e.2 f).1 := by show (Vg _).bind _ = _; rw [A0j h]; rfl
theorem A5p {e : Ev} {f : List Cl} (h : (I2 true e.2 f).1 = 0) (h2 : (I2 true e.2 f).2.length = 0) : Cg.Al e f = .ok none := by show (Vg _).bind _ = _; rw [Ym h]; show Ab.ok (if _ then _ else _) = _; rw [if_pos h2]
theorem A5o {e : Ev} {f : List Cl} (h : (I2 true e.2 f).1 = 0) (h2 : (I2 true e.2 f).2.length ≠ 0) : Cg.Al e f = .ok (some (I2 true e.2 f).2) := by show (Vg _).bind _ = _; rw [Ym h]; show Ab.ok (if _ then _ else _) = _; rw [if_neg h2]
theorem B6p {e : Ev} {k n : Int} {nm : ByteArray} {r : List Cl} (hk : k ≠ 1) (h : (I2 (decide (k = 14)) e.2 r).1 ≠ 0) : Cg.own e k n nm r = .bad (I2 (decide (k = 14)) e.2 r).1 := by
 show (if k = 1 then _ else _) = _
 rw [if_neg hk, A0j h]; rfl
theorem C0i {e : Ev} {k n : Int} {nm : ByteArray} {r : List Cl} (hk : k ≠ 1) (h : (I2 (decide (k = 14)) e.2 r).1 = 0) : Cg.own e k n nm r = .ok (.inr (0, (I2 (decide (k = 14)) e.2 r).2)) := by
 show (if k = 1 then _ else _) = _
 rw [if_neg hk, Ym h]; rfl
theorem D7h {t : T} {e : Ev} {g : List Cl} {ks : List T} (ho : Cg.own e t.kind t.n t.name t.r = .ok (.inr (0, g))) (hl : Cm Cg t.kind 0 t.kids e = .ok ks) : Gn t e = Rs t e g ks := by
 show I1 _ = I1 _
 rw [Da, ho]; simp only [Ab.bind]; rw [hl]
theorem D5k {t : T} {v : Int} {d : Nat} (hf : D5 t) (hm : Iw t v d) : ∀ c, c ∈ t.r → ∀ j, (c.pos ||| c.neg).testBit j = true → j < d := by
 obtain ⟨⟨m1, m2, m3⟩, m4, m5⟩ := Ja.mp hm
 have h1 := (Nc.mp hf).1
 by_cases hk : t.kind = 1
 ·rw [(Kr hf hk).1]
  intro c hc
  cases hc
 ·have hr : C3 (decide (t.kind = 14)) t.r := by
   unfold C3
   by_cases h14 : t.kind = 14
   ·rw [if_pos (by simp [h14])]; exact (V7 h1).1 h14
   ·rw [if_neg (by simp [h14])]; exact (V7 h1).2
  exact Q6 A4 (Dn (Ew hr)) m3
theorem D3k {t : T} {v : Int} {d : Nat} {s : Nat} (hf : D5 t) (hm : Iw t v d) (hs : s < t.sys.length) : ∀ c, c ∈ (t.sys.getD s Bj).Al → ∀ j, (c.pos ||| c.neg).testBit j = true → j < d := by
 obtain ⟨⟨m1, m2, m3⟩, m4, m5⟩ := Ja.mp hm
 have hb := Ac (d := Bj) hs
 exact Q6 A4 (Dn (Cy (C6z hf hb)).1) (m4 _ hb)
def M9 (ts : List T) (D n : Nat) : Prop := ts.length + n ≤ 10000000 ∧ D + n ≤ 10000000 ∧ ∀ x, x ∈ ts → size x ≤ 1000000000
theorem M9.less {ts : List T} {D n m : Nat} (h : M9 ts D n) (hm : m ≤ n) : M9 ts D m := ⟨by have := h.1; omega, by have := h.2.1; omega, h.2.2⟩
theorem D2b {e e' : Ev} {b : Int × Int} {n : Nat} (hb : bnd b) (h : M9 e.1 e.2.length (n + 1)) (hk : Oa e b = .ok e') : M9 e'.1 e'.2.length n := by
 obtain ⟨h1, h2⟩ := A4c (n := 1000000000) A4 h.2.2 hk
 obtain ⟨h3, h4⟩ := h2 hb
 have h5 := h.1
 have h6 := h.2.1
 have h7 := hb.1
 have h8 := hb.2.1
 exact ⟨by omega, by omega, h1⟩
theorem D6p {e e' : Ev} {b : Int × Int} {t : T} (hb : bnd b) (hm : Iw t (e.1.length + b.1) (e.2.length + b.2)) {n : Nat} (h : M9 e.1 e.2.length n) (hk : Oa e b = .ok e') : Iw t e'.1.length e'.2.length := by
 obtain ⟨h1, h2⟩ := A4c (n := 1000000000) A4 h.2.2 hk
 obtain ⟨h3, h4⟩ := h2 hb
 rw [h3, h4]; exact hm
theorem D1m {t : T} {v d : Int} (hm : Iw t v d) {i : Nat} (hi : i < t.kids.length) : Iw (t.kids.getD i t0) (v + (binds t.kind i).1) (d + (binds t.kind i).2) := (Ja.mp hm).2.2 _ (List.mem_of_getElem? (Jv t i hi))
theorem D1l {t : T} {v d : Int} (hm : Iw t v d) {s k : Nat} (hs : s < t.sys.length) (hk : k < (t.sys.getD s Bj).kids.length) : Iw ((t.sys.getD s Bj).kids.getD k t0) (v + 0) (d + more t.kind) := (Ja.mp hm).2.2 _ (List.mem_of_getElem? (Jt t s k hs hk))
theorem C0y (k i : Int) : bnd ((binds k i).1, (binds k i).2) := A8t k i
theorem B3q {l : List CP} {ts : List T} {n : Nat} (h : M9 ts l.length n) : M9 (ts, l.map (·.1)).1 (ts, l.map (·.1)).2.length n := by
 show M9 ts (l.map (·.1)).length n
 rw [List.length_map]; exact h
theorem D1n {l : List CP} {ts : List T} {n : Nat} (h : M9 (ts, l.map (·.1)).1 (ts, l.map (·.1)).2.length n) : M9 ts l.length n := by
 have h : M9 ts (l.map (·.1)).length n := h
 rwa [List.length_map] at h
section
variable {P : Program} [Tab P] {f : FuncId} {fn : Func} {B : Cj} {n : Fz} {K : List Item} {σ : Nat → Value} {Γ : List Fact} {Ms : List Be} {X : Type} {val : X → Value} {N : X → List Fact} {Ms1 : X → List Be}
end
def kpT (e : Int) (t : T) : T := if e = 0 then t else t0
def kpS (e : Int) (s : SH) : SH := if e = 0 then s else (none, 0)
theorem E2j {e : Int} {t : T} (h : e = 0) : kpT e t = t := if_pos h
theorem D6o {e : Int} {t : T} (h : e ≠ 0) : kpT e t = t0 := if_neg h
theorem B9x {e : Int} {t : SH} (h : e = 0) : kpS e t = t := if_pos h
theorem B1c {e : Int} {t : SH} (h : e ≠ 0) : kpS e t = (none, 0) := if_neg h
theorem St.kp {B : Cj} {Γ : List Fact} {Ms : List Be} {w : World} (e : Int) {t : T} {a b c : SH} (hs : St B Γ Ms w) (h : RT t a b c ∈ Γ) : St B (RT (kpT e t) (kpS e a) (kpS e b) (kpS e c) :: Γ) Ms w := by
 by_cases he : e = 0
 ·rw [E2j he, B9x he, B9x he, B9x he]
  exact hs.less (by
   intro F hF
   rcases List.mem_cons.mp hF with rfl | hF
   ·exact h
   ·exact hF)
 ·rw [D6o he, B1c he, B1c he, B1c he]
  exact hs.I4
section
variable {tn : Bool} {pn : Nat} {P : Program} [Tab P] {f : FuncId} {R : Ending → World → Prop} {B : Cj} {n : Fz} {K : List Item} {ops : Array Oper} {fin l : List Nat} {σ : Nat → Value} {Γ : List Fact} {Ms : List Be} {i : Nat} {dst : Option Tmp} {ty : TypeId} {x y z : Operand}
end
section
variable {M : Nat}
theorem D2c {e e' : Ev} {b : Int × Int} (hM : 1 ≤ M) (h : ∀ x, x ∈ e.1 → size x ≤ M) (hk : Cg.Jf e b = .ok e') : ∀ x, x ∈ e'.1 → size x ≤ M := (A4c hM h hk).1
mutual
theorem A3n : ∀ {t u : T} {e : Ev}, 1 ≤ M → (∀ x, x ∈ e.1 → size x ≤ M) → B8 Cg t e = .ok u → size u ≤ size t * M
 | .mk k n nm r ks ss, u, e, hM, he, hu => by
  rw [Da] at hu
  simp only [T.kind, T.n, T.name, T.r, T.kids, T.sys] at hu
  obtain ⟨o, h9, hu⟩ := Ab.A2 hu
  cases o with
  | inl v =>
   injection hu with hu
   subst hu
   simp only [Cg] at h9
   split at h9
   ·injection h9 with h9
    injection h9 with h9
    subst h9
    have h1 : size (e.1.getD n.toNat t0) ≤ M := by
     by_cases hl : n.toNat < e.1.length
     ·exact he _ (Ac hl)
     ·rw [List.getD_eq_getElem?_getD, List.getElem?_eq_none A4]
      show size t0 ≤ M
      rw [A9p]; exact hM
    exact Nat.le_trans h1 (Nat.le_mul_of_pos_left M (size_pos' _))
   ·obtain ⟨g, _, h9⟩ := Ab.A2 h9
    injection h9 with h9
    cases h9
  | inr p =>
   obtain ⟨ks', h10, hu⟩ := Ab.A2 hu
   obtain ⟨ss', h11, hu⟩ := Ab.A2 hu
   injection hu with hu
   subst hu
   rw [Es, Es (.mk k n nm r ks ss)]
   simp only [T.kids, T.sys]
   have h1 := A8e hM he h10
   have h2 := Yl hM he h11
   rw [Nat.add_mul, Nat.add_mul]
   omega
theorem A8e {k : Int} : ∀ {ts us : List T} {i : Nat} {e : Ev}, 1 ≤ M → (∀ x, x ∈ e.1 → size x ≤ M) → Cm Cg k i ts e = .ok us → Eh us ≤ Eh ts * M
 | [], us, i, e, hM, he, hu => by rw [Ch] at hu; injection hu with hu; subst hu; exact Nat.zero_le _
 | t :: ts, us, i, e, hM, he, hu => by
  rw [Cr] at hu
  obtain ⟨c', h1, hu⟩ := Ab.A2 hu
  obtain ⟨t', h2, hu⟩ := Ab.A2 hu
  obtain ⟨ts', h3, hu⟩ := Ab.A2 hu
  injection hu with hu
  subst hu
  have h4 := A3n hM (D2c hM he h1) h2
  have h5 := A8e hM he h3
  simp only [Eh]
  rw [Nat.add_mul]
  omega
theorem A8d {k : Int} : ∀ {ts us : List T} {e : Ev}, 1 ≤ M → (∀ x, x ∈ e.1 → size x ≤ M) → C2 Cg k ts e = .ok us → Eh us ≤ Eh ts * M
 | [], us, e, hM, he, hu => by rw [D3] at hu; injection hu with hu; subst hu; exact Nat.zero_le _
 | t :: ts, us, e, hM, he, hu => by
  rw [Cq] at hu
  obtain ⟨c', h1, hu⟩ := Ab.A2 hu
  obtain ⟨t', h2, hu⟩ := Ab.A2 hu
  obtain ⟨ts', h3, hu⟩ := Ab.A2 hu
  injection hu with hu
  subst hu
  have h4 := A3n hM (D2c hM he h1) h2
  have h5 := A8d hM he h3
  simp only [Eh]
  rw [Nat.add_mul]
  omega
theorem Yl {k : Int} : ∀ {bs us : List Br} {e : Ev}, 1 ≤ M → (∀ x, x ∈ e.1 → size x ≤ M) → C9 Cg k bs e = .ok us → I5 us ≤ I5 bs * M
 | [], us, e, hM, he, hu => by rw [C8] at hu; injection hu with hu; subst hu; exact Nat.zero_le _
 | .mk f ks :: bs, us, e, hM, he, hu => by
  rw [Cc] at hu
  simp only [Br.Al, Br.kids] at hu
  obtain ⟨o, h5, hu⟩ := Ab.A2 hu
  cases o with
  | none => have h6 := Yl hM he hu; simp only [I5]; rw [Nat.add_mul]; omega
  | some g =>
   obtain ⟨ks', h7, hu⟩ := Ab.A2 hu
   obtain ⟨bs', h8, hu⟩ := Ab.A2 hu
   injection hu with hu
   subst hu
   have h1 := A8d hM he h7
   have h2 := Yl hM he h8
   simp only [I5, Br.kids]
   rw [Nat.add_mul]
   omega
end
end
theorem C7e {t : T} {e : Ev} {M : Nat} (hM : 1 ≤ M) (he : ∀ x, x ∈ e.1 → size x ≤ M) : size (Gn t e).2 ≤ size t * M := by
 unfold Gn
 cases h : B8 Cg t e with
 | ok u => exact A3n hM he h
 | bad x => show size t0 ≤ _; rw [A9p]; exact Nat.le_trans hM (Nat.le_mul_of_pos_left M (size_pos' t))
theorem E5b {α : Type} {p : α → Bool} {l : List α} {d : α} {i : Nat} (hi : i < l.length) (h : p (l.getD i d) = true) : l.any p = true := List.any_eq_true.mpr ⟨_, Ac hi, h⟩
theorem any_none {α : Type} {p : α → Bool} {l : List α} {d : α} (h : ∀ j, j < l.length → p (l.getD j d) = false) : l.any p = false := by
 rw [List.any_eq_false]
 intro x hx
 obtain ⟨j, hj, rfl⟩ := List.mem_iff_getElem.mp hx
 have := h j hj
 rw [Cw (d := d) hj] at this
 rw [this]; decide
theorem D2k {α : Type} {p : α → Bool} {l : List α} {d : α} {i : Nat} (hi : i < l.length) (h : p (l.getD i d) = true) : decide (0 ≤ (i : Int)) = l.any p := by rw [E5b hi h]; exact decide_eq_true A4
theorem B6a {α : Type} {p : α → Bool} {l : List α} {d : α} (h : ∀ j, j < l.length → p (l.getD j d) = false) : decide (0 ≤ (-1 : Int)) = l.any p := by rw [any_none h]; decide
theorem C9g (ts : List T) (l : List CP) : (!(l.any fun x => !A6 x.1)) = He (ts, l.map (·.1)) := by
 unfold He
 show _ = (l.map (·.1)).all fun f => A6 f
 rw [List.all_map, Bool.eq_iff_iff]
 simp [List.any_eq_false]
theorem C3j (ts : List T) (l : List CP) : (decide ((ts.length : Int) ≤ 200) && decide ((l.length : Int) ≤ 24)) = Kq (ts, l.map (·.1)) := by
 unfold Kq
 show _ = (decide (ts.length ≤ 200) && decide ((l.map (·.1)).length ≤ 24))
 rw [List.length_map, Bool.eq_iff_iff]
 simp only [Bool.and_eq_true, decide_eq_true_eq]
 omega
theorem B6j {ts : List T} {l : List CP} (h : Kq (ts, l.map (·.1)) = true) : ts.length ≤ 200 ∧ l.length ≤ 24 := by
 rw [← C3j] at h
 simp only [Bool.and_eq_true, decide_eq_true_eq] at h
 omega
theorem C1f {t : T} {e : Ev} (h : Kq e = false) : An t e = (2, t0) := by unfold An; rw [if_pos h]
theorem B7m {t : T} {e : Ev} (h : Kq e = true) (h2 : Eu t e.1.length e.2.length ≠ 0) : An t e = (Eu t e.1.length e.2.length, t0) := by unfold An; rw [if_neg (by rw [h]; decide), if_pos h2]
theorem B7l {t : T} {e : Ev} (h : Kq e = true) (h2 : Eu t e.1.length e.2.length = 0) (h3 : (He e && e.1.all fun x => decide (Ah x = 0)) = false) : An t e = (2, t0) := by unfold An; rw [if_neg (by rw [h]; decide), if_neg (by rw [h2]; decide), if_pos h3]
theorem Zu {ts : List T} : (ts.all fun x => decide (Ah x = 0)) = !(ts.any fun t => decide (Ah t ≠ 0)) := by
 rw [Bool.eq_iff_iff]
 simp [List.any_eq_false]
theorem C7z {t : T} {e : Ev} (h : Kq e = true) (h2 : Eu t e.1.length e.2.length = 0) (h3 : (He e && e.1.all fun x => decide (Ah x = 0)) = true) (h4 : (Gn t e).1 ≠ 0) : An t e = ((Gn t e).1, t0) := by
 unfold An
 rw [if_neg (by rw [h]; decide), if_neg (by rw [h2]; decide), if_neg (by rw [h3]; decide)]
 unfold Gn at h4 ⊢
 cases hq : B8 Cg t e with
 | ok u => rw [hq] at h4; exact absurd rfl h4
 | bad x => rfl
theorem B7n {t : T} {e : Ev} (h : Kq e = true) (h2 : Eu t e.1.length e.2.length = 0) (h3 : (He e && e.1.all fun x => decide (Ah x = 0)) = true) (h4 : (Gn t e).1 = 0) (h5 : Ah (Gn t e).2 ≠ 0) : An t e = (Ah (Gn t e).2, t0) := by
 have hz := Vc (r := B8 Cg t e) (fun x hx => R1 t hx) h4
 unfold An
 rw [if_neg (by rw [h]; decide), if_neg (by rw [h2]; decide), if_neg (by rw [h3]; decide), hz]
 exact if_pos h5
theorem D4h {t : T} {e : Ev} (h : Kq e = true) (h2 : Eu t e.1.length e.2.length = 0) (h3 : (He e && e.1.all fun x => decide (Ah x = 0)) = true) (h4 : (Gn t e).1 = 0) (h5 : Ah (Gn t e).2 = 0) : An t e = (0, (Gn t e).2) := by
 have hz := Vc (r := B8 Cg t e) (fun x hx => R1 t hx) h4
 unfold An
 rw [if_neg (by rw [h]; decide), if_neg (by rw [h2]; decide), if_neg (by rw [h3]; decide), hz]
 exact if_neg (by rw [show (I1 (B8 Cg t e)).2 = (Gn t e).2 from rfl, h5]; decide)
theorem C1e {t : T} {ts : List T} {l : List CP} (h : Kq (ts, l.map (·.1)) = true) (h2 : Eu t ts.length l.length = 0) (h3 : ∀ x, x ∈ ts → Ah x = 0) (hz : size t ≤ 20000) : M9 ts l.length (size t) ∧ D5 t ∧ Iw t ts.length l.length := by
 have hl := B6j h
 obtain ⟨_, _, _, hf, hm⟩ := (T9 (t := t) (v := ts.length) (d := l.length) A4 A4).mp h2
 exact ⟨⟨by omega, by omega, fun x hx => by have := H9 (h3 x hx); omega⟩, hf, hm⟩
theorem B8s {t : T} {v d : Int} (hv : 0 ≤ v) (hb : v ≤ 1000000000000) (h : Eu t v d = 0) : size t ≤ 20000 := (V0.mp ((T9 hv hb).mp h).2.2.1).2
theorem C3g {v d : Int} (h : v < 0 ∨ 200 < v ∨ d < 0 ∨ 24 < d) : idE v d = (2, [], []) := by unfold idE; rw [if_pos h]
theorem D2m (n : Nat) : Rq (n + 1) = Rq n ++ [T.mk 1 (n : Int) ⟨#[]⟩ [] [] []] := by unfold Rq; rw [List.range_succ, List.map_append]; rfl
theorem D2s (n : Nat) : L3 (n + 1) = L3 n ++ [[I3 (n : Int)]] := by unfold L3; rw [List.range_succ, List.map_append]; rfl
theorem D7q {n : Nat} (h : n < 24) : R2 (n : Int) = (0, [I3 (n : Int)]) := by
 unfold R2
 rw [if_pos (by unfold Fu; simp; omega)]
 rfl
def sE : T := Rt 19 [] []
theorem D7g : An (aE (vE 0) (vE 1)) ([uE, sE], []) = (0, aE uE sE) := by decide +kernel
theorem D7f : An (lE (aE (vE 0) (vE 1))) ([vE 3], []) = (0, lE (aE (vE 0) (vE 4))) := by decide +kernel
theorem X7 : size (aE (vE 0) (vE 1)) ≤ 100 ∧ size (lE (aE (vE 0) (vE 1))) ≤ 100 ∧ (∀ t, t ∈ [uE, sE] → size t ≤ 100) ∧ ∀ t, t ∈ [vE 3] → size t ≤ 100 := by decide +kernel
theorem D2n {v : Nat} : ∀ t, t ∈ Rq v → size t ≤ 1 := fun t ht => by
 unfold Rq at ht
 obtain ⟨n, _, rfl⟩ := List.mem_map.mp ht
 show size (vE n) ≤ 1
 have : size (vE n) = 1 := by rw [Es]; rfl
 omega
theorem E4t (l : List CP) : Hm (Ln l) = true := by
 unfold Hm
 rw [List.all_eq_true]
 intro v hv
 obtain ⟨c, _, hc⟩ := List.mem_flatMap.mp hv
 rw [List.mem_singleton.mp hc]; rfl
section
variable {P : Program} [Tab P] {B : Cj} {σ : Nat → Value} {Γ : List Fact} {Ms Ms2 : List Be} {ty : TypeId} {x y z : Operand} {v : Value}
theorem C9a {t e : TypeId} {ts : Array TypeId} {bt n : Nat} {zv : Value} {a b : SH} {xs : List Value} {l : List CP} (hm : Ms.Perm (Aj 1 e a n xs :: Ms2)) (hF : Md l b ∈ Γ) (hx : ev σ x = sl a n) (hy : ev σ y = sl b l.length) (hts : ts = #[t, t]) (hu : Tab.und P t = some (.slice e)) (hi : Tab.inf P e = some (1, bt, zv)) (hzs : zv.cells.size = 1)
  (hb : (n + l.length) * bt ≤ 140737488355328) (hnm : n + l.length ≤ 9223372036854775807) :
  Sy P B σ Γ Ms (.call { callee := .builtin .append, args := #[x, y], argTypes := ts }) ty (fun a' : SH => sl a' (n + l.length)) (fun _ => Γ) (fun a' => Aj 1 e a' (n + l.length) (xs ++ Ln l) :: Ms2) := by
 obtain ⟨bo, bc⟩ := b
 cases bo with
 | some ad =>
  refine Qc hts hu hi hzs A4 hx hy hm (fun w hs j u hj => ?_) (Ko (F := D2) (sz := 1) (fun _ => rfl) l) (E4t _) hb hnm
  obtain ⟨h1, h2⟩ := X3 (F := D2) (sz := 1) (fun _ => rfl) E8 l j u hj
  have hcl := (hs.facts _ hF).1
  obtain ⟨bk, o, hbk, _, hrow⟩ := hcl.2.2 A4
  injection hbk with hbk
  subst hbk
  have := hrow (j / 1) h1 (j % 1) u h2
  rw [Addr.add_lit]
  rwa [show o + j / 1 * 1 + j % 1 = o + j by omega] at this
 | none =>
  intro w hs
  have hs' := hs.perm hm
  have hcl := (hs.facts _ hF).1
  have hl : l.length = 0 := by
   rcases Nat.eq_zero_or_pos l.length with h | h
   ·exact h
   ·obtain ⟨bk, o, hbk, _⟩ := hcl.2.2 h; cases hbk
  have hown : w.ownsRow 0 e 1 (sl a n) n xs := hs'.res _ List.mem_cons_self w (fun _ _ => rfl)
  have hl2 : l = [] := List.eq_nil_of_length_eq_zero hl
  subst hl2
  refine ⟨a, w, ?_, by simpa using hs'⟩
  subst hts
  have hle : n ≤ a.2 := by
   rcases hown.2 with ⟨h1, h2⟩ | ⟨g, cap, cur, h1, _, _, h3, _⟩
   ·omega
   ·injection h1 with _ _ h1; omega
  obtain ⟨ao, ac⟩ := a
  simp only at hle
  cases ao with
  | none => simp [D0, execOp, resolve, invoke, builtin, hx, hy, sl, Builtin.append_, Dc hu, G7 hi, Builtin.lenOf, hle, Builtin.firstCells]
  | some ad => simp [D0, execOp, resolve, invoke, builtin, hx, hy, sl, Builtin.append_, Dc hu, G7 hi, Builtin.lenOf, hle, Builtin.firstCells, storeCells]
theorem B8f {hBp : Prop} (hB : hBp) {t e : TypeId} {ts : Array TypeId} {g bt : Nat} {zv : Value} {b : SH} {r : List Cl} {ar : SH} {l : List CP} (hU : CL r ar ∈ Γ) (hF : Md l b ∈ Γ) (hx : ev σ x = .slice (some ⟨g, 0, none⟩) 1 1) (hy : ev σ y = sl b l.length) (hts : ts = #[t, t]) (hu : Tab.und P t = some (.slice e)) (hi : Tab.inf P e = some (1, bt, zv)) (hzs : zv.cells.size = 1)
  (hb : (1 + l.length) * bt ≤ 140737488355328) (hnm : (1 + l.length) * 24 ≤ reach) (M : List Be) :
  Sy P B σ Γ ([Ad g [sl ar r.length] e] ++ M) (.call { callee := .builtin .append, args := #[x, y], argTypes := ts }) ty (fun a' : SH => sl a' (1 + l.length)) (fun a' => [Md ((r, ar) :: l) a'] ++ Γ) (fun _ => [] ++ M) := fun w hs => by
 have hs0 : St B Γ (Ad g [sl ar r.length] e :: M) w := hs
 have h1 : St B Γ (Aj 1 e (some ⟨g, 0, none⟩, 1) 1 [sl ar r.length] :: M) w := hs0.Jn (sz := 1) (m := 1) rfl Iy
 obtain ⟨a', w', hr, h2⟩ := C9a (P := P) (ty := ty) (List.Perm.refl _) hF hx hy hts hu hi hzs hb (by unfold reach at hnm; omega) w h1
 refine ⟨a', w', hr, ?_⟩
 have h3 : St B (A4n Rk ((r, ar) :: l) :: Γ) (Aj 1 e a' (1 + l.length) ([sl ar r.length] ++ Ln l) :: M) w' := h2.add (fun p hp => by
  rcases List.mem_cons.mp hp with rfl | hp
  ·exact h2.facts _ hU
  ·exact (h2.facts _ hF).2 p hp)
 have h4 := h3.N3 (F := D2) (E := Rk) (d := E8) (bt := 24) (l := (r, ar) :: l) (fun _ => rfl) hB List.mem_cons_self rfl (by rw [List.length_cons]; omega) hnm
 exact h4.less sx_
end
section
variable {tn : Bool} {pn : Nat} {P : Program} [Tab P] {f : FuncId} {R : Ending → World → Prop} {B : Cj} {n : Fz} {K : List Item} {ops : Array Oper} {i : Nat} {l fin : List Nat} {σ : Nat → Value} {Γ : List Fact} {Ms Ms2 : List Be}
variable {dst : Option Tmp} {op : Op} {ty : TypeId} {x y : Operand}
theorem C4l {hBp : Prop} (hB : hBp) {t e : TypeId} {ts : Array TypeId} {g bt : Nat} {zv : Value} {b : SH} (r : List Cl) (ar : SH) (ls : List CP) (k_ : ∀ a' : SH, NV tn pn P f R B n K ops fin l (Ao σ dst (sl a' (1 + ls.length))) ([Md ((r, ar) :: ls) a'] ++ Γ) ([] ++ Ms2)) (hm : Ms.Perm ([Ad g [sl ar r.length] e] ++ Ms2)) (hU : CL r ar ∈ Γ) (hF : Md ls b ∈ Γ) (hnm : (1 + ls.length) * 24 ≤ reach) (hb : (1 + ls.length) * bt ≤ 140737488355328) (hx : ev σ x = .slice (some ⟨g, 0, none⟩) 1 1 := by rfl) (hy : ev σ y = sl b ls.length := by rfl) (hts : ts = #[t, t] := by rfl) (hu : Tab.und P t = some (.slice e) := by rfl) (hi : Tab.inf P e = some (1, bt, zv) := by rfl) (hzs : zv.cells.size = 1 := by rfl) (hd : Ag n dst = true := by rfl) (hz : Nat.beq pn 1000002 = true := by rfl) : Kx tn pn P f R B n K ops fin i l dst (.call { callee := .builtin .append, args := #[x, y], argTypes := ts }) ty σ Γ Ms :=
 B4x (F := fun a' => [Md ((r, ar) :: ls) a']) (r := [Ad g [sl ar r.length] e]) (r' := fun _ => []) (fun M => B8f hB hU hF hx hy hts hu hi hzs hb hnm M) rfl hd hm hz k_
end
theorem D2q {v d : Int} (h : (idE v d).1 = 0) : ((0 ≤ v ∧ v ≤ 200) ∧ (0 ≤ d ∧ d ≤ 24)) ∧ (idE v d).2 = (Rq v.toNat, L3 d.toNat) := by
 by_cases hc : v < 0 ∨ 200 < v ∨ d < 0 ∨ 24 < d
 ·rw [C3g hc] at h; cases h
 ·have hv : 0 ≤ v ∧ v ≤ 200 := by omega
  have hd : 0 ≤ d ∧ d ≤ 24 := by omega
  exact ⟨⟨hv, hd⟩, by rw [D2r hv hd]⟩
end Go.Hy
namespace Go.Hy
open Go.RowKit Go.Shelf
theorem C5g {F : Fence} {n : Nat} {P : Program} {α : Type} {g : Operand} {ps : Array Tmp} {assign body : Code} {Q : Exit → Act → World → Prop} {a : Act} {w : World}
  (hro : F.round = none) (h1 : 1 ≤ n) {gf : Nat} {lb : Array Value} (hg : a.eval g = .func (.func gf) #[] lb) (hFg : F.fn gf) (eg : ∀ args w, (callFunc gf args).run P w = .ok (.enter gf args) w)
  {encs : α → Array Value} (hps : ∀ x, (encs x).size = ps.size) (I : List α → World → Prop) (Px : List α → α → Prop) (Kp : World → World → Prop)
  (hIp : ∀ (pre : List α) (A : World) (l : Nat) (o o0 : Obj), I pre A → A.heap[l]? = some o0 → o0.isCells = false → w.heap.size ≤ l → I pre (A.putObj l o)) (hIa : ∀ (pre : List α) (A : World) (o : Obj), I pre A → w.heap.size ≤ A.heap.size → I pre (A.alloc o)) (h0 : I [] w)
  (hKt : ∀ {A B C : World}, Kp A B → Kp B C → Kp A C) (hKp : ∀ (A : World) (l : Nat) (o o0 : Obj), A.heap[l]? = some o0 → o0.isCells = false → w.heap.size ≤ l → Kp A (A.putObj l o))
  (xs : List α)
  (hit : ∀ (l : Nat) (J : List α → World → Prop) (W1 : World), (∀ pre W, J pre W → I pre W) →
   (∀ pre A B, J pre A → I pre B → (∀ (k : Nat) (o : Obj), A.heap[k]? = some o → o.isCells = false → B.heap[k]? = some o) → J pre B) →
   (∀ pre x W, J pre W → Px pre x → YieldAt F (n - 1 - 1) P l (encs x) W fun e W' => e = .returned (.bool true) ∧ J (pre ++ [x]) W' ∧ Kp W W') → J [] W1 → (∀ (k : Nat), k < w.heap.size → W1.heap[k]? = w.heap[k]?) →
   CallsIn F (n - 1) P gf (#[.func (.yield l) #[] #[]] ++ lb) W1 fun e W' => (∃ v, e = .returned v) ∧ J xs W')
  (a₁ : α → Act)
  (hassign : ∀ (l : Nat) (x : α) (W : World) (K : Act → World → Prop), K (a₁ x) W →
   assign.wpIn (F.inRound l) (n - 1 - 1) P (Exit.then K (fun _ _ _ => False)) { tmps := (ps.zip (encs x)).foldl (fun t (p, v) => t.setIfInBounds p v) a.tmps, defers := [] } W)
  (hbody : ∀ (l : Nat) (pre : List α) (x : α) (W : World), I pre W → Px pre x →
   body.wpIn (F.inRound l) (n - 1 - 1) P (fun e _ W' => e = .normal ∧ KeepsOthers W W' ∧ Kp W W' ∧ I (pre ++ [x]) W') (a₁ x) W)
  (hdone : ∀ (D : Nat) (W : World), w.heap.size ≤ D → I xs W → W.heap[D]? = some (.deferred (some [])) → Q .normal { a with defers := { target := .collected D, args := #[] } :: a.defers } W) :
  (Code.rangeFunc g ps assign body).wpIn F n P Q a w := by
 refine wpIn_rangeFunc ?_
 intro fn hfn
 rw [hro]
 obtain ⟨rec, hrec⟩ : ∃ rec : LoopState → Option Code → Loop, rec = fun st pe => { state := st, pending := pe, fn, tmps := a.tmps, params := ps, assign, body, defers := w.heap.size } := ⟨_, rfl⟩
 obtain ⟨W1, hW1⟩ : ∃ W1, (w.alloc (.deferred (some []))).alloc (.loop (rec .ready none)) = W1 := ⟨_, rfl⟩
 have hL1 : W1.heap[w.heap.size + 1]? = some (.loop (rec .ready none)) := by
  rw [← hW1]; have := World.alloc_heap_new (w.alloc (.deferred (some []))) (.loop (rec .ready none)); rwa [World.size_alloc] at this
 have hK1 : W1.heap[w.heap.size]? = some (.deferred (some [])) := by
  rw [← hW1]; exact (Below.heap_alloc _ _ _ D6).trans (World.alloc_heap_new w _)
 have hI1 : I [] W1 := by rw [← hW1]; exact hIa _ _ _ (hIa _ _ _ h0 (Nat.le_refl _)) D6
 refine ⟨w.heap.size + 1, [{ target := .collected w.heap.size, args := #[] }], W1, { target := .fn (.func gf) lb, args := #[.func (.yield (w.heap.size + 1)) #[] #[]] }, W1, gf,
  #[.func (.yield (w.heap.size + 1)) #[] #[]] ++ lb, W1, ?_, ?_, ?_, ?_, fun _ => h1, ?_⟩
 ·rw [← hW1, hrec]; exact run_enterLoop_outer _ _ _ _ _
 ·simp only [resolve, hg]
  simp [go_sem]
 ·intro f' hf'; simp [Target.leads] at hf'; subst hf'; exact hFg
 ·simp [invoke, go_sem, eg]
 ·refine (hit (w.heap.size + 1) (fun pre W => I pre W ∧ W.heap[w.heap.size + 1]? = some (.loop (rec .ready none)) ∧ W.heap[w.heap.size]? = some (.deferred (some []))) W1
   (fun pre W h => h.1) (fun pre A B hA hB hk => ⟨hB, hk _ _ hA.2.1 rfl, hk _ _ hA.2.2 rfl⟩) ?_ ⟨hI1, hL1, hK1⟩ (fun k hk => by rw [← hW1]; exact (Below.heap_alloc _ _ _ (by simp; omega)).trans (Below.heap_alloc _ _ _ hk))).mono ?_
  ·rintro pre x W ⟨hi, hl, hk⟩ hpx
   have hlt : w.heap.size + 1 < W.heap.size := (Array.getElem?_eq_some_iff.1 hl).1
   have hy := run_yield (P := P) (args := encs x) hl (by rw [hrec]; exact hps x)
   rw [hrec] at hy
   refine ⟨fn, _, assign, body, hy, roundIn_of_wpIn hfn (hassign _ x W _ ⟨_, run_beginRound hl (by rw [hrec]), ?_⟩)⟩
   have hl2 : (W.putObj (w.heap.size + 1) (.loop { rec .ready none with state := .busy })).heap[w.heap.size + 1]? = some (.loop { rec .ready none with state := .busy }) := World.putObj_heap_same hlt
   have hk2 : (W.putObj (w.heap.size + 1) (.loop { rec .ready none with state := .busy })).heap[w.heap.size]? = some (.deferred (some [])) := (World.putObj_heap_other A4).trans hk
   refine wpIn_mono (hbody _ pre x _ (hIp _ _ _ _ _ hi hl rfl A4) hpx) ?_
   rintro e a3 W3 ⟨rfl, hk3, hkp3, hi3⟩
   have hl3 := hk3.same _ _ hl2 rfl
   have hend := run_endRound (P := P) none hl3
   rw [hrec] at hl3 hend
   refine ⟨_, _, hend, rfl, ⟨hIp _ _ _ _ _ hi3 hl3 rfl A4, ?_, ?_⟩, hKt (hKt (hKp _ _ _ _ hl rfl A4) hkp3) (hKp _ _ _ _ hl3 rfl A4)⟩
   ·rw [hrec]; exact World.putObj_heap_same (Array.getElem?_eq_some_iff.1 hl3).1
   ·exact (World.putObj_heap_other A4).trans (hk3.same _ _ hk2 rfl)
  ·rintro e W2 ⟨⟨v, rfl⟩, hi, hl, hk⟩
   exact ⟨none, _, by have := run_endLoop (P := P) hl (by rw [hrec]; simp); rw [hrec] at this; exact this, hdone _ _ (Nat.le_refl _) (hIp _ _ _ _ _ hi hl rfl A4) ((World.putObj_heap_other A4).trans hk)⟩
end Go.Hy
namespace Go.Hy
open Go.Proofs Go.Proofs.Tryz
set_option maxRecDepth 100000
theorem C9p (l : List Cl) (a_l : SH) (m : List Cl) (a_m : SH)  : Spec prog 31 #[sl a_l (l.length), sl a_m (m.length)] [CL l a_l, CL m a_m] [] (fun _ : Unit => .bool ((decide (l = m)))) (fun _ => []) (fun _ => []) := by
 refine Dd ntmps31 fun B hB => ?_
 refine A7 (l := l) (a := a_l) (fun hl1 hA1 hU1 => ?_); refine A7 (l := m) (a := a_m) (fun hl2 hA2 hU2 => ?_); refine Co ?_; refine Ii ?_; refine K5 ?_; refine Ez ?_; refine K5 ?_; refine C8g ?_; refine C5 (decide ((l.length : Int) ≠ (m.length : Int))) (fun h10 c10 => ?_) (fun h10 c10 => ?_)
 ·have hne : ¬ l = m := fun e => by subst e; simp at h10
  refine Co ?_; refine Au f_ rfl Aa () (by rw [decide_eq_false hne]) (fun w hs => hs.none)
 ·have hlen : l.length = m.length := by simp at h10; omega
  refine J0 ?_; refine Co ?_; refine zq9 ?_; refine B5 (X := Nat) (fun s_ => s_ ≤ l.length ∧ ∀ j, j < s_ → l.getD j Bo = m.getD j Bo) (fun s_ => [(0, sl a_l (l.length)), (1, sl a_m (m.length)), (5, iv ((s_ : Int)))]) (fun s_ G_ => G_) (fun s_ => []) (fun s_ => l.length - s_) (0) (⟨by omega, fun j hj => by omega⟩) (by exact E1) ?_ ?_
  ·exact fun w hs => hs
  ·intro i base0 ⟨hi, hok⟩ next0; refine Ii ?_; refine Ez ?_; refine K5 ?_; refine Xl ?_; refine Kz ?_; refine C5 (decide ((i : Int) < (l.length : Int))) (fun h14 c14 => ?_) (fun h14 c14 => ?_)
   ·refine H4 ?_; refine Bk (pn := 1000000) (tn := false) (A := [0, 0, 3, 7, 0, 0, 48, 112, 255]) (l := [0, 1, 2, 3, 4, 5, 6, 7, 8]) (fin := []) Tab.mixed ⟨_, func31⟩ (by rfl) ?_; refine Ir ?_; obtain ⟨bk3, o3, hav3⟩ := hA1 A4; refine n0 rfl (Og ?_ (j := i)); refine n0 rfl (C1p ?_); refine Ir ?_; obtain ⟨bk4, o4, hav4⟩ := hA2 A4; refine n0 rfl (Og ?_ (j := i)); refine n0 rfl (C1p ?_); refine n0 rfl (D8i ?_ (c := (l.getD i Bo)) (c' := (m.getD i Bo))); refine Uu ?_; refine C5 (!decide ((l.getD i Bo) = (m.getD i Bo))) (fun h25 c25 => ?_) (fun h25 c25 => ?_)
    ·refine Co ?_; refine Au f_ rfl Aa () (by rw [decide_eq_false (fun e => by subst e; simp at h25)]) (fun w hs => hs.none)
    ·refine Rg ?_; refine Ea ?_; refine Rf ?_; have hb : l.getD i Bo = m.getD i Bo := by simpa using h25
     refine A1 (fun w hs => ?_) (next0 (i + 1) _ (⟨by omega, C9f hok hb⟩) A4 E1); exact (hs.l9)
   ·refine Pc ?_; refine Au f_ rfl Aa () (by rw [decide_eq_true (Qs hlen (fun j hj => hok j A4))]) (fun w hs => hs.none)
end Go.Hy
namespace Go.Hy
open Go.Proofs Go.Proofs.Tryz
set_option maxRecDepth 100000
attribute [local go_sem] Oper.semAt_some
open Go.RowKit Go.Shelf
set_option maxHeartbeats 1000000
theorem E9d (F : Fence) (n : Nat) (hF : F.fn 258) (hro : F.round = none) (r : Nat) (k idx : Nat) (hk : k < 24) (h0 : ((r : Int) == 0) = false)
  (key : bits BinOp.and IntKind.u32 (r : Int) (-(r : Int) % 4294967296) * 125613361 % 4294967296 / 134217728 = (idx : Int)) (hi : idx < 32) (W : World) (hc : W.cell? ⟨0, idx, none⟩ = some (.int .u8 (k : Int))) :
  CallsIn F n prog 258 #[.int .u32 (r : Int)] W fun e w' => e = .returned (iv (k : Int)) ∧ w' = W := by
 refine callsIn_of_wp func258 rfl hF ?_ hro; simp only [ntmps258, List.size_toArray, List.length_cons, List.length_nil, Nat.reduceAdd, Nat.reduceSub, Array.replicate_succ, Array.replicate_zero, List.push_toArray, List.append_toArray, List.nil_append, List.cons_append]
 gi_wp2_with (simp only [key])
 go_ret
 exact ⟨rfl, rfl⟩
theorem tz32' (F : Fence) (n : Nat) (hF : F.fn 258) (hro : F.round = none) (r : Nat) (h0 : ¬ r = 0) (hr : r < 16777216) (W : World) (hT : TabAt 0 Lib.deBruijn32tab W) :
  CallsIn F n prog 258 #[.int .u32 (r : Int)] W fun e w' => e = .returned (iv (Lib.ctz 32 r : Int)) ∧ w' = W := by
 obtain ⟨hlow, hk⟩ := Lib.lowest_bit 32 r h0 A4; obtain ⟨hi, htab⟩ := Lib.deBruijn32_at _ hk; have hcell := hT _ hi; rw [htab] at hcell; exact E9d F n hF hro r _ _ (A7r h0 hr).1 (by simp; omega) (tz32_key r _ A4 h0 hlow) hi W hcell
theorem in1 (F : Fence) (n : Nat) (h208 : F.fn 257) (h209 : F.fn 258) (hro : F.round = none) (hn : 1 ≤ n) (l g : Nat) (s : Nat) (J : List Int → World → Prop)
  (hY : ∀ pre x W, J pre W → pre.length < 24 → (0 ≤ x ∧ x < 24) → YieldAt F (n - 1) prog l #[iv x] W fun e W' => e = .returned (.bool true) ∧ J (pre ++ [x]) W' ∧ W'.heap[g]? = W.heap[g]?)
  (hT : ∀ pre W, J pre W → TabAt 0 Lib.deBruijn32tab W)
  (hJ : ∀ pre W v, J pre W → J pre (W.setCell ⟨g, 0, none⟩ v))
  (hs : s < 4294967296) (W : World) (hg : Boxed W g 89 (.int .u32 (s : Int))) (h0 : J [] W) :
  CallsIn F n prog 257 #[.func (.yield l) #[] #[], pz g] W fun e W' => (∃ v, e = .returned v) ∧ J (Ay s) W' := by
 refine callsIn_of_wp func257 rfl h208 ?_ hro; simp only [ntmps257, List.size_toArray, List.length_cons, List.length_nil, Nat.reduceAdd, Nat.reduceSub, Array.replicate_succ, Array.replicate_zero, List.push_toArray, List.append_toArray, List.nil_append, List.cons_append]; have hc := hg.cell; have hf := hg.frozen
 gi_wp2
 gi_loopw [] (fun wr => ∃ (pre : List Int) (r : Nat), Ay s = pre ++ Ay r ∧ r < 16777216 ∧ Boxed wr g 89 (.int .u32 (r : Int)) ∧ J pre wr)
  (fun wr => match wr.cell? ⟨g, 0, none⟩ with | some (.int _ v) => v.toNat | _ => 0)
 case atStart =>
  refine ⟨[], s &&& 16777215, by rw [List.nil_append, C6e], by rw [A4f]; exact Nat.mod_lt _ Iy, ?_, hJ _ _ _ h0⟩; rw [← bits_and_u32_nat s 16777215 hs Iy]; exact hg.set _
 case round =>
  obtain ⟨pre, r, hx, hr, hb, hj⟩ := hrel; have hc2 := hb.cell; have hf2 := hb.frozen; by_cases hr0 : r = 0
  ·subst hr0
   gi_wp2
   go_end0
   exact ⟨⟨_, rfl⟩, by rw [hx, show Ay 0 = [] from by decide, List.append_nil]; exact hj⟩
  ·obtain ⟨hk, hlist⟩ := A7r hr0 hr
   have hlen : pre.length < 24 := by
    have h1 := congrArg List.length hx; have h2 : (Ay s).length ≤ 24 := Le s 24; rw [List.length_append, hlist, List.length_cons] at h1; omega
   obtain ⟨fn, tmps, assign, body, hy, hR⟩ := hY pre (Lib.ctz 32 r : Int) wr hj hlen A4; have hbe : ((r : Int) != 0) = true := by simp; omega
   gi_wp2_with (gi_at_call 258; refine (tz32' F (n - 1) h209 hro r hr0 hr wr (hT _ _ hj)).mono ?_; rintro e w' ⟨rfl, rfl⟩)
   refine hR.mono ?_; rintro e W3 ⟨rfl, hJ3, hg3⟩; have hb3 : Boxed W3 g 89 (.int .u32 (r : Int)) := hg3.trans hb; have hc3 := hb3.cell; have hf3 := hb3.frozen
   gi_wp2
   have e1 : bits BinOp.and IntKind.u32 (r : Int) ((r : Int) - 1) = ((r &&& (r - 1) : Nat) : Int) := by
    rw [show (r : Int) - 1 = ((r - 1 : Nat) : Int) by omega]; exact bits_and_u32_nat r (r - 1) A4 A4
   rw [e1]; have hb4 := hb3.set (.int .u32 ((r &&& (r - 1) : Nat) : Int)); have hlt := E1j hr0
   go_roundw
   case rel => exact ⟨pre ++ [(Lib.ctz 32 r : Int)], r &&& (r - 1), by rw [hx, hlist, List.append_assoc]; rfl, by omega, hb4, hJ _ _ _ hJ3⟩
   case measure =>
    rw [hb4.cell, hc2]; simp only [Int.toNat_natCast]; exact hlt
theorem E6z (F : Fence) (n : Nat) (h : F.fn 206) (hro : F.round = none) (s : Nat) (w : World) :
  CallsIn F n prog 206 #[.int .u32 (s : Int)] w fun e w' => e = .returned (.func (.func 257) #[] #[.pointer (some ⟨w.heap.size, 0, none⟩)]) ∧ w' = w.alloc (.cells #[.int .u32 (s : Int)] 89) := by
 refine callsIn_of_wp func206 rfl h ?_ hro; simp only [ntmps206, List.size_toArray, List.length_cons, List.length_nil, Nat.reduceAdd, Nat.reduceSub, Array.replicate_succ, Array.replicate_zero, List.push_toArray, List.append_toArray, List.nil_append, List.cons_append]
 gi_wp2
 go_ret
 exact ⟨rfl, rfl⟩
theorem D6u : (prog.info? 3).map (fun i => (i.zero, i.size, i.bytes)) = some (some (iv 0), 1, 8) := by kernel_rfl
theorem D6l (F : Fence) (n : Nat) (h81 : F.fn 123) (h156 : F.fn 206) (h208 : F.fn 257) (h209 : F.fn 258) (hro : F.round = none) (hn : 3 ≤ n) (s : Nat) (hs : s < 4294967296) (w : World) (hw : 0 < w.heap.size) (hT : TabAt 0 Lib.deBruijn32tab w) :
  CallsIn F n prog 123 #[.int .u32 (s : Int)] w fun e W' => ∃ v, e = .returned v ∧ W'.ownsRow w.heap.size 3 1 v (Ay s).length ((Ay s).map (Value.int .i64)) ∧ Below w.heap.size w W' := by
 have h1 : 1 ≤ n := by omega
 obtain ⟨i0, hi, hz0, hz1, hz2⟩ := info_parts D6u; refine callsIn_of_wp_marks func123 rfl h81 ?_ hro; simp only [ntmps123, List.size_toArray, List.length_cons, List.length_nil, Nat.reduceAdd, Nat.reduceSub, Array.replicate_succ, Array.replicate_zero, List.push_toArray, List.append_toArray, List.nil_append, List.cons_append]
 gi_wp2_with (gi_at_call 206; refine (E6z F (n - 1) h156 hro _ _).mono ?_; rintro e w' ⟨rfl, rfl⟩)
 obtain ⟨w2, hw2⟩ : ∃ w2, (w.alloc (.cells #[.slice none 0 0] 140)).alloc (.cells #[.int .u32 (s : Int)] 89) = w2 := ⟨_, rfl⟩; have bO : Boxed w2 w.heap.size 140 (.slice none 0 0) := by rw [← hw2]; exact (Boxed.new w 140 (.slice none 0 0)).alloc _
 have bS : Boxed w2 (w.heap.size + 1) 89 (.int .u32 (s : Int)) := by rw [← hw2]; have := Boxed.new (w.alloc (.cells #[.slice none 0 0] 140)) 89 (.int .u32 (s : Int)); rwa [World.size_alloc] at this
 have hsz2 : w2.heap.size = w.heap.size + 2 := by rw [← hw2]; simp
 have hB2 : Below w.heap.size w w2 := by rw [← hw2]; exact ((Below.refl _ w).alloc (Nat.le_refl _) _).alloc D6 _
 have hrw : ∀ {A B : World}, B.heap[w.heap.size + 1]? = A.heap[w.heap.size + 1]? → ∀ u, Boxed A (w.heap.size + 1) 89 u → Boxed B (w.heap.size + 1) 89 u := fun h u hu => h.trans hu
 simp only [World.size_alloc, hw2]
 refine C5g hro h1 (gf := 257) (lb := #[.pointer (some ⟨w.heap.size + 1, 0, none⟩)]) rfl h208 (enters_of func257 (by kernel_rfl) rfl) (encs := fun x : Int => #[iv x]) (fun _ => rfl)
  (fun pre W => (∃ v, Boxed W w.heap.size 140 v ∧ W.ownsRow w.heap.size 3 1 v pre.length (pre.map (Value.int .i64))) ∧ (∃ u, Boxed W (w.heap.size + 1) 89 u) ∧ Below w.heap.size w W)
  (fun pre x => pre.length < 24 ∧ (0 ≤ x ∧ x < 24)) (fun W W' => W'.heap[w.heap.size + 1]? = W.heap[w.heap.size + 1]?)
  ?ip ?ia ⟨⟨_, bO, World.ownsRow_nil _ _ _ _⟩, ⟨_, bS⟩, hB2⟩ (fun h k => k.trans h) ?kp (Ay s) ?it
  (fun x => { tmps := #[.int .u32 (s : Int), undef, .slice none 0 0, .pointer (some ⟨w.heap.size, 0, none⟩), iv x, .int .u32 (s : Int), .func (.func 257) #[] #[.pointer (some ⟨w.heap.size + 1, 0, none⟩)], iv x, undef, undef, undef, undef, undef], defers := [] }) ?assign ?body ?done
 case ip =>
  rintro pre A l o o0 ⟨⟨v, hv, hr⟩, ⟨u, hu⟩, hB⟩ hl hc hle; refine ⟨⟨v, (World.putObj_heap_other A4).trans hv, ownsRow_putObj hr o hl hc⟩, ⟨u, (World.putObj_heap_other A4).trans hu⟩, hB.trans ⟨rfl, rfl, rfl, by simp, fun k hk => World.putObj_heap_other A4⟩⟩
 case ia =>
  rintro pre A o ⟨⟨v, hv, hr⟩, ⟨u, hu⟩, hB⟩ hle; exact ⟨⟨v, hv.alloc o, hr.kept (World.grownBy_alloc A o none) (by rcases hr.2 with ⟨rfl, _⟩ | ⟨g, cap, cur, rfl, _⟩; exact .inl rfl; exact .inr (by simp [Value.ownBlock]))⟩, ⟨u, hu.alloc o⟩, hB.alloc A4 o⟩
 case kp =>
  intro A l o o0 hl hc hle; exact World.putObj_heap_other A4
 case it =>
  intro l J W1 hJI hJk hY h0 hk1; refine in1 F (n - 1) h208 h209 hro A4 l (w.heap.size + 1) s J (fun pre x W hj hl hx => hY pre x W hj ⟨hl, hx⟩) (fun pre W hj => ?_) (fun pre W v hj => ?_) hs W1 ?_ h0
  ·intro i hi; exact ((hJI _ _ hj).2.2.cell (p := ⟨0, i, none⟩) hw).trans (hT i hi)
  ·obtain ⟨⟨v0, hv0, hr⟩, ⟨u, hu⟩, hB⟩ := hJI _ _ hj; refine hJk pre W _ hj ⟨⟨v0, hv0.other A4 v, hr.kept (grownBy_setCell' W (w.heap.size + 1) v) (.inr (hu.not_row Iy hr).symm)⟩, ⟨_, hu.set v⟩, hB.setCell (p := ⟨w.heap.size + 1, 0, none⟩) D6 v⟩ (fun k o hk ho => (KeepsOthers.setCell W _ v).same k o hk ho)
  ·exact (hk1 _ A4).trans bS
 case assign =>
  intro l x W K hK
  gi_wp2
  exact hK
 case body =>
  rintro l pre x W ⟨⟨v, hv, hrow⟩, ⟨u, hu⟩, hB⟩ ⟨hlt, hx⟩; have hc := hv.cell
  gi_wp2_with (gi_at_builtin; refine wpListIn_append_own _ rfl _ _ 140 rfl w.heap.size 3 i0 (iv 0) 1 8 Tryz.underlying140 hi hz0 hz1 hz2 rfl Iy _ _ _ rfl (hrow.alloc _) ⟨W.heap.size, 0, none⟩ 1 1 [iv x] rfl rfl (cell_one_new _ _ _) (by simp [Value.oneCell']) (by unfold maxLen; omega) A4 (by have := hB.size; simp; omega) ?_; intro v' w1 hown' hgrow _; obtain ⟨g', cap', rfl⟩ := ownsRow_succ hown'; obtain ⟨hv1, hv2, hr2, hk2, hb2⟩ := hv.appended Iy hrow hB.size (Nat.le_refl _) hown' hgrow; have hc1 := hv1.cell; have hf1 := hv1.frozen)
  have hu1 := ((hu.alloc (.cells #[iv x] 3)).kept hgrow (hu.not_row Iy hrow)).other (B' := w.heap.size) A4 (.slice (some ⟨g', 0, none⟩) (pre.length + 1) cap'); exact ⟨hu1.trans hu.symm, ⟨_, hv2, by simpa using hr2⟩, ⟨u, hu1⟩, hB.trans hb2⟩
 case done =>
  rintro D W hD ⟨⟨v, hv, hrow⟩, _, hB⟩ hK; have hc := hv.cell
  gi_wp2
  refine ⟨by simp, .inl ⟨_, _, rfl, run_takeDeferred hK, ?_⟩⟩; exact ⟨_, results_tmp rfl _ _ _, v, rfl, ownsRow_putObj hrow _ hK rfl, hB.trans ⟨rfl, rfl, rfl, by simp, fun k hk => World.putObj_heap_other A4⟩⟩
abbrev O7 : Fact := At 0 0 (Lib.deBruijn32tab.map fun (v : Nat) => Value.int .u8 (v : Int))
theorem D9y {ok : Nat → Prop} {w : World} (h : O7.f ok w) (hk : ∀ b, ok b → b < w.heap.size) : TabAt 0 Lib.deBruijn32tab w ∧ 0 < w.heap.size := by
 refine ⟨fun j hj => ?_, hk _ h.1⟩; have h1 := h.2 j (.int .u8 (Lib.deBruijn32tab.getD j 0 : Nat)) (by rw [List.getElem?_map, List.getD_eq_getElem?_getD, List.getElem?_eq_getElem hj]; rfl)
 rwa [Nat.zero_add] at h1
theorem C6a (s : Nat) (hs : s < 4294967296) : Spec prog 123 #[.int .u32 (s : Int)] [O7] [] (fun x : SH => sl x (Ay s).length) (fun _ => []) (fun x => [Aj 1 3 x (Ay s).length (Tk (Ay s))]) := fun ok w hok hst => by
 obtain ⟨hT, hw⟩ := D9y (hst.facts O7 List.mem_cons_self) (fun b hb => hb.2.1); refine (callsIn_wide.mp (D6l Fence.wide 3 trivial trivial trivial trivial rfl (Nat.le_refl _) s hs w hw hT)).mono fun e w' hh => ?_
 obtain ⟨v, rfl, hrow, hB⟩ := hh; obtain ⟨a, rfl⟩ := C2i hrow
 have hrow0 : w'.ownsRow 0 3 1 (sl a (Ay s).length) (Ay s).length (Tk (Ay s)) := by
  have h1 : w'.ownsRow 0 3 1 (sl a (Ay s).length) (Ay s).length ((Ay s).map (Value.int .i64)) := ⟨hrow.1, hrow.2.imp id (fun ⟨g, cap, cur, q1, q2, q3⟩ => ⟨g, cap, cur, q1, Nat.zero_le _, q3⟩)⟩
  rwa [show (Ay s).map (Value.int .i64) = Tk (Ay s) from by induction (Ay s) with | nil => rfl | cons y ys ih => (simp only [List.map_cons, Tk, List.flatMap_cons, Sq, List.singleton_append] at ih ⊢; rw [ih])] at h1
 refine ⟨a, rfl, ⟨hB.os, hB.tape, hB.output, hB.size, fun b hb _ => hB.block b hb⟩, fun _ hF => (by cases hF), ?_, ?_, List.pairwise_singleton _ _⟩
 ·intro m hm w2 hw2; rw [List.mem_singleton] at hm; subst hm; exact A1g hrow0 (fun b hb => hw2 b hb)
 ·intro m hm b hb; rw [List.mem_singleton] at hm; subst hm; have := hrow.lt b hb; exact ⟨this.2, .inr this.1⟩
theorem Na (s : Nat) (hs : s < 4294967296) : Spec prog 123 #[.int .u32 (s : Int)] [O7] [] (fun x : SH => sl x (Ay s).length) (fun x => [IL (Ay s) x]) (fun _ => []) := fun ok w hok hst => (C6a s hs ok w hok hst).mono fun e w' hh => by
 obtain ⟨x, he, h⟩ := hh; have hl : (Ay s).length ≤ 24 := Le s 24; exact ⟨x, he, h.B3g trivial rfl rfl (by unfold reach; omega) (fun c hc => by have := A7q hc; unfold Ap; omega)⟩
end Go.Hy
namespace Go.Hy
open Go.Proofs Go.Proofs.Tryz
set_option maxRecDepth 100000
theorem Ie (i : Int) : Spec prog 195 #[iv i] [] [] (fun _ : Unit => .bool (decide (0 ≤ i) && decide (i < 24))) (fun _ => []) (fun _ => []) := by
 refine Dd ntmps195 fun B hB => ?_
 refine Nf ?_; refine B2m ?_; refine Ez ?_; refine qI rfl rfl rfl Nh (fun hg5 => G4 ?_) (fun hg5 => ?_)
 ·refine B7z ?_; refine Iu ?_; refine Au f_ rfl Aa () (by first | (simp_all; done) | (simp_all; omega)) (fun w hs => hs.none)
 ·refine zq5 ?_; refine It ?_; refine Au f_ rfl Aa () (by first | (simp_all; done) | (simp_all; omega)) (fun w hs => hs.none)
theorem Sh (s : Nat) (hs : s < 4294967296) : Spec prog 249 #[.int .u32 (s : Int)] [] [] (fun _ : Unit => .bool (decide (s < 16777216))) (fun _ => []) (fun _ => []) := by
 refine Dd ntmps249 fun B hB => ?_
 refine Nf ?_; refine q0 rfl (Sg ?_ (b := 16777215)); refine q0 rfl (Ze ?_ (b := 0)); refine Ct ?_; refine Au f_ rfl Aa () (by rw [B7o hs]) (fun w hs => hs.none)
theorem Xm (s : Nat) (hs : s < 4294967296) : Spec prog 112 #[.int .u32 (s : Int), iv (-1)] [] [] (fun _ : Unit => .int .u32 ((s &&& 16777215 : Nat) : Int)) (fun _ => []) (fun _ => []) := by
 refine Dd ntmps112 fun B hB => ?_
 refine Nf ?_; refine q0 rfl (J9 ?_ (b := 16777215)); refine Ct ?_; refine Ii ?_; refine q0 rfl (A0 call195 (Ie (-1)) (fun x8 => ?_)); refine Lw ?_; refine A9 (fun h9 => ?_) (fun h9 => ?_)
 ·refine J4 ?_; refine Au f_ rfl Aa () rfl (fun w hs => hs.none)
 ·exact absurd h9 Iy
theorem V9 : D4o := by
 intro l a; refine Dd ntmps64 fun B hB => ?_
 refine A7 (l := l) (a := a) (fun hl1 hA1 hU1 => ?_); refine Co ?_; refine Oc ?_; refine Fg (X := Nat) (fun i => i ≤ l.length) (fun i => [(3, .int .u32 (Qj l i : Int)), (6, sl a l.length), (7, iv (l.length : Int)), (8, iv (i : Int))]) (fun i => [CL l a]) (fun i => []) (fun i => l.length - i) (0) (Nat.zero_le _) (by exact E1) ?_ ?_
 ·exact fun w hs => hs.l8
 ·intro i base0 hi next0; refine Ek ?_; refine A9 (fun h9 => ?_) (fun h9 => ?_)
  ·have hlt : i < l.length := by have := of_decide_eq_true h9; omega
   obtain ⟨bk, o, hav⟩ := hA1 A4; have hu := hU1 _ (Ac (d := Bo) hlt); have hup := A7h hU1 i; have hor : (l.getD i Bo).pos ||| (l.getD i Bo).neg < 4294967296 := Nat.or_lt_two_pow (n := 32) hu.1 hu.2; refine Gq ?_; refine Tx ?_; refine Tw ?_; refine q0 rfl (B3 fun b5 => ?_); refine Ep ?_; refine Ea ?_; refine O8 ?_; refine O8 ?_; refine q0 rfl (Ql ?_ (a := (l.getD i Bo).pos) (b := (l.getD i Bo).neg) (ha := hu.1) (hb := hu.2)); refine q0 rfl (Ql ?_ (a := Qj l i) (b := (l.getD i Bo).pos ||| (l.getD i Bo).neg)); refine Of ?_; refine A1 (fun w hs => ?_) (next0 (i + 1) _ hlt A4 ⟨by rw [B4k hlt]; rfl, rfl, rfl, rfl, trivial⟩); exact (hs.l8).bare
  ·have hge : i = l.length := by have := of_decide_eq_false h9; omega
   refine H3 ?_; refine Fs ?_; refine q0 rfl (A0 call112 (Xm (Qj l i) (A7h hU1 i)) (fun x21 => ?_)); refine Ct ?_; refine Au f_ rfl Aa () (by rw [B6o, ← hge]) (fun w hs => hs.none)
theorem Py (c : Cl) (hc : u32 c) : Spec prog 196 #[.agg (Aw c).toArray] [] [] (fun _ : Unit => .bool (Ar c)) (fun _ => []) (fun _ => []) := by
 refine Dd ntmps196 fun B hB => ?_
 refine Ax ?_; refine q0 rfl (B0 fun b1 => ?_); refine Ct ?_; refine Iv ?_; refine q0 rfl (A0 call249 (Sh c.pos hc.1) (fun x5 => ?_)); refine Ez ?_; refine qI rfl rfl rfl Nh (fun hg6 => U2 ?_) (fun hg6 => ?_)
 ·refine Q3 ?_; refine qT rfl rfl rfl (A0 call249 (Sh c.neg hc.2) (fun x9 => ?_)); refine Iu ?_; refine Au f_ rfl Aa () (by first | (simp_all [Ar]; done) | (simp_all [Ar]; intros; omega)) (fun w hs => hs.none)
 ·refine K4 ?_; refine It ?_; refine Au f_ rfl Aa () (by first | (simp_all [Ar]; done) | (simp_all [Ar]; intros; omega)) (fun w hs => hs.none)
theorem A3x (c : Cl) (hc : u32 c) : Spec prog 248 #[.agg (Aw c).toArray] [] [] (fun _ : Unit => .bool (I0 c)) (fun _ => []) (fun _ => []) := by
 refine Dd ntmps248 fun B hB => ?_
 refine Ax ?_; refine q0 rfl (B0 fun b1 => ?_); refine Ct ?_; refine Iv ?_; refine O8 ?_; refine q0 rfl (J9 ?_ (a := c.pos) (b := c.neg) (ha := hc.1) (hb := hc.2)); refine q0 rfl (B4u ?_ (b := 0)); refine Ct ?_; refine Au f_ rfl Aa () (by simp only [I0]; congr 1; apply decide_eq_decide.mpr; omega) (fun w hs => hs.none)
theorem Yb (c d : Cl) (hc : u32 c) (hd : u32 d) : Spec prog 251 #[.agg (Aw c).toArray, .agg (Aw d).toArray] [] [] (fun _ : Unit => .agg (Aw (E0 c d)).toArray) (fun _ => []) (fun _ => []) := by
 refine Dd ntmps251 fun B hB => ?_
 refine Ax ?_; refine q0 rfl (B0 fun b2 => ?_); refine q0 rfl (B0 fun b3 => ?_); refine q0 rfl (B3 fun b4 => ?_); refine Kz ?_; refine Iv ?_; refine O8 ?_; refine q0 rfl (Ql ?_ (a := c.pos) (b := d.pos) (ha := hc.1) (hb := hd.1)); refine O8 ?_; refine O8 ?_; refine q0 rfl (Ql ?_ (a := c.neg) (b := d.neg) (ha := hc.2) (hb := hd.2)); refine q0 rfl (B2 (cs := Aw (E0 c d)) ?_); refine Ep ?_; refine U1 f_ rfl () rfl De rfl rfl rfl rfl (fun w hs => hs.none)
theorem C0z (c d : Cl) (hc : u32 c) (hd : u32 d) : Spec prog 200 #[.agg (Aw c).toArray, .agg (Aw d).toArray] [] [] (fun _ : Unit => .bool (below c d)) (fun _ => []) (fun _ => []) := by
 refine Dd ntmps200 fun B hB => ?_
 refine Ax ?_; refine q0 rfl (B0 fun b2 => ?_); refine q0 rfl (B0 fun b3 => ?_); refine Hb ?_; refine Bk (pn := 1000000) (tn := false) (A := [0, 0, 3, 0, 15, 31]) (l := [0, 1, 3, 2, 4, 5]) (fin := []) Tab.mixed ⟨_, func200⟩ (by rfl) ?_; refine Q4 ?_; refine Q4 ?_; refine Q4 ?_; refine n0 rfl (B7 call251 (Yb c d hc hd) (fun x7 => ?_)); refine n0 rfl (E5r ?_ (c := E0 c d) (c' := c)); refine Vr ?_; refine Au f_ rfl Aa () (by rw [C1b]) (fun w hs => hs.none)
end Go.Hy
namespace Go.Hy
open Go.Proofs Go.Proofs.Tryz
set_option maxRecDepth 100000
open Go.Shelf Go.RowKit Go.Lib Go.Sort
theorem D6t (a : Int) (W : World) : Calls prog 291 #[.int .u32 a] W fun e w' => e = .returned (.bool false) ∧ w' = W := by
 go_enter func291, ntmps291
 go_wp2
 go_ret
 exact ⟨by simp, rfl⟩
theorem C7r (a b : Int) (W : World) : Calls prog 254 #[.int .u32 a, .int .u32 b] W fun e w' => e = .returned (iv (compareInt a b)) ∧ w' = W := by
 go_enter func254, ntmps254
 go_wp2_with (go_at_call 291; refine (D6t _ _).mono ?_; rintro e w' ⟨rfl, rfl⟩)
 all_goals (go_ret; refine ⟨?_, rfl⟩; unfold Lib.compareInt; (repeat' split) <;> first | rfl | (exfalso; omega))
def B6z (c d : Cl) : Int := if c.pos = d.pos then compareInt c.neg d.neg else compareInt c.pos d.pos
set_option maxHeartbeats 1000000 in
theorem E8w (c d : Cl) (W : World) : Calls prog 202 #[.agg #[.int .u32 c.pos, .int .u32 c.neg], .agg #[.int .u32 d.pos, .int .u32 d.neg]] W fun e w' => e = .returned (iv (B6z c d)) ∧ ∃ q os', w' = grow (W.drewN q) os' := by
 have hcon := fun a b W' => C7r a b W'
 have e1 : B6z c d = if (c.pos : Int) = d.pos then compareInt c.neg d.neg else compareInt c.pos d.pos := by unfold B6z; simp only [Int.ofNat_inj]
 generalize hr : B6z c d = r at e1 ⊢
 go_enter func202, ntmps202
 go_wp2_with (go_at_call 254; refine (hcon _ _ _).mono ?_; rintro e w' ⟨rfl, rfl⟩)
 all_goals (go_ret; refine ⟨?_, 0, _, by rw [alloc_eq_grow, alloc_eq_grow, grow_grow]; rfl⟩)
 all_goals (rw [e1]; simp_all)
instance : Inhabited Cl := ⟨Bo⟩
theorem B1w (c d : Cl) : ltOf B6z c d = Dv c d := by
 unfold ltOf B6z Dv compareInt; by_cases h : c.pos = d.pos
 ·simp only [h, if_true]; by_cases h2 : c.neg < d.neg
  ·rw [if_pos A4]; simp [h2]
  ·rw [if_neg A4]; split <;> simp [h2]
 ·simp only [h, if_false]; by_cases h2 : c.pos < d.pos
  ·rw [if_pos A4]; simp [h2]
  ·rw [if_neg A4, if_pos A4]; simp [h2]
theorem D7r : SWO (ltOf B6z) where
 irrefl x := by rw [B1w]; simp [Dv]
 trans x y z h1 h2 := by
  rw [B1w] at *; simp only [Dv, Bool.or_eq_true, Bool.and_eq_true, decide_eq_true_eq] at *; omega
 ntrans x y z h1 h2 := by
  rw [B1w] at *; simp only [Dv, Bool.or_eq_false_iff, Bool.and_eq_false_iff, decide_eq_false_iff_not] at *; omega
theorem X4 (d : Array Cl) : (flatK Aw 2 d).toList = A8 d.toList := by
 apply List.ext_getElem?; intro t; have hl : (A8 d.toList).length = d.size * 2 := by rw [Ko F7]; simp
 by_cases ht : t < d.size * 2
 ·have h1 : (flatK Aw 2 d).toList[t]? = some (Aw d[t / 2]!)[t % 2]! := by
   have hs : t < (flatK Aw 2 d).size := by rw [size_flatK]; exact ht
   rw [Array.getElem?_toList, Array.getElem?_eq_getElem hs]; have := get_flatK Aw 2 d t ht; rw [getElem!_pos _ t hs] at this; rw [this]
  rw [h1]; have hd : t / 2 < d.toList.length := by simp; omega
  have e : d.toList.getD (t / 2) Bo = d[t / 2]! := by
   have : t / 2 < d.size := by simpa using hd
   rw [getElem!_pos d (t / 2) this, List.getD_eq_getElem?_getD, List.getElem?_eq_getElem hd]; simp
  have h2 : (Aw (d.toList.getD (t / 2) Bo))[t % 2]? = some (Aw d[t / 2]!)[t % 2]! := by
   rw [e]; have : t % 2 < (Aw d[t / 2]!).length := by rw [F7]; omega
   rw [List.getElem?_eq_getElem this, getElem!_pos (Aw d[t / 2]!) (t % 2) this]
  have := B1i F7 Bo d.toList (t / 2) (t % 2) _ hd h2; rw [show t / 2 * 2 + t % 2 = t by omega] at this; exact this.symm
 ·rw [List.getElem?_eq_none (by simp; omega), List.getElem?_eq_none A4]
theorem C5h (d : Array Cl) (l : List Cl) (rest : List Value) (hs : d.size = l.length) : putCells id 0 (flatK Aw 2 d) (A8 l ++ rest).toArray = (A8 d.toList ++ rest).toArray := by
 apply Array.ext_getElem?; intro t; have hl : (A8 l).length = d.size * 2 := by rw [Ko F7, hs]
 have hl2 : (A8 d.toList).length = d.size * 2 := by rw [Ko F7]; simp
 simp only [putCells, Array.getElem?_mapIdx, List.getElem?_toArray, size_flatK, Nat.zero_add, Nat.zero_le, true_and, Nat.sub_zero, id]; by_cases ht : t < d.size * 2
 ·rw [List.getElem?_append_left A4, List.getElem?_append_left A4]
  have h1 : (A8 d.toList)[t]? = some (flatK Aw 2 d)[t]! := by
   rw [← X4, Array.getElem?_toList]; have hsz : t < (flatK Aw 2 d).size := by rw [size_flatK]; exact ht
   rw [Array.getElem?_eq_getElem hsz, getElem!_pos _ t hsz]
  rw [h1]; obtain ⟨v, hv⟩ : ∃ v, (A8 l)[t]? = some v := ⟨_, List.getElem?_eq_getElem A4⟩; rw [hv, Option.map_some, if_pos ht]
 ·rw [List.getElem?_append_right A4, List.getElem?_append_right A4, hl, hl2]; cases rest[t - d.size * 2]? with
  | none => rfl
  | some v => rw [Option.map_some, if_neg ht]
theorem C4z (l : List Cl) (g cap : Nat) (rest : List Value) (hn : l.length < 4611686018427387904) :
  Spec prog 201 #[.slice (some ⟨g, 0, none⟩) l.length cap, .func (.func 202) #[] #[]] [] [Ad g (A8 l ++ rest) 107] (fun _ : {l' : List Cl // l'.Perm l ∧ l'.Pairwise fun a b => Dv b a = false} => .tuple #[]) (fun _ => []) (fun x => [Ad g (A8 x.1 ++ rest) 107]) := by
 intro ok w hok hs; have hg : w.heap[g]? = some (.cells (A8 l ++ rest).toArray 107 (0, 0)) := hs.res _ List.mem_cons_self w (fun _ _ => rfl); have hlt : g < w.heap.size := (Array.getElem?_eq_some_iff.mp hg).1; have hu : prog.underlying 107 = some (.struct (TyF.fC prog)) := TyF.uC
 have aE : ∀ w, (isAgg (Tryz.Xy.t 24)).run prog w = .ok true w := fun w => by
  show (isAgg 107).run prog w = _; simp [isAgg, run_underlying hu]
 have zE : ∀ w, (Go.sizeOf (Tryz.Xy.t 24)).run prog w = .ok 2 w := fun w => G7 (P := prog) (t := 107) rfl w
 have hH : HoldsK Aw 2 w g 0 l.toArray := by
  intro j hj; rw [size_flatK] at hj; have e : (flatK Aw 2 l.toArray).toList = A8 l := by rw [X4]
  have hsz : j < (flatK Aw 2 l.toArray).size := by rw [size_flatK]; exact hj
  have h1 : (A8 l)[j]? = some (flatK Aw 2 l.toArray)[j]! := by
   rw [← e, Array.getElem?_toList, Array.getElem?_eq_getElem hsz, getElem!_pos _ j hsz]
  refine ⟨?_, by simp [World.frozen?, hg]⟩; have hlen : j < (A8 l).length := (List.getElem?_eq_some_iff.mp h1).1; simp only [World.cell?, hg, Nat.zero_add, Option.isSome_none, Bool.false_eq_true, if_false, List.getElem?_toArray, id]; rw [List.getElem?_append_left hlen]; exact h1
 have hc := AnyQ.slices_SortFunc (P := prog) Tryz.D8n 2 aE zE Aw F7 (fun x v hv => by
   simp only [Aw, List.mem_cons, List.not_mem_nil, or_false] at hv; rcases hv with rfl | rfl <;> rfl) B6z D7r 202 #[] g 0 cap l.toArray w call202
  (fun m os dk hsz x y => E8w x y _) hH hlt (by simpa using hn)
 have hc2 : Calls prog 201 #[.slice (some ⟨g, 0, none⟩) l.length cap, .func (.func 202) #[] #[]] w _ := hc; refine hc2.mono ?_; rintro e w' ⟨he, d', n, os, hp, hsd, hw⟩; have hsize : d'.size = l.length := by simpa using hp.1
 have hperm : d'.toList.Perm l := by
  have := hp.2.2; have e1 : d'.extract 0 l.toArray.size = d' := by rw [show l.toArray.size = d'.size by simp [hsize]]; simp
  have e2 : l.toArray.extract 0 l.toArray.size = l.toArray := by simp
  rw [e1, e2] at this; exact this
 have hsorted : d'.toList.Pairwise fun a b => Dv b a = false := by
  rw [List.pairwise_iff_getElem]; intro i j hi hj hij; have hi' : i < d'.size := by simpa using hi
  have hj' : j < d'.size := by simpa using hj
  have := hsd i j (Nat.zero_le _) hij (by simp; omega); rw [B1w, getElem!_pos d' j hj', getElem!_pos d' i hi'] at this; simpa using this
 have hg' : w'.heap[g]? = some (.cells (A8 d'.toList ++ rest).toArray 107 (0, 0)) := by
  rw [hw]; show ((mapBlock (Go.Sort.ahead w n) g (putCells id 0 (flatK Aw 2 d'))).heap ++ os)[g]? = _; rw [Array.getElem?_append_left (by simp [mapBlock, Go.Sort.ahead]; exact hlt)]; simp only [mapBlock, Go.Sort.ahead, Array.getElem?_modify, if_true, hg, Option.map_some, onCells]; rw [C5h d' l rest hsize]
 have hold : ∀ b, b < w.heap.size → b ≠ g → w'.heap[b]? = w.heap[b]? := by
  intro b hb hne; rw [hw]; show ((mapBlock (Go.Sort.ahead w n) g (putCells id 0 (flatK Aw 2 d'))).heap ++ os)[b]? = _; rw [Array.getElem?_append_left (by simp [mapBlock, Go.Sort.ahead]; exact hb)]; simp only [mapBlock, Go.Sort.ahead, Array.getElem?_modify, if_neg (Ne.symm hne)]
 have hsz' : w.heap.size ≤ w'.heap.size := by rw [hw]; simp [sortWorldK, putRowK, Go.Sort.ahead]
 refine ⟨⟨d'.toList, hperm, hsorted⟩, he, ?_⟩; have h0 : St ⟨ok, Bq [Ad g (A8 l ++ rest) 107], w⟩ [] ([Ad g (A8 l ++ rest) 107]) w := hs
 refine h0.Er (m' := Ad g (A8 d'.toList ++ rest) 107) ⟨by rw [hw]; rfl, by rw [hw]; rfl, by rw [hw]; rfl, hsz', fun b hb hn => hold b hb hn⟩ (fun w2 hw2 => by
  show w2.heap[g]? = _; rw [hw2 g rfl]; exact hg') (fun b hb => ?_)
 have hb : b = g := hb; subst hb; exact ⟨by omega, .inl rfl⟩
end Go.Hy
namespace Go.Hy
open Go.Proofs Go.Proofs.Tryz
set_option maxRecDepth 100000
theorem C2d {M : List Be} : M.Perm (M ++ []) := by rw [List.append_nil]
theorem B9y (l : List Cl) (a : SH) (c : FuncId) (cap : List Value) (FΓ : List Fact) (M : List Be) (g : Cl → Bool) (hc : ∀ (args : Array Value) (w : World), (callFunc c args).run prog w = .ok (.enter c args) w) (hcl : ∀ x, x ∈ l → Spec prog c (Hp x :: cap).toArray FΓ M (fun _ : Unit => .bool (g x)) (fun _ => []) (fun _ => M)) : Spec prog 250 #[sl a l.length, .func (.func c) #[] cap.toArray] (CL l a :: FΓ) M (fun _ : Unit => iv (B9z g l)) (fun _ => []) (fun _ => M) := by
 refine Dd ntmps250 fun B hB => ?_
 refine A7 (l := l) (a := a) (fun hl1 hA1 hU1 => ?_); refine Oc ?_; refine Fg (X := Nat) (fun i => i ≤ l.length ∧ ∀ j, j < i → g (l.getD j Bo) = false) (fun i => [(0, sl a l.length), (1, .func (.func c) #[] cap.toArray), (7, iv (l.length : Int)), (8, iv (i : Int))]) (fun i => CL l a :: FΓ) (fun i => M) (fun i => l.length - i) (0) (⟨Nat.zero_le _, fun j hj => by omega⟩) (by exact E1) ?_ ?_
 ·exact fun w hs => hs
 ·intro i base0 ⟨hi, hok⟩ next0; refine Ek ?_; refine A9 (fun h9 => ?_) (fun h9 => ?_)
  ·have hlt : i < l.length := by have := of_decide_eq_true h9; omega
   obtain ⟨bk, o, hav⟩ := hA1 A4; refine Zv ?_; refine J4 ?_; refine Xj ?_; refine Ez ?_; refine Tx ?_; refine Tw ?_; refine q0 rfl (Ca hc (hcl _ (Ac hlt)) (cap := cap) (fun x16 => ?_) (hm := C2d)); refine Kz ?_; refine A9 (fun h16 => ?_) (fun h16 => ?_)
   ·refine J4 ?_; refine Au f_ rfl Aa () (by rw [D6v hlt h16 hok]) (fun w hs => (hs.l8).Ba)
   ·refine Gr ?_; refine A1 (fun w hs => ?_) (next0 (i + 1) _ ⟨hlt, fun j hj => (by rcases Nat.lt_succ_iff_lt_or_eq.mp hj with h | h; exact hok j h; subst h; exact h16)⟩ A4 E1); exact (hs.l9).Ba
  ·have hge : i = l.length := by have := of_decide_eq_false h9; omega
   refine Pc ?_; refine Au f_ rfl Aa () (by rw [C6o (by rw [← hge]; exact hok)]) (fun w hs => hs.l8)
theorem Us (l : List Cl) (a : SH) (c : FuncId) (cap : List Value) (FΓ : List Fact) (M : List Be) (g : Cl → Bool) (hc : ∀ (args : Array Value) (w : World), (callFunc c args).run prog w = .ok (.enter c args) w) (hcl : ∀ x, x ∈ l → Spec prog c (Hp x :: cap).toArray FΓ M (fun _ : Unit => .bool (g x)) (fun _ => []) (fun _ => M)) : Spec prog 198 #[sl a l.length, .func (.func c) #[] cap.toArray] (CL l a :: FΓ) M (fun _ : Unit => .bool (l.any g)) (fun _ => []) (fun _ => M) := by
 refine Dd ntmps198 fun B hB => ?_
 refine C1k ?_; refine q0 rfl (A0 call250 (B9y l a c cap FΓ M g hc hcl) (fun x7 => ?_) (hm := C2d)); refine B2m ?_; refine Ct ?_; refine Au f_ rfl Aa () (by rw [B6b]) (fun w hs => (hs.l8).Ba)
theorem B1b (c d : Cl) (hc : u32 c) (hd : u32 d) (b : Nat) : Spec prog 199 #[Hp d, pz b] [] [Ad b (Aw c) 107] (fun _ : Unit => .bool (!decide (c = d) && below c d)) (fun _ => []) (fun _ => [Ad b (Aw c) 107]) := by
 refine Dd ntmps199 fun B hB => ?_
 refine Ax ?_; refine q0 rfl (B0 fun b2 => ?_); refine Ct ?_; refine Fm ?_; refine Ga ?_; refine q0 rfl (E6n ?_ (c := c) (c' := d)); refine Ez ?_; refine qI rfl rfl rfl Nh (fun hg7 => Oo ?_) (fun hg7 => ?_)
 ·refine qT rfl rfl rfl (Oo ?_); refine qT rfl rfl rfl (A0 call200 (C0z c d hc hd) (fun x10 => ?_)); refine Iu ?_; refine Au f_ rfl Aa () (by simp_all) (fun w hs => (hs.l8).drop)
 ·refine K4 ?_; refine It ?_; refine Au f_ rfl Aa () (by simp_all) (fun w hs => (hs.l8).drop)
theorem B5t (l : List Cl) (a : SH) (c : Cl) (hc : u32 c) (b : Nat) : Spec prog 197 #[Hp c, pz b] [CL l a] [Ad b [sl a l.length] 22] (fun _ : Unit => .bool (Cs l c)) (fun _ => []) (fun _ => [Ad b [sl a l.length] 22]) := by
 refine Dd ntmps197 fun B hB => ?_
 refine A7 (l := l) (a := a) (fun hl1 hA1 hU1 => ?_); refine Ax ?_; refine q0 rfl (B0 fun b2 => ?_); refine Od ?_; refine Q5 ?_; refine L0 ?_; refine q0 rfl (A0 call198 (Us l a 199 [pz b2] [] [Ad b2 (Aw c) 107] (fun d => !decide (c = d) && below c d) call199 (fun d hd => B1b c d hc (hU1 d hd) b2)) (fun x6 => ?_)); refine Ct ?_; refine Au f_ rfl Aa () rfl (fun w hs => (hs.l8).drop)
theorem Zr (l : List Cl) (c : Cl) : A8 (l ++ [c]) = A8 l ++ Aw c := by simp [A8]
theorem A9n (l : List Cl) (a : SH) (n : Nat) (hn : n = l.length) (hb : n * 8 ≤ reach) :
  Spec prog 201 #[sl a n, .func (.func 202) #[] #[]] [] [Aj 2 107 a n (A8 l)] (fun _ : {l' : List Cl // B2g l l'} => .tuple #[]) (fun _ => []) (fun x => [Aj 2 107 a n (A8 x.1)]) := by
 subst hn; intro ok w hok hs; have hown : w.ownsRow 0 107 2 (sl a l.length) l.length (A8 l) := hs.res _ List.mem_cons_self w (fun _ _ => rfl); rcases hown.2 with ⟨h1, h2⟩ | ⟨g, cap, cur, h1, h2, h3, h4, h5, h6, h7⟩
 ·have hl : l = [] := List.eq_nil_of_length_eq_zero h2; subst hl; have hc := AnyF.slices_SortFunc_none (P := prog) Tryz.D8n a.1 a.2 (.func (.func 202) #[] #[]) w; have hc2 : Calls prog 201 #[sl a 0, .func (.func 202) #[] #[]] w _ := hc; refine hc2.mono ?_; rintro e w' ⟨he, hw⟩; subst hw; exact ⟨⟨[], List.Perm.refl _, List.Pairwise.nil⟩, he, hs⟩
 ·obtain ⟨ao, ac⟩ := a; have e1 : ao = some ⟨g, 0, none⟩ := by injection h1
  have e2 : ac = cap := by injection h1
  subst e1; subst e2
  have hfl : cur.toList = A8 l ++ cur.toList.drop (l.length * 2) := by
   have := List.take_append_drop (l.length * 2) cur.toList; rw [h7] at this; exact this.symm
  have hbox : St ⟨ok, Bq [Aj 2 107 (some ⟨g, 0, none⟩, ac) l.length (A8 l)], w⟩ [] [Ad g (A8 l ++ cur.toList.drop (l.length * 2)) 107] w := by
   refine hs.Er (m' := Ad g (A8 l ++ cur.toList.drop (l.length * 2)) 107) (Vh.refl _ _) (fun w2 hw2 => ?_) (fun b hb => ?_)
   ·show w2.heap[g]? = _; rw [hw2 g rfl, ← hfl, Array.toArray_toList]; exact h3
   ·have hb : b = g := hb; subst hb; exact ⟨(Array.getElem?_eq_some_iff.mp h3).1, .inl rfl⟩
  have hdom : ∀ b, Bq [Aj 2 107 (some ⟨g, 0, none⟩, ac) l.length (A8 l)] b ↔ Bq [Ad g (A8 l ++ cur.toList.drop (l.length * 2)) 107] b := by
   intro b; rw [Gj, Gj]
   have : (Aj 2 107 (some ⟨g, 0, none⟩, ac) l.length (A8 l)).dom b ↔ b = g := by
    show (sl (some ⟨g, 0, none⟩, ac) l.length).ownBlock = some b ↔ b = g; simp only [sl, Value.ownBlock, Option.some.injEq]; exact eq_comm
   rw [this]; rfl
  have hd2 : Bq [Aj 2 107 (some ⟨g, 0, none⟩, ac) l.length (A8 l)] = Bq [Ad g (A8 l ++ cur.toList.drop (l.length * 2)) 107] := funext fun b => propext (hdom b)
  rw [hd2] at hbox; refine (C4z l g ac (cur.toList.drop (l.length * 2)) (by unfold reach at hb; omega) ok w (fun b hb => ⟨(hok b hb).1, by rw [← hd2]; exact (hok b hb).2⟩) hbox).mono ?_; rintro e w' ⟨x, he, hs'⟩; refine ⟨⟨x.1, x.2.1, x.2.2⟩, he, ?_⟩; rw [hd2]; have hlen : x.1.length = l.length := x.2.1.length_eq; have hg : w'.heap[g]? = some (.cells (A8 x.1 ++ cur.toList.drop (l.length * 2)).toArray 107 (0, 0)) := hs'.res _ List.mem_cons_self w' (fun _ _ => rfl); have hfl2 : (A8 x.1).length = l.length * 2 := by rw [Ko F7, hlen]
  refine hs'.Er (m' := Aj 2 107 (some ⟨g, 0, none⟩, ac) l.length (A8 x.1)) (Vh.refl _ _) (fun w2 hw2 => ⟨hfl2, .inr ⟨g, ac, (A8 x.1 ++ cur.toList.drop (l.length * 2)).toArray, rfl, Nat.zero_le _, ?_, h4, h5, ?_, ?_⟩⟩) (fun b hb => ?_)
  ·rw [hw2 g rfl]; exact hg
  ·have h8 : cur.toList.length = ac * 2 := by simpa using h6
   simp only [List.size_toArray, List.length_append, List.length_drop, hfl2, h8]; omega
  ·rw [← hfl2, List.take_left]
  ·have hb : (sl (some ⟨g, 0, none⟩, ac) l.length).ownBlock = some b := hb; simp only [sl, Value.ownBlock, Option.some.injEq] at hb; subst hb; exact ⟨(Array.getElem?_eq_some_iff.mp hg).1, .inl rfl⟩
theorem A7v (l : List Cl) (a : SH) : Spec prog 110 #[sl a l.length] [CL l a] [] (fun x : {x : SH × Int × List Cl // Jg l x.2} => .tuple #[sl x.1.1 x.1.2.2.length, iv x.1.2.1]) (fun _ => []) (fun x => [Aj 2 107 x.1.1 x.1.2.2.length (A8 x.1.2.2)]) := by
 refine Dd ntmps110 fun B hB => ?_
 refine A7 (l := l) (a := a) (fun hl1 hA1 hU1 => ?_); refine Gl ?_; refine Ax ?_; refine q0 rfl (C5u fun b12 => ?_); refine Od ?_; refine q0 rfl (B3 fun b5 => ?_); refine Kz ?_; refine B2r ?_; refine Fg (X := Nat × SH) (fun s => s.1 ≤ l.length ∧ ∀ j, j < s.1 → Ar (l.getD j Bo) = true) (fun s => [(4, .map (some b12)), (5, pz b5), (13, sl a l.length), (14, iv (l.length : Int)), (15, iv (s.1 : Int))]) (fun s => [CL l a]) (fun s => [A2n b12 (once (l.take s.1)), Ad b5 [sl s.2 (once (l.take s.1)).length] 22, Aj 2 107 s.2 (once (l.take s.1)).length (A8 (once (l.take s.1)))]) (fun s => l.length - s.1) ((0, (none, 0))) (⟨Nat.zero_le _, fun j hj => absurd hj (Nat.not_lt_zero _)⟩) (by exact E1) ?_ ?_
 ·exact fun w hs => ((hs.l8).Bh 2 107).perm (Bf.trans ((List.Perm.swap _ _ _).cons _))
 ·intro ⟨i, aO⟩ base0 ⟨hi, hok⟩ next0; dsimp only at hi hok next0 ⊢; refine Ek ?_; refine A9 (fun h16 => ?_) (fun h16 => ?_)
  ·have hlt : i < l.length := by have := of_decide_eq_true h16; omega
   obtain ⟨bk, o, hav⟩ := hA1 A4; have hu := hU1 _ (Ac (d := Bo) hlt); have hol := A5c l i; refine Gq ?_; refine Tx ?_; refine Tw ?_; refine q0 rfl (B3 fun b7 => ?_); refine J5 ?_; refine Fm ?_; refine q0 rfl (A0 call196 (Py (l.getD i Bo) hu) (fun x20 => ?_)); refine Lw ?_; refine A9 (fun h21 => ?_) (fun h21 => ?_)
   ·have hr : Ar (l.getD i Bo) = false := by simpa using h21
    refine Gl ?_; refine Bd f_ rfl Aa Aa ⟨((none, 0), 2, []), by (unfold Jg; rw [D8b hlt hr]; rfl)⟩ rfl (fun w hs => (hs.l7).bare.Bh 2 107)
   ·have hr : Ar (l.getD i Bo) = true := by simpa using h21
    refine Ij ?_; refine Ub ?_; refine q0 rfl (C5v ?_); refine Lw ?_; refine A9 (fun h25 => ?_) (fun h25 => ?_)
    ·have hnin : l.getD i Bo ∉ once (l.take i) := by simpa using h25
     refine Ub ?_; refine q0 rfl (D1d ?_); refine Kz ?_; refine Jm ?_; refine Q5 ?_; refine Ga ?_; refine q0 rfl (Ed fun b30 => ?_); refine q0 rfl (Ex (fun a31 => ?_)  ); refine Ep ?_; refine A9a ?_; have hst := Sf hlt; rw [if_neg hnin] at hst; have hlen' : (once (l.take (i + 1))).length = (once (l.take i)).length + 1 := by rw [hst]; simp
     refine A1 (fun w hs => ?_) (next0 (i + 1, a31) _ ⟨hlt, fun j hj => (by rcases Nat.lt_succ_iff_lt_or_eq.mp hj with h | h; exact hok j h; subst h; exact hr)⟩ (by simp only; omega) E1); dsimp only; rw [hlen', hst, Zr]; exact ((hs.l8).perm Dz).Ba (A := [_, _, _])
    ·refine Gr ?_; have hin : l.getD i Bo ∈ once (l.take i) := by simpa using h25
     have hst := Sf hlt; rw [if_pos hin] at hst; refine A1 (fun w hs => ?_) (next0 (i + 1, aO) _ ⟨hlt, fun j hj => (by rcases Nat.lt_succ_iff_lt_or_eq.mp hj with h | h; exact hok j h; subst h; exact hr)⟩ (by simp only; omega) E1); dsimp only; rw [hst]; exact (hs.l8).drop
  ·have hge : i = l.length := by have := of_decide_eq_false h16; omega
   have hall : l.all Ar = true := E5c (by rw [← hge]; exact hok); subst hge; rw [List.take_length]; have hUo : ∀ c, c ∈ once l → u32 c := fun c hc => hU1 c ((Po c l).mp hc)
   have hol := Wh l; refine A1 (fun w hs => ((hs.perm Bf).Ci hB rfl rfl A4 hUo)) ?_; refine H3 ?_; refine Ax ?_; refine L0 ?_; refine Ct ?_; refine Co ?_; refine Jd ?_; refine Ax ?_; refine Q5 ?_; refine A8z ?_; refine Fg (X := Nat × SH) (fun s => s.1 ≤ (once l).length) (fun s => [(8, .func (.func 197) #[] [pz b5].toArray), (9, sl s.2 (Gy l s.1).length), (34, sl aO (once l).length), (35, iv ((once l).length : Int)), (36, iv (s.1 : Int))]) (fun s => [CL (once l) aO]) (fun s => [Ad b5 [sl aO (once l).length] 22, Aj 2 107 s.2 (Gy l s.1).length (A8 (Gy l s.1))]) (fun s => (once l).length - s.1) ((0, (none, 0))) (Nat.zero_le _) (by exact E1) ?_ ?_
   ·exact fun w hs => (((hs.l9).Bh 2 107).perm Bf).Ba (A := [_, _])
   ·intro ⟨i, aK⟩ base1 hi next1; dsimp only at hi next1 ⊢; refine Ek ?_; refine A9 (fun h37 => ?_) (fun h37 => ?_)
    ·have hlt : i < (once l).length := by have := of_decide_eq_true h37; omega
     refine A7 (l := once l) (a := aO) (fun _ hA2 _ => ?_); obtain ⟨bk, o, hav⟩ := hA2 A4; have hu := hUo _ (Ac (d := Bo) hlt); have hkl := B1d l i; refine Gq ?_; refine Tx ?_; refine Tw ?_; refine q0 rfl (B3 fun b11 => ?_); refine Ep ?_; refine Ub ?_; refine q0 rfl (Ca call197 (B5t (once l) aO ((once l).getD i Bo) hu b5) (cap := [pz b5]) (fun x42 => ?_)); refine Lw ?_; refine A9 (fun h43 => ?_) (fun h43 => ?_)
     ·refine Ea ?_; refine Ga ?_; refine q0 rfl (Ed fun b46 => ?_); refine q0 rfl (Ex (fun a47 => ?_)  ); refine Of ?_; have hnd : Cs (once l) ((once l).getD i Bo) = false := by simpa using h43
      have hst := Un hlt; rw [hnd, if_neg Iy] at hst; have hlen' : (Gy l (i + 1)).length = (Gy l i).length + 1 := by rw [hst]; simp
      refine A1 (fun w hs => ?_) (next1 (i + 1, a47) _ hlt (by simp only; omega) ⟨rfl, by rw [hlen']; rfl, rfl, rfl, rfl, trivial⟩); dsimp only; rw [hlen', hst, Zr]; exact ((hs.l8).perm Bf).Ba (A := [_, _])
     ·refine Gr ?_; have hnd : Cs (once l) ((once l).getD i Bo) = true := by simpa using h43
      have hst := Un hlt; rw [hnd, if_pos rfl] at hst; refine A1 (fun w hs => ?_) (next1 (i + 1, aK) _ hlt (by simp only; omega) ⟨rfl, by rw [hst]; rfl, rfl, rfl, rfl, trivial⟩); dsimp only; rw [hst]; exact (hs.l8).Ba (A := [_, _])
    ·have hge2 : i = (once l).length := by have := of_decide_eq_false h37; omega
     subst hge2; rw [B1e]; refine H3 ?_; refine Ii ?_; refine K5 ?_; refine B2n ?_; refine Kz ?_; refine A9 (fun h51 => ?_) (fun h51 => ?_)
     ·have h64 : 64 < (kept l).length := by have := of_decide_eq_true h51; omega
      refine Gl ?_; refine Bd f_ rfl Aa Aa ⟨((none, 0), 3, []), by (unfold Jg; rw [hall, if_neg Iy, if_pos h64])⟩ rfl (fun w hs => (hs.l7).bare.Bh 2 107)
     ·have h64 : ¬ 64 < (kept l).length := by have := of_decide_eq_false h51; omega
      refine Vp ?_; refine q0 rfl (A0 call201 (A9n (kept l) aK (kept l).length rfl (by unfold reach; omega)) (fun x53 => ?_)); refine Kz ?_; refine H2 ?_; have hpl : x53.1.length = (kept l).length := x53.2.1.length_eq; refine Bd f_ rfl Aa Aa ⟨(aK, 0, x53.1), by (unfold Jg; rw [hall, if_neg Iy, if_neg h64]; exact ⟨rfl, x53.2⟩)⟩ (by rw [hpl]; rfl) (fun w hs => ?_); have h := (hs.l7).Ba (A := [_]); rw [← hpl] at h; exact h
theorem B9u (l : List Cl) (a : SH) : Spec prog 110 #[sl a l.length] [CL l a] [] (fun x : {x : SH × Int × List Cl // Jg l x.2} => .tuple #[sl x.1.1 x.1.2.2.length, iv x.1.2.1]) (fun x => [CL x.1.2.2 x.1.1]) (fun _ => []) := fun ok w hok hs => (A7v l a ok w hok hs).mono fun e w' h => by
 obtain ⟨x, he, hs'⟩ := h; have hu := (hs.facts _ List.mem_cons_self).2
 have hx : x.1.2.2.length ≤ 64 ∧ ∀ c, c ∈ x.1.2.2 → u32 c := by
  have h := x.2; unfold Jg at h; split at h
  ·rw [h]; exact ⟨Nat.zero_le _, fun c hc => by cases hc⟩
  ·split at h
   ·rw [h]; exact ⟨Nat.zero_le _, fun c hc => by cases hc⟩
   ·rename_i h64; exact ⟨by rw [h.2.1.length_eq]; omega, fun c hc => hu c (D2f (h.2.1.mem_iff.mp hc))⟩
 exact ⟨x, he, (hs'.Ci trivial rfl rfl (by unfold reach; omega) hx.2).l8⟩
theorem C0h (l m : List Cl) (a b : SH) : Spec prog 111 #[sl a l.length, sl b m.length] [CL l a, CL m b] [] (fun _ : Unit => .bool (decide (l = m))) (fun _ => []) (fun _ => []) := by
 refine Dd ntmps111 fun B hB => ?_
 refine A7 (l := l) (a := a) (fun hl1 hA1 hU1 => ?_); refine A7 (l := m) (a := b) (fun hl2 hA2 hU2 => ?_); refine Co ?_; refine Ii ?_; refine K5 ?_; refine Ez ?_; refine K5 ?_; refine C8g ?_; refine A9 (fun h10 => ?_) (fun h10 => ?_)
 ·have hne : ¬ l = m := fun e => by subst e; simp at h10
  refine Co ?_; refine Au f_ rfl Aa () (by rw [decide_eq_false hne]) (fun w hs => hs.none)
 ·have hlen : l.length = m.length := by simp at h10; omega
  refine Ij ?_; refine B2r ?_; refine Fg (X := Nat) (fun i => i ≤ l.length ∧ ∀ j, j < i → l.getD j Bo = m.getD j Bo) (fun i => [(0, sl a l.length), (1, sl b m.length), (12, iv (l.length : Int)), (13, iv (i : Int))]) (fun i => [CL l a, CL m b]) (fun i => []) (fun i => l.length - i) (0) (⟨Nat.zero_le _, fun j hj => by omega⟩) (by exact E1) ?_ ?_
  ·exact fun w hs => hs.l9
  ·intro i base0 ⟨hi, hok⟩ next0; refine Ek ?_; refine A9 (fun h14 => ?_) (fun h14 => ?_)
   ·have hlt : i < l.length := by have := of_decide_eq_true h14; omega
    have hlt2 : i < m.length := by omega
    obtain ⟨bk, o, hav⟩ := hA1 A4; obtain ⟨bk2, o2, hav2⟩ := hA2 A4; refine Zv ?_; refine Fs ?_; refine Hb ?_; refine Bk (pn := 1000000) (tn := false) (A := [0, 0, 3, 7, 0, 0, 48, 112, 255]) (l := [0, 1, 2, 3, 4, 5, 6, 7, 8]) (fin := []) Tab.mixed ⟨_, func111⟩ (by rfl) ?_; refine Ir ?_; refine n0 rfl (Og ?_); refine n0 rfl (C1p ?_); refine Ir ?_; refine n0 rfl (Og ?_); refine n0 rfl (C1p ?_); refine n0 rfl (D8i ?_); refine Uu ?_; refine A9 (fun h24 => ?_) (fun h24 => ?_)
    ·refine Co ?_; refine Au f_ rfl Aa () (by rw [decide_eq_false (fun e => by subst e; simp at h24)]) (fun w hs => hs.none)
    ·refine Gr ?_; have hb : l.getD i Bo = m.getD i Bo := by simpa using h24
     refine A1 (fun w hs => ?_) (next0 (i + 1) _ ⟨hlt, fun j hj => (by rcases Nat.lt_succ_iff_lt_or_eq.mp hj with h | h; exact hok j h; subst h; exact hb)⟩ A4 E1); exact hs
   ·have hge : i = l.length := by have := of_decide_eq_false h14; omega
    refine Pc ?_; refine Au f_ rfl Aa () (by rw [decide_eq_true (Qs hlen (by rw [← hge]; exact hok))]) (fun w hs => hs.none)
theorem Fw : D4n := by
 intro l a; refine Dd ntmps63 fun B hB => ?_
 refine Bs (p := True) (fun _ _ => trivial) (fun _ => ?_); refine Nf ?_; refine q0 rfl (A0 call110 (B9u l a) (fun x7 => ?_)); refine L6 ?_; refine Fs ?_; refine A9f ?_; refine Ez ?_; refine qI rfl rfl rfl Nh (fun hg12 => G4 ?_) (fun hg12 => ?_)
 ·refine Mj ?_; refine qT rfl rfl rfl (A0 call111 (C0h x7.1.2.2 l x7.1.1 a) (fun x15 => ?_)); refine Iu ?_; have hlr := Sn x7.2; refine Au f_ rfl Aa () (by rw [← hlr]; simp_all) (fun w hs => hs.none)
 ·refine K4 ?_; refine It ?_; have hlr := Sn x7.2; refine Au f_ rfl Aa () (by rw [← hlr]; simp_all) (fun w hs => hs.none)
theorem O2 : A8y := by
 intro l a; refine Dd ntmps193 fun B hB => ?_
 refine A7 (l := l) (a := a) (fun hl1 hA1 hU1 => ?_); refine Nf ?_; refine q0 rfl (A0 call63 (Fw l a) (fun x4 => ?_)); refine Ez ?_; refine qI rfl rfl rfl Nh (fun hg5 => G4 ?_) (fun hg5 => ?_)
 ·refine qT rfl rfl rfl (A0 call198 (Us l a 248 [] [] [] I0 call248 (fun x hx => A3x x (hU1 x hx))) (fun x7 => ?_)); refine A9b ?_; refine Iu ?_; refine Au f_ rfl Aa () (by simp_all [A5]) (fun w hs => hs.none)
 ·refine K4 ?_; refine It ?_; refine Au f_ rfl Aa () (by simp_all [A5]) (fun w hs => hs.none)
theorem Lj : C1i := ⟨Fw, O2, V9⟩
theorem E4r {q i : Nat} (h : q < 16777216) : q / 2 ^ (i + 1) * 2 ^ i < 16777216 := by
 have h1 : q / 2 ^ (i + 1) * 2 ^ i ≤ q / 2 ^ i * 2 ^ i := Nat.mul_le_mul_right _ (Nat.div_le_div_left (Nat.pow_le_pow_right A4 A4) (Nat.pow_pos A4)); have h2 := Nat.div_mul_le_self q (2 ^ i); omega
theorem A6z {m : Nat} (h : m ≤ 24) : 2 ^ m ≤ 16777216 := Nat.pow_le_pow_right (n := 2) (j := 24) A4 h
theorem B1x (i : Int) (h0 : 0 ≤ i) : Spec prog 239 #[iv (i)] [] [] (fun _ : Unit => .int .u32 (((2 ^ (min i.toNat 24) - 1) : Nat) : Int)) (fun _ => []) (fun _ => []) := by
 refine Dd ntmps239 fun B hB => ?_
 have hp := A6z (m := min i.toNat 24) A4; have hpos : 0 < 2 ^ (min i.toNat 24) := Nat.pow_pos A4; refine Nf ?_; refine C4h ?_; refine q0 rfl (M4 ?_ (m := min i.toNat 24) (ha := by split <;> omega)); refine q0 rfl (B9i ?_ (a := 1) (m := min i.toNat 24) (hm := by omega) (hb := by omega)); refine q0 rfl (E0y ?_ (a := 1 * 2 ^ (min i.toNat 24)) (b := 1) (h := by omega) (ha := by omega)); refine q0 rfl (B4w ?_ (a := 1 * 2 ^ (min i.toNat 24) - 1) (ha := by omega)); refine Ct ?_; refine Au f_ rfl Aa () (by rw [Nat.one_mul]) (fun w hs => hs.none)
theorem A8j (s : Nat) (i : Int) (hs : s < 4294967296) (hi : Ap i) : Spec prog 171 #[.int .u32 ((s : Nat) : Int), iv (i)] [] [] (fun _ : Unit => .int .u32 (((Fa s i) : Nat) : Int)) (fun _ => []) (fun _ => []) := by
 refine Dd ntmps171 fun B hB => ?_
 have hs24 := Ig s; refine Nf ?_; refine q0 rfl (J9 ?_ (a := s) (b := 16777215)); refine Ct ?_; refine Ii ?_; refine q0 rfl (A0 call195 (Ie i ) (fun x8 => ?_)); refine Lw ?_; refine C5 (!(decide (0 ≤ i) && decide (i < 24))) (fun h9 c9 => ?_) (fun h9 c9 => ?_)
 ·refine J4 ?_; refine Au f_ rfl Aa () (by rw [Fa, if_neg (by simp at h9; omega)]) (fun w hs => hs.none)
 ·have hp := A6z (m := min i.toNat 24) A4; have hpos : 0 < 2 ^ (min i.toNat 24) := Nat.pow_pos A4; have hmn : min i.toNat 24 = i.toNat := by omega
  have hlt32 : (s &&& 16777215) / 2 ^ (i.toNat + 1) * 2 ^ i.toNat < 16777216 := E4r (i := i.toNat) hs24; refine K6 ?_; refine q0 rfl (A0 call239 (B1x i Ls) (fun x13 => ?_)); refine q0 rfl (J9 ?_ (a := s &&& 16777215) (b := 2 ^ (min i.toNat 24) - 1) (ha := by omega) (hb := by omega)); refine Gs ?_; refine Uw ?_; refine q0 rfl (M4 ?_ (m := i.toNat + 1) (ha := by omega)); refine q0 rfl (A2d ?_ (a := s &&& 16777215) (m := i.toNat + 1)); refine Ez ?_; refine q0 rfl (M4 ?_ (m := i.toNat) (ha := by omega)); refine q0 rfl (A2e ?_ (a := (s &&& 16777215) / 2 ^ (min (i.toNat + 1) 32)) (m := i.toNat)); refine q0 rfl (Ql ?_ (ha := by exact Nat.lt_of_le_of_lt Nat.and_le_left A4) (hb := by exact Nat.mod_lt _ A4)); refine Ct ?_; refine Au f_ rfl Aa () (by rw [Fa, if_pos A4, hmn, show min (i.toNat + 1) 32 = i.toNat + 1 by omega, show min i.toNat 32 = i.toNat by omega, Nat.mod_eq_of_lt A4]) (fun w hs => hs.none)
theorem Um (s : Nat) (f : Int) (b : Int) (hs : s < 4294967296) (hi : Ap f) (hib : Ap b) : Spec prog 238 #[.int .u32 ((s : Nat) : Int), iv (f), iv (b)] [] [] (fun _ : Unit => .tuple #[.int .u32 (((Ae s f b).2 : Nat) : Int), iv ((Ae s f b).1)]) (fun _ => []) (fun _ => []) := by
 refine Dd ntmps238 fun B hB => ?_
 have hs24 := Ig s; have hp := A6z (m := min f.toNat 24) A4; have hpos : 0 < 2 ^ (min f.toNat 24) := Nat.pow_pos A4; have hhi : Bg (s &&& 16777215) (2 ^ (min f.toNat 24) - 1) < 16777216 := A8w hs24; have hlo : (s &&& 16777215) &&& (2 ^ (min f.toNat 24) - 1) < 16777216 := Nat.lt_of_le_of_lt Nat.and_le_left hs24; refine Gl ?_; refine Uc ?_; refine Cb ([(0, .int .u32 ((s : Nat) : Int)), (1, iv (f)), (2, iv (b)), (15, .bool ((decide (f < 0)) || (decide (b < 0))))]) (fun hK => ?_) (fun base => ?_)
 ·refine Ea ?_; refine Xl ?_; refine Ez ?_; refine Xi rfl (decide (f < 0)) (fun hg12 g12 => ?_) (fun hg12 g12 => ?_)
  ·refine Vj ?_; refine B7z ?_; refine J2 ?_; exact hK _ ⟨rfl, rfl, rfl, O9, trivial⟩
  ·refine U7 ?_; exact hK _ ⟨rfl, rfl, rfl, O9, trivial⟩
 ·refine C5 ((decide (f < 0)) || (decide (b < 0))) (fun h15 c15 => ?_) (fun h15 c15 => ?_)
  ·have hg : Ae s f b = (2, 0) := by rw [Ae, if_pos A4]
   refine Gl ?_; refine Bd f_ rfl Aa Aa () (by first | (rw [hg]; done) | (rw [hg]; rfl)) (fun w hs => hs.none)
  ·have hfb : 0 ≤ f ∧ 0 ≤ b := by omega
   refine Vp ?_; refine q0 rfl (J9 ?_ (a := s) (b := 16777215)); refine Ct ?_; refine Xj ?_; refine q0 rfl (A0 call239 (B1x f Ls) (fun x20 => ?_)); refine q0 rfl (J9 ?_ (a := s &&& 16777215) (b := 2 ^ (min f.toNat 24) - 1) (ha := by omega) (hb := by omega)); refine Ct ?_; refine Xj ?_; refine q0 rfl (A0 call239 (B1x f Ls) (fun x24 => ?_)); refine q0 rfl (Sg ?_ (a := (s &&& 16777215)) (b := (2 ^ (min f.toNat 24) - 1))); refine q0 rfl (D1f ?_ (a := Bg (s &&& 16777215) (2 ^ (min f.toNat 24) - 1))); refine Ct ?_; refine Ii ?_; refine q0 rfl (Ze ?_ (a := ((Bg (s &&& 16777215) (2 ^ (min f.toNat 24) - 1) : Nat) : Int)) (b := 0)); refine Kz ?_; refine C5 (decide (((Bg (s &&& 16777215) (2 ^ (min f.toNat 24) - 1) : Nat) : Int) = 0)) (fun h28 c28 => ?_) (fun h28 c28 => ?_)
   ·have hz : Bg (s &&& 16777215) (2 ^ (min f.toNat 24) - 1) = 0 := by omega
    have hg : Ae s f b = (0, (s &&& 16777215) &&& (2 ^ (min f.toNat 24) - 1)) := by rw [Ae, if_neg A4, if_pos hz]
    refine H2 ?_; refine Bd f_ rfl Aa Aa () (by first | (rw [hg]; done) | (rw [hg]; rfl)) (fun w hs => hs.none)
   ·have hz : ¬ Bg (s &&& 16777215) (2 ^ (min f.toNat 24) - 1) = 0 := by omega
    refine J0 ?_; refine Jd ?_; refine Cb ([(2, iv (b)), (8, .int .u32 ((((s &&& 16777215) &&& (2 ^ (min f.toNat 24) - 1)) : Nat) : Int)), (9, .int .u64 (((Bg (s &&& 16777215) (2 ^ (min f.toNat 24) - 1) : Nat) : Int))), (38, .bool ((decide (24 ≤ b)) || (decide (16777215 < ((Bg (s &&& 16777215) (2 ^ (min f.toNat 24) - 1) * 2 ^ b.toNat : Nat) : Int)))))]) (fun hK => ?_) (fun base => ?_)
    ·refine Ea ?_; refine B2m ?_; refine Ez ?_; refine Xi rfl (decide (24 ≤ b)) (fun hg32 g32 => ?_) (fun hg32 g32 => ?_)
     ·refine Vj ?_; refine Mj ?_; refine qT rfl rfl rfl (M4 ?_ (m := b.toNat) (ha := by omega)); refine qT rfl rfl rfl (B9i ?_ (a := Bg (s &&& 16777215) (2 ^ (min f.toNat 24) - 1)) (m := b.toNat) (hm := by omega) (hb := by have := A6z (m := b.toNat) A4; have h9 := Nat.mul_le_mul (Nat.le_of_lt hhi) this; omega)); refine qT rfl rfl rfl (D1e ?_ (a := ((Bg (s &&& 16777215) (2 ^ (min f.toNat 24) - 1) * 2 ^ b.toNat : Nat) : Int)) (b := 16777215)); refine J2 ?_; exact hK _ ⟨rfl, rfl, rfl, O9, trivial⟩
     ·refine Jp ?_; refine Mi ?_; exact hK _ ⟨rfl, rfl, rfl, O9, trivial⟩
    ·refine C5 ((decide (24 ≤ b)) || (decide (16777215 < ((Bg (s &&& 16777215) (2 ^ (min f.toNat 24) - 1) * 2 ^ b.toNat : Nat) : Int)))) (fun h38 c38 => ?_) (fun h38 c38 => ?_)
     ·have hg : Ae s f b = (10, 0) := by rw [Ae, if_neg A4, if_neg hz, if_pos A4]
      refine Gl ?_; refine Bd f_ rfl Aa Aa () (by first | (rw [hg]; done) | (rw [hg]; rfl)) (fun w hs => hs.none)
     ·have hbig : ¬ (24 ≤ b ∨ 16777215 < Bg (s &&& 16777215) (2 ^ (min f.toNat 24) - 1) * 2 ^ b.toNat) := by omega
      have hg : Ae s f b = (0, ((s &&& 16777215) &&& (2 ^ (min f.toNat 24) - 1)) ||| (Bg (s &&& 16777215) (2 ^ (min f.toNat 24) - 1) * 2 ^ b.toNat)) := by rw [Ae, if_neg A4, if_neg hz, if_neg hbig]
      refine K6 ?_; refine Ez ?_; refine q0 rfl (M4 ?_ (m := b.toNat) (ha := by omega)); refine q0 rfl (B9i ?_ (a := Bg (s &&& 16777215) (2 ^ (min f.toNat 24) - 1)) (m := b.toNat) (hm := by omega) (hb := by omega)); refine q0 rfl (B4w ?_ (a := Bg (s &&& 16777215) (2 ^ (min f.toNat 24) - 1) * 2 ^ b.toNat) (ha := by omega)); refine q0 rfl (Ql ?_ (a := (s &&& 16777215) &&& (2 ^ (min f.toNat 24) - 1)) (b := Bg (s &&& 16777215) (2 ^ (min f.toNat 24) - 1) * 2 ^ b.toNat) (ha := by omega) (hb := by omega)); refine Lu ?_; refine Bd f_ rfl Aa Aa () (by first | (rw [hg]; done) | (rw [hg]; rfl)) (fun w hs => hs.none)
theorem B7a (c : Cl) (f : Int) (b : Int) (hc : u32 c) (hi : Ap f) (hib : Ap b) : Spec prog 169 #[Hp c, iv (f), iv (b)] [] [] (fun _ : Unit => .tuple #[Hp ((B1 c f b).2), iv ((B1 c f b).1)]) (fun _ => []) (fun _ => []) := by
 refine Dd ntmps169 fun B hB => ?_
 have hcp := hc.1; have hcn := hc.2; have hp1 := H7 c.pos f b; have hp2 := H7 c.neg f b; refine Ax ?_; refine q0 rfl (B0 fun b3 => ?_); refine q0 rfl (B3 fun b6 => ?_); refine Hb ?_; refine Fm ?_; refine q0 rfl (A0 call196 (Py c Ls) (fun x12 => ?_)); refine Lw ?_; refine C5 (!(Ar c)) (fun h13 c13 => ?_) (fun h13 c13 => ?_)
 ·have hg : B1 c f b = (2, Bo) := by rw [B1, if_pos (by simpa using h13)]
  refine Ax ?_; refine q0 rfl (B2 (cs := [.int .u32 ((((⟨0, 0⟩ : Cl)).pos : Nat) : Int), .int .u32 ((((⟨0, 0⟩ : Cl)).neg : Nat) : Int)]) ?_); refine Hc ?_; refine E4 f_ rfl () rfl mf_ rfl rfl rfl rfl (by rw [hg]; rfl) (fun w hs => hs.none)
 ·have hr : ¬ Ar c = false := by simpa using h13
  refine Ij ?_; refine Iv ?_; refine Gs ?_; refine q0 rfl (A0 call238 (Um ((c).pos) f b Ls Ls Ls) (fun x20 => ?_)); refine Gp ?_; refine C5 (decide (((Ae ((c).pos) f b).1) ≠ 0)) (fun h24 c24 => ?_) (fun h24 c24 => ?_)
  ·have hg : B1 c f b = ((Ae c.pos f b).1, Bo) := by rw [B1, if_neg hr, if_pos (by simpa using h24)]
   refine Ax ?_; refine q0 rfl (B2 (cs := [.int .u32 ((((⟨0, 0⟩ : Cl)).pos : Nat) : Int), .int .u32 ((((⟨0, 0⟩ : Cl)).neg : Nat) : Int)]) ?_); refine L2 ?_; refine E4 f_ rfl () rfl mf_ rfl rfl rfl rfl (by rw [hg]; rfl) (fun w hs => hs.none)
  ·have hr2 : ¬ (Ae c.pos f b).1 ≠ 0 := by simpa using h24
   refine Ij ?_; refine Iv ?_; refine Gs ?_; refine q0 rfl (A0 call238 (Um ((c).neg) f b Ls Ls Ls) (fun x32 => ?_)); refine Gp ?_; refine C5 (decide (((Ae ((c).neg) f b).1) ≠ 0)) (fun h36 c36 => ?_) (fun h36 c36 => ?_)
   ·have hg : B1 c f b = ((Ae c.neg f b).1, Bo) := by rw [B1, if_neg hr, if_neg hr2, if_pos (by simpa using h36)]
    refine Ax ?_; refine q0 rfl (B2 (cs := [.int .u32 ((((⟨0, 0⟩ : Cl)).pos : Nat) : Int), .int .u32 ((((⟨0, 0⟩ : Cl)).neg : Nat) : Int)]) ?_); refine L2 ?_; refine E4 f_ rfl () rfl mf_ rfl rfl rfl rfl (by rw [hg]; rfl) (fun w hs => hs.none)
   ·have hg : B1 c f b = (0, ⟨(Ae c.pos f b).2, (Ae c.neg f b).2⟩) := by rw [B1, if_neg hr, if_neg hr2, if_neg (by simpa using h36)]
    refine K6 ?_; refine q0 rfl (B2 (cs := [.int .u32 ((((⟨(Ae ((c).pos) f b).2, (Ae ((c).neg) f b).2⟩ : Cl)).pos : Nat) : Int), .int .u32 ((((⟨(Ae ((c).pos) f b).2, (Ae ((c).neg) f b).2⟩ : Cl)).neg : Nat) : Int)]) ?_); refine Hc ?_; refine E4 f_ rfl () rfl mf_ rfl rfl rfl rfl (by rw [hg]; rfl) (fun w hs => hs.none)
theorem O1 (l : List CP) (a_l : SH)  : Spec prog 166 #[sl a_l (l.length)] [Md l a_l] [] (fun _ : Unit => iv ((if l.all (fun p => A6 p.1) then 0 else 2))) (fun _ => []) (fun _ => []) := by
 refine Dd ntmps166 fun B hB => ?_
 refine Oc ?_; refine B5 (X := Nat) (fun s_ => s_ ≤ l.length ∧ ∀ j, j < s_ → A6 (l.getD j E8).1 = true) (fun s_ => [(5, sl a_l (l.length)), (6, iv ((l.length : Int))), (7, iv ((s_ : Int)))]) (fun s_ G_ => G_) (fun s_ => []) (fun s_ => l.length - s_) (0) (⟨Nat.zero_le _, fun j hj => absurd hj (Nat.not_lt_zero _)⟩) (by exact E1) ?_ ?_
 ·exact fun w hs => hs
 ·intro i base0 ⟨hi, hok⟩ next0; refine Ek ?_; refine C5 (decide ((i : Int) < (l.length : Int))) (fun h8 c8 => ?_) (fun h8 c8 => ?_)
  ·refine H4 ?_; refine Ia (l := l) (a := a_l) (bt := 24) (F := D2) (E := Rk) (d := E8) De (fun hl1 hA1 => ?_); refine Ot (l := l) (a := a_l) (bt := 24) (F := D2) (E := Rk) (d := E8) De i A4 ?_; refine Jm ?_; obtain ⟨bk2, o2, hav2⟩ := hA1 A4; refine q0 rfl (Dl ?_ (j := i)); refine q0 rfl (B0r ?_); refine Ct ?_; refine Fs ?_; refine q0 rfl (A0 call63 (Fw (((l).getD i E8).1) (((l).getD i E8).2) ) (fun x12 => ?_)); refine Lw ?_; refine C5 (!(A6 (((l).getD i E8).1))) (fun h13 c13 => ?_) (fun h13 c13 => ?_)
   ·refine Co ?_; refine Au f_ rfl Aa () (by rw [if_neg (by rw [R7 (d := E8) (i := i) A4 (by simpa using h13)]; decide)]) (fun w hs => hs.none)
   ·refine Gr ?_; refine A1 (fun w hs => ?_) (next0 (i + 1) _ (⟨by omega, fun j hj => by rcases Nat.lt_succ_iff_lt_or_eq.mp hj with h | h; exact hok j h; subst h; simpa using h13⟩) A4 E1); exact (hs.l9)
  ·refine Pc ?_; refine Au f_ rfl Aa () (by rw [if_pos (Sx (d := E8) (fun j hj => hok j A4))]) (fun w hs => hs.none)
theorem Qz   : Spec prog 118 #[] [] [] (fun _ : Unit => sl (none, 0) 0) (fun _ => []) (fun _ => []) := by
 refine Dd ntmps118 fun B hB => ?_
 refine Co ?_; refine Co ?_; refine Au f_ rfl Aa () (by first | rfl | (simp_all; done) | (simp_all; omega)) (fun w hs => hs.none)
theorem A3g (l : List Cl) (a : SH) (c : Cl) (g4 : Nat) (f : Int) (g5 : Nat) (b : Int) (hc : u32 c) (hi : Ap f) (hib : Ap b) (hl : l.length * 8 ≤ reach) : Spec prog 168 #[sl a (l.length), Hp c, pz g4, pz g5] [At g4 0 [iv (f)], At g5 0 [iv (b)]] [Aj 2 107 a (l.length) (A8 l)] (fun x : SH => .tuple #[sl x (l.length + 1), iv (B1 c f b).1]) (fun x : SH => []) (fun x : SH => [Aj 2 107 x (l.length + 1) (A8 (l ++ [(B1 c f b).2]))]) := by
 refine Dd ntmps168 fun B hB => ?_
 have hu9 := Vb c f b; refine Ax ?_; refine q0 rfl (B0 fun b5 => ?_); refine Lu ?_; refine Fm ?_; refine J1 ?_; refine J1 ?_; refine q0 rfl (A0 call169 (B7a c f b Ls Ls Ls) (fun x14 => ?_)); refine L1 ?_; refine q0 rfl (B3 fun b8 => ?_); refine Hc ?_; refine Ub ?_; refine q0 rfl (Ed fun b19 => ?_); refine q0 rfl (Ex (fun a20 => ?_) (a := a) (n' := l.length)); refine Am (fun w hs => ((hs.perm Ak).drop).A1a (c := ((B1 c f b).2))) ?_; refine Ez ?_; refine Lu ?_; refine Bd f_ rfl Aa Aa a20 rfl (fun w hs => ((hs.l8).Ba (A := [_])))
set_option maxHeartbeats 4000000 in
theorem A5l (l : List Cl) (a_l : SH) (f b : Int) (g4 g5 : Nat) (hi : Ap f) (hib : Ap b) : Spec prog 167 #[sl a_l (l.length), sl (none, 0) (0), .func (.func 168) #[] [pz g4, pz g5].toArray] [CL l a_l, At g4 0 [iv f], At g5 0 [iv b]] [Aj 2 107 (none, 0) (0) (A8 ([]))] (fun x : SH => .tuple #[sl x (Fh (fun c => B1 c f b) l).2.length, iv (Fh (fun c => B1 c f b) l).1]) (fun x : SH => []) (fun x : SH => [Aj 2 107 x (Fh (fun c => B1 c f b) l).2.length (A8 (Fh (fun c => B1 c f b) l).2)]) := by
 rw [show (#[sl a_l (l.length), sl (none, 0) (0), .func (.func 168) #[] [pz g4, pz g5].toArray] : Array Value) = ([sl a_l (l.length), sl (none, 0) (0), .func (.func 168) #[] [pz g4, pz g5].toArray] : List Value).toArray from rfl]; refine Ge func167 ntmps167 rfl Zl fun B hB => ?_
 refine A7 (l := l) (a := a_l) (fun hl1 hA1 hU1 => ?_); refine Re ?_; refine B5 (X := Nat × SH) (fun s_ => s_.1 ≤ l.length ∧ ∀ j, j < s_.1 → (B1 (l.getD j Bo) f b).1 = 0) (fun s_ => [(1, sl s_.2 (s_.1)), (2, .func (.func 168) #[] [pz g4, pz g5].toArray), (13, sl a_l (l.length)), (14, iv ((l.length : Int))), (15, iv ((s_.1 : Int)))]) (fun s_ G_ => G_) (fun s_ => [Aj 2 107 s_.2 (s_.1) (A8 ((l.take s_.1).map fun c => (B1 c f b).2))]) (fun s_ => l.length - s_.1) (0, (none, 0)) (⟨Nat.zero_le _, fun j hj => absurd hj (Nat.not_lt_zero _)⟩) (by exact E1) ?_ ?_
 ·exact fun w hs => hs
 ·intro ⟨i, a⟩ base0 ⟨hi9, hok⟩ next0; dsimp only at  hi9  hok  next0 ⊢; refine Ek ?_; refine C5 (decide ((i : Int) < (l.length : Int))) (fun h16 c16 => ?_) (fun h16 c16 => ?_)
  ·have hlt9 : ((l.take i).map fun c => (B1 c f b).2).length = i := by rw [List.length_map, List.length_take]; omega
   refine Gq ?_; obtain ⟨bk2, o2, hav2⟩ := hA1 A4; refine q0 rfl (Dl ?_ (j := i)); refine Tw ?_; refine q0 rfl (B3 fun b9 => ?_); refine Ep ?_; refine Xj ?_; refine Ga ?_; refine q0 rfl (Ca call168 ((by have h := A3g ((l.take i).map fun c => (B1 c f b).2) a (l.getD i Bo) g4 f g5 b (hU1 _ (Ac A4)) hi hib (by rw [hlt9]; unfold reach at *; omega); rw [hlt9] at h; exact h)) (cap := [pz g4, pz g5]) (fun x23 => ?_)); refine Gp ?_; refine C5 (decide (((B1 (l.getD i Bo) f b).1) ≠ 0)) (fun h27 c27 => ?_) (fun h27 c27 => ?_)
   ·refine Rc ?_; have hg : (Fh (fun c => B1 c f b) l) = ((B1 (l.getD i Bo) f b).1, []) := C6x A4 hok (by simpa using h27); refine Bd f_ rfl Aa Aa (none, 0) (by rw [hg]; rfl) (fun w hs => by rw [hg]; exact ((hs.l7).bare.Bh 2 107))
   ·refine Rb ?_; have hst : (l.take (i + 1)).map (fun c => (B1 c f b).2) = (l.take i).map (fun c => (B1 c f b).2) ++ [(B1 (l.getD i Bo) f b).2] := by rw [Ai (d := Bo) A4, List.map_append]; rfl
    refine A1 (fun w hs => ?_) (next0 (i + 1, x23) _ (⟨by omega, fun j hj => by rcases Nat.lt_succ_iff_lt_or_eq.mp hj with h | h; exact hok j h; subst h; simpa using h27⟩) A4 E1); rw [hst]; exact ((hs.l9).Ba (A := [_]))
  ·refine Ob ?_; have he : i = l.length := by omega
   have hg : (Fh (fun c => B1 c f b) l) = (0, l.map fun c => (B1 c f b).2) := A3i (fun j hj => hok j A4); refine Bd f_ rfl Aa Aa a (by rw [hg, List.length_map, ← he]; rfl) (fun w hs => by rw [hg]; have h := (hs.l7); rw [he, List.take_length] at h; dsimp only; rw [List.length_map]; exact h)
theorem M5 (l : List Cl) (a : SH) : Spec prog 110 #[sl a l.length] [CL l a] [] (fun x : SH => .tuple #[sl x (Bb l).2.length, iv (Bb l).1]) (fun _ => []) (fun x => [Aj 2 107 x (Bb l).2.length (A8 (Bb l).2)]) := fun ok w hok hs => (A7v l a ok w hok hs).mono fun e w' h => by
 obtain ⟨x, he, hs'⟩ := h; have hx := A3b x.2; exact ⟨x.1.1, by rw [he]; show Ending.returned (.tuple #[sl x.1.1 x.1.2.2.length, iv x.1.2.1]) = Ending.returned (.tuple #[sl x.1.1 (Bb l).2.length, iv (Bb l).1]); rw [hx], by rw [← hx]; exact hs'⟩
theorem Jc (l : List Cl) (a_l : SH) (f : Int) (b : Int) (hi : Ap f) (hib : Ap b) : Spec prog 89 #[sl a_l (l.length), iv (f), iv (b)] [CL l a_l] [] (fun x : SH => .tuple #[sl x (A3 l f b).2.length, iv (A3 l f b).1]) (fun x : SH => []) (fun x : SH => [Aj 2 107 x (A3 l f b).2.length (A8 (A3 l f b).2)]) := by
 refine Dd ntmps89 fun B hB => ?_
 refine A7 (l := l) (a := a_l) (fun hl1 hA1 hU1 => ?_); refine Ax ?_; refine q0 rfl (B0 fun b4 => ?_); refine q0 rfl (B0 fun b5 => ?_); refine Lu ?_; refine Ii ?_; refine q0 rfl (Ed fun b12 => ?_); refine Am (fun w hs => ((((hs.perm Bf).perm Bf).perm Bf).D8x hB mf_)) ?_; refine q0 rfl (A0 call166 (O1 [(l, a_l)] (some ⟨b12, 0, none⟩, 1)) (fun x13 => ?_)); refine Lv ?_; refine C5 (decide ((if [(l, a_l)].all (fun p => A6 p.1) then (0 : Int) else 2) ≠ 0)) (fun h15 c15 => ?_) (fun h15 c15 => ?_)
 ·have hg : A3 l f b = (2, []) := by rw [A3, if_pos (by simpa using h15)]
  have h9 : (if [(l, a_l)].all (fun p => A6 p.1) then (0 : Int) else 2) = 2 := by simpa using h15
  refine H2 ?_; refine Bd f_ rfl Aa Aa (none, 0) (by rw [hg]; (conv => lhs; whnf; rw [h9]); rfl) (fun w hs => by rw [hg]; exact ((hs.l7).bare.Bh 2 107))
 ·have hr : ¬ A6 l = false := by simpa using h15
  refine J0 ?_; refine Jb (Ms' := [Ad b5 [iv (b)] 3, Ad b4 [iv (f)] 3]) (by rfl) ?_; refine A1 (fun w hs => ((hs.perm Ak).B9 hB)) ?_; refine A1 (fun w hs => (hs.B9 hB)) ?_; refine A1 (fun w hs => hs.Bh 2 107) ?_; refine Ea ?_; refine q0 rfl (A0 call118 (Qz ) (fun x19 => ?_)); refine L0 ?_; refine q0 rfl (A0 call167 (A5l l a_l f b b4 b5 hi hib) (fun x21 => ?_)); refine Gp ?_; refine C5 (decide (((Fh (fun c => B1 c f b) l).1) ≠ 0)) (fun h25 c25 => ?_) (fun h25 c25 => ?_)
  ·have hg : A3 l f b = ((Fh (fun c => B1 c f b) l).1, []) := by rw [A3, if_neg hr, if_pos (by simpa using h25)]
   refine H2 ?_; refine Bd f_ rfl Aa Aa (none, 0) (by rw [hg]; rfl) (fun w hs => by rw [hg]; exact ((hs.l7).bare.Bh 2 107))
  ·have hg : A3 l f b = Bb (Fh (fun c => B1 c f b) l).2 := by rw [A3, if_neg hr, if_neg (by simpa using h25)]
   refine J0 ?_; refine A1 (fun w hs => (hs.Ci hB rfl rfl (by have := C6w (g := fun c => B1 c f b) (l := l); omega) (A7z (fun c => Vb c f b)))) ?_; refine Ea ?_; refine q0 rfl (A0 call110 (M5 (Fh (fun c => B1 c f b) l).2 x21) (fun x28 => ?_)); refine Ih ?_; refine Bd f_ rfl Aa Aa x28 (by rw [hg]; rfl) (fun w hs => by rw [hg]; exact (hs.l8))
theorem C5r (s : Nat) (hs : s < 4294967296) : Spec prog 194 #[.int .u32 ((s : Nat) : Int)] [] [] (fun _ : Unit => iv (((Ri s : Nat) : Int))) (fun _ => []) (fun _ => []) := by
 refine Dd ntmps194 fun B hB => ?_
 have p1 := (A1k (s / 2 ^ min 24 32) (by simp; omega)).2; have p2 := (A1k (s / 2 ^ min 16 32 &&& 255) (B2b _)).2; have p3 := (A1k (s / 2 ^ min 8 32 &&& 255) (B2b _)).2; have p4 := (A1k (s &&& 255) (B2b _)).2; refine Co ?_; refine Jd ?_; refine Bk (pn := 1000000) (tn := false) (A := [0, 1, 3, 0, 8, 24, 56, 127, 0, 256, 768, 1792, 4095, 0, 8192, 24576, 65535, 131071, 262143]) (l := [0, 1, 2, 3, 4, 5, 6, 7, 8, 9, 10, 11, 12, 13, 14, 15, 16, 17, 18]) (fin := []) Tab.mixed ⟨_, func194⟩ (by decide +kernel) ?_; refine F1 ?_; refine n0 rfl (A0s ?_); refine n0 rfl (A0a ?_ (j := s / 2 ^ min 24 32) (hj := by simp; omega)); refine F1 ?_; refine n0 rfl (A0s ?_); refine n0 rfl (A0t ?_ (a := s / 2 ^ min 16 32) (b := 255) (ha := by simp; omega) (hb := by omega)); refine n0 rfl (A0a ?_ (j := s / 2 ^ min 16 32 &&& 255)); refine n0 rfl (A9i ?_ (a := pop8 (s / 2 ^ min 24 32)) (b := pop8 (s / 2 ^ min 16 32 &&& 255)) (h := by omega)); refine F1 ?_; refine n0 rfl (A0s ?_); refine n0 rfl (A0t ?_ (a := s / 2 ^ min 8 32) (b := 255) (ha := by simp; omega) (hb := by omega)); refine n0 rfl (A0a ?_ (j := s / 2 ^ min 8 32 &&& 255)); refine n0 rfl (A9i ?_ (a := pop8 (s / 2 ^ min 24 32) + pop8 (s / 2 ^ min 16 32 &&& 255)) (b := pop8 (s / 2 ^ min 8 32 &&& 255)) (h := by omega)); refine F1 ?_; refine n0 rfl (A0t ?_ (a := s) (b := 255) (ha := by omega) (hb := by omega)); refine n0 rfl (A0a ?_ (j := s &&& 255)); refine n0 rfl (A9i ?_ (a := pop8 (s / 2 ^ min 24 32) + pop8 (s / 2 ^ min 16 32 &&& 255) + pop8 (s / 2 ^ min 8 32 &&& 255)) (b := pop8 (s &&& 255)) (h := by omega)); refine n0 rfl (C8u ?_ (a := pop8 (s / 2 ^ min 24 32) + pop8 (s / 2 ^ min 16 32 &&& 255) + pop8 (s / 2 ^ min 8 32 &&& 255) + pop8 (s &&& 255)) (ha := by omega)); refine Vr ?_; refine Au f_ rfl Aa () rfl (fun w hs => hs.none)
theorem Nx (s : Nat) (hs : s < 4294967296) : Spec prog 108 #[.int .u32 ((s : Nat) : Int)] [] [] (fun _ : Unit => iv (((Ri (s &&& 16777215) : Nat) : Int))) (fun _ => []) (fun _ => []) := by
 refine Dd ntmps108 fun B hB => ?_
 have h24 := Ig s; refine Nf ?_; refine q0 rfl (J9 ?_ (a := s) (b := 16777215)); refine q0 rfl (A0 call194 (C5r (s &&& 16777215) A4) (fun x5 => ?_)); refine Ct ?_; refine Au f_ rfl Aa () (by first | rfl | (simp_all; done) | (simp_all; omega)) (fun w hs => hs.none)
theorem N1 (s : Nat) (i : Int) (hs : s < 4294967296) (hi : Ap i) : Spec prog 109 #[.int .u32 ((s : Nat) : Int), iv (i)] [] [] (fun _ : Unit => .int .u32 (((B2t s i) : Nat) : Int)) (fun _ => []) (fun _ => []) := by
 refine Dd ntmps109 fun B hB => ?_
 have hs24 := Ig s; refine Nf ?_; refine q0 rfl (J9 ?_ (a := s) (b := 16777215)); refine Ct ?_; refine Ii ?_; refine q0 rfl (A0 call195 (Ie i ) (fun x8 => ?_)); refine Lw ?_; refine C5 (!(decide (0 ≤ i) && decide (i < 24))) (fun h9 c9 => ?_) (fun h9 c9 => ?_)
 ·refine J4 ?_; refine Au f_ rfl Aa () (by rw [B2t, if_neg (by simp at h9; omega)]) (fun w hs => hs.none)
 ·have hp := A6z (m := i.toNat) A4; refine K6 ?_; refine q0 rfl (M4 ?_ (m := i.toNat) (ha := by omega)); refine q0 rfl (A2e ?_ (a := 1) (m := i.toNat)); refine q0 rfl (Ql ?_ (a := s &&& 16777215) (b := 1 * 2 ^ (min i.toNat 32) % 4294967296) (ha := by omega) (hb := by exact Nat.mod_lt _ A4)); refine Ct ?_; refine Au f_ rfl Aa () (by rw [B2t, if_pos A4, show min i.toNat 32 = i.toNat by omega, Nat.one_mul, Nat.mod_eq_of_lt A4]) (fun w hs => hs.none)
theorem Mk (s : Nat) (i : Int) (hs : s < 4294967296) (hi : Ap i) : Spec prog 112 #[.int .u32 ((s : Nat) : Int), iv (i)] [] [] (fun _ : Unit => .int .u32 (((Eb s i) : Nat) : Int)) (fun _ => []) (fun _ => []) := by
 refine Dd ntmps112 fun B hB => ?_
 have hs24 := Ig s; refine Nf ?_; refine q0 rfl (J9 ?_ (a := s) (b := 16777215)); refine Ct ?_; refine Ii ?_; refine q0 rfl (A0 call195 (Ie i ) (fun x8 => ?_)); refine Lw ?_; refine C5 (!(decide (0 ≤ i) && decide (i < 24))) (fun h9 c9 => ?_) (fun h9 c9 => ?_)
 ·refine J4 ?_; refine Au f_ rfl Aa () (by rw [Eb, if_neg (by simp at h9; omega)]) (fun w hs => hs.none)
 ·have hp := A6z (m := i.toNat) A4; refine K6 ?_; refine q0 rfl (M4 ?_ (m := i.toNat) (ha := by omega)); refine q0 rfl (A2e ?_ (a := 1) (m := i.toNat)); refine q0 rfl (Sg ?_ (a := s &&& 16777215) (b := 1 * 2 ^ (min i.toNat 32) % 4294967296)); refine Ct ?_; refine Au f_ rfl Aa () (by rw [Eb, if_pos A4, show min i.toNat 32 = i.toNat by omega, Nat.one_mul, Nat.mod_eq_of_lt A4]) (fun w hs => hs.none)
theorem Jl (s : Nat) (i : Int) (hs : s < 4294967296) (hi : Ap i) : Spec prog 158 #[.int .u32 ((s : Nat) : Int), iv (i)] [] [] (fun _ : Unit => .bool ((Fv s i))) (fun _ => []) (fun _ => []) := by
 refine Dd ntmps158 fun B hB => ?_
 refine Co ?_; refine Jd ?_; refine Cb ([(4, .bool ((decide (0 ≤ i) && decide (i < 24)) && (decide (((s / 2 ^ (min i.toNat 32) &&& 1 : Nat) : Int) = 1))))]) (fun hK => ?_) (fun base => ?_)
 ·refine Ea ?_; refine q0 rfl (A0 call195 (Ie i ) (fun x6 => ?_)); refine Ez ?_; refine Xi rfl ((decide (0 ≤ i) && decide (i < 24))) (fun hg7 g7 => ?_) (fun hg7 g7 => ?_)
  ·refine Vj ?_; refine Mj ?_; refine qT rfl rfl rfl (M4 ?_ (m := i.toNat) (ha := by omega)); refine qT rfl rfl rfl (A2d ?_ (a := s) (m := i.toNat)); refine qT rfl rfl rfl (J9 ?_ (a := s / 2 ^ (min i.toNat 32)) (b := 1) (ha := by exact Nat.lt_of_le_of_lt (Nat.div_le_self _ _) hs) (hb := by omega)); refine qT rfl rfl rfl (Ze ?_ (a := ((s / 2 ^ (min i.toNat 32) &&& 1 : Nat) : Int)) (b := 1)); refine Iu ?_; exact hK _ ⟨O9, trivial⟩
  ·refine Jp ?_; refine zq5 ?_; refine It ?_; exact hK _ ⟨O9, trivial⟩
 ·refine Au f_ rfl Aa () (by rw [D2w]) (fun w hs => hs.none)
theorem B1u (i : Int) (hi : Ap i) : Spec prog 155 #[iv (i)] [] [] (fun _ : Unit => .bool ((Fu i))) (fun _ => []) (fun _ => []) := by
 refine Dd ntmps155 fun B hB => ?_
 have hbl := Kt i; refine Nf ?_; refine q0 rfl (A0 call109 ((by have h := N1 0 i A4 hi; rw [L7] at h; exact h)) (fun x4 => ?_)); refine q0 rfl (A0 call108 (Nx (El i) A4) (fun x5 => ?_)); refine q0 rfl (Ze ?_ (a := ((Ri (El i &&& 16777215) : Nat) : Int)) (b := 1)); refine Ct ?_; refine Au f_ rfl Aa () (by rw [C1z]) (fun w hs => hs.none)
theorem B1m (i : Int) (hi : Ap i) : Spec prog 235 #[iv (i)] [] [] (fun _ : Unit => .bool ((Fu i))) (fun _ => []) (fun _ => []) := by
 refine Dd ntmps235 fun B hB => ?_
 have hbl := Kt i; refine Nf ?_; refine q0 rfl (A0 call109 ((by have h := N1 0 i A4 hi; rw [L7] at h; exact h)) (fun x4 => ?_)); refine q0 rfl (A0 call108 (Nx (El i) A4) (fun x5 => ?_)); refine q0 rfl (Ze ?_ (a := ((Ri (El i &&& 16777215) : Nat) : Int)) (b := 1)); refine Ct ?_; refine Au f_ rfl Aa () (by rw [C1z]) (fun w hs => hs.none)
theorem E6j   : Spec prog 124 #[] [] [] (fun x : SH => sl x 1) (fun x : SH => []) (fun x : SH => [Aj 2 107 x 1 (A8 [Bo])]) := by
 refine Dd ntmps124 fun B hB => ?_
 refine Co ?_; refine Ax ?_; refine q0 rfl (B2 (cs := [.int .u32 ((((⟨0, 0⟩ : Cl)).pos : Nat) : Int), .int .u32 ((((⟨0, 0⟩ : Cl)).neg : Nat) : Int)]) ?_); refine q0 rfl (Ed fun b2 => ?_); refine Ct ?_; refine Au f_ rfl Aa (some ⟨b2, 0, none⟩, 1) rfl (fun w hs => (((hs.l7)).Jn (sz := 2) (m := 1) rfl Iy))
theorem E4s (i : Int) (hi : Ap i) : Spec prog 61 #[iv (i)] [] [] (fun x : SH => .tuple #[sl x (R2 i).2.length, iv (R2 i).1]) (fun x : SH => []) (fun x : SH => [Aj 2 107 x (R2 i).2.length (A8 (R2 i).2)]) := by
 refine Dd ntmps61 fun B hB => ?_
 have hbl := Kt i; refine Gl ?_; refine Ii ?_; refine q0 rfl (A0 call109 ((by have h := N1 0 i A4 hi; rw [L7] at h; exact h)) (fun x5 => ?_)); refine q0 rfl (A0 call108 (Nx (El i) A4) (fun x6 => ?_)); refine q0 rfl (Ze ?_ (a := ((Ri (El i &&& 16777215) : Nat) : Int)) (b := 0)); refine Kz ?_; refine C5 (decide (((Ri (El i &&& 16777215) : Nat) : Int) = 0)) (fun h7 c7 => ?_) (fun h7 c7 => ?_)
 ·have hg : R2 i = (2, []) := by rw [R2, if_neg (by rw [B3w] at h7; simp at h7; simp [h7])]
  refine Gl ?_; refine Bd f_ rfl Aa Aa (none, 0) (by rw [hg]; rfl) (fun w hs => by rw [hg]; exact ((hs.l7).bare.Bh 2 107))
 ·have hg : R2 i = (0, [⟨El i, 0⟩]) := by rw [R2, if_pos (by rw [B3w] at h7; simpa using h7)]
  refine Vp ?_; refine q0 rfl (A0 call109 ((by have h := N1 0 i A4 hi; rw [L7] at h; exact h)) (fun x9 => ?_)); refine q0 rfl (B2 (cs := [.int .u32 ((((⟨(El i), 0⟩ : Cl)).pos : Nat) : Int), .int .u32 ((((⟨(El i), 0⟩ : Cl)).neg : Nat) : Int)]) ?_); refine q0 rfl (Ed fun b11 => ?_); refine Lu ?_; refine Bd f_ rfl Aa Aa (some ⟨b11, 0, none⟩, 1) (by rw [hg]; rfl) (fun w hs => by rw [hg]; exact (((hs.l7)).Jn (sz := 2) (m := 1) rfl Iy))
theorem B5b (f : List Cl) (a_f : SH) (g : List Cl) (a_g : SH) (hlf : f.length ≤ 1000) (hlg : g.length ≤ 1000) : Spec prog 204 #[sl a_f (f.length), sl a_g (g.length)] [CL f a_f, CL g a_g] [] (fun x : SH => .tuple #[sl x (H6 f g).2.length, iv (H6 f g).1]) (fun x : SH => []) (fun x : SH => [Aj 2 107 x (H6 f g).2.length (A8 (H6 f g).2)]) := by
 refine Dd ntmps204 fun B hB => ?_
 refine A7 (l := f) (a := a_f) (fun hl1 hA1 hU1 => ?_); refine A7 (l := g) (a := a_g) (fun hl2 hA2 hU2 => ?_); refine Bs (p := Af f) (fun w hs => Bm (hs.facts (CL f a_f) D6)) (fun hk_f => ?_); refine Bs (p := Af g) (fun w hs => Bm (hs.facts (CL g a_g) D6)) (fun hk_g => ?_); refine Gl ?_; refine Oc ?_; refine B5 (X := Nat × SH × List Cl) (fun s_ => s_.1 ≤ f.length ∧ s_.2.2 = Jx (f.take s_.1) g) (fun s_ => [(1, sl a_g (g.length)), (6, sl s_.2.1 (s_.2.2.length)), (11, sl a_f (f.length)), (12, iv ((f.length : Int))), (13, iv ((s_.1 : Int)))]) (fun s_ G_ => G_) (fun s_ => [Aj 2 107 s_.2.1 (s_.2.2.length) (A8 s_.2.2)]) (fun s_ => f.length - s_.1) (0, (none, 0), []) (⟨Nat.zero_le _, rfl⟩) (by exact E1) ?_ ?_
 ·exact fun w hs => (hs.Bh 2 107)
 ·intro ⟨i, a, l⟩ base0 ⟨hi, hl9⟩ next0; dsimp only at  hi  hl9  next0 ⊢; refine Ek ?_; refine C5 (decide ((i : Int) < (f.length : Int))) (fun h14 c14 => ?_) (fun h14 c14 => ?_)
  ·have hui := hk_f.1 _ (Ac (d := Bo) (show i < f.length by omega)); refine Gq ?_; obtain ⟨bk3, o3, hav3⟩ := hA1 (by (first | assumption | omega)); refine q0 rfl (Dl ?_ (j := i)); refine Tw ?_; refine q0 rfl (B3 fun b8 => ?_); refine Ep ?_; refine Fs ?_; refine A8z ?_; refine B5 (X := Nat × SH × List Cl) (fun s_ => s_.1 ≤ g.length ∧ s_.2.2 = Jx (f.take i) g ++ (g.take s_.1).map fun b => E0 (f.getD i Bo) b) (fun s_ => [(1, sl a_g (g.length)), (6, sl s_.2.1 (s_.2.2.length)), (8, pz b8), (11, sl a_f (f.length)), (12, iv ((f.length : Int))), (13, iv ((i : Int))), (17, sl a_g (g.length)), (18, iv ((g.length : Int))), (19, iv ((s_.1 : Int)))]) (fun s_ G_ => G_) (fun s_ => [Ad b8 (Aw (f.getD i Bo)) 107, Aj 2 107 s_.2.1 (s_.2.2.length) (A8 s_.2.2)]) (fun s_ => g.length - s_.1) (0, a, l) (⟨Nat.zero_le _, by rw [hl9]; simp⟩) (by exact E1) ?_ ?_
   ·exact fun w hs => hs
   ·intro ⟨k, a2, l2⟩ base1 ⟨hk, hl8⟩ next1; dsimp only at  hk  hl8  next1 ⊢; refine Ek ?_; refine C5 (decide ((k : Int) < (g.length : Int))) (fun h20 c20 => ?_) (fun h20 c20 => ?_)
    ·have huk := hk_g.1 _ (Ac (d := Bo) (show k < g.length by omega)); have hum := Ni hui huk; have hll : l2.length ≤ 1001000 := by rw [hl8, List.length_append, Yc, List.length_map, List.length_take, List.length_take]; have h9 := Nat.mul_le_mul (show min i f.length ≤ 999 by omega) hlg; omega
     refine Gq ?_; obtain ⟨bk4, o4, hav4⟩ := hA2 (by (first | assumption | omega)); refine q0 rfl (Dl ?_ (j := k)); refine Tw ?_; refine q0 rfl (B3 fun b10 => ?_); refine Ep ?_; refine Ea ?_; refine Ga ?_; refine Ga ?_; refine q0 rfl (A0 call251 (Yb (f.getD i Bo) (g.getD k Bo) Ls Ls) (fun x26 => ?_)); refine q0 rfl (Ed fun b27 => ?_); refine q0 rfl (Ex (fun a28 => ?_) (a := a2) (n' := l2.length)); refine Am (fun w hs => ((hs.perm Ak).drop).A1a (c := (E0 (f.getD i Bo) (g.getD k Bo)))) ?_; refine Of ?_; refine A1 (fun w hs => ?_) (next1 (k + 1, a28, l2 ++ [E0 (f.getD i Bo) (g.getD k Bo)]) _ (⟨by omega, by rw [hl8, Ai (d := Bo) (l := g) A4, List.map_append, List.append_assoc]; rfl⟩) (by (try simp only); omega) ⟨rfl, (by rw [List.length_append]; rfl), rfl, rfl, rfl, rfl, rfl, rfl, rfl, trivial⟩); have e1 : (l2 ++ [E0 (f.getD i Bo) (g.getD k Bo)]).length = l2.length + 1 := by simp
     rw [e1]; exact (((hs.l9).perm Bf).Ba (A := [_, _]))
    ·have hk9 : k = g.length := by omega
     refine H3 ?_; refine A9a ?_; refine A1 (fun w hs => ?_) (next0 (i + 1, a2, l2) _ (⟨by omega, by rw [hl8, Ai (d := Bo) A4, B9q, hk9, List.take_length]⟩) (by (try simp only); omega) E1); exact (((hs.l9).perm Ak).Ba (A := [_]))
  ·have hi9 : i = f.length := by omega
   have hlm : l = Jx f g := by rw [hl9, hi9, List.take_length]
   have hlen : l.length ≤ 1000000 := by rw [hlm, Yc]; have h9 := Nat.mul_le_mul hlf hlg; omega
   refine U6 ?_; refine A1 (fun w hs => (hs.Ci hB rfl (rfl) (by unfold reach; omega) (fun c hc => A6b hk_f.1 hk_g.1 c (by rw [← hlm]; exact hc)))) ?_; refine Ea ?_; refine q0 rfl (A0 call110 (M5 (l) a) (fun x32 => ?_)); refine Ih ?_; have hg : H6 f g = Bb l := by rw [hlm]; rfl
   refine Bd f_ rfl Aa Aa x32 (by rw [hg]; rfl) (fun w hs => by rw [hg]; exact (hs.l7))
theorem B5w (f : List Cl) (a_f : SH) (g : List Cl) (a_g : SH) (hlf : f.length ≤ 1000000) (hlg : g.length ≤ 1000000) : Spec prog 205 #[sl a_f (f.length), sl a_g (g.length)] [CL f a_f, CL g a_g] [] (fun x : SH => .tuple #[sl x (E7 f g).2.length, iv (E7 f g).1]) (fun x : SH => []) (fun x : SH => [Aj 2 107 x (E7 f g).2.length (A8 (E7 f g).2)]) := by
 refine Dd ntmps205 fun B hB => ?_
 refine A7 (l := f) (a := a_f) (fun hl1 hA1 hU1 => ?_); refine A7 (l := g) (a := a_g) (fun hl2 hA2 hU2 => ?_); refine Bs (p := Af f) (fun w hs => Bm (hs.facts (CL f a_f) D6)) (fun hk_f => ?_); refine Bs (p := Af g) (fun w hs => Bm (hs.facts (CL g a_g) D6)) (fun hk_g => ?_); refine Gl ?_; refine Ax ?_; refine q0 rfl (B9j fun b6 => ?_); refine Ez ?_; refine Am (fun w hs => hs.Jn (sz := 2) (m := 0) rfl Iy) ?_; refine q0 rfl (Mv (fun a8 => ?_) D6 (a := (some ⟨b6, 0, none⟩, 0)) (n' := 0) (b := a_f) (ls := f)); refine Am (fun w hs => hs.Kw (l := []) (m := f)) ?_; refine Ez ?_; refine q0 rfl (Mv (fun a10 => ?_) D6 (a := a8) (n' := 0 + f.length) (b := a_g) (ls := g)); refine Am (fun w hs => hs.Kw (l := ([] ++ f)) (m := g)) ?_; refine Am (fun w hs => (hs.Ci (l := f ++ g) hB rfl D6 (by unfold reach; omega) (A0u hk_f.1 hk_g.1))) ?_; refine q0 rfl (A0 call110 ((by have h := M5 (f ++ g) a10; rw [show (f ++ g).length = 0 + f.length + g.length by simp] at h; exact h)) (fun x11 => ?_)); refine Ih ?_; refine Bd f_ rfl Aa Aa x11 rfl (fun w hs => (hs.l7))
theorem Yh (f : List Cl) (a_f : SH) (g : List Cl) (a_g : SH) (hlf : f.length ≤ 1000000) (hlg : g.length ≤ 1000000) : Spec prog 237 #[sl a_f (f.length), sl a_g (g.length)] [CL f a_f, CL g a_g] [] (fun x : SH => .tuple #[sl x (E7 f g).2.length, iv (E7 f g).1]) (fun x : SH => []) (fun x : SH => [Aj 2 107 x (E7 f g).2.length (A8 (E7 f g).2)]) := by
 refine Dd ntmps237 fun B hB => ?_
 refine A7 (l := f) (a := a_f) (fun hl1 hA1 hU1 => ?_); refine A7 (l := g) (a := a_g) (fun hl2 hA2 hU2 => ?_); refine Bs (p := Af f) (fun w hs => Bm (hs.facts (CL f a_f) D6)) (fun hk_f => ?_); refine Bs (p := Af g) (fun w hs => Bm (hs.facts (CL g a_g) D6)) (fun hk_g => ?_); refine Gl ?_; refine Ax ?_; refine q0 rfl (B9j fun b6 => ?_); refine Ez ?_; refine Am (fun w hs => hs.Jn (sz := 2) (m := 0) rfl Iy) ?_; refine q0 rfl (Mv (fun a8 => ?_) D6 (a := (some ⟨b6, 0, none⟩, 0)) (n' := 0) (b := a_f) (ls := f)); refine Am (fun w hs => hs.Kw (l := []) (m := f)) ?_; refine Ez ?_; refine q0 rfl (Mv (fun a10 => ?_) D6 (a := a8) (n' := 0 + f.length) (b := a_g) (ls := g)); refine Am (fun w hs => hs.Kw (l := ([] ++ f)) (m := g)) ?_; refine Am (fun w hs => (hs.Ci (l := f ++ g) hB rfl D6 (by unfold reach; omega) (A0u hk_f.1 hk_g.1))) ?_; refine q0 rfl (A0 call110 ((by have h := M5 (f ++ g) a10; rw [show (f ++ g).length = 0 + f.length + g.length by simp] at h; exact h)) (fun x11 => ?_)); refine Ih ?_; refine Bd f_ rfl Aa Aa x11 rfl (fun w hs => (hs.l7))
theorem E9p (c : Cl) (hc : u32 c) : Spec prog 256 #[Hp c] [O7] [] (fun x : SH => .tuple #[sl x (B0i c).2.length, iv (B0i c).1]) (fun x : SH => []) (fun x : SH => [Aj 2 107 x (B0i c).2.length (A8 (B0i c).2)]) := by
 refine Dd ntmps256 fun B hB => ?_
 have hc1 := hc.1; have hc2 := hc.2; have hl1 : (Ay c.pos).length ≤ 24 := Le _ _; have hl2 : (Ay c.neg).length ≤ 24 := Le _ _; refine Ax ?_; refine q0 rfl (B0 fun b1 => ?_); refine Lu ?_; refine Co ?_; refine Jd ?_; refine Iv ?_; refine q0 rfl (A0 call123 (Na c.pos hc1) (fun x11 => ?_)); refine K5 ?_; refine D4u ?_; refine Lh (l := (Ay c.pos)) (a := x11) (fun hl1 hA1 hU1 => ?_); refine zq9 ?_; refine B5 (X := Nat × SH × List Cl) (fun s_ => s_.1 ≤ (Ay c.pos).length ∧ s_.2.2 = (((Ay c.pos).take s_.1).map fun j => (⟨0, El j⟩ : Cl))) (fun s_ => [(1, pz b1), (4, sl s_.2.1 (s_.2.2.length)), (11, sl x11 (((Ay c.pos)).length)), (12, iv ((((Ay c.pos)).length : Int))), (13, iv ((s_.1 : Int)))]) (fun s_ G_ => G_) (fun s_ => [Aj 2 107 s_.2.1 (s_.2.2.length) (A8 s_.2.2), Ad b1 (Aw c) 107]) (fun s_ => (Ay c.pos).length - s_.1) (0, (none, 0), []) (⟨Nat.zero_le _, rfl⟩) (by exact E1) ?_ ?_
 ·exact fun w hs => (hs.Bh 2 107)
 ·intro ⟨i, a, l⟩ base0 ⟨hi, hl9⟩ next0; dsimp only at  hi  hl9  next0 ⊢; refine Ek ?_; refine C5 (decide ((i : Int) < (((Ay c.pos)).length : Int))) (fun h14 c14 => ?_) (fun h14 c14 => ?_)
  ·have hll : l.length ≤ 24 := by rw [hl9, List.length_map, List.length_take]; omega
   have hbl := Kt ((Ay c.pos).getD i 0); refine Gq ?_; obtain ⟨bk2, o2, hav2⟩ := hA1 (by (first | assumption | omega)); refine q0 rfl (Dl ?_ (j := i)); refine B7w ?_; refine Ct ?_; refine Nd ?_; refine q0 rfl (A0 call109 ((by have h := N1 0 ((Ay c.pos).getD i 0) A4 (B5n (s := c.pos) (i := i) A4); rw [L7] at h; exact h)) (fun x19 => ?_)); refine q0 rfl (B2 (cs := [.int .u32 ((((⟨0, (El ((Ay c.pos).getD i 0))⟩ : Cl)).pos : Nat) : Int), .int .u32 ((((⟨0, (El ((Ay c.pos).getD i 0))⟩ : Cl)).neg : Nat) : Int)]) ?_); refine q0 rfl (Ed fun b21 => ?_); refine q0 rfl (Ex (fun a22 => ?_) (a := a) (n' := l.length)); refine Am (fun w hs => ((hs.perm Ak).drop).A1a (c := (⟨0, (El ((Ay c.pos).getD i 0))⟩ : Cl))) ?_; refine Of ?_; refine A1 (fun w hs => ?_) (next0 (i + 1, a22, l ++ [(⟨0, El ((Ay c.pos).getD i 0)⟩ : Cl)]) _ (⟨by omega, by rw [hl9, Ai (d := 0) A4, List.map_append]; rfl⟩) (by (try simp only); omega) ⟨rfl, (by rw [List.length_append]; rfl), rfl, rfl, rfl, trivial⟩); have e1 : (l ++ [(⟨0, El ((Ay c.pos).getD i 0)⟩ : Cl)]).length = l.length + 1 := by simp
   rw [e1]; exact (((hs.l9).perm Ak).perm Ak)
  ·have hi9 : i = (Ay c.pos).length := by omega
   rw [hi9, List.take_length] at hl9; subst hl9; refine U6 ?_; refine Iv ?_; refine q0 rfl (A0 call123 (Na c.neg hc2) (fun x26 => ?_)); refine K5 ?_; refine D4u ?_; refine Lh (l := (Ay c.neg)) (a := x26) (fun hl3 hA3 hU3 => ?_); refine zq9 ?_; refine B5 (X := Nat × SH × List Cl) (fun s_ => s_.1 ≤ (Ay c.neg).length ∧ s_.2.2 = ((Ay c.pos).map fun j => (⟨0, El j⟩ : Cl)) ++ (((Ay c.neg).take s_.1).map fun j => (⟨El j, 0⟩ : Cl))) (fun s_ => [(4, sl s_.2.1 (s_.2.2.length)), (26, sl x26 (((Ay c.neg)).length)), (27, iv ((((Ay c.neg)).length : Int))), (28, iv ((s_.1 : Int)))]) (fun s_ G_ => G_) (fun s_ => [Aj 2 107 s_.2.1 (s_.2.2.length) (A8 s_.2.2), Ad b1 (Aw c) 107]) (fun s_ => (Ay c.neg).length - s_.1) (0, a, ((Ay c.pos).map fun j => (⟨0, El j⟩ : Cl))) (⟨Nat.zero_le _, by simp⟩) (by exact E1) ?_ ?_
   ·exact fun w hs => hs
   ·intro ⟨i, a2, l⟩ base1 ⟨hi, hl8⟩ next1; dsimp only at  hi  hl8  next1 ⊢; refine Ek ?_; refine C5 (decide ((i : Int) < (((Ay c.neg)).length : Int))) (fun h29 c29 => ?_) (fun h29 c29 => ?_)
    ·have hll : l.length ≤ 48 := by rw [hl8, List.length_append, List.length_map, List.length_map, List.length_take]; omega
     have hbl := Kt ((Ay c.neg).getD i 0); refine Gq ?_; obtain ⟨bk4, o4, hav4⟩ := hA3 (by (first | assumption | omega)); refine q0 rfl (Dl ?_ (j := i)); refine B7w ?_; refine Ct ?_; refine Nd ?_; refine q0 rfl (A0 call109 ((by have h := N1 0 ((Ay c.neg).getD i 0) A4 (B5n (s := c.neg) (i := i) A4); rw [L7] at h; exact h)) (fun x34 => ?_)); refine q0 rfl (B2 (cs := [.int .u32 ((((⟨(El ((Ay c.neg).getD i 0)), 0⟩ : Cl)).pos : Nat) : Int), .int .u32 ((((⟨(El ((Ay c.neg).getD i 0)), 0⟩ : Cl)).neg : Nat) : Int)]) ?_); refine q0 rfl (Ed fun b36 => ?_); refine q0 rfl (Ex (fun a37 => ?_) (a := a2) (n' := l.length)); refine Am (fun w hs => ((hs.perm Ak).drop).A1a (c := (⟨(El ((Ay c.neg).getD i 0)), 0⟩ : Cl))) ?_; refine Of ?_; refine A1 (fun w hs => ?_) (next1 (i + 1, a37, l ++ [(⟨El ((Ay c.neg).getD i 0), 0⟩ : Cl)]) _ (⟨by omega, by rw [hl8, Ai (d := 0) A4, List.map_append, List.append_assoc]; rfl⟩) (by (try simp only); omega) ⟨(by rw [List.length_append]; rfl), rfl, rfl, rfl, trivial⟩); have e1 : (l ++ [(⟨El ((Ay c.neg).getD i 0), 0⟩ : Cl)]).length = l.length + 1 := by simp
     rw [e1]; exact (((hs.l9).perm Ak).perm Ak)
    ·have hi8 : i = (Ay c.neg).length := by omega
     have hlo : l = V3 c := by rw [hl8, hi8, List.take_length]; rfl
     have hlen := D0u c; refine U6 ?_; refine A1 (fun w hs => (((hs.perm Ak).perm Ak).Ci hB rfl (rfl) (by rw [hlo]; unfold reach; omega) (fun d hd => C1s c d (by rw [← hlo]; exact hd)))) ?_; refine Ea ?_; refine q0 rfl (A0 call110 (M5 (l) a2) (fun x40 => ?_)); refine Ih ?_; have hg : B0i c = Bb l := by rw [hlo]; rfl
     refine Bd f_ rfl Aa Aa x40 (by rw [hg]; rfl) (fun w hs => by rw [hg]; exact ((hs.l7).Ba (A := [_])))
theorem E6x (h : List Cl) (a_h : SH) (c : Cl) (hc : u32 c) (hlh : h.length ≤ 64) : Spec prog 255 #[sl a_h (h.length), Hp c] [O7, CL h a_h] [] (fun x : SH => .tuple #[sl x (Dq h c).2.length, iv (Dq h c).1]) (fun x : SH => []) (fun x : SH => [Aj 2 107 x (Dq h c).2.length (A8 (Dq h c).2)]) := by
 refine Dd ntmps255 fun B hB => ?_
 refine A7 (l := h) (a := a_h) (fun hl1 hA1 hU1 => ?_); refine Bs (p := Af h) (fun w hs => Bm (hs.facts (CL h a_h) D6)) (fun hk_h => ?_); refine Ax ?_; refine q0 rfl (B0 fun b3 => ?_); refine Lu ?_; refine Fm ?_; obtain ⟨r1, hr1⟩ : ∃ q9 : EL, q9 = B0i c := ⟨_, rfl⟩; refine q0 rfl (A0 call256 (Spec.Kg hr1 (E9p c hc) (C2n c)) (fun x10 => ?_)); refine Gp ?_; refine C5 (decide (r1.1 ≠ 0)) (fun h14 c14 => ?_) (fun h14 c14 => ?_)
 ·have hg : Dq h c = (r1.1, []) := by unfold Dq; rw [← hr1]; exact Bi (by simpa using h14)
  refine H2 ?_; refine Bd f_ rfl Aa Aa (none, 0) (by rw [hg]; rfl) (fun w hs => by rw [hg]; exact ((hs.l7).bare.Bh 2 107))
 ·have hg2 : Dq h c = H6 h r1.2 := by unfold Dq; rw [← hr1]; exact Bc (by simpa using h14)
  refine K6 ?_; obtain ⟨r2, hr2⟩ : ∃ q9 : EL, q9 = H6 h r1.2 := ⟨_, rfl⟩; refine q0 rfl (A0 call204 (Spec.Jk hr2 (B5b h a_h r1.2 x10 A4 (by rw [hr1]; exact Nat.le_trans (Dr (V3 c)) Iy))) (fun x18 => ?_)); refine Ih ?_; have hg := hg2.trans hr2.symm; refine Bd f_ rfl Aa Aa x18 (by rw [hg]; rfl) (fun w hs => by rw [hg]; exact ((hs.l7).Ba (A := [_])))
set_option maxHeartbeats 4000000 in
theorem D3f (l : List Cl) (a_l : SH) (z : List Cl) (a_z : SH) (hkz : Af z) (hlz : z.length ≤ 64) : Spec prog 167 #[sl a_l (l.length), sl a_z (z.length), .func (.func 255) #[] #[]] [O7, CL l a_l] [Aj 2 107 a_z (z.length) (A8 z)] (fun x : SH => .tuple #[sl x (C0 (Dq) z l).2.length, iv (C0 (Dq) z l).1]) (fun x : SH => []) (fun x : SH => [Aj 2 107 x (C0 (Dq) z l).2.length (A8 (C0 (Dq) z l).2)]) := by
 rw [show (#[sl a_l (l.length), sl a_z (z.length), .func (.func 255) #[] #[]] : Array Value) = ([sl a_l (l.length), sl a_z (z.length), .func (.func 255) #[] #[]] : List Value).toArray from rfl]; refine Ge func167 ntmps167 rfl Zl fun B hB => ?_
 refine A7 (l := l) (a := a_l) (fun hl1 hA1 hU1 => ?_); refine Bs (p := Af l) (fun w hs => Bm (hs.facts (CL l a_l) D6)) (fun hk_l => ?_); refine Re ?_; refine B5 (X := Nat × SH × List Cl) (fun s_ => s_.1 ≤ l.length ∧ C0 (Dq) z (l.take s_.1) = (0, s_.2.2) ∧ Af s_.2.2 ∧ s_.2.2.length ≤ 64) (fun s_ => [(1, sl s_.2.1 (s_.2.2.length)), (2, .func (.func 255) #[] #[]), (13, sl a_l (l.length)), (14, iv ((l.length : Int))), (15, iv ((s_.1 : Int)))]) (fun s_ G_ => G_) (fun s_ => [Aj 2 107 s_.2.1 (s_.2.2.length) (A8 s_.2.2)]) (fun s_ => l.length - s_.1) (0, a_z, z) (⟨Nat.zero_le _, rfl, hkz, hlz⟩) (by exact E1) ?_ ?_
 ·exact fun w hs => hs
 ·intro ⟨i, a, hv⟩ base0 ⟨hi9, hf9, hk9, hl9⟩ next0; dsimp only at  hi9  hf9  hk9  hl9  next0 ⊢; refine Ek ?_; refine C5 (decide ((i : Int) < (l.length : Int))) (fun h16 c16 => ?_) (fun h16 c16 => ?_)
  ·have hui := hk_l.1 _ (Ac (d := Bo) (show i < l.length by omega)); refine Gq ?_; obtain ⟨bk2, o2, hav2⟩ := hA1 (by (first | assumption | omega)); refine q0 rfl (Dl ?_ (j := i)); refine Tw ?_; refine q0 rfl (B3 fun b9 => ?_); refine J5 ?_; refine A1 (fun w hs => ((hs.perm Ak).Ci hB rfl (rfl) (hk9.2) (hk9.1))) ?_; refine Nd ?_; refine Ga ?_; obtain ⟨r3, hr3⟩ : ∃ q9 : EL, q9 = (Dq) hv (l.getD i Bo) := ⟨_, rfl⟩; refine q0 rfl (Ca call255 (Spec.Jk hr3 (E6x hv a (l.getD i Bo) hui hl9)) (cap := []) (fun x23 => ?_)); refine Gp ?_; refine C5 (decide (r3.1 ≠ 0)) (fun h27 c27 => ?_) (fun h27 c27 => ?_)
   ·refine Rc ?_; have hg : (C0 (Dq) z l) = (r3.1, []) := by rw [Fo A4 hf9 (by rw [← hr3]; simpa using h27), ← hr3]
    refine Bd f_ rfl Aa Aa (none, 0) (by rw [hg]; rfl) (fun w hs => by rw [hg]; exact ((hs.l7).bare.Bh 2 107))
   ·refine Rb ?_; refine A1 (fun w hs => ?_) (next0 (i + 1, x23, r3.2) _ (⟨by omega, by rw [Kn A4 hf9 (by rw [← hr3]; simpa using h27), ← hr3], by rw [hr3]; exact Zd hk9, by rw [hr3]; exact Zj _ _⟩) (by (try simp only); omega) E1); exact ((hs.l9).Ba (A := [_]))
  ·refine Ob ?_; have hg : (C0 (Dq) z l) = (0, hv) := Pu A4 hf9; refine Bd f_ rfl Aa Aa a (by rw [hg]; rfl) (fun w hs => by rw [hg]; exact (hs.l7))
theorem E1i (l : List Cl) (a_l : SH)  : Spec prog 203 #[sl a_l (l.length)] [O7, CL l a_l] [] (fun x : SH => .tuple #[sl x (Mx l).2.length, iv (Mx l).1]) (fun x : SH => []) (fun x : SH => [Aj 2 107 x (Mx l).2.length (A8 (Mx l).2)]) := by
 refine Dd ntmps203 fun B hB => ?_
 refine A7 (l := l) (a := a_l) (fun hl1 hA1 hU1 => ?_); refine Gl ?_; refine Fs ?_; refine q0 rfl (A0 call124 (E6j) (fun x5 => ?_)); refine q0 rfl (A0 call167 (D3f l a_l [Bo] x5 L9 Iy) (fun x6 => ?_)); refine Ih ?_; refine Bd f_ rfl Aa Aa x6 rfl (fun w hs => (hs.l7))
theorem D8w (l : List Cl) (a_l : SH)  : Spec prog 114 #[sl a_l (l.length)] [O7, CL l a_l] [] (fun x : SH => .tuple #[sl x (Mw l).2.length, iv (Mw l).1]) (fun x : SH => []) (fun x : SH => [Aj 2 107 x (Mw l).2.length (A8 (Mw l).2)]) := by
 refine Dd ntmps114 fun B hB => ?_
 refine A7 (l := l) (a := a_l) (fun hl1 hA1 hU1 => ?_); refine Gl ?_; refine Ii ?_; refine q0 rfl (Ed fun b6 => ?_); refine Am (fun w hs => (hs.D8x hB De)) ?_; refine q0 rfl (A0 call166 (O1 [(l, a_l)] (some ⟨b6, 0, none⟩, 1)) (fun x7 => ?_)); refine Lv ?_; refine C5 (decide ((if [(l, a_l)].all (fun p => A6 p.1) then (0 : Int) else 2) ≠ 0)) (fun h9 c9 => ?_) (fun h9 c9 => ?_)
 ·have hg : Mw l = (2, []) := by rw [Mw, if_neg (by simpa using h9)]
  have h8 : (if [(l, a_l)].all (fun p => A6 p.1) then (0 : Int) else 2) = 2 := by simpa using h9
  refine H2 ?_; refine Bd f_ rfl Aa Aa (none, 0) (by rw [hg]; (conv => lhs; whnf; rw [h8]); rfl) (fun w hs => by rw [hg]; exact ((hs.l7).bare.Bh 2 107))
 ·have hg2 : Mw l = Mx l := by rw [Mw, if_pos (by simpa using h9)]
  refine Vp ?_; obtain ⟨r2, hr2⟩ : ∃ q9 : EL, q9 = Mx l := ⟨_, rfl⟩; refine q0 rfl (A0 call203 (Spec.Jk hr2 (E1i l a_l)) (fun x12 => ?_)); refine Ih ?_; have hg := hg2.trans hr2.symm; refine Bd f_ rfl Aa Aa x12 (by rw [hg]; rfl) (fun w hs => by rw [hg]; exact (hs.l7))
theorem E6g (h : List Cl) (a_h : SH) (c : Cl) (g2 : Nat) (i : Int) (g3 : Nat) (r : List Cl) (a_r : SH) (hc : u32 c) (hi : Ap i) (hlh : h.length ≤ 1000) (hlr : r.length ≤ 1000) : Spec prog 234 #[sl a_h (h.length), Hp c, pz g2, pz g3] [O7, CL h a_h, At g2 0 [iv (i)], At g3 0 [sl a_r (r.length)], CL r a_r] [] (fun x : SH => .tuple #[sl x (Cp i r h c).2.length, iv (Cp i r h c).1]) (fun x : SH => []) (fun x : SH => [Aj 2 107 x (Cp i r h c).2.length (A8 (Cp i r h c).2)]) := by
 refine Dd ntmps234 fun B hB => ?_
 refine A7 (l := h) (a := a_h) (fun hl1 hA1 hU1 => ?_); refine Bs (p := Af h) (fun w hs => Bm (hs.facts (CL h a_h) D6)) (fun hk_h => ?_); refine Bs (p := Af r) (fun w hs => Bm (hs.facts (CL r a_r) D6)) (fun hk_r => ?_); have hc1 := hc.1; have hc2 := hc.2; refine Ax ?_; refine q0 rfl (B0 fun b5 => ?_); refine Lu ?_; refine Jd ?_; refine Bk (pn := 1000000) (tn := false) (A := [0, 1, 0, 7, 0, 16, 0, 127, 255, 511, 1023]) (l := [0, 1, 2, 4, 5, 6, 3, 7, 8, 9, 10]) (fin := []) Tab.mixed ⟨_, func234⟩ (by rfl) ?_; refine Iz ?_; refine n0 rfl (Fl ?_); refine Iz ?_; refine n0 rfl (Fl ?_); refine n0 rfl (B7 call112 (Mk ((c).pos) i hc1 hi) (fun x16 => ?_)); refine n0 rfl (B7 call112 (Mk ((c).neg) i hc2 hi) (fun x20 => ?_)); refine n0 rfl (Hd (cs := [.int .u32 ((((⟨(Eb ((c).pos) i), (Eb ((c).neg) i)⟩ : Cl)).pos : Nat) : Int), .int .u32 ((((⟨(Eb ((c).pos) i), (Eb ((c).neg) i)⟩ : Cl)).neg : Nat) : Int)]) ?_); refine n0 rfl (Oz fun b22 => ?_); refine D4w ?_; refine Ty ?_; refine Vi ?_; refine Jd ?_; refine A1 (fun w hs => (((hs.perm Ak).perm Ak).D8y (c := Cn c i) hB rfl (F2 c i))) ?_; refine Is ?_; refine J1 ?_; refine q0 rfl (A0 call158 (Jl ((c).pos) i hc1 hi) (fun x26 => ?_)); refine Kz ?_; refine C5 ((Fv ((c).pos) i)) (fun h26 c26 => ?_) (fun h26 c26 => ?_)
 ·have hb := h26; refine Fs ?_; refine J1 ?_; obtain ⟨r1, hr1⟩ : ∃ q9 : EL, q9 = H6 [Cn c i] r := ⟨_, rfl⟩; refine q0 rfl (A0 call204 (Spec.Kg hr1 (B5b [Cn c i] (some ⟨b22, 0, none⟩, 1) r a_r D6 hlr) (M3 (Df (F2 c i)) hk_r)) (fun x30 => ?_)); refine Gp ?_; refine C5 (decide (r1.1 ≠ 0)) (fun h34 c34 => ?_) (fun h34 c34 => ?_)
  ·have hP : Hv i r c = r1 := by rw [Hv, if_pos hb, hr1]
   have hg : Cp i r h c = (r1.1, []) := B0d hP (by simpa using h34); refine H2 ?_; refine Bd f_ rfl Aa Aa (none, 0) (by rw [hg]; rfl) (fun w hs => by rw [hg]; exact ((hs.l7).bare.Bh 2 107))
  ·have hP : Hv i r c = r1 := by rw [Hv, if_pos hb, hr1]
   have hP0 : r1.1 = 0 := by simpa using h34
   have hP9 : Af r1.2 ∧ r1.2.length ≤ 1000 := ⟨by rw [hr1]; exact M3 (Df (F2 c i)) hk_r, by rw [hr1]; exact Nat.le_trans (Dr _) Iy⟩; refine C8j ?_; refine Hb ?_; refine Iv ?_; refine J1 ?_; refine q0 rfl (A0 call158 (Jl ((c).neg) i hc2 hi) (fun x40 => ?_)); refine Kz ?_; refine C5 ((Fv ((c).neg) i)) (fun h40 c40 => ?_) (fun h40 c40 => ?_)
   ·refine Ax ?_; refine J1 ?_; obtain ⟨r3, hr3⟩ : ∃ q9 : EL, q9 = Mx r := ⟨_, rfl⟩; refine q0 rfl (A0 call203 (Spec.Kg hr3 (E1i r a_r) (Qk r)) (fun x43 => ?_)); refine Gp ?_; refine C5 (decide (r3.1 ≠ 0)) (fun h47 c47 => ?_) (fun h47 c47 => ?_)
    ·have hg : Cp i r h c = (r3.1, []) := Mq (N := (r3.1, [])) hP hP0 (A1j h40 hr3 (by simpa using h47)) (by simpa using h47); refine H2 ?_; refine Bd f_ rfl Aa Aa (none, 0) (by rw [hg]; rfl) (fun w hs => by rw [hg]; exact ((hs.l7).bare.Bh 2 107))
    ·have hs0 : r3.1 = 0 := by simpa using h47
     refine K6 ?_; obtain ⟨r4, hr4⟩ : ∃ q9 : EL, q9 = H6 (r1.2) r3.2 := ⟨_, rfl⟩; refine q0 rfl (A0 call204 (Spec.Kg hr4 (B5b (r1.2) x30 r3.2 x43 hP9.2 (by rw [hr3]; have := C2z r; unfold Zx at this; omega)) (M3 hP9.1 (by rw [hr3]; exact Qk r))) (fun x52 => ?_)); refine L6 ?_; refine Tv ?_; refine C5 (decide (r4.1 ≠ 0)) (fun h56 c56 => ?_) (fun h56 c56 => ?_)
     ·have hN := Qh h40 hr3 hs0 hr4; have hg : Cp i r h c = (r4.1, []) := Mq hP hP0 hN (by simpa using h56); refine H2 ?_; refine Bd f_ rfl Aa Aa (none, 0) (by rw [hg]; rfl) (fun w hs => by rw [hg]; exact ((hs.l7).bare.Bh 2 107))
     ·have hN := Qh h40 hr3 hs0 hr4; have hN9 : r4.2.length ≤ 1000000 := by rw [hr4]; exact Nat.le_trans (Dr _) Iy
      have hg2 := On (h := h) hP hP0 hN (by simpa using h56); refine K6 ?_; obtain ⟨r9, hr9⟩ : ∃ q9 : EL, q9 = E7 h (r4.2) := ⟨_, rfl⟩; refine q0 rfl (A0 call205 (Spec.Jk hr9 (B5w h a_h (r4.2) x52 A4 hN9)) (fun x60 => ?_)); refine Ih ?_; have hg := hg2.trans hr9.symm; refine Bd f_ rfl Aa Aa x60 (by rw [hg]; rfl) (fun w hs => by rw [hg]; exact ((hs.l7).Ba (A := [_])))
   ·have hN := A6y (i := i) (r := r) (c := c) (g := r1.2) h40; have hN9 := Nat.le_trans hP9.2 (show (1000 : Nat) ≤ 1000000 by decide); have hg2 := On (h := h) hP hP0 hN rfl; refine K6 ?_; obtain ⟨r9, hr9⟩ : ∃ q9 : EL, q9 = E7 h (r1.2) := ⟨_, rfl⟩; refine q0 rfl (A0 call205 (Spec.Jk hr9 (B5w h a_h (r1.2) x30 A4 hN9)) (fun x60 => ?_)); refine Ih ?_; have hg := hg2.trans hr9.symm; refine Bd f_ rfl Aa Aa x60 (by rw [hg]; rfl) (fun w hs => by rw [hg]; exact ((hs.l7).Ba (A := [_])))
 ·have hP : Hv i r c = (0, [Cn c i]) := by rw [Hv, if_neg (by simp [h26])]
  have hP0 : ((0, [Cn c i]) : EL).1 = 0 := rfl; have hP9 : Af [Cn c i] ∧ [Cn c i].length ≤ 1000 := ⟨Df (F2 c i), by simp⟩; refine J0 ?_; refine Iv ?_; refine J1 ?_; refine q0 rfl (A0 call158 (Jl ((c).neg) i hc2 hi) (fun x40 => ?_)); refine Kz ?_; refine C5 ((Fv ((c).neg) i)) (fun h40 c40 => ?_) (fun h40 c40 => ?_)
  ·refine Ax ?_; refine J1 ?_; obtain ⟨r3, hr3⟩ : ∃ q9 : EL, q9 = Mx r := ⟨_, rfl⟩; refine q0 rfl (A0 call203 (Spec.Kg hr3 (E1i r a_r) (Qk r)) (fun x43 => ?_)); refine Gp ?_; refine C5 (decide (r3.1 ≠ 0)) (fun h47 c47 => ?_) (fun h47 c47 => ?_)
   ·have hg : Cp i r h c = (r3.1, []) := Mq (N := (r3.1, [])) hP hP0 (A1j h40 hr3 (by simpa using h47)) (by simpa using h47); refine H2 ?_; refine Bd f_ rfl Aa Aa (none, 0) (by rw [hg]; rfl) (fun w hs => by rw [hg]; exact ((hs.l7).bare.Bh 2 107))
   ·have hs0 : r3.1 = 0 := by simpa using h47
    refine K6 ?_; obtain ⟨r4, hr4⟩ : ∃ q9 : EL, q9 = H6 ([Cn c i]) r3.2 := ⟨_, rfl⟩; refine q0 rfl (A0 call204 (Spec.Kg hr4 (B5b ([Cn c i]) (some ⟨b22, 0, none⟩, 1) r3.2 x43 hP9.2 (by rw [hr3]; have := C2z r; unfold Zx at this; omega)) (M3 hP9.1 (by rw [hr3]; exact Qk r))) (fun x52 => ?_)); refine L6 ?_; refine Tv ?_; refine C5 (decide (r4.1 ≠ 0)) (fun h56 c56 => ?_) (fun h56 c56 => ?_)
    ·have hN := Qh h40 hr3 hs0 hr4; have hg : Cp i r h c = (r4.1, []) := Mq hP hP0 hN (by simpa using h56); refine H2 ?_; refine Bd f_ rfl Aa Aa (none, 0) (by rw [hg]; rfl) (fun w hs => by rw [hg]; exact ((hs.l7).bare.Bh 2 107))
    ·have hN := Qh h40 hr3 hs0 hr4; have hN9 : r4.2.length ≤ 1000000 := by rw [hr4]; exact Nat.le_trans (Dr _) Iy
     have hg2 := On (h := h) hP hP0 hN (by simpa using h56); refine K6 ?_; obtain ⟨r9, hr9⟩ : ∃ q9 : EL, q9 = E7 h (r4.2) := ⟨_, rfl⟩; refine q0 rfl (A0 call205 (Spec.Jk hr9 (B5w h a_h (r4.2) x52 A4 hN9)) (fun x60 => ?_)); refine Ih ?_; have hg := hg2.trans hr9.symm; refine Bd f_ rfl Aa Aa x60 (by rw [hg]; rfl) (fun w hs => by rw [hg]; exact ((hs.l7).Ba (A := [_])))
  ·have hN := A6y (i := i) (r := r) (c := c) (g := [Cn c i]) h40; have hN9 := Nat.le_trans hP9.2 (show (1000 : Nat) ≤ 1000000 by decide); have hg2 := On (h := h) hP hP0 hN rfl; refine K6 ?_; obtain ⟨r9, hr9⟩ : ∃ q9 : EL, q9 = E7 h ([Cn c i]) := ⟨_, rfl⟩; refine q0 rfl (A0 call205 (Spec.Jk hr9 (B5w h a_h ([Cn c i]) (some ⟨b22, 0, none⟩, 1) A4 hN9)) (fun x60 => ?_)); refine Ih ?_; have hg := hg2.trans hr9.symm; refine Bd f_ rfl Aa Aa x60 (by rw [hg]; rfl) (fun w hs => by rw [hg]; exact ((hs.l7).Ba (A := [_])))
set_option maxHeartbeats 4000000 in
theorem D3e (l : List Cl) (a_l : SH) (z : List Cl) (a_z : SH) (i : Int) (r : List Cl) (a_r : SH) (g4 g5 : Nat) (hkz : Af z) (hlz : z.length ≤ 64) (hi : Ap i) (hlr : r.length ≤ 1000) : Spec prog 167 #[sl a_l (l.length), sl a_z (z.length), .func (.func 234) #[] [pz g4, pz g5].toArray] [O7, CL l a_l, At g4 0 [iv i], At g5 0 [sl a_r r.length], CL r a_r] [Aj 2 107 a_z (z.length) (A8 z)] (fun x : SH => .tuple #[sl x (C0 (Cp i r) z l).2.length, iv (C0 (Cp i r) z l).1]) (fun x : SH => []) (fun x : SH => [Aj 2 107 x (C0 (Cp i r) z l).2.length (A8 (C0 (Cp i r) z l).2)]) := by
 rw [show (#[sl a_l (l.length), sl a_z (z.length), .func (.func 234) #[] [pz g4, pz g5].toArray] : Array Value) = ([sl a_l (l.length), sl a_z (z.length), .func (.func 234) #[] [pz g4, pz g5].toArray] : List Value).toArray from rfl]; refine Ge func167 ntmps167 rfl Zl fun B hB => ?_
 refine A7 (l := l) (a := a_l) (fun hl1 hA1 hU1 => ?_); refine Bs (p := Af l) (fun w hs => Bm (hs.facts (CL l a_l) D6)) (fun hk_l => ?_); refine Bs (p := Af r) (fun w hs => Bm (hs.facts (CL r a_r) D6)) (fun hk_r => ?_); refine Re ?_; refine B5 (X := Nat × SH × List Cl) (fun s_ => s_.1 ≤ l.length ∧ C0 (Cp i r) z (l.take s_.1) = (0, s_.2.2) ∧ Af s_.2.2 ∧ s_.2.2.length ≤ 64) (fun s_ => [(1, sl s_.2.1 (s_.2.2.length)), (2, .func (.func 234) #[] [pz g4, pz g5].toArray), (13, sl a_l (l.length)), (14, iv ((l.length : Int))), (15, iv ((s_.1 : Int)))]) (fun s_ G_ => G_) (fun s_ => [Aj 2 107 s_.2.1 (s_.2.2.length) (A8 s_.2.2)]) (fun s_ => l.length - s_.1) (0, a_z, z) (⟨Nat.zero_le _, rfl, hkz, hlz⟩) (by exact E1) ?_ ?_
 ·exact fun w hs => hs
 ·intro ⟨i9, a, hv⟩ base0 ⟨hi9, hf9, hk9, hl9⟩ next0; dsimp only at  hi9  hf9  hk9  hl9  next0 ⊢; refine Ek ?_; refine C5 (decide ((i9 : Int) < (l.length : Int))) (fun h16 c16 => ?_) (fun h16 c16 => ?_)
  ·have hui := hk_l.1 _ (Ac (d := Bo) (show i9 < l.length by omega)); refine Gq ?_; obtain ⟨bk2, o2, hav2⟩ := hA1 (by (first | assumption | omega)); refine q0 rfl (Dl ?_ (j := i9)); refine Tw ?_; refine q0 rfl (B3 fun b9 => ?_); refine J5 ?_; refine A1 (fun w hs => ((hs.perm Ak).Ci hB rfl (rfl) (hk9.2) (hk9.1))) ?_; refine Nd ?_; refine Ga ?_; obtain ⟨r3, hr3⟩ : ∃ q9 : EL, q9 = Cp i r hv (l.getD i9 Bo) := ⟨_, rfl⟩; refine q0 rfl (Ca call234 (Spec.Jk hr3 (E6g hv a (l.getD i9 Bo) g4 i g5 r a_r hui hi A4 hlr)) (cap := [pz g4, pz g5]) (fun x23 => ?_)); refine Gp ?_; refine C5 (decide (r3.1 ≠ 0)) (fun h27 c27 => ?_) (fun h27 c27 => ?_)
   ·refine Rc ?_; have hg : (C0 (Cp i r) z l) = (r3.1, []) := by rw [Fo A4 hf9 (by rw [← hr3]; simpa using h27), ← hr3]
    refine Bd f_ rfl Aa Aa (none, 0) (by rw [hg]; rfl) (fun w hs => by rw [hg]; exact ((hs.l7).bare.Bh 2 107))
   ·refine Rb ?_; refine A1 (fun w hs => ?_) (next0 (i9 + 1, x23, r3.2) _ (⟨by omega, by rw [Kn A4 hf9 (by rw [← hr3]; simpa using h27), ← hr3], by rw [hr3]; exact Zc hk_r hk9, by rw [hr3]; exact B5r _ _ _ _⟩) (by (try simp only); omega) E1); exact ((hs.l9).Ba (A := [_]))
  ·refine Ob ?_; have hg : (C0 (Cp i r) z l) = (0, hv) := Pu A4 hf9; refine Bd f_ rfl Aa Aa a (by rw [hg]; rfl) (fun w hs => by rw [hg]; exact (hs.l7))
theorem D3c (f : List Cl) (a_f : SH) (i : Int) (r : List Cl) (a_r : SH) (hi : Ap i) : Spec prog 160 #[sl a_f (f.length), iv (i), sl a_r (r.length)] [O7, CL f a_f, CL r a_r] [] (fun x : SH => .tuple #[sl x (Bn f i r).2.length, iv (Bn f i r).1]) (fun x : SH => []) (fun x : SH => [Aj 2 107 x (Bn f i r).2.length (A8 (Bn f i r).2)]) := by
 refine Dd ntmps160 fun B hB => ?_
 refine A7 (l := f) (a := a_f) (fun hl1 hA1 hU1 => ?_); refine A7 (l := r) (a := a_r) (fun hl2 hA2 hU2 => ?_); refine Bs (p := Af r) (fun w hs => Bm (hs.facts (CL r a_r) D6)) (fun hk_r => ?_); refine Ax ?_; refine q0 rfl (B0 fun b4 => ?_); refine q0 rfl (B0 fun b5 => ?_); refine Lu ?_; refine Ii ?_; refine Q5 ?_; refine q0 rfl (Qm fun b13 => ?_); refine Am (fun w hs => ((((hs.perm Bf).perm Bf).perm Bf).A2p hB De De)) ?_; refine q0 rfl (A0 call166 (O1 [(f, a_f), (r, a_r)] (some ⟨b13, 0, none⟩, 2)) (fun x14 => ?_)); refine Lv ?_; refine C5 (decide ((if [(f, a_f), (r, a_r)].all (fun p => A6 p.1) then (0 : Int) else 2) ≠ 0)) (fun h16 c16 => ?_) (fun h16 c16 => ?_)
 ·have hfr : (A6 f && A6 r) = false := by cases hq : A6 f <;> cases hq2 : A6 r <;> simp [hq, hq2] at h16 ⊢
  have h8 : (if [(f, a_f), (r, a_r)].all (fun p => A6 p.1) then (0 : Int) else 2) = 2 := by cases hq : A6 f <;> cases hq2 : A6 r <;> simp [hq, hq2] at h16 ⊢
  have hg : Bn f i r = (2, []) := by rw [Bn, if_pos hfr]
  refine H2 ?_; refine Bd f_ rfl Aa Aa (none, 0) (by rw [hg]; (conv => lhs; whnf; rw [h8]); rfl) (fun w hs => by rw [hg]; exact ((hs.l7).bare.Bh 2 107))
 ·have hfr : ¬ (A6 f && A6 r) = false := by cases hq : A6 f <;> cases hq2 : A6 r <;> simp [hq, hq2] at h16 ⊢
  have hlr : r.length ≤ 1000 := by simp at hfr; exact Nat.le_trans (Gw hfr.2) Iy
  refine J0 ?_; refine Ax ?_; refine Q5 ?_; obtain ⟨d9, hd9⟩ : ∃ q9 : EL, q9 = R2 i := ⟨_, rfl⟩; refine q0 rfl (A0 call61 (Spec.Jk hd9 (E4s i hi)) (fun x20 => ?_)); refine L6 ?_; refine Tv ?_; refine C5 (decide (d9.1 ≠ 0)) (fun h24 c24 => ?_) (fun h24 c24 => ?_)
  ·have hdm : Fu i = false := by rw [hd9, R2] at h24; cases hq : Fu i; rfl; simp [hq] at h24
   have h7 : d9.1 = 2 := by rw [hd9, R2, if_neg (by simp [hdm])]
   have hg : Bn f i r = (2, []) := by rw [Bn, if_neg hfr, if_pos hdm]
   refine H2 ?_; refine Bd f_ rfl Aa Aa (none, 0) (by rw [hg]; (conv => lhs; whnf; rw [h7]); rfl) (fun w hs => by rw [hg]; exact ((hs.l7).bare.Bh 2 107))
  ·have hdm : ¬ Fu i = false := by rw [hd9, R2] at h24; intro hq; simp [hq] at h24
   have hg : Bn f i r = C0 (Cp i r) [] f := by rw [Bn, if_neg hfr, if_neg hdm]
   refine J0 ?_; refine Jb (Ms' := [Aj 2 107 x20 (d9.2.length) (A8 d9.2), Ad b5 [sl a_r (r.length)] 22, Ad b4 [iv (i)] 3]) (by rfl) ?_; refine A1 (fun w hs => ((((hs.perm Ak).perm Ak).perm Bf).B9 hB)) ?_; refine A1 (fun w hs => ((hs.perm Ak).B9 hB)) ?_; refine A1 (fun w hs => hs.Bh 2 107) ?_; refine Ea ?_; refine q0 rfl (A0 call118 (Qz ) (fun x27 => ?_)); refine L0 ?_; refine q0 rfl (A0 call167 (D3e f a_f [] (none, 0) i r a_r b4 b5 Cd Iy hi hlr) (fun x29 => ?_)); refine Ih ?_; refine Bd f_ rfl Aa Aa x29 (by rw [hg]; rfl) (fun w hs => by rw [hg]; exact ((hs.l7).Ba (A := [_])))
end Go.Hy
