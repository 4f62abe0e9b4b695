/- Contracts of this program's functions and the laws that they need. -/
import Derived.RangeFuncNested
import Derived.RangeFuncBound
import Derived.RangeFuncCalls
import Derived.RangeFuncLeaves
import Derived.RangeFuncBox
import Derived.Shelf.Abstract
import Derived.Shelf.RegionOpen
import Derived.WalkKit
import Derived.OwnWalkIn
import Derived.TacticsInMore
import Derived.LoopNIn
import Derived.LoopIn
import Derived.Tactics2
import Derived.Shelf.SlSortCmp.NoneTotal
import Derived.Test.YtibignmpjeemeaaGreatDoorP7
set_option linter.unusedVariables false
set_option linter.unusedSimpArgs false
set_option linter.unusedSectionVars false
namespace Go.Hy
def B2b (t : T) (e : Ev) (b : Int × Int) : Ax T := (Is e b).bind fun e' => C7 Cc t e'
theorem D3t {t : T} {e : Ev} {b : Int × Int} {x : Int} (h : B2b t e b = .bad x) : x ≠ 0 := by
 unfold B2b at h
 rcases B8 h with h | ⟨e', _, h⟩
 ·exact U1 h
 ·exact Pv _ h
theorem U2 {r : Ax T} (hn : ∀ e, r = .bad e → e ≠ 0) (h : (I9 r).1 = 0) : r = .ok (I9 r).2 := by
 cases r with
 | ok u => rfl
 | bad e => exact absurd h (hn e rfl)
theorem B3n {r : Ax T} (h : (I9 r).1 ≠ 0) : r = .bad (I9 r).1 := by
 cases r with
 | ok u => exact absurd rfl h
 | bad e => rfl
theorem P0 {t : T} {e : Ev} {b : Int × Int} (h : (F2 t e b).1 = 0) : B2b t e b = .ok (F2 t e b).2 := U2 (fun _ h => D3t h) h
theorem Vk {t : T} {e : Ev} {b : Int × Int} (h : (F2 t e b).1 ≠ 0) : B2b t e b = .bad (F2 t e b).1 := B3n h
theorem A1o {k : Int} {ts : List T} {i : Nat} {l : List T} {e : Ev} {u : T} (hi : i < ts.length) (hl : Dt Cc k 0 (ts.take i) e = .ok l) (h : B2b (ts.getD i t0) e (binds k i) = .ok u) : Dt Cc k 0 (ts.take (i + 1)) e = .ok (l ++ [u]) := by
 obtain ⟨e', h1, h2⟩ := Ax.Ac h
 exact Qw hi hl h1 h2
theorem Y9 {t : T} {e : Ev} {x : Int} {p : Int × List Cl} {i : Nat} {l : List T} (ho : Cc.own e t.kind t.n t.name t.r = .ok (.inr p)) (hi : i < t.kids.length) (hl : Dt Cc t.kind 0 (t.kids.take i) e = .ok l) (h : B2b (t.kids.getD i t0) e (binds t.kind i) = .bad x) : C7 Cc t e = .bad x := by
 rcases B8 h with h | ⟨e', h1, h2⟩
 ·have h1 : Dt Cc t.kind 0 (t.kids.take (i + 1)) e = .bad x := by
   rw [Ag (d := t0) hi, Pc, hl]
   simp only [Ax.bind, List.length_take, Nat.zero_add, Nat.min_eq_left (Nat.le_of_lt hi)]
   rw [show Cc.Li e (binds t.kind i) = .bad x from h]
  have h2 := Wj (m := t.kids.drop (i + 1)) h1
  rw [List.take_append_drop] at h2
  exact A2u ho h2
 ·exact P9 ho hi hl h1 h2
theorem B2u {k : Int} {ts : List T} {i : Nat} {l : List T} {e : Ev} {u : T} (hi : i < ts.length) (hl : D2 Cc k (ts.take i) e = .ok l) (h : B2b (ts.getD i t0) e (0, more k) = .ok u) : D2 Cc k (ts.take (i + 1)) e = .ok (l ++ [u]) := by
 obtain ⟨e', h1, h2⟩ := Ax.Ac h
 exact Qx hi hl h1 h2
theorem A5n {k : Int} {ts : List T} {i : Nat} {l : List T} {e : Ev} {x : Int} (hi : i < ts.length) (hl : D2 Cc k (ts.take i) e = .ok l) (h : B2b (ts.getD i t0) e (0, more k) = .bad x) : D2 Cc k ts e = .bad x := by
 rcases B8 h with h | ⟨e', h1, h2⟩
 ·have h1 : D2 Cc k (ts.take (i + 1)) e = .bad x := by
   rw [Ag (d := t0) hi, Pa, hl]
   simp only [Ax.bind]
   rw [show Cc.Li e (0, more k) = .bad x from h]
  have h2 := Wi (m := ts.drop (i + 1)) h1
  rwa [List.take_append_drop] at h2
 ·exact Pb hi hl h1 h2
theorem Ur {C : Type} {A : Tr C} {k : Int} {c : C} {ss : List Br} {s : Nat} {bs : List Br} {e : Int} (hs : s < ss.length) (hb : Dc A k (ss.take s) c = .ok bs) (hf : A.B9 c (ss.getD s Bk).B9 = .bad e ∨ ∃ f', A.B9 c (ss.getD s Bk).B9 = .ok (some f') ∧ D2 A k (ss.getD s Bk).kids c = .bad e) : Dc A k ss c = .bad e := by
 have h1 : Dc A k (ss.take (s + 1)) c = .bad e := by
  rw [Ag (d := Bk) hs, Mj, hb]
  simp only [Ax.bind]
  rcases hf with hf | ⟨f', hf, h2⟩
  ·rw [hf]
  ·rw [hf]; simp only; rw [h2]
 have h2 := Rt (m := ss.drop (s + 1)) h1
 rwa [List.take_append_drop] at h2
def Qh (t : T) (e : Ev) (g : List Cl) (ks : List T) : Int × T := I9 ((Dc Cc t.kind t.sys e).bind fun bs => .ok (.mk t.kind 0 t.name g ks bs))
theorem B3d {t : T} {e : Ev} {g : List Cl} {ks : List T} {x : Int} (h : Dc Cc t.kind t.sys e = .bad x) : Qh t e g ks = (x, t0) := by unfold Qh; rw [h]; rfl
theorem D4n {t : T} {e : Ev} {g : List Cl} {ks : List T} {bs : List Br} (h : Dc Cc t.kind t.sys e = .ok bs) : Qh t e g ks = (0, .mk t.kind 0 t.name g ks bs) := by unfold Qh; rw [h]; rfl
theorem W0 {e : Ev} {f : List Cl} (h : (Fv true e.2 f).1 ≠ 0) : Cc.B9 e f = .bad (Fv true e.2 f).1 := by show (elR _).bind _ = _; rw [C0h h]; rfl
theorem T1 {e : Ev} {f : List Cl} (h : (Fv true e.2 f).1 = 0) (h2 : (Fv true e.2 f).2.length = 0) : Cc.B9 e f = .ok none := by show (elR _).bind _ = _; rw [B6s h]; show Ax.ok (if _ then _ else _) = _; rw [if_pos h2]
theorem T0 {e : Ev} {f : List Cl} (h : (Fv true e.2 f).1 = 0) (h2 : (Fv true e.2 f).2.length ≠ 0) : Cc.B9 e f = .ok (some (Fv true e.2 f).2) := by show (elR _).bind _ = _; rw [B6s h]; show Ax.ok (if _ then _ else _) = _; rw [if_neg h2]
theorem Y8 {e : Ev} {k n : Int} {nm : ByteArray} {r : List Cl} (hk : k ≠ 1) (h : (Fv (decide (k = 14)) e.2 r).1 ≠ 0) : Cc.own e k n nm r = .bad (Fv (decide (k = 14)) e.2 r).1 := by
 show (if k = 1 then _ else _) = _
 rw [if_neg hk, C0h h]; rfl
theorem A1n {e : Ev} {k n : Int} {nm : ByteArray} {r : List Cl} (hk : k ≠ 1) (h : (Fv (decide (k = 14)) e.2 r).1 = 0) : Cc.own e k n nm r = .ok (.inr (0, (Fv (decide (k = 14)) e.2 r).2)) := by
 show (if k = 1 then _ else _) = _
 rw [if_neg hk, B6s h]; rfl
theorem D4e {t : T} {e : Ev} {g : List Cl} {ks : List T} (ho : Cc.own e t.kind t.n t.name t.r = .ok (.inr (0, g))) (hl : Dt Cc t.kind 0 t.kids e = .ok ks) : Ec t e = Qh t e g ks := by
 show I9 _ = I9 _
 rw [Ft, ho]; simp only [Ax.bind]; rw [hl]
theorem B8e {t : T} {v : Int} {d : Nat} (hf : Em t) (hm : Ka t v d) : ∀ c, c ∈ t.r → ∀ j, (c.pos ||| c.neg).testBit j = true → j < d := by
 obtain ⟨⟨m1, m2, m3⟩, m4, m5⟩ := Mr.mp hm
 have h1 := (L2.mp hf).1
 by_cases hk : t.kind = 1
 ·rw [(A1g hf hk).1]
  intro c hc
  cases hc
 ·have hr : A7f (decide (t.kind = 14)) t.r := by
   unfold A7f
   by_cases h14 : t.kind = 14
   ·rw [if_pos (by simp [h14])]; exact (A0z h1).1 h14
   ·rw [if_neg (by simp [h14])]; exact (A0z h1).2
  exact Tb A2 (Ja (C1s hr)) m3
theorem B2t {t : T} {v : Int} {d : Nat} {s : Nat} (hf : Em t) (hm : Ka t v d) (hs : s < t.sys.length) : ∀ c, c ∈ (t.sys.getD s Bk).B9 → ∀ j, (c.pos ||| c.neg).testBit j = true → j < d := by
 obtain ⟨⟨m1, m2, m3⟩, m4, m5⟩ := Mr.mp hm
 have hb := Aa (d := Bk) hs
 exact Tb A2 (Ja (Eu (X7 hf hb)).1) (m4 _ hb)
def Jq (ts : List T) (D n : Nat) : Prop := ts.length + n ≤ 10000000 ∧ D + n ≤ 10000000 ∧ ∀ x, x ∈ ts → size x ≤ 1000000000
theorem Jq.less {ts : List T} {D n m : Nat} (h : Jq ts D n) (hm : m ≤ n) : Jq ts D m := ⟨by have := h.1; omega, by have := h.2.1; omega, h.2.2⟩
theorem B1y {e e' : Ev} {b : Int × Int} {n : Nat} (hb : bnd b) (h : Jq e.1 e.2.length (n + 1)) (hk : Is e b = .ok e') : Jq e'.1 e'.2.length n := by
 obtain ⟨h1, h2⟩ := A2d (n := 1000000000) A2 h.2.2 hk
 obtain ⟨h3, h4⟩ := h2 hb
 have h5 := h.1
 have h6 := h.2.1
 have h7 := hb.1
 have h8 := hb.2.1
 exact ⟨by omega, by omega, h1⟩
theorem B9w {e e' : Ev} {b : Int × Int} {t : T} (hb : bnd b) (hm : Ka t (e.1.length + b.1) (e.2.length + b.2)) {n : Nat} (h : Jq e.1 e.2.length n) (hk : Is e b = .ok e') : Ka t e'.1.length e'.2.length := by
 obtain ⟨h1, h2⟩ := A2d (n := 1000000000) A2 h.2.2 hk
 obtain ⟨h3, h4⟩ := h2 hb
 rw [h3, h4]; exact hm
theorem B1f {t : T} {v d : Int} (hm : Ka t v d) {i : Nat} (hi : i < t.kids.length) : Ka (t.kids.getD i t0) (v + (binds t.kind i).1) (d + (binds t.kind i).2) := (Mr.mp hm).2.2 _ (List.mem_of_getElem? (Eg t i hi))
theorem B1d {t : T} {v d : Int} (hm : Ka t v d) {s k : Nat} (hs : s < t.sys.length) (hk : k < (t.sys.getD s Bk).kids.length) : Ka ((t.sys.getD s Bk).kids.getD k t0) (v + 0) (d + more t.kind) := (Mr.mp hm).2.2 _ (List.mem_of_getElem? (Es t s k hs hk))
theorem A1y (k i : Int) : bnd ((binds k i).1, (binds k i).2) := C4h k i
theorem Uz {l : List CP} {ts : List T} {n : Nat} (h : Jq ts l.length n) : Jq (ts, l.map (·.1)).1 (ts, l.map (·.1)).2.length n := by
 show Jq ts (l.map (·.1)).length n
 rw [List.length_map]; exact h
theorem B1i {l : List CP} {ts : List T} {n : Nat} (h : Jq (ts, l.map (·.1)).1 (ts, l.map (·.1)).2.length n) : Jq ts l.length n := by
 have h : Jq ts (l.map (·.1)).length n := h
 rwa [List.length_map] at h
section
variable {P : Program} [Tab P] {f : FuncId} {fn : Func} {B : Cs} {n : Fz} {K : List Item} {σ : Nat → Value} {Γ : List Fact} {Ms : List Bm} {X : Type} {val : X → Value} {N : X → List Fact} {Ms1 : X → List Bm}
end
def kpT (e : Int) (t : T) : T := if e = 0 then t else t0
def kpS (e : Int) (s : SH) : SH := if e = 0 then s else (none, 0)
theorem D9x {e : Int} {t : T} (h : e = 0) : kpT e t = t := if_pos h
theorem D3r {e : Int} {t : T} (h : e ≠ 0) : kpT e t = t0 := if_neg h
theorem B6e {e : Int} {t : SH} (h : e = 0) : kpS e t = t := if_pos h
theorem A8a {e : Int} {t : SH} (h : e ≠ 0) : kpS e t = (none, 0) := if_neg h
theorem St.kp {B : Cs} {Γ : List Fact} {Ms : List Bm} {w : World} (e : Int) {t : T} {a b c : SH} (hs : St B Γ Ms w) (h : RT t a b c ∈ Γ) : St B (RT (kpT e t) (kpS e a) (kpS e b) (kpS e c) :: Γ) Ms w := by
 by_cases he : e = 0
 ·rw [D9x he, B6e he, B6e he, B6e he]
  exact hs.less (by
   intro F hF
   rcases List.mem_cons.mp hF with rfl | hF
   ·exact h
   ·exact hF)
 ·rw [D3r he, A8a he, A8a he, A8a he]
  exact hs.Gs
section
variable {tn : Bool} {pn : Nat} {P : Program} [Tab P] {f : FuncId} {R : Ending → World → Prop} {B : Cs} {n : Fz} {K : List Item} {ops : Array Oper} {fin l : List Nat} {σ : Nat → Value} {Γ : List Fact} {Ms : List Bm} {i : Nat} {dst : Option Tmp} {ty : TypeId} {x y z : Operand}
end
section
variable {M : Nat}
theorem C9j {e e' : Ev} {b : Int × Int} (hM : 1 ≤ M) (h : ∀ x, x ∈ e.1 → size x ≤ M) (hk : Cc.Li e b = .ok e') : ∀ x, x ∈ e'.1 → size x ≤ M := (A2d hM h hk).1
mutual
theorem A1m : ∀ {t u : T} {e : Ev}, 1 ≤ M → (∀ x, x ∈ e.1 → size x ≤ M) → C7 Cc t e = .ok u → size u ≤ size t * M
 | .mk k n nm r ks ss, u, e, hM, he, hu => by
  rw [Ft] at hu
  simp only [T.kind, T.n, T.name, T.r, T.kids, T.sys] at hu
  obtain ⟨o, h9, hu⟩ := Ax.Ac hu
  cases o with
  | inl v =>
   injection hu with hu
   subst hu
   simp only [Cc] at h9
   split at h9
   ·injection h9 with h9
    injection h9 with h9
    subst h9
    have h1 : size (e.1.getD n.toNat t0) ≤ M := by
     by_cases hl : n.toNat < e.1.length
     ·exact he _ (Aa hl)
     ·rw [List.getD_eq_getElem?_getD, List.getElem?_eq_none A2]
      show size t0 ≤ M
      rw [B8d]; exact hM
    exact Nat.le_trans h1 (Nat.le_mul_of_pos_left M (size_pos' _))
   ·obtain ⟨g, _, h9⟩ := Ax.Ac h9
    injection h9 with h9
    cases h9
  | inr p =>
   obtain ⟨ks', h10, hu⟩ := Ax.Ac hu
   obtain ⟨ss', h11, hu⟩ := Ax.Ac hu
   injection hu with hu
   subst hu
   rw [Zg, Zg (.mk k n nm r ks ss)]
   simp only [T.kids, T.sys]
   have h1 := A5m hM he h10
   have h2 := Xa hM he h11
   rw [Nat.add_mul, Nat.add_mul]
   omega
theorem A5m {k : Int} : ∀ {ts us : List T} {i : Nat} {e : Ev}, 1 ≤ M → (∀ x, x ∈ e.1 → size x ≤ M) → Dt Cc k i ts e = .ok us → Om us ≤ Om ts * M
 | [], us, i, e, hM, he, hu => by rw [Ef] at hu; injection hu with hu; subst hu; exact Nat.zero_le _
 | t :: ts, us, i, e, hM, he, hu => by
  rw [E7] at hu
  obtain ⟨c', h1, hu⟩ := Ax.Ac hu
  obtain ⟨t', h2, hu⟩ := Ax.Ac hu
  obtain ⟨ts', h3, hu⟩ := Ax.Ac hu
  injection hu with hu
  subst hu
  have h4 := A1m hM (C9j hM he h1) h2
  have h5 := A5m hM he h3
  simp only [Om]
  rw [Nat.add_mul]
  omega
theorem A5l {k : Int} : ∀ {ts us : List T} {e : Ev}, 1 ≤ M → (∀ x, x ∈ e.1 → size x ≤ M) → D2 Cc k ts e = .ok us → Om us ≤ Om ts * M
 | [], us, e, hM, he, hu => by rw [Ee] at hu; injection hu with hu; subst hu; exact Nat.zero_le _
 | t :: ts, us, e, hM, he, hu => by
  rw [E6] at hu
  obtain ⟨c', h1, hu⟩ := Ax.Ac hu
  obtain ⟨t', h2, hu⟩ := Ax.Ac hu
  obtain ⟨ts', h3, hu⟩ := Ax.Ac hu
  injection hu with hu
  subst hu
  have h4 := A1m hM (C9j hM he h1) h2
  have h5 := A5l hM he h3
  simp only [Om]
  rw [Nat.add_mul]
  omega
theorem Xa {k : Int} : ∀ {bs us : List Br} {e : Ev}, 1 ≤ M → (∀ x, x ∈ e.1 → size x ≤ M) → Dc Cc k bs e = .ok us → Xo us ≤ Xo bs * M
 | [], us, e, hM, he, hu => by rw [Dy] at hu; injection hu with hu; subst hu; exact Nat.zero_le _
 | .mk f ks :: bs, us, e, hM, he, hu => by
  rw [Dk] at hu
  simp only [Br.B9, Br.kids] at hu
  obtain ⟨o, h5, hu⟩ := Ax.Ac hu
  cases o with
  | none => have h6 := Xa hM he hu; simp only [Xo]; rw [Nat.add_mul]; omega
  | some g =>
   obtain ⟨ks', h7, hu⟩ := Ax.Ac hu
   obtain ⟨bs', h8, hu⟩ := Ax.Ac hu
   injection hu with hu
   subst hu
   have h1 := A5l hM he h7
   have h2 := Xa hM he h8
   simp only [Xo, Br.kids]
   rw [Nat.add_mul]
   omega
end
end
theorem A5p {t : T} {e : Ev} {M : Nat} (hM : 1 ≤ M) (he : ∀ x, x ∈ e.1 → size x ≤ M) : size (Ec t e).2 ≤ size t * M := by
 unfold Ec
 cases h : C7 Cc t e with
 | ok u => exact A1m hM he h
 | bad x => show size t0 ≤ _; rw [B8d]; exact Nat.le_trans hM (Nat.le_mul_of_pos_left M (size_pos' t))
theorem D0y {α : Type} {p : α → Bool} {l : List α} {d : α} {i : Nat} (hi : i < l.length) (h : p (l.getD i d) = true) : l.any p = true := List.any_eq_true.mpr ⟨_, Aa hi, h⟩
theorem any_none {α : Type} {p : α → Bool} {l : List α} {d : α} (h : ∀ j, j < l.length → p (l.getD j d) = false) : l.any p = false := by
 rw [List.any_eq_false]
 intro x hx
 obtain ⟨j, hj, rfl⟩ := List.mem_iff_getElem.mp hx
 have := h j hj
 rw [D0 (d := d) hj] at this
 rw [this]; decide
theorem C9o {α : Type} {p : α → Bool} {l : List α} {d : α} {i : Nat} (hi : i < l.length) (h : p (l.getD i d) = true) : decide (0 ≤ (i : Int)) = l.any p := by rw [D0y hi h]; exact decide_eq_true A2
theorem B2e {α : Type} {p : α → Bool} {l : List α} {d : α} (h : ∀ j, j < l.length → p (l.getD j d) = false) : decide (0 ≤ (-1 : Int)) = l.any p := by rw [any_none h]; decide
theorem C5l (ts : List T) (l : List CP) : (!(l.any fun x => !A9 x.1)) = Ci (ts, l.map (·.1)) := by
 unfold Ci
 show _ = (l.map (·.1)).all fun f => A9 f
 rw [List.all_map, Bool.eq_iff_iff]
 simp [List.any_eq_false]
theorem A8j (ts : List T) (l : List CP) : (decide ((ts.length : Int) ≤ 200) && decide ((l.length : Int) ≤ 24)) = Eb (ts, l.map (·.1)) := by
 unfold Eb
 show _ = (decide (ts.length ≤ 200) && decide ((l.map (·.1)).length ≤ 24))
 rw [List.length_map, Bool.eq_iff_iff]
 simp only [Bool.and_eq_true, decide_eq_true_eq]
 omega
theorem Mw {ts : List T} {l : List CP} (h : Eb (ts, l.map (·.1)) = true) : ts.length ≤ 200 ∧ l.length ≤ 24 := by
 rw [← A8j] at h
 simp only [Bool.and_eq_true, decide_eq_true_eq] at h
 omega
theorem B5z {f : List Cl} {n : Nat} (h : n ≤ 24) : Ju f n = decide (C2 f / 2 ^ (min n 32) = 0) := by unfold Ju; rw [Nat.min_eq_left A2]
theorem A2g {t : T} {e : Ev} (h : Eb e = false) : A8 t e = (2, t0) := by unfold A8; rw [if_pos h]
theorem Yd {t : T} {e : Ev} (h : Eb e = true) (h2 : D4 t e.1.length e.2.length ≠ 0) : A8 t e = (D4 t e.1.length e.2.length, t0) := by unfold A8; rw [if_neg (by rw [h]; decide), if_pos h2]
theorem Rm {t : T} {e : Ev} (h : Eb e = true) (h2 : D4 t e.1.length e.2.length = 0) (h3 : (Ci e && e.1.all fun x => decide (An x = 0)) = false) : A8 t e = (2, t0) := by unfold A8; rw [if_neg (by rw [h]; decide), if_neg (by rw [h2]; decide), if_pos h3]
theorem Yh {ts : List T} : (ts.all fun x => decide (An x = 0)) = !(ts.any fun t => decide (An t ≠ 0)) := by
 rw [Bool.eq_iff_iff]
 simp [List.any_eq_false]
theorem A6b {t : T} {e : Ev} (h : Eb e = true) (h2 : D4 t e.1.length e.2.length = 0) (h3 : (Ci e && e.1.all fun x => decide (An x = 0)) = true) (h4 : (Ec t e).1 ≠ 0) : A8 t e = ((Ec t e).1, t0) := by
 unfold A8
 rw [if_neg (by rw [h]; decide), if_neg (by rw [h2]; decide), if_neg (by rw [h3]; decide)]
 unfold Ec at h4 ⊢
 cases hq : C7 Cc t e with
 | ok u => rw [hq] at h4; exact absurd rfl h4
 | bad x => rfl
theorem Ye {t : T} {e : Ev} (h : Eb e = true) (h2 : D4 t e.1.length e.2.length = 0) (h3 : (Ci e && e.1.all fun x => decide (An x = 0)) = true) (h4 : (Ec t e).1 = 0) (h5 : An (Ec t e).2 ≠ 0) : A8 t e = (An (Ec t e).2, t0) := by
 have hz := U2 (r := C7 Cc t e) (fun x hx => Pv t hx) h4
 unfold A8
 rw [if_neg (by rw [h]; decide), if_neg (by rw [h2]; decide), if_neg (by rw [h3]; decide), hz]
 exact if_pos h5
theorem B3o {t : T} {e : Ev} (h : Eb e = true) (h2 : D4 t e.1.length e.2.length = 0) (h3 : (Ci e && e.1.all fun x => decide (An x = 0)) = true) (h4 : (Ec t e).1 = 0) (h5 : An (Ec t e).2 = 0) : A8 t e = (0, (Ec t e).2) := by
 have hz := U2 (r := C7 Cc t e) (fun x hx => Pv t hx) h4
 unfold A8
 rw [if_neg (by rw [h]; decide), if_neg (by rw [h2]; decide), if_neg (by rw [h3]; decide), hz]
 exact if_neg (by rw [show (I9 (C7 Cc t e)).2 = (Ec t e).2 from rfl, h5]; decide)
theorem A2f {t : T} {ts : List T} {l : List CP} (h : Eb (ts, l.map (·.1)) = true) (h2 : D4 t ts.length l.length = 0) (h3 : ∀ x, x ∈ ts → An x = 0) (hz : size t ≤ 20000) : Jq ts l.length (size t) ∧ Em t ∧ Ka t ts.length l.length := by
 have hl := Mw h
 obtain ⟨_, _, _, hf, hm⟩ := (A4g (t := t) (v := ts.length) (d := l.length) A2 A2).mp h2
 exact ⟨⟨by omega, by omega, fun x hx => by have := I6 (h3 x hx); omega⟩, hf, hm⟩
theorem Zo {t : T} {v d : Int} (hv : 0 ≤ v) (hb : v ≤ 1000000000000) (h : D4 t v d = 0) : size t ≤ 20000 := (Tj.mp ((A4g hv hb).mp h).2.2.1).2
theorem A1p {f : List Cl} {e : Ev} (h : (A9 f && Eb e && Ju f e.2.length && Ci e) = false) : B6 f e = (2, []) := by unfold B6; rw [if_neg (by rw [h]; decide)]
theorem A5o {f : List Cl} {e : Ev} (h : (A9 f && Eb e && Ju f e.2.length && Ci e) = true) : B6 f e = Fv false e.2 f := by unfold B6; rw [if_pos h]
theorem A0a {f : List Cl} {e : Ev} (hD : ∀ j, Ar (e.2.getD j [])) : Ts (B6 f e) := by
 unfold B6
 split
 ·exact Zz hD
 ·exact Df
theorem C8u {f : List Cl} {n : Nat} (hn : n ≤ 24) (h : A9 f = true) (h2 : Ju f n = true) : ∀ c, c ∈ f → ∀ j, (c.pos ||| c.neg).testBit j = true → j < n := by
 have hall : f.all B3 = true := by
  unfold A9 at h
  simp only [Bool.and_eq_true] at h
  exact h.1.1.1
 refine Tb hn hall ?_
 rw [B5z hn] at h2
 unfold within
 rw [Bool.or_eq_true]
 right
 have h3 := of_decide_eq_true h2
 rw [Int.toNat_natCast]
 exact decide_eq_true A2
theorem B6o {ts : List T} {l : List CP} {i : Nat} {d : Nat} (hi : i < l.length) (h : A9 (l.getD i C1).1 = false ∨ Ju (l.getD i C1).1 d = false) : Ci (ts, l.map (·.1)) = false ∨ ((l.map (·.1)).all fun f => Ju f d) = false := by
 have hm : (l.getD i C1).1 ∈ l.map (·.1) := List.mem_map.mpr ⟨_, Aa hi, rfl⟩
 rcases h with h | h
 ·left
  cases hq : Ci (ts, l.map (·.1)) with
  | false => rfl
  | true => have := List.all_eq_true.mp hq _ hm; rw [h] at this; cases this
 ·right
  cases hq : ((l.map (·.1)).all fun f => Ju f d) with
  | false => rfl
  | true => have := List.all_eq_true.mp hq _ hm; rw [h] at this; cases this
def Ir (ts : List T) (l : List CP) : Bool := decide (30 < ts.length) || decide (30 < l.length) || (l.any fun x => decide (6 < x.1.length)) || decide (150 < J3 (.mk 0 0 ⟨#[]⟩ [] ts []))
theorem Rc {ts : List T} {l : List CP} (h : Ir ts l = false) : ts.length ≤ 30 ∧ l.length ≤ 30 ∧ (∀ x, x ∈ l → x.1.length ≤ 6) ∧ J3 (.mk 0 0 ⟨#[]⟩ [] ts []) ≤ 150 := by
 unfold Ir at h
 simp only [Bool.or_eq_false_iff, decide_eq_false_iff_not] at h
 obtain ⟨⟨⟨h1, h2⟩, h3⟩, h4⟩ := h
 refine ⟨by omega, by omega, fun x hx => ?_, by omega⟩
 have := List.any_eq_false.mp h3 x hx
 simp only [decide_eq_true_eq] at this
 omega
theorem C3n {ts : List T} {l : List CP} (h : 30 < ts.length ∨ 30 < l.length) : Ir ts l = true := by
 unfold Ir
 rcases h with h | h <;> simp [h]
theorem B6j {ts : List T} {l : List CP} {i : Nat} (hi : i < l.length) (h : 6 < (l.getD i C1).1.length) : Ir ts l = true := by
 unfold Ir
 rw [D0y (p := fun x : CP => decide (6 < x.1.length)) (d := C1) hi (decide_eq_true h)]
 simp
theorem B6k {ts : List T} {l : List CP} (h1 : ts.length ≤ 30) (h2 : l.length ≤ 30) (h3 : ∀ j, j < l.length → (l.getD j C1).1.length ≤ 6) : Ir ts l = decide (150 < J3 (.mk 0 0 ⟨#[]⟩ [] ts [])) := by
 unfold Ir
 rw [any_none (p := fun x : CP => decide (6 < x.1.length)) (d := C1) (fun j hj => decide_eq_false (by have := h3 j hj; omega)), decide_eq_false (show ¬ 30 < ts.length by omega), decide_eq_false (show ¬ 30 < l.length by omega)]
 simp
theorem B4v {f : List Cl} {ts : List T} {l : List CP} (h : (!A9 f || !Eb (ts, l.map (·.1)) || decide (C2 f / 2 ^ (min l.length 32) ≠ 0) || !Ci (ts, l.map (·.1))) = false) : (A9 f && Eb (ts, l.map (·.1)) && Ju f (ts, l.map (·.1)).2.length && Ci (ts, l.map (·.1))) = true := by
 simp only [Bool.or_eq_false_iff, Bool.not_eq_false'] at h
 obtain ⟨⟨⟨h1, h2⟩, h3⟩, h4⟩ := h
 have hl := Mw h2
 show (_ && _ && Ju f (l.map (·.1)).length && _) = true
 rw [List.length_map, B5z hl.2, h1, h2, h4]
 simpa using h3
theorem B4w {f : List Cl} {ts : List T} {l : List CP} (h : (!A9 f || !Eb (ts, l.map (·.1)) || decide (C2 f / 2 ^ (min l.length 32) ≠ 0) || !Ci (ts, l.map (·.1))) = true) : (A9 f && Eb (ts, l.map (·.1)) && Ju f (ts, l.map (·.1)).2.length && Ci (ts, l.map (·.1))) = false := by
 cases h1 : A9 f with
 | false => rfl
 | true =>
  cases h2 : Eb (ts, l.map (·.1)) with
  | false => rfl
  | true =>
   have hl := Mw h2
   show (_ && Ju f (l.map (·.1)).length && _) = false
   rw [List.length_map, B5z hl.2]
   rw [h1, h2] at h
   cases h3 : Ci (ts, l.map (·.1)) with
   | false => simp
   | true => rw [h3] at h; simpa using h
theorem Uy {f : List Cl} {ts : List T} {l : List CP} (h : (A9 f && Eb (ts, l.map (·.1)) && Ju f (ts, l.map (·.1)).2.length && Ci (ts, l.map (·.1))) = true) : ∀ c, c ∈ f → ∀ j, (c.pos ||| c.neg).testBit j = true → j < l.length := by
 simp only [Bool.and_eq_true] at h
 have hl := Mw h.1.1.2
 have h2 : Ju f (l.map (·.1)).length = true := h.1.2
 rw [List.length_map] at h2
 exact C8u hl.2 h.1.1.1 h2
theorem Ww {α β : Type} {g : α → Int × β} {l : List α} (h : (B4 g [] l).1 = 0) : (Hg g l).1 = 0 ∧ (B4 g [] l).2 = (Hg g l).2 := by
 unfold B4 at h ⊢
 by_cases h1 : (Hg g l).1 ≠ 0
 ·rw [if_pos h1] at h; exact absurd h h1
 ·rw [if_neg h1]
  exact ⟨Decidable.not_not.mp h1, rfl⟩
theorem B0g {α β : Type} {g : α → Int × β} {l : List α} (h : (B4 g [] l).1 ≠ 0) : (Hg g l).1 ≠ 0 ∧ (B4 g [] l).1 = (Hg g l).1 := by
 unfold B4 at h ⊢
 by_cases h1 : (Hg g l).1 ≠ 0
 ·rw [if_pos h1]; exact ⟨h1, rfl⟩
 ·rw [if_neg h1] at h; exact absurd rfl h
theorem A3u {e f : Ev} (h : (B4 (fun g => B6 g f) [] e.2).1 ≠ 0) : Iy e f = ((B4 (fun g => B6 g f) [] e.2).1, [], []) := by
 obtain ⟨h1, h2⟩ := B0g h
 unfold Iy
 rw [if_pos h1, h2]
theorem A3t {e f : Ev} (h : (B4 (fun g => B6 g f) [] e.2).1 = 0) (h2 : (B4 (fun t => A8 t f) [] e.1).1 ≠ 0) : Iy e f = ((B4 (fun t => A8 t f) [] e.1).1, [], []) := by
 obtain ⟨h3, h4⟩ := B0g h2
 unfold Iy
 rw [if_neg (by rw [(Ww h).1]; decide), if_pos h3, h4]
theorem A9m {e f : Ev} (h : (B4 (fun g => B6 g f) [] e.2).1 = 0) (h2 : (B4 (fun t => A8 t f) [] e.1).1 = 0) : Iy e f = (0, (B4 (fun t => A8 t f) [] e.1).2, (B4 (fun g => B6 g f) [] e.2).2) := by
 obtain ⟨h3, h4⟩ := Ww h
 obtain ⟨h5, h6⟩ := Ww h2
 unfold Iy
 rw [if_neg (by rw [h3]; decide), if_neg (by rw [h5]; decide), h4, h6]
def sE : T := Qi 19 [] []
theorem D4d : A8 (aE (vE 0) (vE 1)) ([uE, sE], []) = (0, aE uE sE) := by decide +kernel
theorem D4c : A8 (lE (aE (vE 0) (vE 1))) ([vE 3], []) = (0, lE (aE (vE 0) (vE 4))) := by decide +kernel
theorem Vy : size (aE (vE 0) (vE 1)) ≤ 100 ∧ size (lE (aE (vE 0) (vE 1))) ≤ 100 ∧ (∀ t, t ∈ [uE, sE] → size t ≤ 100) ∧ ∀ t, t ∈ [vE 3] → size t ≤ 100 := by decide +kernel
theorem A9p : ∀ {l : List Nat} {x : Nat}, x ∈ l → x ≤ l.sum
 | [], x, h => by cases h
 | a :: l, x, h => by
  rw [List.sum_cons]
  rcases List.mem_cons.mp h with rfl | h
  ·omega
  ·have := A9p h; omega
theorem D0v {ts : List T} {x : T} (hx : x ∈ ts) : J3 x ≤ J3 (.mk 0 0 ⟨#[]⟩ [] ts []) := by
 have h := A9p (l := ts.map J3) (x := J3 x) (List.mem_map.mpr ⟨x, hx, rfl⟩)
 have e := W6 (.mk 0 0 ⟨#[]⟩ [] ts [])
 simp only [T.kids, T.sys, T.r, T.name] at e
 omega
theorem B2i {ts : List T} {l : List CP} (h : Ir ts l = false) : ∀ t, t ∈ ts → J3 t ≤ 150 := fun t ht => Nat.le_trans (D0v ht) (Rc h).2.2.2
theorem Nl {ts : List T} {l : List CP} (h : Ir ts l = false) : ∀ t, t ∈ ts → size t ≤ 1152921504606846 := fun t ht => by
 have h1 := B2i h t ht
 have h2 := A6x t
 omega
end Go.Hy
namespace Go.Hy
theorem C2z {f : List Cl} {n : Nat} : Ju f n = true ↔ ∀ i, n ≤ i → (C2 f).testBit i = false := by
 unfold Ju
 rw [decide_eq_true_eq, Nat.div_eq_zero_iff_lt (Nat.two_pow_pos n)]
 constructor
 ·intro h i hi
  exact Nat.testBit_lt_two_pow (Nat.lt_of_lt_of_le h (Nat.pow_le_pow_right A2 hi))
 ·intro h
  exact Nat.lt_pow_two_of_testBit _ h
theorem B6d {l : List Int} (hp : l.Pairwise (· < ·)) {x : Int} (hx : x ∈ l) : x ≤ l.getD (l.length - 1) 0 := by
 obtain ⟨j, hj, rfl⟩ := List.mem_iff_getElem.mp hx
 rw [D0 (d := (0 : Int)) (show l.length - 1 < l.length by omega)]
 rcases Nat.lt_or_ge j (l.length - 1) with h | h
 ·exact Int.le_of_lt (List.pairwise_iff_getElem.mp hp j (l.length - 1) hj A2 h)
 ·have : j = l.length - 1 := by omega
  subst this
  exact Int.le_refl _
theorem E4a {f : List Cl} {d : Int} (hd : 0 ≤ d ∧ d ≤ 24) : (decide (((A3 (C2 f)).length : Int) = 0) || decide ((A3 (C2 f)).getD ((A3 (C2 f)).length - 1) 0 < d)) = Ju f d.toNat := by
 rw [Bool.eq_iff_iff, C2z, Bool.or_eq_true, decide_eq_true_eq, decide_eq_true_eq]
 constructor
 ·intro h i hi
  cases hq : (C2 f).testBit i with
  | false => rfl
  | true =>
   exfalso
   have h24 := (A5k.mp hq).1
   have hm : (i : Int) ∈ A3 (C2 f) := (C3c h24).mpr hq
   rcases h with h | h
   ·have := List.length_pos_of_mem hm; omega
   ·have := B6d (B1n _) hm; omega
 ·intro h
  rcases Nat.eq_zero_or_pos (A3 (C2 f)).length with h0 | h0
  ·left; omega
  ·right
   have hl : (A3 (C2 f)).length - 1 < (A3 (C2 f)).length := by omega
   have hm := Aa (d := (0 : Int)) hl
   obtain ⟨m1, m2, m3⟩ := Dz.mp hm
   rcases Int.lt_or_le ((A3 (C2 f)).getD ((A3 (C2 f)).length - 1) 0) d with h2 | h2
   ·exact h2
   ·exfalso
    have := h _ (show d.toNat ≤ ((A3 (C2 f)).getD ((A3 (C2 f)).length - 1) 0).toNat by omega)
    rw [m3] at this; cases this
theorem B4i {ts : List T} {l : List CP} {i : Nat} (hi : i < l.length) (h : A9 (l.getD i C1).1 = false) : Ci (ts, l.map (·.1)) = false := by
 rcases B6o (ts := ts) (d := 0) hi (.inl h) with h | h
 ·exact h
 ·cases hq : Ci (ts, l.map (·.1)) with
  | false => rfl
  | true =>
   have hm : (l.getD i C1).1 ∈ l.map (·.1) := List.mem_map.mpr ⟨_, Aa hi, rfl⟩
   have := List.all_eq_true.mp hq _ hm
   simp_all
theorem A9q {ts : List T} {l : List CP} (h : ∀ j, j < l.length → A9 (l.getD j C1).1 = true) : Ci (ts, l.map (·.1)) = true := by
 unfold Ci
 rw [List.all_eq_true]
 intro f hf
 obtain ⟨p, hp, rfl⟩ := List.mem_map.mp hf
 obtain ⟨j, hj, rfl⟩ := List.mem_iff_getElem.mp hp
 have := h j hj
 rwa [D0 (d := C1) hj] at this
end Go.Hy
namespace Go.Hy
def C0a (p : Bool) (D : List (List Cl)) (c : Cl) : Nat → EL
 | 0 => (0, [B1])
 | 1 => Cz p false D (A3 c.pos) [B1]
 | _ => N1 p D c
theorem X5 {p : Bool} {D : List (List Cl)} {c : Cl} {b : Nat} {g : List Cl} (hb : b < 2) (h : C0a p D c b = (0, g)) : C0a p D c (b + 1) = Cz p (decide ((b : Int) = 1)) D (if b = 1 then A3 c.neg else A3 c.pos) g := by
 match b, hb with
 | 0, _ =>
  have : g = [B1] := (congrArg Prod.snd h).symm
  subst this; rfl
 | 1, _ =>
  have h : Cz p false D (A3 c.pos) [B1] = (0, g) := h
  show N1 p D c = Cz p true D (A3 c.neg) g
  unfold N1
  rw [h]; rfl
theorem Vo {p : Bool} {D : List (List Cl)} {c : Cl} {b : Nat} {g : List Cl} (hb : b < 2) (h : C0a p D c b = (0, g)) (h2 : (Cz p (decide ((b : Int) = 1)) D (if b = 1 then A3 c.neg else A3 c.pos) g).1 ≠ 0) : (N1 p D c).1 = (Cz p (decide ((b : Int) = 1)) D (if b = 1 then A3 c.neg else A3 c.pos) g).1 ∧ (N1 p D c).1 ≠ 0 := by
 have h3 := X5 hb h
 match b, hb with
 | 0, _ =>
  have h3 : Cz p false D (A3 c.pos) [B1] = Cz p (decide (((0 : Nat) : Int) = 1)) D (if (0 : Nat) = 1 then A3 c.neg else A3 c.pos) g := h3
  rw [← h3] at h2 ⊢
  have h4 : (N1 p D c).1 = (Cz p false D (A3 c.pos) [B1]).1 := by
   unfold N1
   rw [Bp h2]
  exact ⟨h4, by rw [h4]; exact h2⟩
 | 1, _ =>
  have h3 : N1 p D c = Cz p (decide (((1 : Nat) : Int) = 1)) D (if (1 : Nat) = 1 then A3 c.neg else A3 c.pos) g := h3
  rw [← h3] at h2 ⊢
  exact ⟨rfl, h2⟩
theorem A6s {p : Bool} {D : List (List Cl)} {h : List Cl} {c : Cl} {g : List Cl} (hc : N1 p D c = (0, g)) : Fu p D h c = Qg p h g := by
 unfold Fu
 rw [hc]; rfl
theorem N9 {p : Bool} {D : List (List Cl)} {h : List Cl} {c : Cl} (hc : (N1 p D c).1 ≠ 0) : (Fu p D h c).1 = (N1 p D c).1 := by
 unfold Fu
 rw [Bp hc]
theorem On {p : Bool} {D : List (List Cl)} {f h : List Cl} {i : Nat} {e : Int} (hi : i < f.length) (hf : Cu (Fu p D) [] (f.take i) = (0, h)) (he : (Fu p D h (f.getD i B1)).1 = e) (h0 : e ≠ 0) : Fv p D f = (e, []) := by
 unfold Fv
 rw [S6 hi hf (by rw [he]; exact h0), he]
end Go.Hy
namespace Go.Hy
theorem D2c {f : List Cl} {ts : List T} {l : List CP} (h : (!A9 f || !Eb (ts, l.map (·.1)) || !Ju f l.length || !Ci (ts, l.map (·.1))) = false) : (A9 f && Eb (ts, l.map (·.1)) && Ju f (ts, l.map (·.1)).2.length && Ci (ts, l.map (·.1))) = true := by
 show (_ && _ && Ju f (l.map (·.1)).length && _) = true
 rw [List.length_map]
 simpa [and_assoc] using h
theorem D2d {f : List Cl} {ts : List T} {l : List CP} (h : (!A9 f || !Eb (ts, l.map (·.1)) || !Ju f l.length || !Ci (ts, l.map (·.1))) = true) : (A9 f && Eb (ts, l.map (·.1)) && Ju f (ts, l.map (·.1)).2.length && Ci (ts, l.map (·.1))) = false := by
 show (_ && _ && Ju f (l.map (·.1)).length && _) = false
 rw [List.length_map]
 cases h1 : A9 f <;> cases h2 : Eb (ts, l.map (·.1)) <;> cases h3 : Ju f l.length <;> cases h4 : Ci (ts, l.map (·.1)) <;> simp_all
end Go.Hy
namespace Go.Hy
theorem Zl {l : List Cl} {f b e : Int} (h : C0 b l f = .bad e) : e ≤ 10 := by
 unfold C0 at h
 split at h
 ·cases h
 ·split at h
  ·cases h
  ·injection h with h; rw [← h]; exact Vr
theorem A7y {vb db : Int} : ∀ (t : T) {c : Int × Int} {e : Int}, C7 (Bh vb db) t c = .bad e → e ≤ 100 := T.ind fun t ih c e h => by
 rcases Qv h with h1 | ⟨b, _, h1⟩ | ⟨p, hp, h1 | ⟨c', _, h2⟩⟩
 ·simp only [Bh] at h1
  rcases B8 h1 with h1 | ⟨_, _, h1⟩
  ·have := Zl h1; omega
  ·split at h1
   ·split at h1
    ·injection h1 with h1; omega
    ·cases h1
   ·cases h1
 ·simp only [Bh] at h1
  rcases B8 h1 with h1 | ⟨_, _, h1⟩
  ·have := Zl h1; omega
  ·cases h1
 ·cases h1
 ·exact ih p hp h2
theorem C3r (t : T) : An t ≤ 1000 := by
 unfold An sized
 (repeat' split) <;> first | omega | decide
theorem A1b {t : T} {ns : List Int} {vb db : Int} {u : T} {c : Int × Int} : 0 ≤ (Bt t ns (C7 (Bh vb db) u c)).1 ∧ (Bt t ns (C7 (Bh vb db) u c)).1 ≤ 1000 := by
 unfold Bt
 split
 ·exact ⟨C3q t, C3r t⟩
 ·split
  ·exact ⟨by show (0 : Int) ≤ 2; omega, by show (2 : Int) ≤ 1000; omega⟩
  ·cases h : C7 (Bh vb db) u c with
   | ok x => exact ⟨by show (0 : Int) ≤ 0; omega, by show (0 : Int) ≤ 1000; omega⟩
   | bad e => exact ⟨by have := M0 u h; show 0 ≤ e; omega, by have := A7y u h; show e ≤ 1000; omega⟩
theorem C1d (t : T) (f b : Int) : 0 ≤ (Bd t f b).1 ∧ (Bd t f b).1 ≤ 1000 := A1b
theorem C3x (t : T) (f b : Int) : 0 ≤ (Bc t f b).1 ∧ (Bc t f b).1 ≤ 1000 := A1b
theorem S2 {α β : Type} {g : α → Int × β} : ∀ {l : List α}, (∀ a, 0 ≤ (g a).1 ∧ (g a).1 ≤ 1000) → 0 ≤ (Hg g l).1 ∧ (Hg g l).1 ≤ 1000
 | [], _ => ⟨by show (0 : Int) ≤ 0; omega, by show (0 : Int) ≤ 1000; omega⟩
 | a :: l, h => by
  rw [Hg]
  split
  ·exact h a
  ·have := S2 (l := l) h
   split
   ·exact this
   ·exact ⟨by show (0 : Int) ≤ 0; omega, by show (0 : Int) ≤ 1000; omega⟩
theorem Ws {α : Type} {x : Int × α} {e : Int} (h : Yn x = .bad e) : e = x.1 := by
 unfold Yn at h
 split at h
 ·cases h
 ·injection h with h; exact h.symm
theorem A2e {e : Ev} {b : Int × Int} {x : Int} (h : Is e b = .bad x) : 0 < x ∧ x ≤ 1000 := by
 have h0 := U1 h
 have key : 0 ≤ x ∧ x ≤ 1000 := by
  unfold Is at h
  split at h
  ·unfold Ym at h
   rcases B8 h with h | ⟨_, _, h⟩
   ·rw [Ws h]; exact S2 fun a => C1d a 0 1
   ·cases h
  ·split at h
   ·unfold W5 at h
    rcases B8 h with h | ⟨_, _, h⟩
    ·rw [Ws h]; exact S2 fun a => ⟨Vq, Int.le_trans Vr A2⟩
    ·rcases B8 h with h | ⟨_, _, h⟩
     ·rw [Ws h]; exact S2 fun a => C3x a 0 1
     ·cases h
   ·cases h
 omega
theorem D2t (f : List Cl) : pE (Gv f) := by
 unfold Gv
 split
 ·exact B8w f
 ·exact Tq _
theorem D8e (p neg : Bool) (f : List Cl) : pE (Xy p neg f) := by
 unfold Xy
 split
 ·split
  ·exact C2f f
  ·exact C7k f
 ·split
  ·exact D2t f
  ·exact C7j f
theorem D2u (p : Bool) (g k : List Cl) : pE (J9 p g k) := by
 unfold J9
 split
 ·by_cases h : (A7 g && A7 k) = false
  ·unfold Ds; rw [if_pos h]; exact Tq _
  ·have h2 : A7 g = true ∧ A7 k = true := by simpa using h
   rw [Ny h2.1 h2.2]
   exact Mn _
 ·unfold H5
  split
  ·exact Tq _
  ·exact Mn _
theorem D2v (p : Bool) (g k : List Cl) : pE (Qg p g k) := by
 unfold Qg
 split
 ·unfold Jn
  split
  ·exact Tq _
  ·exact Mn _
 ·unfold Jm
  split
  ·exact Tq _
  ·exact Mn _
theorem A7n {p neg : Bool} {D : List (List Cl)} : ∀ {l : List Int} {g : List Cl}, pE (Cz p neg D l g)
 | [], g => C7j g
 | i :: l, g => by
  rw [Cz]
  exact Pk (D8e _ _ _) fun h => Pk (D2u _ _ _) fun g => A7n
theorem Ys (p : Bool) (D : List (List Cl)) (f : List Cl) : pE (Fv p D f) := A7o fun h c => Pk (Pk A7n fun g => A7n) fun g => D2v _ _ _
theorem Pw : ∀ (t : T) {e : Ev} {x : Int}, C7 Cc t e = .bad x → 0 < x ∧ x ≤ 1000 := T.ind fun t ih e x h => by
 rcases Qv h with h1 | ⟨b, _, h1⟩ | ⟨p, hp, h1 | ⟨c', _, h2⟩⟩
 ·simp only [Cc] at h1
  split at h1
  ·cases h1
  ·rcases B8 h1 with h1 | ⟨_, _, h1⟩
   ·obtain ⟨h2, h3⟩ := No.mp h1
    have := Ys (decide (t.kind = 14)) e.2 t.r
    unfold pE at this
    omega
   ·cases h1
 ·simp only [Cc] at h1
  rcases B8 h1 with h1 | ⟨_, _, h1⟩
  ·obtain ⟨h2, h3⟩ := No.mp h1
   have := Ys true e.2 b.B9
   unfold pE at this
   omega
  ·cases h1
 ·exact A2e h1
 ·exact ih p hp h2
def Wa (ts : List T) : Prop := ∀ x, x ∈ ts → 0 ≤ x.kind
theorem B3m {e e' : Ev} {b : Int × Int} (h : Wa e.1) (hk : Is e b = .ok e') : Wa e'.1 := by
 unfold Is at hk
 split at hk
 ·obtain ⟨rfl, ht⟩ := A3j hk
  intro x hx
  rcases List.mem_cons.mp hx with rfl | hx
  ·show (0 : Int) ≤ 1; omega
  ·obtain ⟨y, hy, rfl⟩ := List.mem_map.mp hx
   rw [X2 (ht y hy)]; exact h y hy
 ·split at hk
  ·obtain ⟨rfl, ht, _⟩ := A5v hk
   intro x hx
   obtain ⟨y, hy, rfl⟩ := List.mem_map.mp hx
   rw [X2 (ht y hy)]; exact h y hy
  ·injection hk with hk
   subst hk
   exact h
theorem B2v {t u : T} {e : Ev} (hf : Em t) (h : Wa e.1) (hu : C7 Cc t e = .ok u) : 0 ≤ u.kind := by
 rw [Ft] at hu
 obtain ⟨o, h9, hu⟩ := Ax.Ac hu
 cases o with
 | inl v =>
  injection hu with hu
  subst hu
  simp only [Cc] at h9
  split at h9
  ·injection h9 with h9
   injection h9 with h9
   subst h9
   by_cases hl : t.n.toNat < e.1.length
   ·exact h _ (Aa hl)
   ·rw [List.getD_eq_getElem?_getD, List.getElem?_eq_none A2]
    show (0 : Int) ≤ 0; omega
  ·obtain ⟨g, _, h9⟩ := Ax.Ac h9
   injection h9 with h9
   cases h9
 | inr p =>
  obtain ⟨ks', h10, hu⟩ := Ax.Ac hu
  obtain ⟨ss', h11, hu⟩ := Ax.Ac hu
  injection hu with hu
  subst hu
  show 0 ≤ t.kind
  exact X6 hf
def Th (t : T) (e : Ev) : T := B2w (Ec t e)
def Gx (t : T) (e : Ev) (b : Int × Int) : T := B2w (F2 t e b)
theorem Y3 {t : T} {e : Ev} {b : Int × Int} (hf : Em t) (h : Wa e.1) : (Gx t e b).kind < 0 ↔ (F2 t e b).1 ≠ 0 := by
 unfold Gx B2w
 by_cases h0 : (F2 t e b).1 = 0
 ·rw [if_pos h0]
  obtain ⟨e', h1, h2⟩ := Ax.Ac (P0 h0)
  have := B2v hf (B3m h h1) h2
  omega
 ·rw [if_neg h0]
  have h1 := Vk h0
  have hp : 0 < (F2 t e b).1 := by
   rcases B8 h1 with h2 | ⟨e', _, h2⟩
   ·exact (A2e h2).1
   ·exact (Pw t h2).1
  have := Oo hp
  omega
theorem A0v {t : T} {e : Ev} {b : Int × Int} (h : (F2 t e b).1 = 0) : Gx t e b = (F2 t e b).2 := if_pos h
theorem Y4 {t : T} {e : Ev} {b : Int × Int} (h : (F2 t e b).1 ≠ 0) : Gx t e b = Qf (F2 t e b).1 := if_neg h
theorem Wn {t : T} {e : Ev} {x : Int} (h : C7 Cc t e = .bad x) : Th t e = Qf x := by
 unfold Th B2w Ec
 rw [h]
 exact if_neg (Pv t h)
theorem C5f {t u : T} {e : Ev} (h : C7 Cc t e = .ok u) : Th t e = u := by
 unfold Th B2w Ec
 rw [h]
 exact if_pos rfl
end Go.Hy
namespace Go.Hy
theorem D6u {t : T} {e : Ev} (hf : Em t) (h : Wa e.1) : (Th t e).kind < 0 ↔ (Ec t e).1 ≠ 0 := by
 cases hq : C7 Cc t e with
 | ok u =>
  have h1 := B2v hf h hq
  have h2 : (Ec t e).1 = 0 := by unfold Ec; rw [hq]; rfl
  rw [C5f hq, h2]
  constructor
  ·intro h3; omega
  ·intro h3; exact absurd rfl h3
 | bad x =>
  have h2 : (Ec t e).1 = x := by unfold Ec; rw [hq]; rfl
  have h3 := (Pw t hq).1
  rw [Wn hq, h2]
  constructor
  ·intro _; omega
  ·intro _; exact Oo h3
theorem D1o {t : T} {e : Ev} (h : (Ec t e).1 ≠ 0) : (Th t e).kind = -(Ec t e).1 ∧ 0 < (Ec t e).1 ∧ (Ec t e).1 ≤ 1000 := by
 have hq := B3n (r := C7 Cc t e) h
 have h3 := Pw t hq
 exact ⟨by rw [Wn hq]; rfl, h3.1, h3.2⟩
theorem D6t {t : T} {e : Ev} (h : (Ec t e).1 = 0) : Th t e = (Ec t e).2 := if_pos h
theorem A8b {ts : List T} (h : ∀ x, x ∈ ts → An x = 0) : Wa ts := fun x hx => X6 (Nn.mp (h x hx)).2
theorem B2k {ts : List T} {i : Nat} (hi : i < ts.length) (h : An (ts.getD i t0) ≠ 0) : (ts.all fun x => decide (An x = 0)) = false := by
 cases hq : ts.all fun x => decide (An x = 0) with
 | false => rfl
 | true =>
  have h9 := List.all_eq_true.mp hq _ (Aa (d := t0) hi)
  exact absurd (of_decide_eq_true h9) h
theorem A8i {ts : List T} (h : ∀ j, j < ts.length → An (ts.getD j t0) = 0) : ∀ x, x ∈ ts → An x = 0 := fun x hx => by
 obtain ⟨j, hj, rfl⟩ := List.mem_iff_getElem.mp hx
 have := h j hj
 rwa [D0 (d := t0) hj] at this
end Go.Hy
namespace Go.Hy
open Go.RowKit Go.Shelf
theorem C1u {F : Fence} {n : Nat} {P : Program} {α : Type} {g : Operand} {ps : Array Tmp} {assign body : Code} {Q : Exit → Act → World → Prop} {a : Act} {w : World}
  (hro : F.round = none) (h1 : 1 ≤ n) {gf : Nat} {lb : Array Value} (hg : a.eval g = .func (.func gf) #[] lb) (hFg : F.fn gf) (eg : ∀ args w, (callFunc gf args).run P w = .ok (.enter gf args) w)
  {encs : α → Array Value} (hps : ∀ x, (encs x).size = ps.size) (I : List α → World → Prop) (Px : List α → α → Prop) (Kp : World → World → Prop)
  (hIp : ∀ (pre : List α) (A : World) (l : Nat) (o o0 : Obj), I pre A → A.heap[l]? = some o0 → o0.isCells = false → w.heap.size ≤ l → I pre (A.putObj l o)) (hIa : ∀ (pre : List α) (A : World) (o : Obj), I pre A → w.heap.size ≤ A.heap.size → I pre (A.alloc o)) (h0 : I [] w)
  (hKt : ∀ {A B C : World}, Kp A B → Kp B C → Kp A C) (hKp : ∀ (A : World) (l : Nat) (o o0 : Obj), A.heap[l]? = some o0 → o0.isCells = false → w.heap.size ≤ l → Kp A (A.putObj l o))
  (xs : List α)
  (hit : ∀ (l : Nat) (J : List α → World → Prop) (W1 : World), (∀ pre W, J pre W → I pre W) →
   (∀ pre A B, J pre A → I pre B → (∀ (k : Nat) (o : Obj), A.heap[k]? = some o → o.isCells = false → B.heap[k]? = some o) → J pre B) →
   (∀ pre x W, J pre W → Px pre x → YieldAt F (n - 1 - 1) P l (encs x) W fun e W' => e = .returned (.bool true) ∧ J (pre ++ [x]) W' ∧ Kp W W') → J [] W1 → (∀ (k : Nat), k < w.heap.size → W1.heap[k]? = w.heap[k]?) →
   CallsIn F (n - 1) P gf (#[.func (.yield l) #[] #[]] ++ lb) W1 fun e W' => (∃ v, e = .returned v) ∧ J xs W')
  (a₁ : α → Act)
  (hassign : ∀ (l : Nat) (x : α) (W : World) (K : Act → World → Prop), K (a₁ x) W →
   assign.wpIn (F.inRound l) (n - 1 - 1) P (Exit.then K (fun _ _ _ => False)) { tmps := (ps.zip (encs x)).foldl (fun t (p, v) => t.setIfInBounds p v) a.tmps, defers := [] } W)
  (hbody : ∀ (l : Nat) (pre : List α) (x : α) (W : World), I pre W → Px pre x →
   body.wpIn (F.inRound l) (n - 1 - 1) P (fun e _ W' => e = .normal ∧ KeepsOthers W W' ∧ Kp W W' ∧ I (pre ++ [x]) W') (a₁ x) W)
  (hdone : ∀ (D : Nat) (W : World), w.heap.size ≤ D → I xs W → W.heap[D]? = some (.deferred (some [])) → Q .normal { a with defers := { target := .collected D, args := #[] } :: a.defers } W) :
  (Code.rangeFunc g ps assign body).wpIn F n P Q a w := by
 refine wpIn_rangeFunc ?_
 intro fn hfn
 rw [hro]
 obtain ⟨rec, hrec⟩ : ∃ rec : LoopState → Option Code → Loop, rec = fun st pe => { state := st, pending := pe, fn, tmps := a.tmps, params := ps, assign, body, defers := w.heap.size } := ⟨_, rfl⟩
 obtain ⟨W1, hW1⟩ : ∃ W1, (w.alloc (.deferred (some []))).alloc (.loop (rec .ready none)) = W1 := ⟨_, rfl⟩
 have hL1 : W1.heap[w.heap.size + 1]? = some (.loop (rec .ready none)) := by
  rw [← hW1]; have := World.alloc_heap_new (w.alloc (.deferred (some []))) (.loop (rec .ready none)); rwa [World.size_alloc] at this
 have hK1 : W1.heap[w.heap.size]? = some (.deferred (some [])) := by
  rw [← hW1]; exact (Below.heap_alloc _ _ _ D6).trans (World.alloc_heap_new w _)
 have hI1 : I [] W1 := by rw [← hW1]; exact hIa _ _ _ (hIa _ _ _ h0 (Nat.le_refl _)) D6
 refine ⟨w.heap.size + 1, [{ target := .collected w.heap.size, args := #[] }], W1, { target := .fn (.func gf) lb, args := #[.func (.yield (w.heap.size + 1)) #[] #[]] }, W1, gf,
  #[.func (.yield (w.heap.size + 1)) #[] #[]] ++ lb, W1, ?_, ?_, ?_, ?_, fun _ => h1, ?_⟩
 ·rw [← hW1, hrec]; exact run_enterLoop_outer _ _ _ _ _
 ·simp only [resolve, hg]
  simp [go_sem]
 ·intro f' hf'; simp [Target.leads] at hf'; subst hf'; exact hFg
 ·simp [invoke, go_sem, eg]
 ·refine (hit (w.heap.size + 1) (fun pre W => I pre W ∧ W.heap[w.heap.size + 1]? = some (.loop (rec .ready none)) ∧ W.heap[w.heap.size]? = some (.deferred (some []))) W1
   (fun pre W h => h.1) (fun pre A B hA hB hk => ⟨hB, hk _ _ hA.2.1 rfl, hk _ _ hA.2.2 rfl⟩) ?_ ⟨hI1, hL1, hK1⟩ (fun k hk => by rw [← hW1]; exact (Below.heap_alloc _ _ _ (by simp; omega)).trans (Below.heap_alloc _ _ _ hk))).mono ?_
  ·rintro pre x W ⟨hi, hl, hk⟩ hpx
   have hlt : w.heap.size + 1 < W.heap.size := (Array.getElem?_eq_some_iff.1 hl).1
   have hy := run_yield (P := P) (args := encs x) hl (by rw [hrec]; exact hps x)
   rw [hrec] at hy
   refine ⟨fn, _, assign, body, hy, roundIn_of_wpIn hfn (hassign _ x W _ ⟨_, run_beginRound hl (by rw [hrec]), ?_⟩)⟩
   have hl2 : (W.putObj (w.heap.size + 1) (.loop { rec .ready none with state := .busy })).heap[w.heap.size + 1]? = some (.loop { rec .ready none with state := .busy }) := World.putObj_heap_same hlt
   have hk2 : (W.putObj (w.heap.size + 1) (.loop { rec .ready none with state := .busy })).heap[w.heap.size]? = some (.deferred (some [])) := (World.putObj_heap_other A2).trans hk
   refine wpIn_mono (hbody _ pre x _ (hIp _ _ _ _ _ hi hl rfl A2) hpx) ?_
   rintro e a3 W3 ⟨rfl, hk3, hkp3, hi3⟩
   have hl3 := hk3.same _ _ hl2 rfl
   have hend := run_endRound (P := P) none hl3
   rw [hrec] at hl3 hend
   refine ⟨_, _, hend, rfl, ⟨hIp _ _ _ _ _ hi3 hl3 rfl A2, ?_, ?_⟩, hKt (hKt (hKp _ _ _ _ hl rfl A2) hkp3) (hKp _ _ _ _ hl3 rfl A2)⟩
   ·rw [hrec]; exact World.putObj_heap_same (Array.getElem?_eq_some_iff.1 hl3).1
   ·exact (World.putObj_heap_other A2).trans (hk3.same _ _ hk2 rfl)
  ·rintro e W2 ⟨⟨v, rfl⟩, hi, hl, hk⟩
   exact ⟨none, _, by have := run_endLoop (P := P) hl (by rw [hrec]; simp); rw [hrec] at this; exact this, hdone _ _ (Nat.le_refl _) (hIp _ _ _ _ _ hi hl rfl A2) ((World.putObj_heap_other A2).trans hk)⟩
end Go.Hy
namespace Go.Hy
open Go.Proofs Go.Proofs.Tryz
set_option maxRecDepth 100000
theorem B4u (n : Int) (h0 : 0 ≤ n) (hn : n ≤ 40) : Spec prog 218 #[iv (n)] [] [] (fun _ : Unit => iv (((2 ^ n.toNat : Nat) : Int))) (fun _ => []) (fun _ => []) := by
 refine Cm ntmps218 fun B hB => ?_
 refine C9 ?_; refine L7 ?_; refine Ai (X := Nat) (fun s_ => (s_ : Int) ≤ n) (fun s_ => [(0, iv (n)), (3, iv (((2 ^ s_ : Nat) : Int))), (4, iv ((s_ : Int)))]) (fun s_ G_ => G_) (fun s_ => []) (fun s_ => n.toNat - s_) (0) (by simpa using h0) (by exact Cd) ?_ ?_
 ·exact fun w hs => hs
 ·intro i base0 hi0 next0; have hpw : 2 ^ i ≤ 2 ^ 40 := Nat.pow_le_pow_right A2 A2; have hpz : (0 : Int) ≤ ((2 ^ i : Nat) : Int) := Int.natCast_nonneg _; refine C4r ?_; refine O5 ?_; refine Be (decide ((i : Int) < n)) (fun h7 c7 => ?_) (fun h7 c7 => ?_)
  ·refine Ho ?_; refine Dr ?_; refine q0 rfl (E3m ?_); refine Md ?_; refine A1 (fun w hs => ?_) (next0 (i + 1) _ A2 A2 ⟨rfl, (by (conv => lhs; whnf); rw [Nat.pow_succ]; push_cast; rfl), rfl, trivial⟩); exact (hs.l9)
  ·have he : n.toNat = i := by omega
   refine Uf ?_; refine Ao f_ rfl A5 () (by rw [he]) (fun w hs => hs.none)
theorem A7i (s : Nat) (i : Int) (hs : s < 4294967296) : Spec prog 210 #[.int .u32 ((s : Nat) : Int), iv (i)] [] [] (fun _ : Unit => .bool ((Fw s i))) (fun _ => []) (fun _ => []) := by
 refine Cm ntmps210 fun B hB => ?_
 refine C9 ?_; refine Ia ?_; refine Au ([(4, .bool (((decide (0 ≤ i)) && (decide (i < 24))) && (decide (((s / 2 ^ i.toNat % 2 : Nat) : Int) = 1))))]) (fun hK => ?_) (fun base => ?_)
 ·refine Dr ?_; refine Z0 ?_; refine Eh ?_; refine Jh rfl (decide (0 ≤ i)) (fun hg7 g7 => ?_) (fun hg7 g7 => ?_)
  ·refine Iu ?_; refine S9 ?_; refine Jd ?_; refine Jh rfl (decide (i < 24)) (fun hg11 g11 => ?_) (fun hg11 g11 => ?_)
   ·refine Iu ?_; refine qT rfl rfl rfl (B0x ?_); refine Dd ?_; refine qT rfl rfl rfl (A0 call218 (B4u i Fj Fj) (fun x15 => ?_)); refine qT rfl rfl rfl (D8n ?_ (a := s) (b := 2 ^ i.toNat)); refine qT rfl rfl rfl (D8m ?_ (a := s / 2 ^ i.toNat) (b := 2)); refine qT rfl rfl rfl (A4r ?_ (a := ((s / 2 ^ i.toNat % 2 : Nat) : Int)) (b := 1)); refine Fy ?_; exact hK _ ⟨(by first | rfl | ((conv => lhs; whnf); first | (simp_all [Pt]; done) | (simp_all [Pt]; omega))), trivial⟩
   ·refine La ?_; refine Sj ?_; exact hK _ ⟨(by first | rfl | ((conv => lhs; whnf); first | (simp_all [Pt]; done) | (simp_all [Pt]; omega))), trivial⟩
  ·refine Xk ?_; refine Hr ?_; refine La ?_; refine F5 ?_; refine Hu ?_; exact hK _ ⟨(by first | rfl | ((conv => lhs; whnf); first | (simp_all [Pt]; done) | (simp_all [Pt]; omega))), trivial⟩
 ·refine Ao f_ rfl A5 () (congrArg Value.bool (by rw [Pt, show decide (((s / 2 ^ i.toNat % 2 : Nat) : Int) = 1) = decide (s / 2 ^ i.toNat % 2 = 1) from decide_eq_decide.mpr A2])) (fun w hs => hs.none)
theorem p24 : (2 ^ (24 : Int).toNat : Nat) = 16777216 := by decide +kernel
theorem B8f (s : Nat) (hs : s < 4294967296) : Spec prog 259 #[.int .u32 ((s : Nat) : Int)] [] [] (fun _ : Unit => .bool ((decide (s < 16777216)))) (fun _ => []) (fun _ => []) := by
 refine Cm ntmps259 fun B hB => ?_
 refine Lo ?_; refine q0 rfl (B0x ?_); refine q0 rfl (A0 call218 (B4u 24 Fj Fj) (fun x5 => ?_)); refine D6p ?_; refine Ch ?_; refine Ao f_ rfl A5 () (congrArg Value.bool (decide_eq_decide.mpr (by rw [p24]; omega))) (fun w hs => hs.none)
theorem B8h (s : Nat) (hs : s < 4294967296) : Spec prog 126 #[.int .u32 ((s : Nat) : Int)] [] [] (fun x : SH => sl x (A3 s).length) (fun x : SH => [IL (A3 s) x]) (fun x : SH => []) := by
 refine Cm ntmps126 fun B hB => ?_
 refine C9 ?_; refine L7 ?_; refine Ai (X := Nat × SH) (fun s_ => s_.1 ≤ 24) (fun s_ => [(0, .int .u32 ((s : Nat) : Int)), (3, sl s_.2 ((Bx s s_.1).length)), (4, iv ((s_.1 : Int)))]) (fun s_ G_ => G_) (fun s_ => [Al 1 3 s_.2 ((Bx s s_.1).length) (Dq (Bx s s_.1))]) (fun s_ => 24 - s_.1) (0, (none, 0)) A2 (by exact Cd) ?_ ?_
 ·exact fun w hs => (hs.By 1 3)
 ·intro ⟨i, a⟩ base0 hi0 next0; dsimp only at hi0 next0 ⊢; have hln := Gg s i; refine Kj ?_; refine O5 ?_; refine Be (decide ((i : Int) < 24)) (fun h6 c6 => ?_) (fun h6 c6 => ?_)
  ·refine Ho ?_; refine G0 ?_; refine q0 rfl (A0 call210 (A7i s (i : Int) Fj) (fun x11 => ?_)); refine Js ?_; refine Be ((Fw s (i : Int))) (fun h11 c11 => ?_) (fun h11 c11 => ?_)
   ·refine Ix ?_; refine q0 rfl (Bv fun b14 => ?_); refine q0 rfl (Cj (fun a15 => ?_) (a := a) (n' := (Bx s i).length)); refine Ae (fun w hs => ((hs.perm Aj).drop).A9r) ?_; refine Md ?_; have hnx : Bx s (i + 1) = Bx s i ++ [(i : Int)] := by rw [Gc, if_pos]; simp [Fw] at c11; exact c11.2
    refine A1 (fun w hs => ?_) (next0 (i + 1, a15) _ A2 (by (try simp only); omega) ⟨rfl, (by (conv => lhs; whnf); simp [sl, hnx]), rfl, trivial⟩); rw [hnx]; simpa using (hs.l9)
   ·refine Gi ?_; have hnx : Bx s (i + 1) = Bx s i := by rw [Gc, if_neg]; simp [Fw] at c11; simp [c11 A2]
    refine A1 (fun w hs => ?_) (next0 (i + 1, a) _ A2 (by (try simp only); omega) ⟨rfl, (by (conv => lhs; whnf); simp [sl, hnx]), rfl, trivial⟩); rw [hnx]; exact (hs.l9)
  ·refine Uf ?_; have he : i = 24 := by omega
   subst he; refine Ao f_ rfl A5 a rfl (fun w hs => (hs.Lc hB rfl rfl (by unfold reach; omega) (fun c hc => by have := L1 hc; unfold As; omega)).l8)
theorem C5y (l : List Int) (a_l : SH) (hl : l.length ≤ 64) (hx : ∀ x, x ∈ l → 0 ≤ x ∧ x < 24) : Spec prog 131 #[sl a_l (l.length)] [IL l a_l] [] (fun _ : Unit => .int .u32 (((Hb l) : Nat) : Int)) (fun _ => []) (fun _ => []) := by
 refine Cm ntmps131 fun B hB => ?_
 refine G6 (l := l) (a := a_l) (fun hl1 hA1 hU1 => ?_); refine C9 ?_; refine L7 ?_; refine Ai (X := Nat) (fun s_ => s_ ≤ l.length) (fun s_ => [(0, sl a_l (l.length)), (3, iv (((Uw l s_ : Nat) : Int))), (4, iv ((s_ : Int)))]) (fun s_ G_ => G_) (fun s_ => []) (fun s_ => l.length - s_) (0) A2 (by exact ⟨rfl, (by rw [B4k]; rfl), rfl, trivial⟩) ?_ ?_
 ·exact fun w hs => hs
 ·intro i base0 hi0 next0; have hst := C5r hx i; refine Jc ?_; refine Be (decide ((i : Int) < (l.length : Int))) (fun h8 c8 => ?_) (fun h8 c8 => ?_)
  ·have hgx := hx _ (Aa (d := 0) (show i < l.length by omega)); have hg2 : 2 ^ (l.getD i 0).toNat ≤ 2 ^ 24 := Nat.pow_le_pow_right A2 A2; have hpz : (0 : Int) ≤ ((2 ^ (l.getD i 0).toNat : Nat) : Int) := Int.natCast_nonneg _; refine Ho ?_; refine Od ?_; obtain ⟨bk2, o2, hav2⟩ := hA1 A2; refine q0 rfl (Bw ?_ (j := i)); refine A2q ?_; refine q0 rfl (A0 call218 (B4u (l.getD i 0) Fj Fj) (fun x16 => ?_)); refine Yz ?_; refine O4 ?_; refine A1 (fun w hs => ?_) (next0 (i + 1) _ A2 A2 ⟨rfl, (by (conv => lhs; whnf); rw [B4l A2]; push_cast; rfl), rfl, trivial⟩); exact (hs.l9)
  ·have he : i = l.length := by omega
   subst he; rw [C1q] at hst ⊢; refine En ?_; refine Ey ?_; refine q0 rfl (C8i ?_ (a := Hb l)); refine Ch ?_; refine Ao f_ rfl A5 () (by first | rfl | (simp_all; done) | (simp_all; omega)) (fun w hs => hs.none)
theorem B8k (c : Cl) (hc : u32 c) : Spec prog 207 #[Fh c] [] [] (fun _ : Unit => .bool ((B3 c))) (fun _ => []) (fun _ => []) := by
 refine Cm ntmps207 fun B hB => ?_
 have hc1 := hc.1; have hc2 := hc.2; refine B0 ?_; refine q0 rfl (Ay fun b1 => ?_); refine Dw ?_; refine Au ([(2, .bool ((decide (((c).pos) < 16777216)) && (decide (((c).neg) < 16777216))))]) (fun hK => ?_) (fun base => ?_)
 ·refine I0 ?_; refine q0 rfl (A0 call259 (B8f ((c).pos) Fj) (fun x5 => ?_)); refine Eh ?_; refine Jh rfl ((decide (((c).pos) < 16777216))) (fun hg6 g6 => ?_) (fun hg6 g6 => ?_)
  ·refine Iw ?_; refine qT rfl rfl rfl (A0 call259 (B8f ((c).neg) Fj) (fun x9 => ?_)); refine Fy ?_; exact hK _ ⟨(by first | rfl | ((conv => lhs; whnf); first | (simp_all [B3]; done) | (simp_all [B3]; omega))), trivial⟩
  ·refine Sj ?_; exact hK _ ⟨(by first | rfl | ((conv => lhs; whnf); first | (simp_all [B3]; done) | (simp_all [B3]; omega))), trivial⟩
 ·refine Ao f_ rfl A5 () (by first | rfl | (simp_all [B3]; done) | (simp_all [B3]; omega)) (fun w hs => hs.none)
theorem D7o (c : Cl) (d : Cl) (hc : u32 c) (hd : u32 d) : Spec prog 260 #[Fh c, Fh d] [] [] (fun _ : Unit => .bool ((below c d))) (fun _ => []) (fun _ => []) := by
 refine Cm ntmps260 fun B hB => ?_
 have hc1 := hc.1; have hc2 := hc.2; have hd1 := hd.1; have hd2 := hd.2; refine B0 ?_; refine q0 rfl (Ay fun b2 => ?_); refine q0 rfl (Ay fun b3 => ?_); refine Dw ?_; refine Au ([(4, .bool ((decide ((((c).pos) ||| ((d).pos)) = ((c).pos))) && (decide ((((c).neg) ||| ((d).neg)) = ((c).neg)))))]) (fun hK => ?_) (fun base => ?_)
 ·refine I0 ?_; refine Hz ?_; refine q0 rfl (Ni ?_ (a := ((c).pos)) (b := ((d).pos))); refine Hz ?_; refine q0 rfl (C8g ?_ (a := (((c).pos) ||| ((d).pos))) (b := ((c).pos))); refine Eh ?_; refine Jh rfl (decide ((((c).pos) ||| ((d).pos)) = ((c).pos))) (fun hg13 g13 => ?_) (fun hg13 g13 => ?_)
  ·refine Iw ?_; refine Q5 ?_; refine qT rfl rfl rfl (Ni ?_ (a := ((c).neg)) (b := ((d).neg))); refine Q5 ?_; refine qT rfl rfl rfl (C8g ?_ (a := (((c).neg) ||| ((d).neg))) (b := ((c).neg))); refine Fy ?_; exact hK _ ⟨(by first | rfl | ((conv => lhs; whnf); first | (simp_all [below]; done) | (simp_all [below]; omega))), trivial⟩
  ·refine La ?_; refine F5 ?_; refine Hu ?_; exact hK _ ⟨(by first | rfl | ((conv => lhs; whnf); first | (simp_all [below]; done) | (simp_all [below]; omega))), trivial⟩
 ·refine Ao f_ rfl A5 () (by first | rfl | (simp_all [below]; done) | (simp_all [below]; omega)) (fun w hs => hs.none)
theorem E2z (c : Cl) (d : Cl) (hc : u32 c) (hd : u32 d) : Spec prog 209 #[Fh c, Fh d] [] [] (fun _ : Unit => .bool ((Cr c d))) (fun _ => []) (fun _ => []) := by
 refine Cm ntmps209 fun B hB => ?_
 have hc1 := hc.1; have hc2 := hc.2; have hd1 := hd.1; have hd2 := hd.2; refine B0 ?_; refine q0 rfl (Ay fun b2 => ?_); refine q0 rfl (Ay fun b3 => ?_); refine Dw ?_; refine Au ([(4, .bool ((decide (((c).pos) < ((d).pos))) || ((decide (((c).pos) = ((d).pos))) && (decide (((c).neg) < ((d).neg))))))]) (fun hK => ?_) (fun base => ?_)
 ·refine I0 ?_; refine Hz ?_; refine q0 rfl (C8c ?_ (a := ((c).pos)) (b := ((d).pos))); refine Eh ?_; refine Jh rfl (decide (((c).pos) < ((d).pos))) (fun hg10 g10 => ?_) (fun hg10 g10 => ?_)
  ·refine Iw ?_; refine Q5 ?_; refine qT rfl rfl rfl (C8g ?_ (a := ((c).pos)) (b := ((d).pos))); refine Dd ?_; refine Jh rfl (decide (((c).pos) = ((d).pos))) (fun hg16 g16 => ?_) (fun hg16 g16 => ?_)
   ·refine Iw ?_; refine Q5 ?_; refine qT rfl rfl rfl (C8c ?_ (a := ((c).neg)) (b := ((d).neg))); refine T7 ?_; refine Hu ?_; exact hK _ ⟨(by first | rfl | ((conv => lhs; whnf); first | (simp_all [Cr]; done) | (simp_all [Cr]; omega))), trivial⟩
   ·refine La ?_; refine U9 ?_; refine Hu ?_; exact hK _ ⟨(by first | rfl | ((conv => lhs; whnf); first | (simp_all [Cr]; done) | (simp_all [Cr]; omega))), trivial⟩
  ·refine Ha ?_; refine F5 ?_; refine Ul ?_; refine Ul ?_; refine D1m ?_; refine Xk ?_; refine Fy ?_; exact hK _ ⟨(by first | rfl | ((conv => lhs; whnf); first | (simp_all [Cr]; done) | (simp_all [Cr]; omega))), trivial⟩
 ·refine Ao f_ rfl A5 () (by first | rfl | (simp_all [Cr]; done) | (simp_all [Cr]; omega)) (fun w hs => hs.none)
theorem Xu (c : Cl) (hc : u32 c) : Spec prog 245 #[Fh c] [] [] (fun _ : Unit => .bool ((Lk c))) (fun _ => []) (fun _ => []) := by
 refine Cm ntmps245 fun B hB => ?_
 have hc1 := hc.1; have hc2 := hc.2; refine B0 ?_; refine q0 rfl (Ay fun b1 => ?_); refine Dw ?_; refine K1 ?_; refine Ai (X := Nat) (fun s_ => s_ ≤ 24 ∧ ∀ j, j < s_ → (Fw c.pos (j : Int) && Fw c.neg (j : Int)) = false) (fun s_ => [(1, pz b1), (3, iv ((s_ : Int)))]) (fun s_ G_ => G_) (fun s_ => [Af b1 (Aw c) 107]) (fun s_ => 24 - s_) (0) (⟨by omega, fun j hj => by omega⟩) (by exact Cd) ?_ ?_
 ·exact fun w hs => hs
 ·intro i base0 ⟨hi, hok⟩ next0; refine Kj ?_; refine O5 ?_; refine Be (decide ((i : Int) < 24)) (fun h5 c5 => ?_) (fun h5 c5 => ?_)
  ·refine E3 ?_; refine Au ([(1, pz b1), (3, iv ((i : Int))), (17, .bool ((Fw ((c).pos) (i : Int)) && (Fw ((c).neg) (i : Int))))]) (fun hK => ?_) (fun base => ?_)
   ·refine Sh ?_; refine q0 rfl (A0 call210 (A7i ((c).pos) (i : Int) Fj) (fun x11 => ?_)); refine Eh ?_; refine Jh rfl ((Fw ((c).pos) (i : Int))) (fun hg12 g12 => ?_) (fun hg12 g12 => ?_)
    ·refine Iw ?_; refine Dd ?_; refine qT rfl rfl rfl (A0 call210 (A7i ((c).neg) (i : Int) Fj) (fun x16 => ?_)); refine Gp ?_; exact hK _ ⟨rfl, rfl, Eo, trivial⟩
    ·refine F5 ?_; refine E4 ?_; exact hK _ ⟨rfl, rfl, Eo, trivial⟩
   ·refine Be ((Fw ((c).pos) (i : Int)) && (Fw ((c).neg) (i : Int))) (fun h17 c17 => ?_) (fun h17 c17 => ?_)
    ·refine C9 ?_; have hb : (Fw c.pos (i : Int) && Fw c.neg (i : Int)) = true := by simpa using h17
     refine Ao f_ rfl A5 () (by rw [Lk, List.any_eq_true.mpr ⟨i, List.mem_range.mpr A2, hb⟩]) (fun w hs => hs.none)
    ·refine Gi ?_; have hb : (Fw c.pos (i : Int) && Fw c.neg (i : Int)) = false := by simpa using h17
     refine A1 (fun w hs => ?_) (next0 (i + 1) _ (⟨by omega, I3 hok hb⟩) A2 Cd); exact (hs.l9)
  ·refine Jz ?_; refine Ao f_ rfl A5 () (by rw [Lk, List.any_eq_false.mpr (fun j hj => by rw [hok j (by have := List.mem_range.mp hj; omega)]; decide)]) (fun w hs => hs.none)
theorem Y0 (l : List Cl) (c : Cl) : Ck l c = l.any fun d => !decide (d = c) && below c d := by
 unfold Ck; congr 1; funext d; rw [show (decide (c = d)) = decide (d = c) from decide_eq_decide.mpr eq_comm]
theorem D2e (l : List Cl) (a_l : SH) (c : Cl) (hc : u32 c) : Spec prog 208 #[sl a_l (l.length), Fh c] [CL l a_l] [] (fun _ : Unit => .bool ((!Ck l c))) (fun _ => []) (fun _ => []) := by
 refine Cm ntmps208 fun B hB => ?_
 refine A4 (l := l) (a := a_l) (fun hl1 hA1 hU1 => ?_); have hc1 := hc.1; have hc2 := hc.2; refine B0 ?_; refine q0 rfl (Ay fun b3 => ?_); refine Dw ?_; refine K1 ?_; refine Ai (X := Nat) (fun s_ => s_ ≤ l.length ∧ ∀ j, j < s_ → (!decide (l.getD j B1 = c) && below c (l.getD j B1)) = false) (fun s_ => [(0, sl a_l (l.length)), (3, pz b3), (5, iv ((s_ : Int)))]) (fun s_ G_ => G_) (fun s_ => [Af b3 (Aw c) 107]) (fun s_ => l.length - s_) (0) (⟨by omega, fun j hj => by omega⟩) (by exact Cd) ?_ ?_
 ·exact fun w hs => hs
 ·intro i base0 ⟨hi, hok⟩ next0; refine Jc ?_; refine Be (decide ((i : Int) < (l.length : Int))) (fun h9 c9 => ?_) (fun h9 c9 => ?_)
  ·have hu := hU1 _ (Aa (d := B1) (show i < l.length by omega)); have hu1 := hu.1; have hu2 := hu.2; refine E3 ?_; refine Au ([(0, sl a_l (l.length)), (3, pz b3), (5, iv ((i : Int))), (25, .bool ((!decide ((l.getD i B1) = c)) && (below c (l.getD i B1))))]) (fun hK => ?_) (fun base => ?_)
   ·refine Bl (pn := 1000000) (tn := false) (A := [0, 0, 3, 7, 0, 31, 63, 127, 127, 127, 895, 1919, 4095, 8191]) (l := [0, 1, 2, 3, 4, 5, 6, 7, 8, 9, 10, 11, 12, 13]) (fin := []) Tab.mixed ⟨_, func208⟩ (by rfl) ?_; refine Gh ?_; obtain ⟨bk2, o2, hav2⟩ := hA1 A2; refine n0 rfl (Ei ?_ (j := i)); refine A6j ?_; refine Qd ?_; refine n0 rfl (B7v ?_ (c := (l.getD i B1)) (c' := c)); refine Fk ?_; refine nI rfl rfl rfl Gm (fun hg18 => ?_) (fun hg18 => ?_)
    ·have g18 := U5 (p := (!decide ((l.getD i B1) = c)) = true) hg18; refine A3l ?_; refine N0 ?_; refine N0 ?_; refine nT rfl rfl rfl (Ei ?_ (j := i)); refine nT rfl rfl rfl (A3m ?_); refine nT rfl rfl rfl (Ba call260 (D7o c (l.getD i B1) Fj Fj) (fun x24 => ?_)); refine Ua ?_; refine Mg ?_; exact hK _ ⟨rfl, rfl, rfl, Eo, trivial⟩
    ·have g18 := U5 (p := (!decide ((l.getD i B1) = c)) = false) hg18; refine Hq ?_; refine zq9 ?_; refine Jw ?_; exact hK _ ⟨rfl, rfl, rfl, Eo, trivial⟩
   ·refine Be ((!decide ((l.getD i B1) = c)) && (below c (l.getD i B1))) (fun h25 c25 => ?_) (fun h25 c25 => ?_)
    ·refine C9 ?_; have hb : (!decide (l.getD i B1 = c) && below c (l.getD i B1)) = true := by simpa using h25
     refine Ao f_ rfl A5 () (by rw [Y0, Yf (d := B1) (i := i) A2 hb]; rfl) (fun w hs => hs.none)
    ·refine Gi ?_; have hb : (!decide (l.getD i B1 = c) && below c (l.getD i B1)) = false := by simpa using h25
     refine A1 (fun w hs => ?_) (next0 (i + 1) _ (⟨by omega, I3 hok hb⟩) A2 Cd); exact (hs.l9)
  ·refine Jz ?_; refine Ao f_ rfl A5 () (by rw [Y0, W7 (d := B1) (fun j hj => hok j A2)]; rfl) (fun w hs => hs.none)
theorem Zi (l : List Cl) (a_l : SH) (m : List Cl) (a_m : SH)  : Spec prog 31 #[sl a_l (l.length), sl a_m (m.length)] [CL l a_l, CL m a_m] [] (fun _ : Unit => .bool ((decide (l = m)))) (fun _ => []) (fun _ => []) := by
 refine Cm ntmps31 fun B hB => ?_
 refine A4 (l := l) (a := a_l) (fun hl1 hA1 hU1 => ?_); refine A4 (l := m) (a := a_m) (fun hl2 hA2 hU2 => ?_); refine Qu ?_; refine Hf ?_; refine Eh ?_; refine Hf ?_; refine U7 ?_; refine Be (decide ((l.length : Int) ≠ (m.length : Int))) (fun h10 c10 => ?_) (fun h10 c10 => ?_)
 ·have hne : ¬ l = m := fun e => by subst e; simp at h10
  refine C9 ?_; refine Ao f_ rfl A5 () (by rw [decide_eq_false hne]) (fun w hs => hs.none)
 ·have hlen : l.length = m.length := by simp at h10; omega
  refine J7 ?_; refine K1 ?_; refine Ai (X := Nat) (fun s_ => s_ ≤ l.length ∧ ∀ j, j < s_ → l.getD j B1 = m.getD j B1) (fun s_ => [(0, sl a_l (l.length)), (1, sl a_m (m.length)), (5, iv ((s_ : Int)))]) (fun s_ G_ => G_) (fun s_ => []) (fun s_ => l.length - s_) (0) (⟨by omega, fun j hj => by omega⟩) (by exact Cd) ?_ ?_
  ·exact fun w hs => hs
  ·intro i base0 ⟨hi, hok⟩ next0; refine Jc ?_; refine Be (decide ((i : Int) < (l.length : Int))) (fun h14 c14 => ?_) (fun h14 c14 => ?_)
   ·refine E3 ?_; refine Bl (pn := 1000000) (tn := false) (A := [0, 0, 3, 7, 0, 0, 48, 112, 255]) (l := [0, 1, 2, 3, 4, 5, 6, 7, 8]) (fin := []) Tab.mixed ⟨_, func31⟩ (by rfl) ?_; refine Gh ?_; obtain ⟨bk3, o3, hav3⟩ := hA1 A2; refine n0 rfl (Ei ?_ (j := i)); refine A6j ?_; refine Gh ?_; obtain ⟨bk4, o4, hav4⟩ := hA2 A2; refine n0 rfl (Ei ?_ (j := i)); refine A6j ?_; refine n0 rfl (B7v ?_ (c := (l.getD i B1)) (c' := (m.getD i B1))); refine Mg ?_; refine Be (!decide ((l.getD i B1) = (m.getD i B1))) (fun h25 c25 => ?_) (fun h25 c25 => ?_)
    ·refine C9 ?_; refine Ao f_ rfl A5 () (by rw [decide_eq_false (fun e => by subst e; simp at h25)]) (fun w hs => hs.none)
    ·refine Gi ?_; have hb : l.getD i B1 = m.getD i B1 := by simpa using h25
     refine A1 (fun w hs => ?_) (next0 (i + 1) _ (⟨by omega, I3 hok hb⟩) A2 Cd); exact (hs.l9)
   ·refine Jz ?_; refine Ao f_ rfl A5 () (by rw [decide_eq_true (Pp hlen (fun j hj => hok j A2))]) (fun w hs => hs.none)
theorem Wp (l : List Cl) (a_l : SH)  : Spec prog 125 #[sl a_l (l.length)] [CL l a_l] [] (fun x : SH => .tuple #[sl x (B2 l).2.length, iv (B2 l).1]) (fun x : SH => [CL (B2 l).2 x]) (fun x : SH => []) := by
 refine Cm ntmps125 fun B hB => ?_
 refine A4 (l := l) (a := a_l) (fun hl1 hA1 hU1 => ?_); refine D8 ?_; refine Sn ?_; refine Ai (X := Nat) (fun s_ => s_ ≤ l.length ∧ ∀ j, j < s_ → B3 (l.getD j B1) = true) (fun s_ => [(0, sl a_l (l.length)), (4, iv ((s_ : Int)))]) (fun s_ G_ => G_) (fun s_ => []) (fun s_ => l.length - s_) (0) (⟨by omega, fun j hj => by omega⟩) (by exact Cd) ?_ ?_
 ·exact fun w hs => hs
 ·intro i base0 ⟨hi, hok⟩ next0; refine Jc ?_; refine Be (decide ((i : Int) < (l.length : Int))) (fun h11 c11 => ?_) (fun h11 c11 => ?_)
  ·have hu := hU1 _ (Aa (d := B1) (show i < l.length by omega)); have hu1 := hu.1; have hu2 := hu.2; refine Ho ?_; refine G0 ?_; obtain ⟨bk2, o2, hav2⟩ := hA1 A2; refine q0 rfl (Bw ?_ (j := i)); refine O6 ?_; refine q0 rfl (A0 call207 (B8k (l.getD i B1) Fj) (fun x18 => ?_)); refine Fq ?_; refine Be (!(B3 (l.getD i B1))) (fun h19 c19 => ?_) (fun h19 c19 => ?_)
   ·have hlf : B2 l = (2, []) := by rw [B2, if_pos (Kh (d := B1) (i := i) A2 (by simpa using h19))]
    refine D8 ?_; refine Az f_ rfl A5 A5 (none, 0) (by rw [hlf]; rfl) (fun w hs => by rw [hlf]; exact (hs.Gb 0).bare.l8)
   ·refine Gi ?_; have hb : B3 (l.getD i B1) = true := by simpa using h19
    refine A1 (fun w hs => ?_) (next0 (i + 1) _ (⟨by omega, I3 hok hb⟩) A2 Cd); exact (hs.l9)
  ·have hall : l.all B3 = true := Lh (d := B1) (fun j hj => hok j A2); refine Jz ?_; refine Sn ?_; refine Ai (X := Nat × SH) (fun s_ => s_.1 ≤ l.length) (fun s_ => [(0, sl a_l (l.length)), (5, sl s_.2 (((Di l s_.1)).length)), (6, iv ((s_.1 : Int)))]) (fun s_ G_ => CL (Di l s_.1) s_.2 :: G_) (fun s_ => []) (fun s_ => l.length - s_.1) (0, (none, 0)) A2 (by exact ⟨rfl, (by rw [A4f]; rfl), rfl, trivial⟩) ?_ ?_
   ·exact fun w hs => by rw [A4f]; exact hs.Gb 0
   ·intro ⟨i, a⟩ base1 hi1 next1; dsimp only at hi1 next1 ⊢; refine A4 (l := (Di l i)) (a := a) (fun hl3 hA3 hU3 => ?_); have hrl := Zm l i; refine Jc ?_; refine Be (decide ((i : Int) < (l.length : Int))) (fun h23 c23 => ?_) (fun h23 c23 => ?_)
    ·have hu := hU1 _ (Aa (d := B1) (show i < l.length by omega)); have hu1 := hu.1; have hu2 := hu.2; refine Ho ?_; refine Kj ?_; refine F6 ?_; obtain ⟨bk4, o4, hav4⟩ := hA1 A2; refine q0 rfl (Bw ?_ (j := i)); refine O6 ?_; refine q0 rfl (A0 call208 (D2e l a_l (l.getD i B1) Fj) (fun x31 => ?_)); refine Fq ?_; refine Be (!(!Ck l (l.getD i B1))) (fun h32 c32 => ?_) (fun h32 c32 => ?_)
     ·refine En ?_; refine C0t ?_; have hnx : Di l (i + 1) = Di l i := by rw [Wq A2, if_pos (by simpa using h32)]
      refine A1 (fun w hs => ?_) (next1 (i + 1, a) _ A2 (by (try simp only); omega) ⟨rfl, (by (conv => lhs; whnf); simp [sl, hnx]), rfl, trivial⟩); rw [hnx]; exact (hs.l9)
     ·refine He ?_; refine C9 ?_; refine Ia ?_; refine Yi ?_; refine Ai (X := Nat) (fun s_ => s_ ≤ (Di l i).length ∧ ∀ j, j < s_ → Cr ((Di l i).getD j B1) (l.getD i B1) = true) (fun s_ => [(0, sl a_l (l.length)), (5, sl a (((Di l i)).length)), (6, iv ((i : Int))), (7, iv ((s_ : Int)))]) (fun s_ G_ => G_) (fun s_ => []) (fun s_ => (Di l i).length - s_) (0) (⟨by omega, fun j hj => by omega⟩) (by exact Cd) ?_ ?_
      ·exact fun w hs => hs
      ·intro k base2 ⟨hk, hk2⟩ next2; have hvo : k < (Di l i).length → u32 ((Di l i).getD k B1) := fun h => hU1 _ (B8i (Aa h))
       refine Ht ?_; refine Au ([(0, sl a_l (l.length)), (5, sl a (((Di l i)).length)), (6, iv ((i : Int))), (7, iv ((k : Int))), (47, .bool ((decide ((k : Int) < (((Di l i)).length : Int))) && (Cr (((Di l i)).getD k B1) (l.getD i B1))))]) (fun hK => ?_) (fun base => ?_)
       ·refine Bl (pn := 1000000) (tn := false) (A := [0, 0, 2, 7, 15, 31, 31, 127, 255, 31, 31, 1567, 3615, 8191, 16383]) (l := [0, 1, 2, 3, 4, 5, 6, 7, 8, 9, 10, 11, 12, 13, 14]) (fin := []) Tab.mixed ⟨_, func125⟩ (by rfl) ?_; refine Gh ?_; refine n0 rfl (A3k ?_); refine n0 rfl (E2k ?_); refine Fk ?_; refine nI rfl rfl rfl Gm (fun hg37 => ?_) (fun hg37 => ?_)
        ·have g37 := U5 (p := (decide ((k : Int) < (((Di l i)).length : Int))) = true) hg37; refine Wf ?_; refine N0 ?_; obtain ⟨bk5, o5, hav5⟩ := hA3 A2; refine nT rfl rfl rfl (Ei ?_ (j := k)); refine nT rfl rfl rfl (A3m ?_); refine N0 ?_; refine N0 ?_; refine nT rfl rfl rfl (Ei ?_ (j := i)); refine nT rfl rfl rfl (A3m ?_); refine nT rfl rfl rfl (Ba call209 (E2z (((Di l i)).getD k B1) (l.getD i B1) Fj Fj) (fun x46 => ?_)); refine Ua ?_; refine Mg ?_; exact hK _ ⟨rfl, rfl, rfl, rfl, Eo, trivial⟩
        ·have g37 := U5 (p := (decide ((k : Int) < (((Di l i)).length : Int))) = false) hg37; refine Hq ?_; refine Hq ?_; refine Jw ?_; exact hK _ ⟨rfl, rfl, rfl, rfl, Eo, trivial⟩
       ·refine Be ((decide ((k : Int) < (((Di l i)).length : Int))) && (Cr (((Di l i)).getD k B1) (l.getD i B1))) (fun h47 c47 => ?_) (fun h47 c47 => ?_)
        ·refine He ?_; refine Yi ?_; refine C0t ?_; refine B4b ?_; refine A1 (fun w hs => ?_) (next2 (k + 1) _ (⟨by omega, I3 hk2 c47.2⟩) A2 Cd); exact (hs.l9)
        ·have hlast : k < (Di l i).length → Cr ((Di l i).getD k B1) (l.getD i B1) = false := fun hlt => by simpa [hlt] using h47
         refine Oc ?_; refine Au ([(0, sl a_l (l.length)), (5, sl a (((Di l i)).length)), (6, iv ((i : Int))), (7, iv ((k : Int))), (64, .bool ((decide ((k : Int) = (((Di l i)).length : Int))) || (!decide ((((Di l i)).getD k B1) = (l.getD i B1)))))]) (fun hK => ?_) (fun base => ?_)
         ·refine Bl (pn := 1000000) (tn := false) (A := [0, 0, 2, 7, 15, 31, 31, 127, 255, 31, 31, 1567, 3615, 8191, 16383]) (l := [0, 1, 2, 3, 4, 5, 6, 7, 8, 9, 10, 11, 12, 13, 14]) (fin := []) Tab.mixed ⟨_, func125⟩ (by rfl) ?_; refine Gh ?_; refine n0 rfl (A3k ?_); refine n0 rfl (D5e ?_); refine Fk ?_; refine nI rfl rfl rfl Gm (fun hg54 => ?_) (fun hg54 => ?_)
          ·have g54 := U5 (p := (decide ((k : Int) = (((Di l i)).length : Int))) = false) hg54; refine Wf ?_; refine N0 ?_; obtain ⟨bk6, o6, hav6⟩ := hA3 A2; refine nT rfl rfl rfl (Ei ?_ (j := k)); refine nT rfl rfl rfl (A3m ?_); refine N0 ?_; refine N0 ?_; refine nT rfl rfl rfl (Ei ?_ (j := i)); refine nT rfl rfl rfl (A3m ?_); refine nT rfl rfl rfl (B7v ?_ (c := (((Di l i)).getD k B1)) (c' := (l.getD i B1))); refine Jw ?_; exact hK _ ⟨rfl, rfl, rfl, rfl, Eo, trivial⟩
          ·have g54 := U5 (p := (decide ((k : Int) = (((Di l i)).length : Int))) = true) hg54; refine Hq ?_; refine Hq ?_; refine Ua ?_; refine Mg ?_; exact hK _ ⟨rfl, rfl, rfl, rfl, Eo, trivial⟩
         ·refine Be ((decide ((k : Int) = (((Di l i)).length : Int))) || (!decide ((((Di l i)).getD k B1) = (l.getD i B1)))) (fun h64 c64 => ?_) (fun h64 c64 => ?_)
          ·have hcase : ¬ (k < (Di l i).length ∧ (Di l i).getD k B1 = l.getD i B1) := by rintro ⟨h1, h2⟩; rcases c64 with h3 | h3; omega; exact h3 h2
           refine A1 (fun w hs => (hs.D6v (l := Di l i) (a := a) k D6 A2)) ?_; refine A1 (fun w hs => (hs.E1u (l := Di l i) (a := a) k D6 A2)) ?_; refine Bs (p := (Di l i).length ≤ a.2) (fun w hs => hs.E6g D6) (fun hcap => ?_); have htl : ((Di l i).take k).length = k := by simp; omega
           have hdl : ((Di l i).drop k).length = (Di l i).length - k := by simp
           refine Bl (pn := 1000000) (tn := true) (A := [0, 0, 0, 6, 15, 0, 0, 96, 224, 480, 1023, 0, 0, 6144, 16383, 32767]) (l := [1, 2, 3, 5, 6, 7, 8, 11, 12, 13, 0, 4, 9, 10, 14, 15]) (fin := []) Tab.mixed ⟨_, func125⟩ (by rfl) ?_; refine Gh ?_; refine n0 rfl (C1f ?_ (k := k)); refine Gh ?_; refine n0 rfl (Ei ?_ (j := i)); refine n0 rfl (E6c ?_); refine Gh ?_; refine n0 rfl (C1e ?_ (k := k) (a := a)); refine n0 rfl (D6s fun b65 => ?_); refine Yu [_] [_] (fun _ _ _ hs => hs.H2 (sz := 2) (m := 0) rfl Jv) ?_; refine n0 rfl (B7z (fun a69 => ?_) D6 (a := (some ⟨b65, 0, none⟩, 0)) (n' := 0) (b := a) (ls := ((Di l i).take k)) (hy := (by rw [List.length_take, Nat.min_eq_left A2]; rfl))); refine Yu [_] [_] (fun _ _ _ hs => hs.Hi (l := []) (m := ((Di l i).take k))) ?_; refine n0 rfl (Wg fun b74 => ?_); refine n0 rfl (D7a (fun a75 => ?_) (a := a69) (n' := 0 + ((Di l i).take k).length)); refine Yu [_, _] [_] (fun _ _ _ hs => ((hs.perm Aj).drop).Nc (c := (l.getD i B1))) ?_; refine n0 rfl (B7z (fun a79 => ?_) D6 (a := a75) (n' := 0 + ((Di l i).take k).length + 1) (b := (Tz a 2 k)) (ls := ((Di l i).drop k)) (hy := (by rw [List.length_drop]; rfl))); refine Yu [_] [_] (fun _ _ _ hs => hs.Hi (l := (([] ++ ((Di l i).take k)) ++ [(l.getD i B1)])) (m := ((Di l i).drop k))) ?_; refine Uk ?_; refine O4 ?_; have hnx : Di l (i + 1) = (Di l i).take k ++ [l.getD i B1] ++ (Di l i).drop k := by rw [Wq A2, if_neg (by simpa using h32), A8e (k := k) A2 hk2 hlast, if_neg hcase]
           have hnl := Zm l (i + 1); have hll : (Di l (i + 1)).length = 0 + ((Di l i).take k).length + 1 + ((Di l i).drop k).length := by rw [hnx]; simp; omega
           refine A1 (fun w hs => ?_) (next1 (i + 1, a79) _ A2 (by (try simp only); omega) ⟨rfl, (by (conv => lhs; whnf); rw [hll]; rfl), rfl, trivial⟩); refine ((hs.Cq (l := Di l (i + 1)) hB (by rw [hnx]; simp) (by rw [hll]) (by unfold reach at *; omega) (fun c hc => hU1 c (B8i hc))).l9)
          ·have hcase : k < (Di l i).length ∧ (Di l i).getD k B1 = l.getD i B1 := by have h9 := h64; simp at h9; exact ⟨by omega, h9.2⟩
           refine Gi ?_; have hnx : Di l (i + 1) = Di l i := by rw [Wq A2, if_neg (by simpa using h32), A8e (k := k) A2 hk2 hlast, if_pos hcase]
           refine A1 (fun w hs => ?_) (next1 (i + 1, a) _ A2 (by (try simp only); omega) ⟨rfl, (by (conv => lhs; whnf); simp [sl, hnx]), rfl, trivial⟩); rw [hnx]; exact (hs.l9)
    ·have he : i = l.length := by omega
     have hrw : Di l i = E8 l := by rw [he, B0d]
     refine En ?_; refine Kj ?_; refine Hf ?_; refine Ob ?_; refine Be (decide (64 < (((Di l i)).length : Int))) (fun h82 c82 => ?_) (fun h82 c82 => ?_)
     ·have hlf : B2 l = (3, []) := by rw [B2, if_neg (by rw [hall]; decide), if_pos (by rw [← hrw]; omega)]
      refine D8 ?_; refine Az f_ rfl A5 A5 (none, 0) (by rw [hlf]; rfl) (fun w hs => by rw [hlf]; exact (hs.Gb 0).bare.l8)
     ·have hlf : B2 l = (0, E8 l) := by rw [B2, if_neg (by rw [hall]; decide), if_neg (by rw [← hrw]; omega)]
      refine He ?_; refine G9 ?_; refine Az f_ rfl A5 A5 a (by rw [hlf, ← hrw]; rfl) (fun w hs => by rw [hlf, ← hrw]; exact hs.bare.l8)
theorem Ih (l : List Cl) (a_l : SH)  : Spec prog 67 #[sl a_l (l.length)] [CL l a_l] [] (fun _ : Unit => .bool ((A9 l))) (fun _ => []) (fun _ => []) := by
 refine Cm ntmps67 fun B hB => ?_
 refine A4 (l := l) (a := a_l) (fun hl1 hA1 hU1 => ?_); refine Lo ?_; refine q0 rfl (A0 call125 (Wp l a_l ) (fun x7 => ?_)); refine Il ?_; refine Ia ?_; refine Au ([(2, .bool ((decide (((B2 l).1) = 0)) && (decide (((B2 l).2) = l))))]) (fun hK => ?_) (fun base => ?_)
 ·refine Dr ?_; refine Ik ?_; refine Jh rfl (decide (((B2 l).1) = 0)) (fun hg12 g12 => ?_) (fun hg12 g12 => ?_)
  ·refine Iu ?_; refine Dd ?_; refine qT rfl rfl rfl (A0 call31 (Zi ((B2 l).2) x7 l a_l ) (fun x15 => ?_)); refine Fy ?_; exact hK _ ⟨Eo, trivial⟩
  ·refine Sj ?_; exact hK _ ⟨Eo, trivial⟩
 ·refine Ao f_ rfl A5 () (by rw [← Ps]) (fun w hs => hs.none)
theorem Ku (l : List Cl) (a_l : SH)  : Spec prog 183 #[sl a_l (l.length)] [CL l a_l] [] (fun _ : Unit => .bool ((A7 l))) (fun _ => []) (fun _ => []) := by
 refine Cm ntmps183 fun B hB => ?_
 refine A4 (l := l) (a := a_l) (fun hl1 hA1 hU1 => ?_); refine Qu ?_; refine q0 rfl (A0 call67 (Ih l a_l ) (fun x5 => ?_)); refine Fq ?_; refine Be (!(A9 l)) (fun h6 c6 => ?_) (fun h6 c6 => ?_)
 ·refine C9 ?_; refine Ao f_ rfl A5 () (by rw [A7, show A9 l = false by simpa using h6]; rfl) (fun w hs => hs.none)
 ·have hfr : A9 l = true := by simpa using h6
  have hal : l.all B3 = true := by unfold A9 at hfr; simp only [Bool.and_eq_true] at hfr; exact hfr.1.1.1
  refine J7 ?_; refine K1 ?_; refine Ai (X := Nat) (fun s_ => s_ ≤ l.length ∧ ∀ j, j < s_ → Lf (l.getD j B1) = false) (fun s_ => [(0, sl a_l (l.length)), (3, iv ((s_ : Int)))]) (fun s_ G_ => G_) (fun s_ => []) (fun s_ => l.length - s_) (0) (⟨by omega, fun j hj => by omega⟩) (by exact Cd) ?_ ?_
  ·exact fun w hs => hs
  ·intro i base0 ⟨hi, hok⟩ next0; refine Jc ?_; refine Be (decide ((i : Int) < (l.length : Int))) (fun h10 c10 => ?_) (fun h10 c10 => ?_)
   ·have hu := hU1 _ (Aa (d := B1) (show i < l.length by omega)); have hu1 := hu.1; have hu2 := hu.2; have hr24 : B3 (l.getD i B1) = true := List.all_eq_true.mp hal _ (Aa A2); refine Ho ?_; refine G0 ?_; obtain ⟨bk2, o2, hav2⟩ := hA1 A2; refine q0 rfl (Bw ?_ (j := i)); refine O6 ?_; refine q0 rfl (A0 call245 (Xu (l.getD i B1) Fj) (fun x17 => ?_)); refine Js ?_; refine Be ((Lk (l.getD i B1))) (fun h17 c17 => ?_) (fun h17 c17 => ?_)
    ·refine C9 ?_; have hb : Lf (l.getD i B1) = true := by rw [← Wu hr24]; simpa using h17
     refine Ao f_ rfl A5 () (by rw [A7, Yf (d := B1) (i := i) A2 hb]; simp) (fun w hs => hs.none)
    ·refine Gi ?_; have hb : Lf (l.getD i B1) = false := by rw [← Wu hr24]; simpa using h17
     refine A1 (fun w hs => ?_) (next0 (i + 1) _ (⟨by omega, I3 hok hb⟩) A2 Cd); exact (hs.l9)
   ·refine Jz ?_; refine Ao f_ rfl A5 () (by rw [A7, hfr, W7 (d := B1) (fun j hj => hok j A2)]; rfl) (fun w hs => hs.none)
def W4 (l : List Cl) (i k : Nat) : Bool := (Et l k).testBit i
theorem B6w (l : List Cl) (i : Nat) : W4 l i 0 = false := by simp [W4, Et]
theorem B6x {l : List Cl} {i k : Nat} (hi : i < 24) (h : k < l.length) : W4 l i (k + 1) = ((W4 l i k || Fw (l.getD k B1).pos (i : Int)) || Fw (l.getD k B1).neg (i : Int)) := by
 unfold W4; rw [Xw h, Nat.testBit_or, Nat.testBit_or]; simp only [Fw]; rw [decide_eq_true (show (0 : Int) ≤ (i : Int) by omega), decide_eq_true (show (i : Int) < 24 by omega)]; simp [Bool.or_assoc]
theorem C6j (l : List Cl) (a_l : SH)  : Spec prog 127 #[sl a_l (l.length)] [CL l a_l] [] (fun _ : Unit => .int .u32 (((C2 l) : Nat) : Int)) (fun _ => []) (fun _ => []) := by
 refine Cm ntmps127 fun B hB => ?_
 refine A4 (l := l) (a := a_l) (fun hl1 hA1 hU1 => ?_); refine C9 ?_; refine L7 ?_; refine Ai (X := Nat × SH) (fun s_ => s_.1 ≤ 24) (fun s_ => [(0, sl a_l (l.length)), (3, sl s_.2 ((Bx (Et l l.length) s_.1).length)), (4, iv ((s_.1 : Int)))]) (fun s_ G_ => G_) (fun s_ => [Al 1 3 s_.2 ((Bx (Et l l.length) s_.1).length) (Dq (Bx (Et l l.length) s_.1))]) (fun s_ => 24 - s_.1) (0, (none, 0)) A2 (by exact Cd) ?_ ?_
 ·exact fun w hs => (hs.By 1 3)
 ·intro ⟨i, a⟩ base0 hi0 next0; dsimp only at hi0 next0 ⊢; have hln := Gg (Et l l.length) i; refine Kj ?_; refine O5 ?_; refine Be (decide ((i : Int) < 24)) (fun h8 c8 => ?_) (fun h8 c8 => ?_)
  ·refine Ho ?_; refine L7 ?_; refine Ai (X := Nat) (fun s_ => s_ ≤ l.length) (fun s_ => [(0, sl a_l (l.length)), (3, sl a ((Bx (Et l l.length) i).length)), (4, iv ((i : Int))), (5, .bool ((W4 l i s_))), (6, iv ((s_ : Int)))]) (fun s_ G_ => G_) (fun s_ => [Al 1 3 a ((Bx (Et l l.length) i).length) (Dq (Bx (Et l l.length) i))]) (fun s_ => l.length - s_) (0) A2 (by exact ⟨rfl, rfl, rfl, (by rw [B6w]; rfl), rfl, trivial⟩) ?_ ?_
   ·exact fun w hs => hs
   ·intro k base1 hi1 next1; refine Jc ?_; refine Be (decide ((k : Int) < (l.length : Int))) (fun h14 c14 => ?_) (fun h14 c14 => ?_)
    ·have hu := hU1 _ (Aa (d := B1) (show k < l.length by omega)); have hu1 := hu.1; have hu2 := hu.2; refine Ho ?_; refine Au ([(0, sl a_l (l.length)), (3, sl a ((Bx (Et l l.length) i).length)), (4, iv ((i : Int))), (5, .bool (((W4 l i k) || (Fw ((l.getD k B1).pos) (i : Int))) || (Fw ((l.getD k B1).neg) (i : Int)))), (6, iv ((k : Int)))]) (fun hK => ?_) (fun base => ?_)
     ·refine Ix ?_; refine Jh rfl ((W4 l i k)) (fun hg18 g18 => ?_) (fun hg18 g18 => ?_)
      ·refine Iu ?_; refine Dd ?_; obtain ⟨bk2, o2, hav2⟩ := hA1 A2; refine qT rfl rfl rfl (Bw ?_ (j := k)); refine D6n ?_; refine qT rfl rfl rfl (A7s ?_); refine Dd ?_; refine qT rfl rfl rfl (A0 call210 (A7i ((l.getD k B1).pos) (i : Int) Fj) (fun x25 => ?_)); refine Hr ?_; refine Jh rfl ((Fw ((l.getD k B1).pos) (i : Int))) (fun hg27 g27 => ?_) (fun hg27 g27 => ?_)
       ·refine Iu ?_; refine Dd ?_; refine qT rfl rfl rfl (Bw ?_ (j := k)); refine D6n ?_; refine qT rfl rfl rfl (A7s ?_); refine Dd ?_; refine qT rfl rfl rfl (A0 call210 (A7i ((l.getD k B1).neg) (i : Int) Fj) (fun x34 => ?_)); refine Hu ?_; exact hK _ ⟨rfl, rfl, rfl, Eo, rfl, trivial⟩
       ·refine La ?_; refine Ha ?_; refine Fy ?_; exact hK _ ⟨rfl, rfl, rfl, Eo, rfl, trivial⟩
      ·refine La ?_; refine Ha ?_; refine Qn ?_; refine F5 ?_; refine Fy ?_; exact hK _ ⟨rfl, rfl, rfl, Eo, rfl, trivial⟩
     ·refine O4 ?_; refine A1 (fun w hs => ?_) (next1 (k + 1) _ A2 A2 ⟨rfl, rfl, rfl, (by (conv => lhs; whnf); rw [B6x A2 A2]), rfl, trivial⟩); exact (hs.l9)
    ·have he : k = l.length := by omega
     refine En ?_; refine Ey ?_; refine Js ?_; refine Be ((W4 l i k)) (fun h36 c36 => ?_) (fun h36 c36 => ?_)
     ·refine Ix ?_; refine q0 rfl (Bv fun b39 => ?_); refine q0 rfl (Cj (fun a40 => ?_) (a := a) (n' := (Bx (Et l l.length) i).length)); refine Ae (fun w hs => ((hs.perm Aj).drop).A9r) ?_; refine Md ?_; have hnx : Bx (Et l l.length) (i + 1) = Bx (Et l l.length) i ++ [(i : Int)] := by rw [Gc, if_pos (show (Et l l.length).testBit i = true by rw [← he]; exact h36)]
      refine A1 (fun w hs => ?_) (next0 (i + 1, a40) _ A2 (by (try simp only); omega) ⟨rfl, (by (conv => lhs; whnf); simp [sl, hnx]), rfl, trivial⟩); rw [hnx]; simpa using (hs.l9)
     ·refine Gi ?_; have hnx : Bx (Et l l.length) (i + 1) = Bx (Et l l.length) i := by rw [Gc, if_neg]; rw [show (Et l l.length).testBit i = false by rw [← he]; exact h36]; decide
      refine A1 (fun w hs => ?_) (next0 (i + 1, a) _ A2 (by (try simp only); omega) ⟨rfl, (by (conv => lhs; whnf); simp [sl, hnx]), rfl, trivial⟩); rw [hnx]; exact (hs.l9)
  ·have he : i = 24 := by omega
   subst he; refine A1 (fun w hs => (hs.Lc hB rfl rfl (by unfold reach; omega) (fun c hc => by have := L1 hc; unfold As; omega))) ?_; refine En ?_; refine Ey ?_; refine q0 rfl (A0 call131 (C5y (Bx (Et l l.length) 24) a A2 (fun x hx => by have := L1 hx; omega)) (fun x42 => ?_)); refine Ch ?_; refine Ao f_ rfl A5 () (by rw [Tk, A1k]) (fun w hs => hs.none)
end Go.Hy
namespace Go.Hy
open Go.Proofs Go.Proofs.Tryz
set_option maxRecDepth 100000
attribute [local go_sem] Oper.semAt_some
open Go.RowKit Go.Shelf
set_option maxHeartbeats 1000000
theorem E6u (F : Fence) (n : Nat) (hF : F.fn 258) (hro : F.round = none) (r : Nat) (k idx : Nat) (hk : k < 24) (h0 : ((r : Int) == 0) = false)
  (key : bits BinOp.and IntKind.u32 (r : Int) (-(r : Int) % 4294967296) * 125613361 % 4294967296 / 134217728 = (idx : Int)) (hi : idx < 32) (W : World) (hc : W.cell? ⟨0, idx, none⟩ = some (.int .u8 (k : Int))) :
  CallsIn F n prog 258 #[.int .u32 (r : Int)] W fun e w' => e = .returned (iv (k : Int)) ∧ w' = W := by
 refine callsIn_of_wp func258 rfl hF ?_ hro; simp only [ntmps258, List.size_toArray, List.length_cons, List.length_nil, Nat.reduceAdd, Nat.reduceSub, Array.replicate_succ, Array.replicate_zero, List.push_toArray, List.append_toArray, List.nil_append, List.cons_append]
 gi_wp2_with (simp only [key])
 go_ret
 exact ⟨rfl, rfl⟩
theorem tz32' (F : Fence) (n : Nat) (hF : F.fn 258) (hro : F.round = none) (r : Nat) (h0 : ¬ r = 0) (hr : r < 16777216) (W : World) (hT : TabAt 0 Lib.deBruijn32tab W) :
  CallsIn F n prog 258 #[.int .u32 (r : Int)] W fun e w' => e = .returned (iv (Lib.ctz 32 r : Int)) ∧ w' = W := by
 obtain ⟨hlow, hk⟩ := Lib.lowest_bit 32 r h0 A2; obtain ⟨hi, htab⟩ := Lib.deBruijn32_at _ hk; have hcell := hT _ hi; rw [htab] at hcell; exact E6u F n hF hro r _ _ (A4x h0 hr).1 (by simp; omega) (tz32_key r _ A2 h0 hlow) hi W hcell
theorem in1 (F : Fence) (n : Nat) (h208 : F.fn 257) (h209 : F.fn 258) (hro : F.round = none) (hn : 1 ≤ n) (l g : Nat) (s : Nat) (J : List Int → World → Prop)
  (hY : ∀ pre x W, J pre W → pre.length < 24 → (0 ≤ x ∧ x < 24) → YieldAt F (n - 1) prog l #[iv x] W fun e W' => e = .returned (.bool true) ∧ J (pre ++ [x]) W' ∧ W'.heap[g]? = W.heap[g]?)
  (hT : ∀ pre W, J pre W → TabAt 0 Lib.deBruijn32tab W)
  (hJ : ∀ pre W v, J pre W → J pre (W.setCell ⟨g, 0, none⟩ v))
  (hs : s < 4294967296) (W : World) (hg : Boxed W g 89 (.int .u32 (s : Int))) (h0 : J [] W) :
  CallsIn F n prog 257 #[.func (.yield l) #[] #[], pz g] W fun e W' => (∃ v, e = .returned v) ∧ J (A3 s) W' := by
 refine callsIn_of_wp func257 rfl h208 ?_ hro; simp only [ntmps257, List.size_toArray, List.length_cons, List.length_nil, Nat.reduceAdd, Nat.reduceSub, Array.replicate_succ, Array.replicate_zero, List.push_toArray, List.append_toArray, List.nil_append, List.cons_append]; have hc := hg.cell; have hf := hg.frozen
 gi_wp2
 gi_loopw [] (fun wr => ∃ (pre : List Int) (r : Nat), A3 s = pre ++ A3 r ∧ r < 16777216 ∧ Boxed wr g 89 (.int .u32 (r : Int)) ∧ J pre wr)
  (fun wr => match wr.cell? ⟨g, 0, none⟩ with | some (.int _ v) => v.toNat | _ => 0)
 case atStart =>
  refine ⟨[], s &&& 16777215, by rw [List.nil_append, C3d], by rw [Yg]; exact Nat.mod_lt _ Jv, ?_, hJ _ _ _ h0⟩; rw [← bits_and_u32_nat s 16777215 hs Jv]; exact hg.set _
 case round =>
  obtain ⟨pre, r, hx, hr, hb, hj⟩ := hrel; have hc2 := hb.cell; have hf2 := hb.frozen; by_cases hr0 : r = 0
  ·subst hr0
   gi_wp2
   go_end0
   exact ⟨⟨_, rfl⟩, by rw [hx, show A3 0 = [] from by decide, List.append_nil]; exact hj⟩
  ·obtain ⟨hk, hlist⟩ := A4x hr0 hr
   have hlen : pre.length < 24 := by
    have h1 := congrArg List.length hx; have h2 : (A3 s).length ≤ 24 := Gg s 24; rw [List.length_append, hlist, List.length_cons] at h1; omega
   obtain ⟨fn, tmps, assign, body, hy, hR⟩ := hY pre (Lib.ctz 32 r : Int) wr hj hlen A2; have hbe : ((r : Int) != 0) = true := by simp; omega
   gi_wp2_with (gi_at_call 258; refine (tz32' F (n - 1) h209 hro r hr0 hr wr (hT _ _ hj)).mono ?_; rintro e w' ⟨rfl, rfl⟩)
   refine hR.mono ?_; rintro e W3 ⟨rfl, hJ3, hg3⟩; have hb3 : Boxed W3 g 89 (.int .u32 (r : Int)) := hg3.trans hb; have hc3 := hb3.cell; have hf3 := hb3.frozen
   gi_wp2
   have e1 : bits BinOp.and IntKind.u32 (r : Int) ((r : Int) - 1) = ((r &&& (r - 1) : Nat) : Int) := by
    rw [show (r : Int) - 1 = ((r - 1 : Nat) : Int) by omega]; exact bits_and_u32_nat r (r - 1) A2 A2
   rw [e1]; have hb4 := hb3.set (.int .u32 ((r &&& (r - 1) : Nat) : Int)); have hlt := D8z hr0
   go_roundw
   case rel => exact ⟨pre ++ [(Lib.ctz 32 r : Int)], r &&& (r - 1), by rw [hx, hlist, List.append_assoc]; rfl, by omega, hb4, hJ _ _ _ hJ3⟩
   case measure =>
    rw [hb4.cell, hc2]; simp only [Int.toNat_natCast]; exact hlt
theorem E3x (F : Fence) (n : Nat) (h : F.fn 206) (hro : F.round = none) (s : Nat) (w : World) :
  CallsIn F n prog 206 #[.int .u32 (s : Int)] w fun e w' => e = .returned (.func (.func 257) #[] #[.pointer (some ⟨w.heap.size, 0, none⟩)]) ∧ w' = w.alloc (.cells #[.int .u32 (s : Int)] 89) := by
 refine callsIn_of_wp func206 rfl h ?_ hro; simp only [ntmps206, List.size_toArray, List.length_cons, List.length_nil, Nat.reduceAdd, Nat.reduceSub, Array.replicate_succ, Array.replicate_zero, List.push_toArray, List.append_toArray, List.nil_append, List.cons_append]
 gi_wp2
 go_ret
 exact ⟨rfl, rfl⟩
theorem D3v : (prog.info? 3).map (fun i => (i.zero, i.size, i.bytes)) = some (some (iv 0), 1, 8) := by kernel_rfl
theorem D3o (F : Fence) (n : Nat) (h81 : F.fn 123) (h156 : F.fn 206) (h208 : F.fn 257) (h209 : F.fn 258) (hro : F.round = none) (hn : 3 ≤ n) (s : Nat) (hs : s < 4294967296) (w : World) (hw : 0 < w.heap.size) (hT : TabAt 0 Lib.deBruijn32tab w) :
  CallsIn F n prog 123 #[.int .u32 (s : Int)] w fun e W' => ∃ v, e = .returned v ∧ W'.ownsRow w.heap.size 3 1 v (A3 s).length ((A3 s).map (Value.int .i64)) ∧ Below w.heap.size w W' := by
 have h1 : 1 ≤ n := by omega
 obtain ⟨i0, hi, hz0, hz1, hz2⟩ := info_parts D3v; refine callsIn_of_wp_marks func123 rfl h81 ?_ hro; simp only [ntmps123, List.size_toArray, List.length_cons, List.length_nil, Nat.reduceAdd, Nat.reduceSub, Array.replicate_succ, Array.replicate_zero, List.push_toArray, List.append_toArray, List.nil_append, List.cons_append]
 gi_wp2_with (gi_at_call 206; refine (E3x F (n - 1) h156 hro _ _).mono ?_; rintro e w' ⟨rfl, rfl⟩)
 obtain ⟨w2, hw2⟩ : ∃ w2, (w.alloc (.cells #[.slice none 0 0] 140)).alloc (.cells #[.int .u32 (s : Int)] 89) = w2 := ⟨_, rfl⟩; have bO : Boxed w2 w.heap.size 140 (.slice none 0 0) := by rw [← hw2]; exact (Boxed.new w 140 (.slice none 0 0)).alloc _
 have bS : Boxed w2 (w.heap.size + 1) 89 (.int .u32 (s : Int)) := by rw [← hw2]; have := Boxed.new (w.alloc (.cells #[.slice none 0 0] 140)) 89 (.int .u32 (s : Int)); rwa [World.size_alloc] at this
 have hsz2 : w2.heap.size = w.heap.size + 2 := by rw [← hw2]; simp
 have hB2 : Below w.heap.size w w2 := by rw [← hw2]; exact ((Below.refl _ w).alloc (Nat.le_refl _) _).alloc D6 _
 have hrw : ∀ {A B : World}, B.heap[w.heap.size + 1]? = A.heap[w.heap.size + 1]? → ∀ u, Boxed A (w.heap.size + 1) 89 u → Boxed B (w.heap.size + 1) 89 u := fun h u hu => h.trans hu
 simp only [World.size_alloc, hw2]
 refine C1u hro h1 (gf := 257) (lb := #[.pointer (some ⟨w.heap.size + 1, 0, none⟩)]) rfl h208 (enters_of func257 (by kernel_rfl) rfl) (encs := fun x : Int => #[iv x]) (fun _ => rfl)
  (fun pre W => (∃ v, Boxed W w.heap.size 140 v ∧ W.ownsRow w.heap.size 3 1 v pre.length (pre.map (Value.int .i64))) ∧ (∃ u, Boxed W (w.heap.size + 1) 89 u) ∧ Below w.heap.size w W)
  (fun pre x => pre.length < 24 ∧ (0 ≤ x ∧ x < 24)) (fun W W' => W'.heap[w.heap.size + 1]? = W.heap[w.heap.size + 1]?)
  ?ip ?ia ⟨⟨_, bO, World.ownsRow_nil _ _ _ _⟩, ⟨_, bS⟩, hB2⟩ (fun h k => k.trans h) ?kp (A3 s) ?it
  (fun x => { tmps := #[.int .u32 (s : Int), undef, .slice none 0 0, .pointer (some ⟨w.heap.size, 0, none⟩), iv x, .int .u32 (s : Int), .func (.func 257) #[] #[.pointer (some ⟨w.heap.size + 1, 0, none⟩)], iv x, undef, undef, undef, undef, undef], defers := [] }) ?assign ?body ?done
 case ip =>
  rintro pre A l o o0 ⟨⟨v, hv, hr⟩, ⟨u, hu⟩, hB⟩ hl hc hle; refine ⟨⟨v, (World.putObj_heap_other A2).trans hv, ownsRow_putObj hr o hl hc⟩, ⟨u, (World.putObj_heap_other A2).trans hu⟩, hB.trans ⟨rfl, rfl, rfl, by simp, fun k hk => World.putObj_heap_other A2⟩⟩
 case ia =>
  rintro pre A o ⟨⟨v, hv, hr⟩, ⟨u, hu⟩, hB⟩ hle; exact ⟨⟨v, hv.alloc o, hr.kept (World.grownBy_alloc A o none) (by rcases hr.2 with ⟨rfl, _⟩ | ⟨g, cap, cur, rfl, _⟩; exact .inl rfl; exact .inr (by simp [Value.ownBlock]))⟩, ⟨u, hu.alloc o⟩, hB.alloc A2 o⟩
 case kp =>
  intro A l o o0 hl hc hle; exact World.putObj_heap_other A2
 case it =>
  intro l J W1 hJI hJk hY h0 hk1; refine in1 F (n - 1) h208 h209 hro A2 l (w.heap.size + 1) s J (fun pre x W hj hl hx => hY pre x W hj ⟨hl, hx⟩) (fun pre W hj => ?_) (fun pre W v hj => ?_) hs W1 ?_ h0
  ·intro i hi; exact ((hJI _ _ hj).2.2.cell (p := ⟨0, i, none⟩) hw).trans (hT i hi)
  ·obtain ⟨⟨v0, hv0, hr⟩, ⟨u, hu⟩, hB⟩ := hJI _ _ hj; refine hJk pre W _ hj ⟨⟨v0, hv0.other A2 v, hr.kept (grownBy_setCell' W (w.heap.size + 1) v) (.inr (hu.not_row Jv hr).symm)⟩, ⟨_, hu.set v⟩, hB.setCell (p := ⟨w.heap.size + 1, 0, none⟩) D6 v⟩ (fun k o hk ho => (KeepsOthers.setCell W _ v).same k o hk ho)
  ·exact (hk1 _ A2).trans bS
 case assign =>
  intro l x W K hK
  gi_wp2
  exact hK
 case body =>
  rintro l pre x W ⟨⟨v, hv, hrow⟩, ⟨u, hu⟩, hB⟩ ⟨hlt, hx⟩; have hc := hv.cell
  gi_wp2_with (gi_at_builtin; refine wpListIn_append_own _ rfl _ _ 140 rfl w.heap.size 3 i0 (iv 0) 1 8 Tryz.underlying140 hi hz0 hz1 hz2 rfl Jv _ _ _ rfl (hrow.alloc _) ⟨W.heap.size, 0, none⟩ 1 1 [iv x] rfl rfl (cell_one_new _ _ _) (by simp [Value.oneCell']) (by unfold maxLen; omega) A2 (by have := hB.size; simp; omega) ?_; intro v' w1 hown' hgrow _; obtain ⟨g', cap', rfl⟩ := ownsRow_succ hown'; obtain ⟨hv1, hv2, hr2, hk2, hb2⟩ := hv.appended Jv hrow hB.size (Nat.le_refl _) hown' hgrow; have hc1 := hv1.cell; have hf1 := hv1.frozen)
  have hu1 := ((hu.alloc (.cells #[iv x] 3)).kept hgrow (hu.not_row Jv hrow)).other (B' := w.heap.size) A2 (.slice (some ⟨g', 0, none⟩) (pre.length + 1) cap'); exact ⟨hu1.trans hu.symm, ⟨_, hv2, by simpa using hr2⟩, ⟨u, hu1⟩, hB.trans hb2⟩
 case done =>
  rintro D W hD ⟨⟨v, hv, hrow⟩, _, hB⟩ hK; have hc := hv.cell
  gi_wp2
  refine ⟨by simp, .inl ⟨_, _, rfl, run_takeDeferred hK, ?_⟩⟩; exact ⟨_, results_tmp rfl _ _ _, v, rfl, ownsRow_putObj hrow _ hK rfl, hB.trans ⟨rfl, rfl, rfl, by simp, fun k hk => World.putObj_heap_other A2⟩⟩
abbrev P4 : Fact := At 0 0 (Lib.deBruijn32tab.map fun (v : Nat) => Value.int .u8 (v : Int))
theorem D6w {ok : Nat → Prop} {w : World} (h : P4.f ok w) (hk : ∀ b, ok b → b < w.heap.size) : TabAt 0 Lib.deBruijn32tab w ∧ 0 < w.heap.size := by
 refine ⟨fun j hj => ?_, hk _ h.1⟩; have h1 := h.2 j (.int .u8 (Lib.deBruijn32tab.getD j 0 : Nat)) (by rw [List.getElem?_map, List.getD_eq_getElem?_getD, List.getElem?_eq_getElem hj]; rfl)
 rwa [Nat.zero_add] at h1
theorem C2x (s : Nat) (hs : s < 4294967296) : Spec prog 123 #[.int .u32 (s : Int)] [P4] [] (fun x : SH => sl x (A3 s).length) (fun _ => []) (fun x => [Al 1 3 x (A3 s).length (Dq (A3 s))]) := fun ok w hok hst => by
 obtain ⟨hT, hw⟩ := D6w (hst.facts P4 List.mem_cons_self) (fun b hb => hb.2.1); refine (callsIn_wide.mp (D3o Fence.wide 3 trivial trivial trivial trivial rfl (Nat.le_refl _) s hs w hw hT)).mono fun e w' hh => ?_
 obtain ⟨v, rfl, hrow, hB⟩ := hh; obtain ⟨a, rfl⟩ := B8x hrow
 have hrow0 : w'.ownsRow 0 3 1 (sl a (A3 s).length) (A3 s).length (Dq (A3 s)) := by
  have h1 : w'.ownsRow 0 3 1 (sl a (A3 s).length) (A3 s).length ((A3 s).map (Value.int .i64)) := ⟨hrow.1, hrow.2.imp id (fun ⟨g, cap, cur, q1, q2, q3⟩ => ⟨g, cap, cur, q1, Nat.zero_le _, q3⟩)⟩
  rwa [show (A3 s).map (Value.int .i64) = Dq (A3 s) from by induction (A3 s) with | nil => rfl | cons y ys ih => (simp only [List.map_cons, Dq, List.flatMap_cons, Kc, List.singleton_append] at ih ⊢; rw [ih])] at h1
 refine ⟨a, rfl, ⟨hB.os, hB.tape, hB.output, hB.size, fun b hb _ => hB.block b hb⟩, fun _ hF => (by cases hF), ?_, ?_, List.pairwise_singleton _ _⟩
 ·intro m hm w2 hw2; rw [List.mem_singleton] at hm; subst hm; exact Zj hrow0 (fun b hb => hw2 b hb)
 ·intro m hm b hb; rw [List.mem_singleton] at hm; subst hm; have := hrow.lt b hb; exact ⟨this.2, .inr this.1⟩
theorem M9 (s : Nat) (hs : s < 4294967296) : Spec prog 123 #[.int .u32 (s : Int)] [P4] [] (fun x : SH => sl x (A3 s).length) (fun x => [IL (A3 s) x]) (fun _ => []) := fun ok w hok hst => (C2x s hs ok w hok hst).mono fun e w' hh => by
 obtain ⟨x, he, h⟩ := hh; have hl : (A3 s).length ≤ 24 := Gg s 24; exact ⟨x, he, h.Lc trivial rfl rfl (by unfold reach; omega) (fun c hc => by have := L1 hc; unfold As; omega)⟩
end Go.Hy
namespace Go.Hy
open Go.Proofs Go.Proofs.Tryz
set_option maxRecDepth 100000
theorem Ri (i : Int) : Spec prog 195 #[iv i] [] [] (fun _ : Unit => .bool (decide (0 ≤ i) && decide (i < 24))) (fun _ => []) (fun _ => []) := by
 refine Cm ntmps195 fun B hB => ?_
 refine Lo ?_; refine Z0 ?_; refine Eh ?_; refine qI rfl rfl rfl Gm (fun hg5 => Ce ?_) (fun hg5 => ?_)
 ·refine S9 ?_; refine Fy ?_; refine Ao f_ rfl A5 () (by first | (simp_all; done) | (simp_all; omega)) (fun w hs => hs.none)
 ·refine Xk ?_; refine Hu ?_; refine Ao f_ rfl A5 () (by first | (simp_all; done) | (simp_all; omega)) (fun w hs => hs.none)
theorem R8 (s : Nat) (hs : s < 4294967296) : Spec prog 249 #[.int .u32 (s : Int)] [] [] (fun _ : Unit => .bool (decide (s < 16777216))) (fun _ => []) (fun _ => []) := by
 refine Cm ntmps249 fun B hB => ?_
 refine Lo ?_; refine q0 rfl (Xz ?_ (b := 16777215)); refine q0 rfl (A4r ?_ (b := 0)); refine Ch ?_; refine Ao f_ rfl A5 () (by rw [B3p hs]) (fun w hs => hs.none)
theorem Wb (s : Nat) (hs : s < 4294967296) : Spec prog 112 #[.int .u32 (s : Int), iv (-1)] [] [] (fun _ : Unit => .int .u32 ((s &&& 16777215 : Nat) : Int)) (fun _ => []) (fun _ => []) := by
 refine Cm ntmps112 fun B hB => ?_
 refine Lo ?_; refine q0 rfl (Ow ?_ (b := 16777215)); refine Ch ?_; refine Kj ?_; refine q0 rfl (A0 call195 (Ri (-1)) (fun x8 => ?_)); refine Fq ?_; refine A6 (fun h9 => ?_) (fun h9 => ?_)
 ·refine Me ?_; refine Ao f_ rfl A5 () rfl (fun w hs => hs.none)
 ·exact absurd h9 Jv
theorem A1j : D1g := by
 intro l a; refine Cm ntmps64 fun B hB => ?_
 refine A4 (l := l) (a := a) (fun hl1 hA1 hU1 => ?_); refine C9 ?_; refine Qm ?_; refine Dj (X := Nat) (fun i => i ≤ l.length) (fun i => [(3, .int .u32 (Et l i : Int)), (6, sl a l.length), (7, iv (l.length : Int)), (8, iv (i : Int))]) (fun i => [CL l a]) (fun i => []) (fun i => l.length - i) (0) (Nat.zero_le _) (by exact Cd) ?_ ?_
 ·exact fun w hs => hs.l8
 ·intro i base0 hi next0; refine Dm ?_; refine A6 (fun h9 => ?_) (fun h9 => ?_)
  ·have hlt : i < l.length := by have := of_decide_eq_true h9; omega
   obtain ⟨bk, o, hav⟩ := hA1 A2; have hu := hU1 _ (Aa (d := B1) hlt); have hup := A4n hU1 i; have hor : (l.getD i B1).pos ||| (l.getD i B1).neg < 4294967296 := Nat.or_lt_two_pow (n := 32) hu.1 hu.2; refine Gr ?_; refine A2t ?_; refine O6 ?_; refine q0 rfl (B7 fun b5 => ?_); refine D5 ?_; refine Dr ?_; refine Hz ?_; refine Hz ?_; refine q0 rfl (Ni ?_ (a := (l.getD i B1).pos) (b := (l.getD i B1).neg) (ha := hu.1) (hb := hu.2)); refine q0 rfl (Ni ?_ (a := Et l i) (b := (l.getD i B1).pos ||| (l.getD i B1).neg)); refine Sm ?_; refine A1 (fun w hs => ?_) (next0 (i + 1) _ hlt A2 ⟨by rw [Xw hlt]; rfl, rfl, rfl, rfl, trivial⟩); exact (hs.l8).bare
  ·have hge : i = l.length := by have := of_decide_eq_false h9; omega
   refine En ?_; refine Ey ?_; refine q0 rfl (A0 call112 (Wb (Et l i) (A4n hU1 i)) (fun x21 => ?_)); refine Ch ?_; refine Ao f_ rfl A5 () (by rw [A1k, ← hge]) (fun w hs => hs.none)
theorem P1 (c : Cl) (hc : u32 c) : Spec prog 196 #[.agg (Aw c).toArray] [] [] (fun _ : Unit => .bool (B3 c)) (fun _ => []) (fun _ => []) := by
 refine Cm ntmps196 fun B hB => ?_
 refine B0 ?_; refine q0 rfl (Ay fun b1 => ?_); refine Ch ?_; refine Ew ?_; refine q0 rfl (A0 call249 (R8 c.pos hc.1) (fun x5 => ?_)); refine Eh ?_; refine qI rfl rfl rfl Gm (fun hg6 => Wz ?_) (fun hg6 => ?_)
 ·refine T8 ?_; refine qT rfl rfl rfl (A0 call249 (R8 c.neg hc.2) (fun x9 => ?_)); refine Fy ?_; refine Ao f_ rfl A5 () (by first | (simp_all [B3]; done) | (simp_all [B3]; intros; omega)) (fun w hs => hs.none)
 ·refine Sj ?_; refine Ao f_ rfl A5 () (by first | (simp_all [B3]; done) | (simp_all [B3]; intros; omega)) (fun w hs => hs.none)
theorem A1u (c : Cl) (hc : u32 c) : Spec prog 248 #[.agg (Aw c).toArray] [] [] (fun _ : Unit => .bool (Lf c)) (fun _ => []) (fun _ => []) := by
 refine Cm ntmps248 fun B hB => ?_
 refine B0 ?_; refine q0 rfl (Ay fun b1 => ?_); refine Ch ?_; refine Ew ?_; refine Hz ?_; refine q0 rfl (Ow ?_ (a := c.pos) (b := c.neg) (ha := hc.1) (hb := hc.2)); refine q0 rfl (A0c ?_ (b := 0)); refine Ch ?_; refine Ao f_ rfl A5 () (by simp only [Lf]; congr 1; apply decide_eq_decide.mpr; omega) (fun w hs => hs.none)
theorem X1 (c d : Cl) (hc : u32 c) (hd : u32 d) : Spec prog 251 #[.agg (Aw c).toArray, .agg (Aw d).toArray] [] [] (fun _ : Unit => .agg (Aw (Du c d)).toArray) (fun _ => []) (fun _ => []) := by
 refine Cm ntmps251 fun B hB => ?_
 refine B0 ?_; refine q0 rfl (Ay fun b2 => ?_); refine q0 rfl (Ay fun b3 => ?_); refine q0 rfl (B7 fun b4 => ?_); refine Js ?_; refine Ew ?_; refine Hz ?_; refine q0 rfl (Ni ?_ (a := c.pos) (b := d.pos) (ha := hc.1) (hb := hd.1)); refine Hz ?_; refine Hz ?_; refine q0 rfl (Ni ?_ (a := c.neg) (b := d.neg) (ha := hc.2) (hb := hd.2)); refine q0 rfl (Av (cs := Aw (Du c d)) ?_); refine D5 ?_; refine Lj f_ rfl () rfl C3 rfl rfl rfl rfl (fun w hs => hs.none)
theorem B7h (c d : Cl) (hc : u32 c) (hd : u32 d) : Spec prog 200 #[.agg (Aw c).toArray, .agg (Aw d).toArray] [] [] (fun _ : Unit => .bool (below c d)) (fun _ => []) (fun _ => []) := by
 refine Cm ntmps200 fun B hB => ?_
 refine B0 ?_; refine q0 rfl (Ay fun b2 => ?_); refine q0 rfl (Ay fun b3 => ?_); refine Dw ?_; refine Bl (pn := 1000000) (tn := false) (A := [0, 0, 3, 0, 15, 31]) (l := [0, 1, 3, 2, 4, 5]) (fin := []) Tab.mixed ⟨_, func200⟩ (by rfl) ?_; refine Qd ?_; refine Qd ?_; refine Qd ?_; refine n0 rfl (Ba call251 (X1 c d hc hd) (fun x7 => ?_)); refine n0 rfl (E2o ?_ (c := Du c d) (c' := c)); refine Uk ?_; refine Ao f_ rfl A5 () (by rw [B7i]) (fun w hs => hs.none)
end Go.Hy
namespace Go.Hy
open Go.Proofs Go.Proofs.Tryz
set_option maxRecDepth 100000
open Go.Shelf Go.RowKit Go.Lib Go.Sort
theorem D3u (a : Int) (W : World) : Calls prog 291 #[.int .u32 a] W fun e w' => e = .returned (.bool false) ∧ w' = W := by
 go_enter func291, ntmps291
 go_wp2
 go_ret
 exact ⟨by simp, rfl⟩
theorem C4c (a b : Int) (W : World) : Calls prog 254 #[.int .u32 a, .int .u32 b] W fun e w' => e = .returned (iv (compareInt a b)) ∧ w' = W := by
 go_enter func254, ntmps254
 go_wp2_with (go_at_call 291; refine (D3u _ _).mono ?_; rintro e w' ⟨rfl, rfl⟩)
 all_goals (go_ret; refine ⟨?_, rfl⟩; unfold Lib.compareInt; (repeat' split) <;> first | rfl | (exfalso; omega))
def B2z (c d : Cl) : Int := if c.pos = d.pos then compareInt c.neg d.neg else compareInt c.pos d.pos
set_option maxHeartbeats 1000000 in
theorem E6f (c d : Cl) (W : World) : Calls prog 202 #[.agg #[.int .u32 c.pos, .int .u32 c.neg], .agg #[.int .u32 d.pos, .int .u32 d.neg]] W fun e w' => e = .returned (iv (B2z c d)) ∧ ∃ q os', w' = grow (W.drewN q) os' := by
 have hcon := fun a b W' => C4c a b W'
 have e1 : B2z c d = if (c.pos : Int) = d.pos then compareInt c.neg d.neg else compareInt c.pos d.pos := by unfold B2z; simp only [Int.ofNat_inj]
 generalize hr : B2z c d = r at e1 ⊢
 go_enter func202, ntmps202
 go_wp2_with (go_at_call 254; refine (hcon _ _ _).mono ?_; rintro e w' ⟨rfl, rfl⟩)
 all_goals (go_ret; refine ⟨?_, 0, _, by rw [alloc_eq_grow, alloc_eq_grow, grow_grow]; rfl⟩)
 all_goals (rw [e1]; simp_all)
instance : Inhabited Cl := ⟨B1⟩
theorem A8q (c d : Cl) : ltOf B2z c d = Cr c d := by
 unfold ltOf B2z Cr compareInt; by_cases h : c.pos = d.pos
 ·simp only [h, if_true]; by_cases h2 : c.neg < d.neg
  ·rw [if_pos A2]; simp [h2]
  ·rw [if_neg A2]; split <;> simp [h2]
 ·simp only [h, if_false]; by_cases h2 : c.pos < d.pos
  ·rw [if_pos A2]; simp [h2]
  ·rw [if_neg A2, if_pos A2]; simp [h2]
theorem D4l : SWO (ltOf B2z) where
 irrefl x := by rw [A8q]; simp [Cr]
 trans x y z h1 h2 := by
  rw [A8q] at *; simp only [Cr, Bool.or_eq_true, Bool.and_eq_true, decide_eq_true_eq] at *; omega
 ntrans x y z h1 h2 := by
  rw [A8q] at *; simp only [Cr, Bool.or_eq_false_iff, Bool.and_eq_false_iff, decide_eq_false_iff_not] at *; omega
theorem Vv (d : Array Cl) : (flatK Aw 2 d).toList = Ad d.toList := by
 apply List.ext_getElem?; intro t; have hl : (Ad d.toList).length = d.size * 2 := by rw [Mv F4]; simp
 by_cases ht : t < d.size * 2
 ·have h1 : (flatK Aw 2 d).toList[t]? = some (Aw d[t / 2]!)[t % 2]! := by
   have hs : t < (flatK Aw 2 d).size := by rw [size_flatK]; exact ht
   rw [Array.getElem?_toList, Array.getElem?_eq_getElem hs]; have := get_flatK Aw 2 d t ht; rw [getElem!_pos _ t hs] at this; rw [this]
  rw [h1]; have hd : t / 2 < d.toList.length := by simp; omega
  have e : d.toList.getD (t / 2) B1 = d[t / 2]! := by
   have : t / 2 < d.size := by simpa using hd
   rw [getElem!_pos d (t / 2) this, List.getD_eq_getElem?_getD, List.getElem?_eq_getElem hd]; simp
  have h2 : (Aw (d.toList.getD (t / 2) B1))[t % 2]? = some (Aw d[t / 2]!)[t % 2]! := by
   rw [e]; have : t % 2 < (Aw d[t / 2]!).length := by rw [F4]; omega
   rw [List.getElem?_eq_getElem this, getElem!_pos (Aw d[t / 2]!) (t % 2) this]
  have := Yx F4 B1 d.toList (t / 2) (t % 2) _ hd h2; rw [show t / 2 * 2 + t % 2 = t by omega] at this; exact this.symm
 ·rw [List.getElem?_eq_none (by simp; omega), List.getElem?_eq_none A2]
theorem C1w (d : Array Cl) (l : List Cl) (rest : List Value) (hs : d.size = l.length) : putCells id 0 (flatK Aw 2 d) (Ad l ++ rest).toArray = (Ad d.toList ++ rest).toArray := by
 apply Array.ext_getElem?; intro t; have hl : (Ad l).length = d.size * 2 := by rw [Mv F4, hs]
 have hl2 : (Ad d.toList).length = d.size * 2 := by rw [Mv F4]; simp
 simp only [putCells, Array.getElem?_mapIdx, List.getElem?_toArray, size_flatK, Nat.zero_add, Nat.zero_le, true_and, Nat.sub_zero, id]; by_cases ht : t < d.size * 2
 ·rw [List.getElem?_append_left A2, List.getElem?_append_left A2]
  have h1 : (Ad d.toList)[t]? = some (flatK Aw 2 d)[t]! := by
   rw [← Vv, Array.getElem?_toList]; have hsz : t < (flatK Aw 2 d).size := by rw [size_flatK]; exact ht
   rw [Array.getElem?_eq_getElem hsz, getElem!_pos _ t hsz]
  rw [h1]; obtain ⟨v, hv⟩ : ∃ v, (Ad l)[t]? = some v := ⟨_, List.getElem?_eq_getElem A2⟩; rw [hv, Option.map_some, if_pos ht]
 ·rw [List.getElem?_append_right A2, List.getElem?_append_right A2, hl, hl2]; cases rest[t - d.size * 2]? with
  | none => rfl
  | some v => rw [Option.map_some, if_neg ht]
theorem C1m (l : List Cl) (g cap : Nat) (rest : List Value) (hn : l.length < 4611686018427387904) :
  Spec prog 201 #[.slice (some ⟨g, 0, none⟩) l.length cap, .func (.func 202) #[] #[]] [] [Af g (Ad l ++ rest) 107] (fun _ : {l' : List Cl // l'.Perm l ∧ l'.Pairwise fun a b => Cr b a = false} => .tuple #[]) (fun _ => []) (fun x => [Af g (Ad x.1 ++ rest) 107]) := by
 intro ok w hok hs; have hg : w.heap[g]? = some (.cells (Ad l ++ rest).toArray 107 (0, 0)) := hs.res _ List.mem_cons_self w (fun _ _ => rfl); have hlt : g < w.heap.size := (Array.getElem?_eq_some_iff.mp hg).1; have hu : prog.underlying 107 = some (.struct (TyF.fC prog)) := TyF.uC
 have aE : ∀ w, (isAgg (Tryz.Wo.t 24)).run prog w = .ok true w := fun w => by
  show (isAgg 107).run prog w = _; simp [isAgg, run_underlying hu]
 have zE : ∀ w, (Go.sizeOf (Tryz.Wo.t 24)).run prog w = .ok 2 w := fun w => G3 (P := prog) (t := 107) rfl w
 have hH : HoldsK Aw 2 w g 0 l.toArray := by
  intro j hj; rw [size_flatK] at hj; have e : (flatK Aw 2 l.toArray).toList = Ad l := by rw [Vv]
  have hsz : j < (flatK Aw 2 l.toArray).size := by rw [size_flatK]; exact hj
  have h1 : (Ad l)[j]? = some (flatK Aw 2 l.toArray)[j]! := by
   rw [← e, Array.getElem?_toList, Array.getElem?_eq_getElem hsz, getElem!_pos _ j hsz]
  refine ⟨?_, by simp [World.frozen?, hg]⟩; have hlen : j < (Ad l).length := (List.getElem?_eq_some_iff.mp h1).1; simp only [World.cell?, hg, Nat.zero_add, Option.isSome_none, Bool.false_eq_true, if_false, List.getElem?_toArray, id]; rw [List.getElem?_append_left hlen]; exact h1
 have hc := AnyQ.slices_SortFunc (P := prog) Tryz.D5i 2 aE zE Aw F4 (fun x v hv => by
   simp only [Aw, List.mem_cons, List.not_mem_nil, or_false] at hv; rcases hv with rfl | rfl <;> rfl) B2z D4l 202 #[] g 0 cap l.toArray w call202
  (fun m os dk hsz x y => E6f x y _) hH hlt (by simpa using hn)
 have hc2 : Calls prog 201 #[.slice (some ⟨g, 0, none⟩) l.length cap, .func (.func 202) #[] #[]] w _ := hc; refine hc2.mono ?_; rintro e w' ⟨he, d', n, os, hp, hsd, hw⟩; have hsize : d'.size = l.length := by simpa using hp.1
 have hperm : d'.toList.Perm l := by
  have := hp.2.2; have e1 : d'.extract 0 l.toArray.size = d' := by rw [show l.toArray.size = d'.size by simp [hsize]]; simp
  have e2 : l.toArray.extract 0 l.toArray.size = l.toArray := by simp
  rw [e1, e2] at this; exact this
 have hsorted : d'.toList.Pairwise fun a b => Cr b a = false := by
  rw [List.pairwise_iff_getElem]; intro i j hi hj hij; have hi' : i < d'.size := by simpa using hi
  have hj' : j < d'.size := by simpa using hj
  have := hsd i j (Nat.zero_le _) hij (by simp; omega); rw [A8q, getElem!_pos d' j hj', getElem!_pos d' i hi'] at this; simpa using this
 have hg' : w'.heap[g]? = some (.cells (Ad d'.toList ++ rest).toArray 107 (0, 0)) := by
  rw [hw]; show ((mapBlock (Go.Sort.ahead w n) g (putCells id 0 (flatK Aw 2 d'))).heap ++ os)[g]? = _; rw [Array.getElem?_append_left (by simp [mapBlock, Go.Sort.ahead]; exact hlt)]; simp only [mapBlock, Go.Sort.ahead, Array.getElem?_modify, if_true, hg, Option.map_some, onCells]; rw [C1w d' l rest hsize]
 have hold : ∀ b, b < w.heap.size → b ≠ g → w'.heap[b]? = w.heap[b]? := by
  intro b hb hne; rw [hw]; show ((mapBlock (Go.Sort.ahead w n) g (putCells id 0 (flatK Aw 2 d'))).heap ++ os)[b]? = _; rw [Array.getElem?_append_left (by simp [mapBlock, Go.Sort.ahead]; exact hb)]; simp only [mapBlock, Go.Sort.ahead, Array.getElem?_modify, if_neg (Ne.symm hne)]
 have hsz' : w.heap.size ≤ w'.heap.size := by rw [hw]; simp [sortWorldK, putRowK, Go.Sort.ahead]
 refine ⟨⟨d'.toList, hperm, hsorted⟩, he, ?_⟩; have h0 : St ⟨ok, Bu [Af g (Ad l ++ rest) 107], w⟩ [] ([Af g (Ad l ++ rest) 107]) w := hs
 refine h0.Er (m' := Af g (Ad d'.toList ++ rest) 107) ⟨by rw [hw]; rfl, by rw [hw]; rfl, by rw [hw]; rfl, hsz', fun b hb hn => hold b hb hn⟩ (fun w2 hw2 => by
  show w2.heap[g]? = _; rw [hw2 g rfl]; exact hg') (fun b hb => ?_)
 have hb : b = g := hb; subst hb; exact ⟨by omega, .inl rfl⟩
end Go.Hy
namespace Go.Hy
open Go.Proofs Go.Proofs.Tryz
set_option maxRecDepth 100000
theorem B8q {M : List Bm} : M.Perm (M ++ []) := by rw [List.append_nil]
theorem B6g (l : List Cl) (a : SH) (c : FuncId) (cap : List Value) (FΓ : List Fact) (M : List Bm) (g : Cl → Bool) (hc : ∀ (args : Array Value) (w : World), (callFunc c args).run prog w = .ok (.enter c args) w) (hcl : ∀ x, x ∈ l → Spec prog c (Fh x :: cap).toArray FΓ M (fun _ : Unit => .bool (g x)) (fun _ => []) (fun _ => M)) : Spec prog 250 #[sl a l.length, .func (.func c) #[] cap.toArray] (CL l a :: FΓ) M (fun _ : Unit => iv (B6h g l)) (fun _ => []) (fun _ => M) := by
 refine Cm ntmps250 fun B hB => ?_
 refine A4 (l := l) (a := a) (fun hl1 hA1 hU1 => ?_); refine Qm ?_; refine Dj (X := Nat) (fun i => i ≤ l.length ∧ ∀ j, j < i → g (l.getD j B1) = false) (fun i => [(0, sl a l.length), (1, .func (.func c) #[] cap.toArray), (7, iv (l.length : Int)), (8, iv (i : Int))]) (fun i => CL l a :: FΓ) (fun i => M) (fun i => l.length - i) (0) (⟨Nat.zero_le _, fun j hj => by omega⟩) (by exact Cd) ?_ ?_
 ·exact fun w hs => hs
 ·intro i base0 ⟨hi, hok⟩ next0; refine Dm ?_; refine A6 (fun h9 => ?_) (fun h9 => ?_)
  ·have hlt : i < l.length := by have := of_decide_eq_true h9; omega
   obtain ⟨bk, o, hav⟩ := hA1 A2; refine Ho ?_; refine Me ?_; refine G0 ?_; refine Mc ?_; refine O6 ?_; refine q0 rfl (D1 hc (hcl _ (Aa hlt)) (cap := cap) (fun x16 => ?_) (hm := B8q)); refine Js ?_; refine A6 (fun h16 => ?_) (fun h16 => ?_)
   ·refine Me ?_; refine Ao f_ rfl A5 () (by rw [D3w hlt h16 hok]) (fun w hs => (hs.l8).C6)
   ·refine Lq ?_; refine A1 (fun w hs => ?_) (next0 (i + 1) _ ⟨hlt, fun j hj => (by rcases Nat.lt_succ_iff_lt_or_eq.mp hj with h | h; exact hok j h; subst h; exact h16)⟩ A2 Cd); exact (hs.l9).C6
  ·have hge : i = l.length := by have := of_decide_eq_false h9; omega
   refine Jz ?_; refine Ao f_ rfl A5 () (by rw [C3l (by rw [← hge]; exact hok)]) (fun w hs => hs.l8)
theorem T4 (l : List Cl) (a : SH) (c : FuncId) (cap : List Value) (FΓ : List Fact) (M : List Bm) (g : Cl → Bool) (hc : ∀ (args : Array Value) (w : World), (callFunc c args).run prog w = .ok (.enter c args) w) (hcl : ∀ x, x ∈ l → Spec prog c (Fh x :: cap).toArray FΓ M (fun _ : Unit => .bool (g x)) (fun _ => []) (fun _ => M)) : Spec prog 198 #[sl a l.length, .func (.func c) #[] cap.toArray] (CL l a :: FΓ) M (fun _ : Unit => .bool (l.any g)) (fun _ => []) (fun _ => M) := by
 refine Cm ntmps198 fun B hB => ?_
 refine B7q ?_; refine q0 rfl (A0 call250 (B6g l a c cap FΓ M g hc hcl) (fun x7 => ?_) (hm := B8q)); refine Z0 ?_; refine Ch ?_; refine Ao f_ rfl A5 () (by rw [B2f]) (fun w hs => (hs.l8).C6)
theorem A7z (c d : Cl) (hc : u32 c) (hd : u32 d) (b : Nat) : Spec prog 199 #[Fh d, pz b] [] [Af b (Aw c) 107] (fun _ : Unit => .bool (!decide (c = d) && below c d)) (fun _ => []) (fun _ => [Af b (Aw c) 107]) := by
 refine Cm ntmps199 fun B hB => ?_
 refine B0 ?_; refine q0 rfl (Ay fun b2 => ?_); refine Ch ?_; refine Ez ?_; refine Hp ?_; refine q0 rfl (E3l ?_ (c := c) (c' := d)); refine Eh ?_; refine qI rfl rfl rfl Gm (fun hg7 => Mp ?_) (fun hg7 => ?_)
 ·refine qT rfl rfl rfl (Mp ?_); refine qT rfl rfl rfl (A0 call200 (B7h c d hc hd) (fun x10 => ?_)); refine Fy ?_; refine Ao f_ rfl A5 () (by simp_all) (fun w hs => (hs.l8).drop)
 ·refine Sj ?_; refine Ao f_ rfl A5 () (by simp_all) (fun w hs => (hs.l8).drop)
theorem B1w (l : List Cl) (a : SH) (c : Cl) (hc : u32 c) (b : Nat) : Spec prog 197 #[Fh c, pz b] [CL l a] [Af b [sl a l.length] 22] (fun _ : Unit => .bool (Ck l c)) (fun _ => []) (fun _ => [Af b [sl a l.length] 22]) := by
 refine Cm ntmps197 fun B hB => ?_
 refine A4 (l := l) (a := a) (fun hl1 hA1 hU1 => ?_); refine B0 ?_; refine q0 rfl (Ay fun b2 => ?_); refine Of ?_; refine T9 ?_; refine P5 ?_; refine q0 rfl (A0 call198 (T4 l a 199 [pz b2] [] [Af b2 (Aw c) 107] (fun d => !decide (c = d) && below c d) call199 (fun d hd => A7z c d hc (hU1 d hd) b2)) (fun x6 => ?_)); refine Ch ?_; refine Ao f_ rfl A5 () rfl (fun w hs => (hs.l8).drop)
theorem Yb (l : List Cl) (c : Cl) : Ad (l ++ [c]) = Ad l ++ Aw c := by simp [Ad]
theorem A6u (l : List Cl) (a : SH) (n : Nat) (hn : n = l.length) (hb : n * 8 ≤ reach) :
  Spec prog 201 #[sl a n, .func (.func 202) #[] #[]] [] [Al 2 107 a n (Ad l)] (fun _ : {l' : List Cl // A9b l l'} => .tuple #[]) (fun _ => []) (fun x => [Al 2 107 a n (Ad x.1)]) := by
 subst hn; intro ok w hok hs; have hown : w.ownsRow 0 107 2 (sl a l.length) l.length (Ad l) := hs.res _ List.mem_cons_self w (fun _ _ => rfl); rcases hown.2 with ⟨h1, h2⟩ | ⟨g, cap, cur, h1, h2, h3, h4, h5, h6, h7⟩
 ·have hl : l = [] := List.eq_nil_of_length_eq_zero h2; subst hl; have hc := AnyF.slices_SortFunc_none (P := prog) Tryz.D5i a.1 a.2 (.func (.func 202) #[] #[]) w; have hc2 : Calls prog 201 #[sl a 0, .func (.func 202) #[] #[]] w _ := hc; refine hc2.mono ?_; rintro e w' ⟨he, hw⟩; subst hw; exact ⟨⟨[], List.Perm.refl _, List.Pairwise.nil⟩, he, hs⟩
 ·obtain ⟨ao, ac⟩ := a; have e1 : ao = some ⟨g, 0, none⟩ := by injection h1
  have e2 : ac = cap := by injection h1
  subst e1; subst e2
  have hfl : cur.toList = Ad l ++ cur.toList.drop (l.length * 2) := by
   have := List.take_append_drop (l.length * 2) cur.toList; rw [h7] at this; exact this.symm
  have hbox : St ⟨ok, Bu [Al 2 107 (some ⟨g, 0, none⟩, ac) l.length (Ad l)], w⟩ [] [Af g (Ad l ++ cur.toList.drop (l.length * 2)) 107] w := by
   refine hs.Er (m' := Af g (Ad l ++ cur.toList.drop (l.length * 2)) 107) (Se.refl _ _) (fun w2 hw2 => ?_) (fun b hb => ?_)
   ·show w2.heap[g]? = _; rw [hw2 g rfl, ← hfl, Array.toArray_toList]; exact h3
   ·have hb : b = g := hb; subst hb; exact ⟨(Array.getElem?_eq_some_iff.mp h3).1, .inl rfl⟩
  have hdom : ∀ b, Bu [Al 2 107 (some ⟨g, 0, none⟩, ac) l.length (Ad l)] b ↔ Bu [Af g (Ad l ++ cur.toList.drop (l.length * 2)) 107] b := by
   intro b; rw [Ge, Ge]
   have : (Al 2 107 (some ⟨g, 0, none⟩, ac) l.length (Ad l)).dom b ↔ b = g := by
    show (sl (some ⟨g, 0, none⟩, ac) l.length).ownBlock = some b ↔ b = g; simp only [sl, Value.ownBlock, Option.some.injEq]; exact eq_comm
   rw [this]; rfl
  have hd2 : Bu [Al 2 107 (some ⟨g, 0, none⟩, ac) l.length (Ad l)] = Bu [Af g (Ad l ++ cur.toList.drop (l.length * 2)) 107] := funext fun b => propext (hdom b)
  rw [hd2] at hbox; refine (C1m l g ac (cur.toList.drop (l.length * 2)) (by unfold reach at hb; omega) ok w (fun b hb => ⟨(hok b hb).1, by rw [← hd2]; exact (hok b hb).2⟩) hbox).mono ?_; rintro e w' ⟨x, he, hs'⟩; refine ⟨⟨x.1, x.2.1, x.2.2⟩, he, ?_⟩; rw [hd2]; have hlen : x.1.length = l.length := x.2.1.length_eq; have hg : w'.heap[g]? = some (.cells (Ad x.1 ++ cur.toList.drop (l.length * 2)).toArray 107 (0, 0)) := hs'.res _ List.mem_cons_self w' (fun _ _ => rfl); have hfl2 : (Ad x.1).length = l.length * 2 := by rw [Mv F4, hlen]
  refine hs'.Er (m' := Al 2 107 (some ⟨g, 0, none⟩, ac) l.length (Ad x.1)) (Se.refl _ _) (fun w2 hw2 => ⟨hfl2, .inr ⟨g, ac, (Ad x.1 ++ cur.toList.drop (l.length * 2)).toArray, rfl, Nat.zero_le _, ?_, h4, h5, ?_, ?_⟩⟩) (fun b hb => ?_)
  ·rw [hw2 g rfl]; exact hg
  ·have h8 : cur.toList.length = ac * 2 := by simpa using h6
   simp only [List.size_toArray, List.length_append, List.length_drop, hfl2, h8]; omega
  ·rw [← hfl2, List.take_left]
  ·have hb : (sl (some ⟨g, 0, none⟩, ac) l.length).ownBlock = some b := hb; simp only [sl, Value.ownBlock, Option.some.injEq] at hb; subst hb; exact ⟨(Array.getElem?_eq_some_iff.mp hg).1, .inl rfl⟩
theorem A5a (l : List Cl) (a : SH) : Spec prog 110 #[sl a l.length] [CL l a] [] (fun x : {x : SH × Int × List Cl // J6 l x.2} => .tuple #[sl x.1.1 x.1.2.2.length, iv x.1.2.1]) (fun _ => []) (fun x => [Al 2 107 x.1.1 x.1.2.2.length (Ad x.1.2.2)]) := by
 refine Cm ntmps110 fun B hB => ?_
 refine A4 (l := l) (a := a) (fun hl1 hA1 hU1 => ?_); refine D8 ?_; refine B0 ?_; refine q0 rfl (C2o fun b12 => ?_); refine Of ?_; refine q0 rfl (B7 fun b5 => ?_); refine Js ?_; refine Kj ?_; refine K0 ?_; refine Dj (X := Nat × SH) (fun s => s.1 ≤ l.length ∧ ∀ j, j < s.1 → B3 (l.getD j B1) = true) (fun s => [(4, .map (some b12)), (5, pz b5), (13, sl a l.length), (14, iv (l.length : Int)), (15, iv (s.1 : Int))]) (fun s => [CL l a]) (fun s => [A0m b12 (once (l.take s.1)), Af b5 [sl s.2 (once (l.take s.1)).length] 22, Al 2 107 s.2 (once (l.take s.1)).length (Ad (once (l.take s.1)))]) (fun s => l.length - s.1) ((0, (none, 0))) (⟨Nat.zero_le _, fun j hj => absurd hj (Nat.not_lt_zero _)⟩) (by exact Cd) ?_ ?_
 ·exact fun w hs => ((hs.l8).By 2 107).perm (Bn.trans ((List.Perm.swap _ _ _).cons _))
 ·intro ⟨i, aO⟩ base0 ⟨hi, hok⟩ next0; dsimp only at hi hok next0 ⊢; refine Dm ?_; refine A6 (fun h16 => ?_) (fun h16 => ?_)
  ·have hlt : i < l.length := by have := of_decide_eq_true h16; omega
   obtain ⟨bk, o, hav⟩ := hA1 A2; have hu := hU1 _ (Aa (d := B1) hlt); have hol := A2x l i; refine Gr ?_; refine A2t ?_; refine O6 ?_; refine q0 rfl (B7 fun b7 => ?_); refine Uh ?_; refine Ez ?_; refine q0 rfl (A0 call196 (P1 (l.getD i B1) hu) (fun x20 => ?_)); refine Fq ?_; refine A6 (fun h21 => ?_) (fun h21 => ?_)
   ·have hr : B3 (l.getD i B1) = false := by simpa using h21
    refine D8 ?_; refine Az f_ rfl A5 A5 ⟨((none, 0), 2, []), by (unfold J6; rw [D4t hlt hr]; rfl)⟩ rfl (fun w hs => (hs.l7).bare.By 2 107)
   ·have hr : B3 (l.getD i B1) = true := by simpa using h21
    refine Iv ?_; refine Hp ?_; refine q0 rfl (C2p ?_); refine Fq ?_; refine A6 (fun h25 => ?_) (fun h25 => ?_)
    ·have hnin : l.getD i B1 ∉ once (l.take i) := by simpa using h25
     refine Qs ?_; refine q0 rfl (C8b ?_); refine Js ?_; refine Qj ?_; refine T9 ?_; refine Hp ?_; refine q0 rfl (Bv fun b30 => ?_); refine q0 rfl (Cj (fun a31 => ?_)  ); refine D5 ?_; refine Q8 ?_; have hst := R5 hlt; rw [if_neg hnin] at hst; have hlen' : (once (l.take (i + 1))).length = (once (l.take i)).length + 1 := by rw [hst]; simp
     refine A1 (fun w hs => ?_) (next0 (i + 1, a31) _ ⟨hlt, fun j hj => (by rcases Nat.lt_succ_iff_lt_or_eq.mp hj with h | h; exact hok j h; subst h; exact hr)⟩ (by simp only; omega) Cd); dsimp only; rw [hlen', hst, Yb]; exact ((hs.l8).perm Cb).C6 (A := [_, _, _])
    ·refine Lq ?_; have hin : l.getD i B1 ∈ once (l.take i) := by simpa using h25
     have hst := R5 hlt; rw [if_pos hin] at hst; refine A1 (fun w hs => ?_) (next0 (i + 1, aO) _ ⟨hlt, fun j hj => (by rcases Nat.lt_succ_iff_lt_or_eq.mp hj with h | h; exact hok j h; subst h; exact hr)⟩ (by simp only; omega) Cd); dsimp only; rw [hst]; exact (hs.l8).drop
  ·have hge : i = l.length := by have := of_decide_eq_false h16; omega
   have hall : l.all B3 = true := E1y (by rw [← hge]; exact hok); subst hge; rw [List.take_length]; have hUo : ∀ c, c ∈ once l → u32 c := fun c hc => hU1 c ((Ou c l).mp hc)
   have hol := V7 l; refine A1 (fun w hs => ((hs.perm Bn).Cq hB rfl rfl A2 hUo)) ?_; refine En ?_; refine B0 ?_; refine P5 ?_; refine Ch ?_; refine C9 ?_; refine Ia ?_; refine B0 ?_; refine T9 ?_; refine K0 ?_; refine Dj (X := Nat × SH) (fun s => s.1 ≤ (once l).length) (fun s => [(8, .func (.func 197) #[] [pz b5].toArray), (9, sl s.2 (Gy l s.1).length), (34, sl aO (once l).length), (35, iv ((once l).length : Int)), (36, iv (s.1 : Int))]) (fun s => [CL (once l) aO]) (fun s => [Af b5 [sl aO (once l).length] 22, Al 2 107 s.2 (Gy l s.1).length (Ad (Gy l s.1))]) (fun s => (once l).length - s.1) ((0, (none, 0))) (Nat.zero_le _) (by exact Cd) ?_ ?_
   ·exact fun w hs => (((hs.l9).By 2 107).perm Bn).C6 (A := [_, _])
   ·intro ⟨i, aK⟩ base1 hi next1; dsimp only at hi next1 ⊢; refine Dm ?_; refine A6 (fun h37 => ?_) (fun h37 => ?_)
    ·have hlt : i < (once l).length := by have := of_decide_eq_true h37; omega
     refine A4 (l := once l) (a := aO) (fun _ hA2 _ => ?_); obtain ⟨bk, o, hav⟩ := hA2 A2; have hu := hUo _ (Aa (d := B1) hlt); have hkl := A8c l i; refine Gr ?_; refine A2t ?_; refine O6 ?_; refine q0 rfl (B7 fun b11 => ?_); refine D5 ?_; refine Qs ?_; refine q0 rfl (D1 call197 (B1w (once l) aO ((once l).getD i B1) hu b5) (cap := [pz b5]) (fun x42 => ?_)); refine Fq ?_; refine A6 (fun h43 => ?_) (fun h43 => ?_)
     ·refine Dr ?_; refine Hp ?_; refine q0 rfl (Bv fun b46 => ?_); refine q0 rfl (Cj (fun a47 => ?_)  ); refine Sm ?_; have hnd : Ck (once l) ((once l).getD i B1) = false := by simpa using h43
      have hst := Sx hlt; rw [hnd, if_neg Jv] at hst; have hlen' : (Gy l (i + 1)).length = (Gy l i).length + 1 := by rw [hst]; simp
      refine A1 (fun w hs => ?_) (next1 (i + 1, a47) _ hlt (by simp only; omega) ⟨rfl, by rw [hlen']; rfl, rfl, rfl, rfl, trivial⟩); dsimp only; rw [hlen', hst, Yb]; exact ((hs.l8).perm Bn).C6 (A := [_, _])
     ·refine Lq ?_; have hnd : Ck (once l) ((once l).getD i B1) = true := by simpa using h43
      have hst := Sx hlt; rw [hnd, if_pos rfl] at hst; refine A1 (fun w hs => ?_) (next1 (i + 1, aK) _ hlt (by simp only; omega) ⟨rfl, by rw [hst]; rfl, rfl, rfl, rfl, trivial⟩); dsimp only; rw [hst]; exact (hs.l8).C6 (A := [_, _])
    ·have hge2 : i = (once l).length := by have := of_decide_eq_false h37; omega
     subst hge2; rw [A8d]; refine En ?_; refine Kj ?_; refine Hf ?_; refine Ob ?_; refine A6 (fun h51 => ?_) (fun h51 => ?_)
     ·have h64 : 64 < (kept l).length := by have := of_decide_eq_true h51; omega
      refine D8 ?_; refine Az f_ rfl A5 A5 ⟨((none, 0), 3, []), by (unfold J6; rw [hall, if_neg Jv, if_pos h64])⟩ rfl (fun w hs => (hs.l7).bare.By 2 107)
     ·have h64 : ¬ 64 < (kept l).length := by have := of_decide_eq_false h51; omega
      refine Iv ?_; refine q0 rfl (A0 call201 (A6u (kept l) aK (kept l).length rfl (by unfold reach; omega)) (fun x53 => ?_)); refine Js ?_; refine G9 ?_; have hpl : x53.1.length = (kept l).length := x53.2.1.length_eq; refine Az f_ rfl A5 A5 ⟨(aK, 0, x53.1), by (unfold J6; rw [hall, if_neg Jv, if_neg h64]; exact ⟨rfl, x53.2⟩)⟩ (by rw [hpl]; rfl) (fun w hs => ?_); have h := (hs.l7).C6 (A := [_]); rw [← hpl] at h; exact h
theorem B6b (l : List Cl) (a : SH) : Spec prog 110 #[sl a l.length] [CL l a] [] (fun x : {x : SH × Int × List Cl // J6 l x.2} => .tuple #[sl x.1.1 x.1.2.2.length, iv x.1.2.1]) (fun x => [CL x.1.2.2 x.1.1]) (fun _ => []) := fun ok w hok hs => (A5a l a ok w hok hs).mono fun e w' h => by
 obtain ⟨x, he, hs'⟩ := h; have hu := (hs.facts _ List.mem_cons_self).2
 have hx : x.1.2.2.length ≤ 64 ∧ ∀ c, c ∈ x.1.2.2 → u32 c := by
  have h := x.2; unfold J6 at h; split at h
  ·rw [h]; exact ⟨Nat.zero_le _, fun c hc => by cases hc⟩
  ·split at h
   ·rw [h]; exact ⟨Nat.zero_le _, fun c hc => by cases hc⟩
   ·rename_i h64; exact ⟨by rw [h.2.1.length_eq]; omega, fun c hc => hu c (C9l (h.2.1.mem_iff.mp hc))⟩
 exact ⟨x, he, (hs'.Cq trivial rfl rfl (by unfold reach; omega) hx.2).l8⟩
theorem B6p (l m : List Cl) (a b : SH) : Spec prog 111 #[sl a l.length, sl b m.length] [CL l a, CL m b] [] (fun _ : Unit => .bool (decide (l = m))) (fun _ => []) (fun _ => []) := by
 refine Cm ntmps111 fun B hB => ?_
 refine A4 (l := l) (a := a) (fun hl1 hA1 hU1 => ?_); refine A4 (l := m) (a := b) (fun hl2 hA2 hU2 => ?_); refine Qu ?_; refine Hf ?_; refine Eh ?_; refine Hf ?_; refine U7 ?_; refine A6 (fun h10 => ?_) (fun h10 => ?_)
 ·have hne : ¬ l = m := fun e => by subst e; simp at h10
  refine C9 ?_; refine Ao f_ rfl A5 () (by rw [decide_eq_false hne]) (fun w hs => hs.none)
 ·have hlen : l.length = m.length := by simp at h10; omega
  refine L9 ?_; refine K0 ?_; refine Dj (X := Nat) (fun i => i ≤ l.length ∧ ∀ j, j < i → l.getD j B1 = m.getD j B1) (fun i => [(0, sl a l.length), (1, sl b m.length), (12, iv (l.length : Int)), (13, iv (i : Int))]) (fun i => [CL l a, CL m b]) (fun i => []) (fun i => l.length - i) (0) (⟨Nat.zero_le _, fun j hj => by omega⟩) (by exact Cd) ?_ ?_
  ·exact fun w hs => hs.l9
  ·intro i base0 ⟨hi, hok⟩ next0; refine Dm ?_; refine A6 (fun h14 => ?_) (fun h14 => ?_)
   ·have hlt : i < l.length := by have := of_decide_eq_true h14; omega
    have hlt2 : i < m.length := by omega
    obtain ⟨bk, o, hav⟩ := hA1 A2; obtain ⟨bk2, o2, hav2⟩ := hA2 A2; refine Ho ?_; refine Ey ?_; refine Dw ?_; refine Bl (pn := 1000000) (tn := false) (A := [0, 0, 3, 7, 0, 0, 48, 112, 255]) (l := [0, 1, 2, 3, 4, 5, 6, 7, 8]) (fin := []) Tab.mixed ⟨_, func111⟩ (by rfl) ?_; refine Gh ?_; refine n0 rfl (Ei ?_); refine A6j ?_; refine Gh ?_; refine n0 rfl (Ei ?_); refine A6j ?_; refine n0 rfl (B7v ?_); refine Mg ?_; refine A6 (fun h24 => ?_) (fun h24 => ?_)
    ·refine C9 ?_; refine Ao f_ rfl A5 () (by rw [decide_eq_false (fun e => by subst e; simp at h24)]) (fun w hs => hs.none)
    ·refine Lq ?_; have hb : l.getD i B1 = m.getD i B1 := by simpa using h24
     refine A1 (fun w hs => ?_) (next0 (i + 1) _ ⟨hlt, fun j hj => (by rcases Nat.lt_succ_iff_lt_or_eq.mp hj with h | h; exact hok j h; subst h; exact hb)⟩ A2 Cd); exact hs
   ·have hge : i = l.length := by have := of_decide_eq_false h14; omega
    refine Jz ?_; refine Ao f_ rfl A5 () (by rw [decide_eq_true (Pp hlen (by rw [← hge]; exact hok))]) (fun w hs => hs.none)
theorem Gz : D1f := by
 intro l a; refine Cm ntmps63 fun B hB => ?_
 refine Bs (p := True) (fun _ _ => trivial) (fun _ => ?_); refine Lo ?_; refine q0 rfl (A0 call110 (B6b l a) (fun x7 => ?_)); refine Il ?_; refine Ey ?_; refine Ik ?_; refine qI rfl rfl rfl Gm (fun hg12 => Ce ?_) (fun hg12 => ?_)
 ·refine Dd ?_; refine qT rfl rfl rfl (A0 call111 (B6p x7.1.2.2 l x7.1.1 a) (fun x15 => ?_)); refine Fy ?_; have hlr := Ra x7.2; refine Ao f_ rfl A5 () (by rw [← hlr]; simp_all) (fun w hs => hs.none)
 ·refine Sj ?_; have hlr := Ra x7.2; refine Ao f_ rfl A5 () (by rw [← hlr]; simp_all) (fun w hs => hs.none)
theorem Rg : A6g := by
 intro l a; refine Cm ntmps193 fun B hB => ?_
 refine A4 (l := l) (a := a) (fun hl1 hA1 hU1 => ?_); refine Lo ?_; refine q0 rfl (A0 call63 (Gz l a) (fun x4 => ?_)); refine Eh ?_; refine qI rfl rfl rfl Gm (fun hg5 => Ce ?_) (fun hg5 => ?_)
 ·refine qT rfl rfl rfl (A0 call198 (T4 l a 248 [] [] [] Lf call248 (fun x hx => A1u x (hU1 x hx))) (fun x7 => ?_)); refine T6 ?_; refine Fy ?_; refine Ao f_ rfl A5 () (by simp_all [A7]) (fun w hs => hs.none)
 ·refine Sj ?_; refine Ao f_ rfl A5 () (by simp_all [A7]) (fun w hs => hs.none)
theorem S5 : B7n := ⟨Gz, Rg, A1j⟩
theorem B8o {m : Nat} (h : m ≤ 24) : 2 ^ m ≤ 16777216 := Nat.pow_le_pow_right (n := 2) (j := 24) A2 h
theorem C0m (i : Int) (h0 : 0 ≤ i) : Spec prog 239 #[iv (i)] [] [] (fun _ : Unit => .int .u32 (((2 ^ (min i.toNat 24) - 1) : Nat) : Int)) (fun _ => []) (fun _ => []) := by
 refine Cm ntmps239 fun B hB => ?_
 have hp := B8o (m := min i.toNat 24) A2; have hpos : 0 < 2 ^ (min i.toNat 24) := Nat.pow_pos A2; refine Lo ?_; refine q0 rfl (B0w ?_); refine q0 rfl (Va ?_ (m := min i.toNat 24) (ha := by split <;> omega)); refine q0 rfl (B5s ?_ (a := 1) (m := min i.toNat 24) (hm := by omega) (hb := by omega)); refine q0 rfl (D8l ?_ (a := 1 * 2 ^ (min i.toNat 24)) (b := 1) (h := by omega) (ha := by omega)); refine q0 rfl (B0y ?_ (a := 1 * 2 ^ (min i.toNat 24) - 1) (ha := by omega)); refine Ch ?_; refine Ao f_ rfl A5 () (by rw [Nat.one_mul]) (fun w hs => hs.none)
end Go.Hy
