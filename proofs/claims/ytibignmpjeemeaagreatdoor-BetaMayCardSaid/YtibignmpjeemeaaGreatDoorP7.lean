/- Contracts of this program's functions and the laws that they need. -/
import Derived.Lib.TrailingZeros
import Derived.LaidMore
import Derived.OpenShut
import Derived.Stop.Joined
import Derived.MakeChecks
import Derived.Shelf.Spec.TrailingZeros
import Derived.Test.YtibignmpjeemeaaGreatDoorP6
set_option linter.unusedVariables false
set_option linter.unusedSimpArgs false
set_option linter.unusedSectionVars false
namespace Go.Hy
def B7p (v d : Int) (k n : Int) (r : List Cl) : Prop := d ≤ 24 ∧ (k = 1 → n < v) ∧ within r d = true
mutual
def Df : T → Int → Int → Prop
 | .mk k n nm r ks ss, v, d => B7p v d k n r ∧ S9 k 0 ks v d ∧ Sa k ss v d
def S9 (k : Int) : Nat → List T → Int → Int → Prop
 | _, [], _, _ => True
 | i, t :: ts, v, d => Df t (v + (binds k i).1) (d + (binds k i).2) ∧ S9 k (i + 1) ts v d
def A0y (k : Int) : List T → Int → Int → Prop
 | [], _, _ => True
 | t :: ts, v, d => Df t v (d + more k) ∧ A0y k ts v d
def Sa (k : Int) : List Br → Int → Int → Prop
 | [], _, _ => True
 | .mk f ks :: bs, v, d => within f d = true ∧ A0y k ks v d ∧ Sa k bs v d
end
theorem H6 (d : Int) : within [] d = true := by
 unfold within
 rw [show G9 [] = 0 from rfl, Nat.zero_div]
 simp
theorem M0 {t : T} {d : Int} {b : Br} : Mx t d b = true ↔ ((b.kids.length : Int) = De t.kind ∧ B3 b.Ah = true) ∧ within b.Ah d = true := by
 unfold Mx
 rw [Bool.and_eq_true, Bool.and_eq_true, decide_eq_true_iff]
theorem C3q {t : T} {v d : Int} (hv : 0 ≤ v) : I3 t v d = true ↔ I3 t (-1) 24 = true ∧ (t.kind = 1 → t.n < v) ∧ within t.r d = true ∧ ∀ b, b ∈ t.sys → within b.Ah d = true := by
 rw [A5s, A5s]
 have hsys : ∀ (h : Ix t = false), De t.kind = 0 → t.sys = [] := fun h h0 => by
  unfold Ix at h
  rw [Bool.or_eq_false_iff, Bool.and_eq_false_iff] at h
  rcases h.2 with h2 | h2
  ·exact absurd h0 (of_decide_eq_false h2)
  ·exact List.eq_nil_of_length_eq_zero (by have := of_decide_eq_false h2; omega)
 have hw24 : ∀ l : List Cl, within l 24 = true := fun l => Ql l A1
 constructor
 ·rintro ⟨h1, h2⟩
  refine (fun (h : (if t.kind = 1 then t.r.length = 0 ∧ 0 ≤ t.n ∧ ((-1 : Int) < 0 ∨ t.n < -1) else if t.kind = 2 then t.r.length = 0 ∧ Mz t.name = true else if t.kind = 13 ∨ t.kind = 21 ∨ t.kind = 26 then Aq t.r = true ∧ within t.r 24 = true else if t.kind = 14 then B3 t.r = true ∧ within t.r 24 = true else (∀ x, x ∈ t.sys → Mx t 24 x = true) ∧ t.r.length = 0) ∧ (t.kind = 1 → t.n < v) ∧ within t.r d = true ∧ ∀ b, b ∈ t.sys → within b.Ah d = true) => ⟨⟨h1, h.1⟩, h.2⟩) ?_
  split at h2
  ·rename_i hk
   have hs := hsys h1 (Ge A1)
   rw [hs, List.eq_nil_of_length_eq_zero h2.1]
   exact ⟨by rw [if_pos hk]; exact ⟨rfl, h2.2.1, .inl F2⟩, fun _ => by omega, H6 d, fun b hb => (by cases hb)⟩
  ·rename_i hk1
   rw [if_neg hk1]
   split at h2
   ·rename_i hk
    have hs := hsys h1 (Ge A1)
    rw [hs, List.eq_nil_of_length_eq_zero h2.1]
    exact ⟨by rw [if_pos hk]; exact ⟨rfl, h2.2⟩, fun h => absurd h hk1, H6 d, fun b hb => (by cases hb)⟩
   ·rename_i hk2
    rw [if_neg hk2]
    split at h2
    ·rename_i hk
     have hs := hsys h1 (Ge A1)
     rw [hs]
     exact ⟨by rw [if_pos hk]; exact ⟨h2.1, hw24 _⟩, fun h => absurd h hk1, h2.2, fun b hb => (by cases hb)⟩
    ·rename_i hk3
     rw [if_neg hk3]
     split at h2
     ·rename_i hk
      have hs := hsys h1 (Ge A1)
      rw [hs]
      exact ⟨by rw [if_pos hk]; exact ⟨h2.1, hw24 _⟩, fun h => absurd h hk1, h2.2, fun b hb => (by cases hb)⟩
     ·rename_i hk4
      rw [if_neg hk4, List.eq_nil_of_length_eq_zero h2.2]
      exact ⟨⟨fun x hx => M0.mpr ⟨(M0.mp (h2.1 x hx)).1, hw24 _⟩, rfl⟩, fun h => absurd h hk1, H6 d, fun b hb => (M0.mp (h2.1 b hb)).2⟩
 ·rintro ⟨⟨h1, h2⟩, h3, h4, h5⟩
  refine ⟨h1, ?_⟩
  split at h2
  ·rename_i hk; rw [if_pos hk]; exact ⟨h2.1, h2.2.1, .inr (h3 hk)⟩
  ·rename_i hk1
   rw [if_neg hk1]
   split at h2
   ·rename_i hk; rw [if_pos hk]; exact h2
   ·rename_i hk2
    rw [if_neg hk2]
    split at h2
    ·rename_i hk; rw [if_pos hk]; exact ⟨h2.1, h4⟩
    ·rename_i hk3
     rw [if_neg hk3]
     split at h2
     ·rename_i hk; rw [if_pos hk]; exact ⟨h2.1, h4⟩
     ·rename_i hk4
      rw [if_neg hk4]
      exact ⟨fun x hx => M0.mpr ⟨(M0.mp (h2.1 x hx)).1, h5 x hx⟩, h2.2⟩
theorem B0n {k v d : Int} : ∀ {ts : List T} {i : Nat}, S9 k i ts v d ↔ ∀ j, j < ts.length → Df (ts.getD j t0) (v + (binds k ((i + j : Nat) : Int)).1) (d + (binds k ((i + j : Nat) : Int)).2)
 | [], i => by simp [S9]
 | t :: ts, i => by
  simp only [S9, B0n (ts := ts) (i := i + 1)]
  constructor
  ·rintro ⟨h1, h2⟩ j hj
   cases j with
   | zero => simpa using h1
   | succ j => rw [List.getD_cons_succ, show i + (j + 1) = i + 1 + j by omega]; exact h2 j (by simpa using hj)
  ·intro h
   refine ⟨by simpa using h 0 Cs, fun j hj => ?_⟩
   have := h (j + 1) (by simpa using hj)
   rw [List.getD_cons_succ, show i + (j + 1) = i + 1 + j by omega] at this
   exact this
theorem Yp {k v d : Int} : ∀ {ts : List T}, A0y k ts v d ↔ ∀ j, j < ts.length → Df (ts.getD j t0) v (d + more k)
 | [] => by simp [A0y]
 | t :: ts => by
  simp only [A0y, Yp (ts := ts)]
  constructor
  ·rintro ⟨h1, h2⟩ j hj
   cases j with
   | zero => simpa using h1
   | succ j => rw [List.getD_cons_succ]; exact h2 j (by simpa using hj)
  ·intro h
   exact ⟨by simpa using h 0 Cs, fun j hj => by have := h (j + 1) (by simpa using hj); rwa [List.getD_cons_succ] at this⟩
theorem B0o {k v d : Int} : ∀ {bs : List Br}, Sa k bs v d ↔ ∀ b, b ∈ bs → within b.Ah d = true ∧ A0y k b.kids v d
 | [] => by simp [Sa]
 | .mk f ks :: bs => by
  simp only [Sa, B0o (bs := bs), List.forall_mem_cons, Br.Ah, Br.kids, and_assoc]
theorem Hb {t : T} {v d : Int} : Df t v d ↔ B7p v d t.kind t.n t.r ∧ (∀ b, b ∈ t.sys → within b.Ah d = true) ∧ ∀ p, p ∈ parts t → Df p.1 (v + p.2.1) (d + p.2.2) := by
 have h : Df t v d ↔ B7p v d t.kind t.n t.r ∧ S9 t.kind 0 t.kids v d ∧ Sa t.kind t.sys v d := by
  obtain ⟨k, n, nm, r, ks, ss⟩ := t
  simp only [Df, T.kind, T.n, T.r, T.kids, T.sys]
 rw [h, B0n, B0o]
 constructor
 ·rintro ⟨h1, h2, h3⟩
  refine ⟨h1, fun b hb => (h3 b hb).1, fun p hp => ?_⟩
  rcases Lz hp with ⟨i, hi, rfl⟩ | ⟨s, k, hs, hk, rfl⟩
  ·have := h2 i hi; rw [Nat.zero_add] at this; exact this
  ·have := Yp.mp (h3 _ (Ad (d := B1) hs)).2 k hk; simpa using this
 ·rintro ⟨h1, h2, h3⟩
  refine ⟨h1, fun j hj => ?_, fun b hb => ⟨h2 b hb, Yp.mpr fun k hk => ?_⟩⟩
  ·have := h3 _ (List.mem_of_getElem? (Hn t j hj)); rw [Nat.zero_add]; exact this
  ·obtain ⟨s, hs, e⟩ := List.mem_iff_getElem.mp hb
   have e2 : t.sys.getD s B1 = b := by rw [Gs (d := B1) hs]; exact e
   have := h3 _ (List.mem_of_getElem? (Io t s k hs (by rw [e2]; exact hk)))
   rw [e2] at this
   simpa using this
section
variable {C : Type} {A : Tr C}
end
mutual
theorem V7 {a : Int} (ha : 0 ≤ a) : ∀ {t u : T} {c : Int × Int} {v d : Int}, Bj (B7 a 0) t c = .ok u → Df t v d → Df u (v + a) d
 | .mk k n nm r ks ss, u, c, v, d, hu, hm => by
  rw [F8] at hu
  simp only [T.kind, T.n, T.name, T.r, T.kids, T.sys] at hu
  obtain ⟨o, h9, hu⟩ := Ac.A2 hu
  cases o with
  | inl w => exact absurd h9 L6
  | inr p =>
   obtain ⟨ks', h10, hu⟩ := Ac.A2 hu
   obtain ⟨ss', h11, hu⟩ := Ac.A2 hu
   injection hu with hu
   subst hu
   obtain ⟨h1, h2, h3⟩ := W7 h9
   rw [Tk] at h1
   injection h1 with h1
   simp only [Df] at hm ⊢
   obtain ⟨⟨m1, m2, m3⟩, m4, m5⟩ := hm
   refine ⟨⟨m1, fun hk => ?_, by rw [← h1]; exact m3⟩, Yt ha h10 m4, Yu ha h11 m5⟩
   have := m2 hk
   rw [h3]
   unfold Iq
   split <;> omega
termination_by structural t => t
theorem Yt {a k : Int} (ha : 0 ≤ a) : ∀ {ts us : List T} {i : Nat} {c : Int × Int} {v d : Int}, Dh (B7 a 0) k i ts c = .ok us → S9 k i ts v d → S9 k i us (v + a) d
 | [], us, i, c, v, d, hu, hm => by rw [Dt] at hu; injection hu with hu; subst hu; simp only [S9]
 | t :: ts, us, i, c, v, d, hu, hm => by
  rw [Dc, U0] at hu
  obtain ⟨c', h1, hu⟩ := Ac.A2 hu
  obtain ⟨t', h2, hu⟩ := Ac.A2 hu
  obtain ⟨ts', h3, hu⟩ := Ac.A2 hu
  injection hu with hu
  subst hu
  simp only [S9] at hm ⊢
  refine ⟨?_, Yt ha h3 hm.2⟩
  have := V7 ha h2 hm.1
  rwa [show v + (binds k (i : Int)).1 + a = v + a + (binds k (i : Int)).1 by omega] at this
termination_by structural ts => ts
theorem Ys {a k : Int} (ha : 0 ≤ a) : ∀ {ts us : List T} {c : Int × Int} {v d : Int}, Ck (B7 a 0) k ts c = .ok us → A0y k ts v d → A0y k us (v + a) d
 | [], us, c, v, d, hu, hm => by rw [E3] at hu; injection hu with hu; subst hu; simp only [A0y]
 | t :: ts, us, c, v, d, hu, hm => by
  rw [Db, U0] at hu
  obtain ⟨c', h1, hu⟩ := Ac.A2 hu
  obtain ⟨t', h2, hu⟩ := Ac.A2 hu
  obtain ⟨ts', h3, hu⟩ := Ac.A2 hu
  injection hu with hu
  subst hu
  simp only [A0y] at hm ⊢
  exact ⟨V7 ha h2 hm.1, Ys ha h3 hm.2⟩
termination_by structural ts => ts
theorem Yu {a k : Int} (ha : 0 ≤ a) : ∀ {bs us : List Br} {c : Int × Int} {v d : Int}, D7 (B7 a 0) k bs c = .ok us → Sa k bs v d → Sa k us (v + a) d
 | [], us, c, v, d, hu, hm => by rw [D1] at hu; injection hu with hu; subst hu; simp only [Sa]
 | .mk f ks :: bs, us, c, v, d, hu, hm => by
  rw [Cw, Rq] at hu
  simp only [Br.Ah, Br.kids] at hu
  rw [Tk] at hu
  simp only [Ac.bind] at hu
  obtain ⟨ks', h7, hu⟩ := Ac.A2 (x := Ck (B7 a 0) k ks c) hu
  obtain ⟨bs', h8, hu⟩ := Ac.A2 hu
  injection hu with hu
  subst hu
  simp only [Sa] at hm ⊢
  exact ⟨hm.1, Ys ha h7 hm.2.1, Yu ha h8 hm.2.2⟩
termination_by structural bs => bs
end
theorem Spec.C9d {P : Program} {k : FuncId} {args : Array Value} {pre : List Fact} {Ms0 : List B4} {α X : Type} (r : α) {val : α → X → Value} {N : α → X → List Fact} {Ms1 : α → X → List B4} (h : Spec P k args pre Ms0 (val r) (N r) (Ms1 r)) :
  Spec P k args pre Ms0 (fun x : {x : α × X // x.1 = r} => val x.1.1 x.1.2) (fun x => N x.1.1 x.1.2) (fun x => Ms1 x.1.1 x.1.2) := fun ok w hk hs => (h ok w hk hs).mono fun e w' hh => by
 obtain ⟨x, he, hs'⟩ := hh
 exact ⟨⟨(r, x), rfl⟩, he, hs'⟩
section
variable {C : Type} {A : Tr C}
theorem A8l {k : Int} {c : C} : ∀ {ts us : List T} {i : Nat}, Dh A k i ts c = .ok us → us.length = ts.length ∧ ∀ j, j < us.length → ∃ c', A.Oq c (binds k ((i + j : Nat) : Int)) = .ok c' ∧ Bj A (ts.getD j t0) c' = .ok (us.getD j t0)
 | [], us, i, h => by rw [Dt] at h; injection h with h; subst h; exact ⟨rfl, fun j hj => absurd hj Cs⟩
 | t :: ts, us, i, h => by
  rw [Dc] at h
  obtain ⟨c', h1, h⟩ := Ac.A2 h
  obtain ⟨t', h2, h⟩ := Ac.A2 h
  obtain ⟨ts', h3, h⟩ := Ac.A2 h
  injection h with h
  subst h
  obtain ⟨h4, h5⟩ := A8l h3
  refine ⟨by simp [h4], fun j hj => ?_⟩
  cases j with
  | zero => exact ⟨c', by simpa using h1, by simpa using h2⟩
  | succ j =>
   obtain ⟨d, h6, h7⟩ := h5 j (by simpa using hj)
   exact ⟨d, by rw [show i + (j + 1) = i + 1 + j by omega]; exact h6, by rw [List.getD_cons_succ, List.getD_cons_succ]; exact h7⟩
theorem A8k {k : Int} {c : C} : ∀ {ts us : List T}, Ck A k ts c = .ok us → us.length = ts.length ∧ ∀ j, j < us.length → ∃ c', A.Oq c (0, more k) = .ok c' ∧ Bj A (ts.getD j t0) c' = .ok (us.getD j t0)
 | [], us, h => by rw [E3] at h; injection h with h; subst h; exact ⟨rfl, fun j hj => absurd hj Cs⟩
 | t :: ts, us, h => by
  rw [Db] at h
  obtain ⟨c', h1, h⟩ := Ac.A2 h
  obtain ⟨t', h2, h⟩ := Ac.A2 h
  obtain ⟨ts', h3, h⟩ := Ac.A2 h
  injection h with h
  subst h
  obtain ⟨h4, h5⟩ := A8k h3
  refine ⟨by simp [h4], fun j hj => ?_⟩
  cases j with
  | zero => exact ⟨c', h1, by simpa using h2⟩
  | succ j =>
   obtain ⟨d, h6, h7⟩ := h5 j (by simpa using hj)
   exact ⟨d, h6, by rw [List.getD_cons_succ, List.getD_cons_succ]; exact h7⟩
theorem Xd {k : Int} {c : C} : ∀ {bs us : List Br}, D7 A k bs c = .ok us → us.length ≤ bs.length ∧ ∀ u, u ∈ us → ∃ b, b ∈ bs ∧ A.Ah c b.Ah = .ok (some u.Ah) ∧ Ck A k b.kids c = .ok u.kids
 | [], us, h => by rw [D1] at h; injection h with h; subst h; exact ⟨Nat.le_refl _, fun u hu => (by cases hu)⟩
 | b :: bs, us, h => by
  rw [Cw] at h
  obtain ⟨o, h1, h⟩ := Ac.A2 h
  cases o with
  | none =>
   obtain ⟨h4, h5⟩ := Xd h
   exact ⟨by simp only [List.length_cons]; omega, fun u hu => by obtain ⟨x, hx, h6⟩ := h5 u hu; exact ⟨x, List.mem_cons_of_mem _ hx, h6⟩⟩
  | some f' =>
   obtain ⟨ks', h2, h⟩ := Ac.A2 h
   obtain ⟨bs', h3, h⟩ := Ac.A2 h
   injection h with h
   subst h
   obtain ⟨h4, h5⟩ := Xd h3
   refine ⟨by simp only [List.length_cons]; omega, fun u hu => ?_⟩
   rcases List.mem_cons.mp hu with rfl | hu
   ·exact ⟨b, List.mem_cons_self, h1, h2⟩
   ·obtain ⟨x, hx, h6⟩ := h5 u hu; exact ⟨x, List.mem_cons_of_mem _ hx, h6⟩
theorem B0m {α : Type} {d x : α} {l : List α} (h : x ∈ l) : ∃ i, i < l.length ∧ l.getD i d = x := by
 obtain ⟨i, hi, e⟩ := List.mem_iff_getElem.mp h
 exact ⟨i, hi, by rw [Gs (d := d) hi]; exact e⟩
theorem T5 {t u : T} {c : C} (h : Bj A t c = .ok u) : A.own c t.kind t.n t.name t.r = .ok (.inl u) ∨ ∃ p, A.own c t.kind t.n t.name t.r = .ok (.inr p) ∧ (u.kind = t.kind ∧ u.n = p.1 ∧ u.name = t.name ∧ u.r = p.2) ∧
  (∀ q, q ∈ parts u → ∃ p, p ∈ parts t ∧ p.2 = q.2 ∧ ∃ c', A.Oq c p.2 = .ok c' ∧ Bj A p.1 c' = .ok q.1) ∧ ∀ b', b' ∈ u.sys → ∃ b, b ∈ t.sys ∧ A.Ah c b.Ah = .ok (some b'.Ah) := by
 rw [F8] at h
 obtain ⟨o, h1, h⟩ := Ac.A2 h
 cases o with
 | inl v => injection h with h; subst h; exact .inl h1
 | inr p =>
  obtain ⟨ks', h2, h⟩ := Ac.A2 h
  obtain ⟨ss', h3, h⟩ := Ac.A2 h
  injection h with h
  subst h
  obtain ⟨l1, l2⟩ := A8l h2
  obtain ⟨b1, b2⟩ := Xd h3
  refine .inr ⟨p, h1, ⟨rfl, rfl, rfl, rfl⟩, fun q hq => ?_, fun b' hb' => ?_⟩
  ·rcases Lz hq with ⟨i, hi, rfl⟩ | ⟨s, j, hs, hj, rfl⟩
   ·simp only [T.kids, T.kind] at hi ⊢
    obtain ⟨c', h4, h5⟩ := l2 i hi
    exact ⟨_, List.mem_of_getElem? (Hn t i A1), rfl, c', by rw [Nat.zero_add] at h4; exact h4, h5⟩
   ·simp only [T.sys, T.kind] at hs hj ⊢
    obtain ⟨b, hb, _, h6⟩ := b2 _ (Ad (d := B1) hs)
    obtain ⟨h7, h8⟩ := A8k h6
    obtain ⟨c', h9, h10⟩ := h8 j hj
    obtain ⟨s', hs', e⟩ := B0m (d := B1) hb
    refine ⟨_, List.mem_of_getElem? (Io t s' j hs' (by rw [e]; omega)), rfl, c', h9, ?_⟩
    rw [e]; exact h10
  ·obtain ⟨b, hb, h6, _⟩ := b2 b' hb'
   exact ⟨b, hb, h6⟩
theorem Di {α β : Type} {x : Ac α} {k : α → Ac β} {e : Int} (h : x.bind k = .bad e) : x = .bad e ∨ ∃ a, x = .ok a ∧ k a = .bad e := by
 cases x with
 | ok a => exact .inr ⟨a, rfl, h⟩
 | bad e' => injection h with h; subst h; exact .inl rfl
theorem A1r {k : Int} {c : C} {e : Int} : ∀ {ts : List T} {i : Nat}, Dh A k i ts c = .bad e → ∃ j, j < ts.length ∧ (A.Oq c (binds k ((i + j : Nat) : Int)) = .bad e ∨ ∃ c', A.Oq c (binds k ((i + j : Nat) : Int)) = .ok c' ∧ Bj A (ts.getD j t0) c' = .bad e)
 | [], i, h => by rw [Dt] at h; cases h
 | t :: ts, i, h => by
  rw [Dc] at h
  rcases Di h with h | ⟨c', h1, h⟩
  ·exact ⟨0, by simp, .inl (by simpa using h)⟩
  ·rcases Di h with h | ⟨t', h2, h⟩
   ·exact ⟨0, by simp, .inr ⟨c', by simpa using h1, by simpa using h⟩⟩
   ·rcases Di h with h | ⟨ts', h3, h⟩
    ·obtain ⟨j, hj, h4⟩ := A1r h
     refine ⟨j + 1, by simpa using hj, ?_⟩
     rw [List.getD_cons_succ, show i + (j + 1) = i + 1 + j by omega]; exact h4
    ·cases h
theorem A1o {k : Int} {c : C} {e : Int} : ∀ {ts : List T}, Ck A k ts c = .bad e → ∃ j, j < ts.length ∧ (A.Oq c (0, more k) = .bad e ∨ ∃ c', A.Oq c (0, more k) = .ok c' ∧ Bj A (ts.getD j t0) c' = .bad e)
 | [], h => by rw [E3] at h; cases h
 | t :: ts, h => by
  rw [Db] at h
  rcases Di h with h | ⟨c', h1, h⟩
  ·exact ⟨0, by simp, .inl h⟩
  ·rcases Di h with h | ⟨t', h2, h⟩
   ·exact ⟨0, by simp, .inr ⟨c', h1, by simpa using h⟩⟩
   ·rcases Di h with h | ⟨ts', h3, h⟩
    ·obtain ⟨j, hj, h4⟩ := A1o h
     exact ⟨j + 1, by simpa using hj, by rw [List.getD_cons_succ]; exact h4⟩
    ·cases h
theorem Uw {k : Int} {c : C} {e : Int} : ∀ {bs : List Br}, D7 A k bs c = .bad e → ∃ b, b ∈ bs ∧ (A.Ah c b.Ah = .bad e ∨ Ck A k b.kids c = .bad e)
 | [], h => by rw [D1] at h; cases h
 | b :: bs, h => by
  rw [Cw] at h
  rcases Di h with h | ⟨o, h1, h⟩
  ·exact ⟨b, List.mem_cons_self, .inl h⟩
  ·cases o with
   | none => obtain ⟨x, hx, h⟩ := Uw h; exact ⟨x, List.mem_cons_of_mem _ hx, h⟩
   | some f' =>
    rcases Di h with h | ⟨ks, h2, h⟩
    ·exact ⟨b, List.mem_cons_self, .inr h⟩
    ·rcases Di h with h | ⟨us, h3, h⟩
     ·obtain ⟨x, hx, h⟩ := Uw h; exact ⟨x, List.mem_cons_of_mem _ hx, h⟩
     ·cases h
theorem A8j {t : T} {c : C} {e : Int} (h : Bj A t c = .bad e) : A.own c t.kind t.n t.name t.r = .bad e ∨ (∃ b, b ∈ t.sys ∧ A.Ah c b.Ah = .bad e) ∨ ∃ p, p ∈ parts t ∧ (A.Oq c p.2 = .bad e ∨ ∃ c', A.Oq c p.2 = .ok c' ∧ Bj A p.1 c' = .bad e) := by
 rw [F8] at h
 rcases Di h with h | ⟨o, h1, h⟩
 ·exact .inl h
 ·cases o with
  | inl u => cases h
  | inr p =>
   rcases Di h with h | ⟨ks, h2, h⟩
   ·obtain ⟨j, hj, h3⟩ := A1r h
    rw [Nat.zero_add] at h3
    exact .inr (.inr ⟨_, List.mem_of_getElem? (Hn t j hj), h3⟩)
   ·rcases Di h with h | ⟨ss, h3, h⟩
    ·obtain ⟨b, hb, h4⟩ := Uw h
     rcases h4 with h4 | h4
     ·exact .inr (.inl ⟨b, hb, h4⟩)
     ·obtain ⟨j, hj, h5⟩ := A1o h4
      obtain ⟨s, hs, e2⟩ := B0m (d := B1) hb
      refine .inr (.inr ⟨_, List.mem_of_getElem? (Io t s j hs (by rw [e2]; exact hj)), ?_⟩)
      rw [e2]; exact h5
    ·cases h
end
theorem Lh {l : List Cl} {i : Nat} : (G9 l).testBit i = true ↔ i < 24 ∧ ∃ c, c ∈ l ∧ (c.pos ||| c.neg).testBit i = true := by
 unfold G9
 rw [E4, Bool.and_eq_true, decide_eq_true_eq, B1e (fun c : Cl => c.pos ||| c.neg)]
 simp
theorem N0 {s : Nat} {f b : Int} (h : (As s f b).1 = 0) (i : Nat) (hi : (As s f b).2.testBit i = true) : ∃ j, j < 24 ∧ s.testBit j = true ∧ (((j : Int) < f ∧ i = j) ∨ (f ≤ (j : Int) ∨ 24 ≤ j) ∧ (i : Int) = j + b) := by
 obtain ⟨h0, h1, h2⟩ := Oi h i
 rw [h2, Bool.or_eq_true, Bool.and_eq_true, Bool.and_eq_true, decide_eq_true_eq, decide_eq_true_eq, E4, E4, Bool.and_eq_true, Bool.and_eq_true, decide_eq_true_eq, decide_eq_true_eq] at hi
 rcases hi with ⟨h3, h4, h5⟩ | ⟨h3, h4, h5⟩
 ·exact ⟨i, h4, h5, .inl ⟨by omega, rfl⟩⟩
 ·exact ⟨i - b.toNat, h4, h5, .inr ⟨by omega, by omega⟩⟩
theorem Tl {l g : List Cl} {f b : Int} (hf : 0 ≤ f) (h : Be b l f = .ok g) {i : Nat} (hi : (G9 g).testBit i = true) : ∃ j : Nat, j < 24 ∧ (G9 l).testBit j = true ∧ (((j : Int) < f ∧ i = j) ∨ f ≤ (j : Int) ∧ (i : Int) = j + b) := by
 unfold Be at h
 split at h
 ·rename_i h0
  injection h with h
  subst h
  have h1 := (Lh.mp hi).1
  refine ⟨i, h1, hi, ?_⟩
  omega
 ·split at h
  ·rename_i h0 h1
   injection h with h
   subst h
   obtain ⟨h2, h3, h4⟩ := M8 h1
   obtain ⟨h5, c, hc, h6⟩ := Lh.mp hi
   rw [h4] at h1 hc
   have hc2 := On h1 hc
   obtain ⟨d, hd, e⟩ := List.mem_map.mp hc2
   have h7 := h3 d hd
   obtain ⟨_, h8, h9, h10⟩ := A4c h7
   rw [h10] at e
   subst e
   rw [Nat.testBit_or, Bool.or_eq_true] at h6
   have key : ∀ j, (d.pos.testBit j = true ∨ d.neg.testBit j = true) → j < 24 → (G9 l).testBit j = true := fun j hj hj2 => Lh.mpr ⟨hj2, d, hd, by rw [Nat.testBit_or, Bool.or_eq_true]; exact hj⟩
   rcases h6 with h6 | h6
   ·obtain ⟨j, h11, h12, h13⟩ := N0 h8 i h6
    exact ⟨j, h11, key j (.inl h12) h11, by omega⟩
   ·obtain ⟨j, h11, h12, h13⟩ := N0 h9 i h6
    exact ⟨j, h11, key j (.inr h12) h11, by omega⟩
  ·cases h
theorem B0s {vb db : Int} {c c' : Int × Int} {b : Int × Int} (h : (B7 vb db).Oq c b = .ok c') : c' = (c.1 + b.1, c.2 + b.2) := by injection h with h; exact h.symm
theorem Jx {t : T} (h : F5 t) {p : Part} (hp : p ∈ parts t) : F5 p.1 := (Sf.mp h).2 p hp
def vE (n : Int) : T := .mk 1 n ⟨#[]⟩ [] [] []
theorem C6k {t : T} {v d : Int} (hv : Aj v) (h : Kf t) : Kf (C8 t v d).2 := by
 refine guard_okT' (fun ha u hu => ?_)
 simp only [List.all_cons, List.all_nil, Bool.and_true, Bool.and_eq_true, decide_eq_true_eq] at ha
 obtain ⟨x, hx, hu⟩ := Ac.A2 hu
 exact Yr A1 (Yr ⟨ha.1, B7d hv ha.1 ha.2.2⟩ h hx) hu
def O9 (n : Int) (u : T) (c : Int × Int) (k m : Int) (r : List Cl) : Ac (T ⊕ (Int × List Cl)) :=
 if k = 1 then (if m = n + c.1 then (if (C8 u c.1 c.2).1 = 0 then .ok (.inl (C8 u c.1 c.2).2) else .bad (C8 u c.1 c.2).1) else .ok (.inr (if n + c.1 < m then m - 1 else m, r))) else .ok (.inr (m, r))
def Bt (n : Int) (u : T) : Tr (Int × Int) where
 own c k m _ r := O9 n u c k m r
 Ah _ f := .ok (some f)
 Oq c b := .ok (c.1 + b.1, c.2 + b.2)
theorem Qa {t : T} (h : F5 t) (hk : t.kind = 1) : t = .mk 1 t.n ⟨#[]⟩ [] [] [] ∧ 0 ≤ t.n := by
 obtain ⟨h1, h2, h3, h4, h5⟩ := G8.mp h
 obtain ⟨_, a2, a3, _⟩ := h1
 have hn : t.name = ⟨#[]⟩ := Zm.mp (beq_iff_eq.mpr (a2 (by rw [hk]; decide)))
 have hr := (a3 hk).1
 have hks : t.kids = [] := by
  rw [hk, show D3 1 = 0 by decide] at h2
  exact List.eq_nil_of_length_eq_zero A1
 have hss := h3 (by rw [hk]; decide)
 refine ⟨?_, (a3 hk).2⟩
 obtain ⟨k, n, nm, r, ks, ss⟩ := t
 simp only [T.kind, T.n, T.name, T.r, T.kids, T.sys] at *
 subst hk hn hr hks hss
 rfl
theorem C0l {t : T} (h : F5 t) (hk : t.kind ≠ 1) : t.n = 0 := (G8.mp h).1.1 hk
theorem Lv {n : Int} {u : T} {v d : Int} {b : Int × Int} : (Bt n u).Oq (v, d) b = .ok (v + b.1, d + b.2) := rfl
theorem Qu {n : Int} {u : T} {c : Int × Int} {f : List Cl} : (Bt n u).Ah c f = .ok (some f) := rfl
theorem Kb {n : Int} {u : T} {c : Int × Int} {k m : Int} {nm : ByteArray} {r : List Cl} (hk : k ≠ 1) : (Bt n u).own c k m nm r = .ok (.inr (m, r)) := by
 show O9 n u c k m r = _
 unfold O9
 rw [if_neg hk]
theorem L2 {n : Int} {u : T} {c : Int × Int} {m : Int} {nm : ByteArray} {r : List Cl} (h : m = n + c.1) : (Bt n u).own c 1 m nm r = if (C8 u c.1 c.2).1 = 0 then .ok (.inl (C8 u c.1 c.2).2) else .bad (C8 u c.1 c.2).1 := by
 show O9 n u c 1 m r = _
 unfold O9
 rw [if_pos rfl, if_pos h]
theorem Tn {n : Int} {u : T} {c : Int × Int} {m : Int} {nm : ByteArray} {r : List Cl} (h : m ≠ n + c.1) : (Bt n u).own c 1 m nm r = .ok (.inr (if n + c.1 < m then m - 1 else m, r)) := by
 show O9 n u c 1 m r = _
 unfold O9
 rw [if_pos rfl, if_neg h]
theorem A9i {n : Int} {u t : T} {v d : Int} (hk : t.kind = 1) (h : t.n = n + v) (h0 : (C8 u v d).1 = 0) : Bj (Bt n u) t (v, d) = .ok (C8 u v d).2 := by
 rw [F8, hk, L2 h, if_pos h0]; rfl
theorem To {n : Int} {u t : T} {v d : Int} (hk : t.kind = 1) (h : t.n = n + v) (h0 : (C8 u v d).1 ≠ 0) : Bj (Bt n u) t (v, d) = .bad (C8 u v d).1 := by
 rw [F8, hk, L2 h, if_neg h0]; rfl
theorem Qt {n : Int} {u t : T} {c : Int × Int} (hf : F5 t) (hk : t.kind = 1) (h : t.n ≠ n + c.1) : Bj (Bt n u) t c = .ok (.mk 1 (if n + c.1 < t.n then t.n - 1 else t.n) ⟨#[]⟩ [] [] []) := by
 have e := (Qa hf hk).1
 generalize t.n = m at e h ⊢
 subst e
 rw [F8]
 simp only [T.kind, T.n, T.name, T.r, T.kids, T.sys]
 rw [Tn h]
 simp only [Ac.bind, Dt, D1]
theorem B9e {n : Int} {u t : T} {c : Int × Int} (hf : F5 t) (hk : t.kind = 1) (h : n + c.1 < t.n) : Bj (Bt n u) t c = .ok (.mk 1 (t.n - 1) ⟨#[]⟩ [] [] []) := by
 rw [Qt hf hk A1, if_pos h]
theorem B9d {n : Int} {u t : T} {c : Int × Int} (hf : F5 t) (hk : t.kind = 1) (h : t.n < n + c.1) : Bj (Bt n u) t c = .ok t := by
 rw [Qt hf hk A1, if_neg A1]
 exact congrArg Ac.ok (Qa hf hk).1.symm
theorem A2s {n : Int} {u : T} {k : Int} {c : Int × Int} : ∀ {l l' : List Br}, D7 (Bt n u) k l c = .ok l' → l'.length = l.length
 | [], l', h => by rw [D1] at h; injection h with h; subst h; rfl
 | b :: l, l', h => by
  rw [Cw, Qu] at h
  simp only [Ac.bind] at h
  obtain ⟨ks, h1, h⟩ := Ac.A2 (x := Ck (Bt n u) k b.kids c) h
  obtain ⟨bs, h2, h⟩ := Ac.A2 h
  injection h with h
  subst h
  rw [List.length_cons, List.length_cons, A2s h2]
mutual
def Dg : T → Int → Int
 | .mk k n nm r ks ss, m => if k = 1 ∧ n = m then 1 else Eo k 0 ks m + Eu ss m
def Eo (k : Int) : Nat → List T → Int → Int
 | _, [], _ => 0
 | i, t :: ts, m => Dg t (m + (binds k i).1) + Eo k (i + 1) ts m
def F6 : List T → Int → Int
 | [], _ => 0
 | t :: ts, m => Dg t m + F6 ts m
def Eu : List Br → Int → Int
 | [], _ => 0
 | .mk f ks :: bs, m => F6 ks m + Eu bs m
end
theorem A3y (t : T) (m : Int) : Dg t m = if t.kind = 1 ∧ t.n = m then 1 else Eo t.kind 0 t.kids m + Eu t.sys m := by obtain ⟨k, n, nm, r, ks, ss⟩ := t; rfl
theorem Wk {k m : Int} {t : T} : ∀ {ts : List T} {i : Nat}, Eo k i (ts ++ [t]) m = Eo k i ts m + Dg t (m + (binds k ((i + ts.length : Nat) : Int)).1)
 | [], i => by simp only [List.nil_append, Eo, List.length_nil, Nat.add_zero]; omega
 | a :: ts, i => by
  rw [List.cons_append, Eo, Wk (ts := ts), Eo, List.length_cons, show i + 1 + ts.length = i + (ts.length + 1) by omega]
  omega
theorem Wj {m : Int} {t : T} : ∀ {ts : List T}, F6 (ts ++ [t]) m = F6 ts m + Dg t m
 | [] => by simp only [List.nil_append, F6]; omega
 | a :: ts => by rw [List.cons_append, F6, Wj (ts := ts), F6]; omega
theorem Qd {m : Int} {b : Br} : ∀ {bs : List Br}, Eu (bs ++ [b]) m = Eu bs m + F6 b.kids m
 | [] => by obtain ⟨f, ks⟩ := b; simp only [List.nil_append, Eu, Br.kids]; omega
 | .mk f ks :: bs => by rw [List.cons_append, Eu, Qd (bs := bs), Eu]; omega
def Ci : List T → Nat
 | [] => 0
 | t :: ts => size t + Ci ts
def Ew : List Br → Nat
 | [] => 0
 | b :: bs => Ci b.kids + Ew bs
theorem foldl_add {α : Type} (f : α → Nat) : ∀ (l : List α) (a : Nat), l.foldl (fun a p => a + f p) a = a + l.foldl (fun a p => a + f p) 0
 | [], a => rfl
 | x :: l, a => by rw [List.foldl_cons, List.foldl_cons, foldl_add f l (a + f x), foldl_add f l (0 + f x)]; omega
theorem Dd (t : T) : size t = 1 + Ci t.kids + Ew t.sys := by
 have hk : ∀ (k : Int) (ts : List T) (i : Nat), (Dr k i ts).foldl (fun a p => a + size p.1) 0 = Ci ts := by
  intro k ts
  induction ts with
  | nil => intro i; rfl
  | cons t ts ih => intro i; rw [Dr, List.foldl_cons, foldl_add, ih, Ci]; simp only; omega
 have hm : ∀ (ts : List T) (b : Int × Int), (ts.map fun k => ((k, b.1, b.2) : Part)).foldl (fun a p => a + size p.1) 0 = Ci ts := by
  intro ts b
  induction ts with
  | nil => rfl
  | cons t ts ih => rw [List.map_cons, List.foldl_cons, foldl_add, ih, Ci]; simp only; omega
 have hs : ∀ (k : Int) (bs : List Br), (Dn k bs).foldl (fun a p => a + size p.1) 0 = Ew bs := by
  intro k bs
  induction bs with
  | nil => rfl
  | cons b bs ih => rw [Dn, List.foldl_append, foldl_add, ih, hm b.kids (0, more k), Ew]
 rw [size_eq, parts, List.foldl_append, foldl_add, hs, foldl_add, hk]
mutual
theorem Zi : ∀ (t : T) (m : Int), 0 ≤ Dg t m
 | .mk k n nm r ks ss, m => by
  rw [Dg]
  have h1 := Nv (k := k) ks 0 m
  have h2 := R6 ss m
  split <;> omega
theorem Nv {k : Int} : ∀ (ts : List T) (i : Nat) (m : Int), 0 ≤ Eo k i ts m
 | [], i, m => by rw [Eo]; omega
 | t :: ts, i, m => by
  rw [Eo]
  have h1 := Zi t (m + (binds k i).1)
  have h2 := Nv (k := k) ts (i + 1) m
  omega
theorem R4 : ∀ (ts : List T) (m : Int), 0 ≤ F6 ts m
 | [], m => by rw [F6]; omega
 | t :: ts, m => by
  rw [F6]
  have h1 := Zi t m
  have h2 := R4 ts m
  omega
theorem R6 : ∀ (bs : List Br) (m : Int), 0 ≤ Eu bs m
 | [], m => by rw [Eu]; omega
 | .mk f ks :: bs, m => by
  rw [Eu]
  have h1 := R4 ks m
  have h2 := R6 bs m
  omega
end
mutual
theorem count_le : ∀ (t : T) (m : Int), Dg t m ≤ size t
 | .mk k n nm r ks ss, m => by
  rw [Dg, Dd]
  have h1 := R5 (k := k) ks 0 m
  have h2 := Ve ss m
  show _ ≤ ((1 + Ci ks + Ew ss : Nat) : Int)
  split <;> omega
theorem R5 {k : Int} : ∀ (ts : List T) (i : Nat) (m : Int), Eo k i ts m ≤ Ci ts
 | [], i, m => by rw [Eo, Ci]; omega
 | t :: ts, i, m => by
  rw [Eo, Ci]
  have h1 := count_le t (m + (binds k i).1)
  have h2 := R5 (k := k) ts (i + 1) m
  omega
theorem A3z : ∀ (ts : List T) (m : Int), F6 ts m ≤ Ci ts
 | [], m => by rw [F6, Ci]; omega
 | t :: ts, m => by
  rw [F6, Ci]
  have h1 := count_le t m
  have h2 := A3z ts m
  omega
theorem Ve : ∀ (bs : List Br) (m : Int), Eu bs m ≤ Ew bs
 | [], m => by rw [Eu, Ew]; omega
 | .mk f ks :: bs, m => by
  rw [Eu, Ew]
  have h1 := A3z ks m
  have h2 := Ve bs m
  simp only [Br.kids]
  omega
end
theorem B1z {k m : Int} (ts : List T) (i : Nat) : ∀ j, Eo k i (ts.take j) m ≤ Eo k i ts m := by
 induction ts generalizing i with
 | nil => intro j; rw [List.take_nil]; omega
 | cons t ts ih =>
  intro j
  cases j with
  | zero => rw [List.take_zero]; exact Nv (t :: ts) i m
  | succ j => rw [List.take_succ_cons, Eo, Eo]; have := ih (i + 1) j; omega
theorem B1y {m : Int} (ts : List T) : ∀ j, F6 (ts.take j) m ≤ F6 ts m := by
 induction ts with
 | nil => intro j; rw [List.take_nil]; omega
 | cons t ts ih =>
  intro j
  cases j with
  | zero => rw [List.take_zero]; exact R4 (t :: ts) m
  | succ j => rw [List.take_succ_cons, F6, F6]; have := ih j; omega
theorem B2a {m : Int} (bs : List Br) : ∀ j, Eu (bs.take j) m ≤ Eu bs m := by
 induction bs with
 | nil => intro j; rw [List.take_nil]; omega
 | cons b bs ih =>
  intro j
  obtain ⟨f, ks⟩ := b
  cases j with
  | zero => rw [List.take_zero]; exact R6 (.mk f ks :: bs) m
  | succ j => rw [List.take_succ_cons, Eu, Eu]; have := ih j; omega
def Zk (t : T) (m : Int) (i : Nat) : Int := Eo t.kind 0 (t.kids.take i) m
def A1g (t : T) (m : Int) (s : Nat) : Int := Eo t.kind 0 t.kids m + Eu (t.sys.take s) m
def Zj (t : T) (m : Int) (s k : Nat) : Int := A1g t m s + F6 ((t.sys.getD s B1).kids.take k) m
theorem C0x (t : T) (m : Int) : Zk t m 0 = 0 := by simp [Zk, Eo]
theorem A4b {t : T} {m : Int} {i : Nat} (h : i < t.kids.length) : Zk t m (i + 1) = Zk t m i + Dg (t.kids.getD i t0) (m + (binds t.kind (i : Int)).1) := by
 unfold Zk
 rw [Ab (d := t0) h, Wk, List.length_take, Nat.min_eq_left A1, Nat.zero_add]
theorem C0w (t : T) (m : Int) : A1g t m 0 = Zk t m t.kids.length := by
 unfold A1g Zk
 rw [List.take_length, List.take_zero, show Eu [] m = 0 from rfl]; omega
theorem C6f {t : T} {m : Int} (h : ¬ (t.kind = 1 ∧ t.n = m)) : A1g t m t.sys.length = Dg t m := by unfold A1g; rw [List.take_length, A3y, if_neg h]
theorem C0v (t : T) (m : Int) (s : Nat) : Zj t m s 0 = A1g t m s := by
 unfold Zj
 rw [List.take_zero, show F6 [] m = 0 from rfl]; omega
theorem A4a {t : T} {m : Int} {s k : Nat} (h : k < (t.sys.getD s B1).kids.length) : Zj t m s (k + 1) = Zj t m s k + Dg ((t.sys.getD s B1).kids.getD k t0) m := by
 unfold Zj
 rw [Ab (d := t0) h, Wj]; omega
theorem C6e {t : T} {m : Int} {s : Nat} (h : s < t.sys.length) : Zj t m s (t.sys.getD s B1).kids.length = A1g t m (s + 1) := by
 unfold Zj A1g
 rw [List.take_length, Ab (d := B1) h, Qd]; omega
theorem B7v (t : T) (m : Int) (i : Nat) : 0 ≤ Zk t m i ∧ Zk t m i ≤ size t := by
 have h1 := Nv (k := t.kind) (t.kids.take i) 0 m
 have h2 := B1z (k := t.kind) (m := m) t.kids 0 i
 have h3 := R5 (k := t.kind) t.kids 0 m
 have h4 := Dd t
 unfold Zk
 omega
theorem B7u {t : T} {m : Int} {s : Nat} (hs : s < t.sys.length) (k : Nat) : 0 ≤ Zj t m s k ∧ Zj t m s k ≤ size t := by
 have h1 := Nv (k := t.kind) t.kids 0 m
 have h2 := R6 (t.sys.take s) m
 have h3 := R4 ((t.sys.getD s B1).kids.take k) m
 have h4 := B1y (m := m) (t.sys.getD s B1).kids k
 have h5 := B2a (m := m) t.sys (s + 1)
 rw [Ab (d := B1) hs, Qd] at h5
 have h6 := Ve t.sys m
 have h7 := R5 (k := t.kind) t.kids 0 m
 have h8 := Dd t
 unfold Zj A1g
 omega
abbrev Uo (n : Int) : Int := if 1099511627776 < n then 1099511627776 else n
def Av (t : T) (n : Int) (u : T) : Int × T :=
 if A7 t ≠ 0 then (A7 t, t0) else if A7 u ≠ 0 then (A7 u, t0) else if n < 0 then (2, t0) else
 if 20000 < (size t : Int) + Dg t (Uo n) * ((size u : Int) - 1) then (221, t0) else
 match Bj (Bt (Uo n) u) t (0, 0) with
 | .bad e => (e, t0)
 | .ok x => if 200 < depth x then (62, t0) else (0, x)
section
variable {t u : T} {n : Int}
theorem A2q (h : A7 t ≠ 0) : Av t n u = (A7 t, t0) := by unfold Av; rw [if_pos h]
theorem A2p (h : A7 t = 0) (h2 : A7 u ≠ 0) : Av t n u = (A7 u, t0) := by unfold Av; rw [if_neg (by simp [h]), if_pos h2]
theorem A2r (h : A7 t = 0) (h2 : A7 u = 0) (h3 : n < 0) : Av t n u = (2, t0) := by unfold Av; rw [if_neg (by simp [h]), if_neg (by simp [h2]), if_pos h3]
theorem Tq (h : A7 t = 0) (h2 : A7 u = 0) (h3 : ¬ n < 0) (h4 : 20000 < (size t : Int) + Dg t (Uo n) * ((size u : Int) - 1)) : Av t n u = (221, t0) := by unfold Av; rw [if_neg (by simp [h]), if_neg (by simp [h2]), if_neg h3, if_pos h4]
theorem Vx {e : Int} (h : A7 t = 0) (h2 : A7 u = 0) (h3 : ¬ n < 0) (h4 : ¬ 20000 < (size t : Int) + Dg t (Uo n) * ((size u : Int) - 1)) (h5 : Bj (Bt (Uo n) u) t (0, 0) = .bad e) : Av t n u = (e, t0) := by
 unfold Av; rw [if_neg (by simp [h]), if_neg (by simp [h2]), if_neg h3, if_neg h4, h5]
theorem Ts {x : T} (h : A7 t = 0) (h2 : A7 u = 0) (h3 : ¬ n < 0) (h4 : ¬ 20000 < (size t : Int) + Dg t (Uo n) * ((size u : Int) - 1)) (h5 : Bj (Bt (Uo n) u) t (0, 0) = .ok x) (h6 : 200 < depth x) : Av t n u = (62, t0) := by
 unfold Av; rw [if_neg (by simp [h]), if_neg (by simp [h2]), if_neg h3, if_neg h4, h5]; simp only; rw [if_pos h6]
theorem Y2 {x : T} (h : A7 t = 0) (h2 : A7 u = 0) (h3 : ¬ n < 0) (h4 : ¬ 20000 < (size t : Int) + Dg t (Uo n) * ((size u : Int) - 1)) (h5 : Bj (Bt (Uo n) u) t (0, 0) = .ok x) (h6 : ¬ 200 < depth x) : Av t n u = (0, x) := by
 unfold Av; rw [if_neg (by simp [h]), if_neg (by simp [h2]), if_neg h3, if_neg h4, h5]; simp only; rw [if_neg h6]
end
theorem Uj {u : T} {v d : Int} (h : (C8 u v d).1 = 0) : A7 u = 0 ∧ 0 ≤ v ∧ 0 ≤ d ∧ B2e u v d = .ok (C8 u v d).2 := by
 unfold C8 C4 at h ⊢
 split at h
 ·rename_i h1; exact absurd h h1
 ·rename_i h1
  split at h
  ·cases h
  ·rename_i h2
   rw [if_neg h1, if_neg h2]
   simp only [List.all_cons, List.all_nil, Bool.and_true, Bool.not_eq_false, Bool.and_eq_true, decide_eq_true_eq] at h2
   refine ⟨by omega, h2.1, h2.2.1, ?_⟩
   cases hx : B2e u v d with
   | bad e =>
    exfalso
    rw [hx] at h
    simp only at h
    rcases Di hx with h3 | ⟨y, _, h3⟩
    ·exact lift_bad_ne' h3 h
    ·exact lift_bad_ne' h3 h
   | ok x => rfl
theorem B5m {u : T} {v d : Int} (h : (C8 u v d).1 = 0) : size (C8 u v d).2 = size u := by
 obtain ⟨_, _, _, h1⟩ := Uj h
 obtain ⟨y, h2, h3⟩ := Ac.A2 (x := Bj (B7 v 0) u (0, 0)) h1
 rw [No h3, No h2]
mutual
theorem Qs {n : Int} {u : T} : ∀ {t x : T} {c : Int × Int}, F5 t → Bj (Bt n u) t c = .ok x → (size x : Int) = size t + Dg t (n + c.1) * ((size u : Int) - 1)
 | .mk k m nm r ks ss, x, c, hf, hx => by
  by_cases hk : k = 1
  ·subst hk
   have hfv := Qa hf rfl
   simp only [T.n, T.mk.injEq, true_and] at hfv
   obtain ⟨⟨hnm, hr, hks, hss⟩, _⟩ := hfv
   subst hr hks hss
   by_cases h : m = n + c.1
   ·rw [F8] at hx
    simp only [T.kind, T.n, T.name, T.r, T.kids, T.sys] at hx
    rw [L2 h] at hx
    split at hx
    ·rename_i h0
     injection hx with hx
     rw [← hx, B5m h0, Dg, if_pos ⟨rfl, h⟩, Dd (.mk 1 m nm [] [] [])]
     simp only [T.kids, T.sys, Ci, Ew]
     omega
    ·cases hx
   ·have := Qt (u := u) hf rfl (c := c) h
    rw [this] at hx
    injection hx with hx
    rw [← hx, Dg, if_neg (show ¬ ((1 : Int) = 1 ∧ m = n + c.1) from fun h2 => h h2.2), Dd, Dd (.mk 1 m nm [] [] [])]
    simp only [T.kids, T.sys, Ci, Ew, Eo, Eu]
    omega
  ·rw [F8] at hx
   simp only [T.kind, T.n, T.name, T.r, T.kids, T.sys] at hx
   rw [Kb hk] at hx
   simp only [Ac.bind] at hx
   obtain ⟨ks', h1, hx⟩ := Ac.A2 (x := Dh (Bt n u) k 0 ks c) hx
   obtain ⟨ss', h2, hx⟩ := Ac.A2 hx
   injection hx with hx
   have hf2 := G8.mp hf
   simp only [T.kids, T.sys, T.kind] at hf2
   have e1 := Y3 hf2.2.2.2.1 h1
   have e2 := Y4 hf2.2.2.2.2 h2
   rw [← hx, Dg, if_neg (fun h2 => hk h2.1), Dd, Dd]
   simp only [T.kids, T.sys]
   rw [Int.add_mul]
   omega
theorem Y3 {n k : Int} {u : T} : ∀ {ts xs : List T} {i : Nat} {c : Int × Int}, Iu ts → Dh (Bt n u) k i ts c = .ok xs → (Ci xs : Int) = Ci ts + Eo k i ts (n + c.1) * ((size u : Int) - 1)
 | [], xs, i, c, hf, hx => by rw [Dt] at hx; injection hx with hx; subst hx; simp [Ci, Eo]
 | t :: ts, xs, i, c, hf, hx => by
  rw [Dc, Lv] at hx
  simp only [Ac.bind] at hx
  obtain ⟨t', h2, hx⟩ := Ac.A2 (x := Bj (Bt n u) t _) hx
  obtain ⟨ts', h3, hx⟩ := Ac.A2 hx
  injection hx with hx
  subst hx
  have e1 := Qs hf.1 h2
  have e2 := Y3 hf.2 h3
  rw [Ci, Ci, Eo, Int.add_mul]
  rw [← Int.add_assoc] at e1
  omega
theorem Y1 {n k : Int} {u : T} : ∀ {ts xs : List T} {c : Int × Int}, Iu ts → Ck (Bt n u) k ts c = .ok xs → (Ci xs : Int) = Ci ts + F6 ts (n + c.1) * ((size u : Int) - 1)
 | [], xs, c, hf, hx => by rw [E3] at hx; injection hx with hx; subst hx; simp [Ci, F6]
 | t :: ts, xs, c, hf, hx => by
  rw [Db, Lv] at hx
  simp only [Ac.bind] at hx
  obtain ⟨t', h2, hx⟩ := Ac.A2 (x := Bj (Bt n u) t _) hx
  obtain ⟨ts', h3, hx⟩ := Ac.A2 hx
  injection hx with hx
  subst hx
  have e1 := Qs hf.1 h2
  have e2 := Y1 hf.2 h3
  rw [Ci, Ci, F6, Int.add_mul]
  rw [show n + (c.1 + 0) = n + c.1 by omega] at e1
  omega
theorem Y4 {n k : Int} {u : T} : ∀ {bs xs : List Br} {c : Int × Int}, P6 k bs → D7 (Bt n u) k bs c = .ok xs → (Ew xs : Int) = Ew bs + Eu bs (n + c.1) * ((size u : Int) - 1)
 | [], xs, c, hf, hx => by rw [D1] at hx; injection hx with hx; subst hx; simp [Ew, Eu]
 | .mk f ks :: bs, xs, c, hf, hx => by
  rw [Cw, Qu] at hx
  simp only [Ac.bind, Br.Ah, Br.kids] at hx
  obtain ⟨ks', h2, hx⟩ := Ac.A2 (x := Ck (Bt n u) k ks c) hx
  obtain ⟨bs', h3, hx⟩ := Ac.A2 hx
  injection hx with hx
  subst hx
  have e1 := Y1 hf.2.2.1 h2
  have e2 := Y4 hf.2.2.2 h3
  rw [Ew, Ew, Eu, Int.add_mul]
  simp only [Br.kids]
  omega
end
theorem L5 {s : Nat} {f b : Int} (h : (As s f b).1 = 0) (i : Nat) : (As s f b).2.testBit i = true ↔ ∃ j, j < 24 ∧ s.testBit j = true ∧ (((j : Int) < f ∧ i = j) ∨ (f ≤ (j : Int) ∧ (i : Int) = j + b)) := by
 obtain ⟨h0, h1, h2⟩ := Oi h i
 constructor
 ·intro hi
  obtain ⟨j, h3, h4, h5⟩ := N0 h i hi
  exact ⟨j, h3, h4, by omega⟩
 ·rintro ⟨j, h3, h4, h5⟩
  rw [h2, Bool.or_eq_true, Bool.and_eq_true, Bool.and_eq_true, decide_eq_true_eq, decide_eq_true_eq, E4, E4, Bool.and_eq_true, Bool.and_eq_true, decide_eq_true_eq, decide_eq_true_eq]
  rcases h5 with ⟨h5, rfl⟩ | ⟨h5, h6⟩
  ·exact .inl ⟨by omega, h3, h4⟩
  ·refine .inr ⟨by omega, ?_⟩
   rw [show i - b.toNat = j by omega]
   exact ⟨h3, h4⟩
theorem A3e {s : Nat} {f b : Int} (hs : s < 16777216) (h0 : 0 ≤ f) (hb : 0 ≤ b) (h : b = 0 ∨ 24 ≤ f) : As s f b = (0, s) := by
 have hs24 : s &&& 16777215 = s := by rw [B2n]; exact Nat.mod_eq_of_lt hs
 have h1 : (As s f b).1 = 0 := by
  unfold As
  rw [if_neg A1]
  split
  ·rfl
  ·rename_i h2
   rw [if_neg]
   rintro (h3 | h3)
   ·rcases h with h | h
    ·omega
    ·refine h2 ?_
     refine Nat.eq_of_testBit_eq fun i => ?_
     rw [Gl, M5, Nat.zero_testBit, E4, show min f.toNat 24 = 24 by omega]
     by_cases hi : i < 24 <;> simp [hi]
   ·rcases h with h | h
    ·subst h
     have := A4j (q := s &&& 16777215) (m := 2 ^ min f.toNat 24 - 1) (Hg s)
     simp at h3
     omega
    ·refine h2 ?_
     refine Nat.eq_of_testBit_eq fun i => ?_
     rw [Gl, M5, Nat.zero_testBit, E4, show min f.toNat 24 = 24 by omega]
     by_cases hi : i < 24 <;> simp [hi]
 refine Prod.ext h1 ?_
 refine Nat.eq_of_testBit_eq fun i => ?_
 rw [Bool.eq_iff_iff, L5 h1]
 have hlt : ∀ j, s.testBit j = true → j < 24 := fun j hj => by
  refine Nat.lt_of_not_le fun hge => ?_
  rw [Nat.testBit_lt_two_pow (Nat.lt_of_lt_of_le hs (Nat.pow_le_pow_right (n := 2) (i := 24) A1 hge))] at hj
  cases hj
 constructor
 ·rintro ⟨j, h2, h3, h4⟩
  rw [show i = j by omega]; exact h3
 ·intro h2
  exact ⟨i, hlt i h2, h2, by have := hlt i h2; omega⟩
theorem A6w {l : List Cl} (h : Aq l = true) : (∀ c, c ∈ l → Bw c = true) ∧ apart l = true := by
 unfold Aq at h
 simp only [Bool.and_eq_true, List.all_eq_true] at h
 exact ⟨h.1.1.1, h.1.2⟩
theorem Vw {c : Cl} : Bw c = true ↔ c.pos < 16777216 ∧ c.neg < 16777216 := by unfold Bw; rw [Bool.and_eq_true, decide_eq_true_eq, decide_eq_true_eq]
section
variable {CA CB CC CD : Type} {A : Tr CA} {B : Tr CB} {C : Tr CC} {D : Tr CD} (R : CA → CB → CC → CD → Prop)
variable {R}
end
theorem C2v {n : Int} {u t x : T} {c : Int × Int} (hf : F5 t) (hk : t.kind = 1) (h : Bj (Bt n u) t c = .ok x) : (t.n = n + c.1 ∧ (C8 u c.1 c.2).1 = 0 ∧ x = (C8 u c.1 c.2).2) ∨ (t.n ≠ n + c.1 ∧ x = .mk 1 (if n + c.1 < t.n then t.n - 1 else t.n) ⟨#[]⟩ [] [] []) := by
 by_cases h1 : t.n = n + c.1
 ·left
  by_cases h2 : (C8 u c.1 c.2).1 = 0
  ·have := A9i (n := n) (u := u) (v := c.1) (d := c.2) hk h1 h2
   rw [show ((c.1, c.2) : Int × Int) = c from rfl, h] at this
   injection this with this
   exact ⟨h1, h2, this⟩
  ·have := To (n := n) (u := u) (v := c.1) (d := c.2) hk h1 h2
   rw [show ((c.1, c.2) : Int × Int) = c from rfl, h] at this
   cases this
 ·right
  rw [Qt hf hk h1] at h
  injection h with h
  exact ⟨h1, h.symm⟩
theorem C7y {n : Int} {u : T} {ca : Int × Int} {k m : Int} {nm : ByteArray} {r : List Cl} {x : T} (hk : k ≠ 1) : (Bt n u).own ca k m nm r ≠ .ok (.inl x) := by
 rw [Kb hk]
 intro h
 injection h with h
 cases h
theorem A9j {n : Int} {u : T} : ∀ {t : T} {c : Int × Int} {e : Int}, Bj (Bt n u) t c = .bad e → e ≠ 0 := fun {t} => T.ind (P := fun t => ∀ {c : Int × Int} {e : Int}, Bj (Bt n u) t c = .bad e → e ≠ 0) (fun t ih c e h => by
 rcases A8j h with h1 | ⟨b, _, h1⟩ | ⟨p, hp, h1 | ⟨c', _, h2⟩⟩
 ·by_cases hk : t.kind = 1
  ·rw [hk] at h1
   by_cases h2 : t.n = n + c.1
   ·rw [L2 h2] at h1
    split at h1
    ·cases h1
    ·rename_i h3; injection h1 with h1; exact h1 ▸ h3
   ·rw [Tn h2] at h1; cases h1
  ·rw [Kb hk] at h1; cases h1
 ·cases h1
 ·cases h1
 ·exact ih p hp h2) t
theorem Tp {t u : T} {n : Int} (h : (Av t n u).1 = 0) : A7 t = 0 ∧ A7 u = 0 ∧ 0 ≤ n ∧ size (Av t n u).2 ≤ 20000 ∧ Bj (Bt (Uo n) u) t (0, 0) = .ok (Av t n u).2 := by
 by_cases h1 : A7 t = 0
 ·by_cases h2 : A7 u = 0
  ·by_cases h3 : n < 0
   ·rw [A2r h1 h2 h3] at h; cases h
   ·by_cases h4 : 20000 < (size t : Int) + Dg t (Uo n) * ((size u : Int) - 1)
    ·rw [Tq h1 h2 h3 h4] at h; cases h
    ·cases h5 : Bj (Bt (Uo n) u) t (0, 0) with
     | bad e =>
      rw [Vx h1 h2 h3 h4 h5] at h
      exact absurd h (A9j h5)
     | ok x =>
      by_cases h6 : 200 < depth x
      ·rw [Ts h1 h2 h3 h4 h5 h6] at h; cases h
      ·rw [Y2 h1 h2 h3 h4 h5 h6]
       have := Qs (Cj.mp h1).2 h5
       rw [show Uo n + ((0, 0) : Int × Int).1 = Uo n from Int.add_zero _] at this
       exact ⟨h1, h2, by omega, by show size x ≤ 20000; omega, rfl⟩
  ·rw [A2p h1 h2] at h; exact absurd h h2
 ·rw [A2q h1] at h; exact absurd h h1
theorem A9k (t u : T) (n : Int) : size (Av t n u).2 ≤ 20000 := by
 by_cases h : (Av t n u).1 = 0
 ·exact (Tp h).2.2.2.1
 ·have : (Av t n u).2 = t0 := by
   unfold Av at h ⊢
   split
   ·rfl
   ·rename_i h1
    rw [if_neg h1] at h
    split
    ·rfl
    ·rename_i h2
     rw [if_neg h2] at h
     split
     ·rfl
     ·rename_i h3
      rw [if_neg h3] at h
      split
      ·rfl
      ·rename_i h4
       rw [if_neg h4] at h
       cases h5 : Bj (Bt (Uo n) u) t (0, 0) with
       | bad e => rfl
       | ok x =>
        rw [h5] at h
        simp only at h ⊢
        by_cases h6 : 200 < depth x
        ·rw [if_pos h6]
        ·rw [if_neg h6] at h; exact absurd rfl h
  rw [this]
  decide
theorem S2 : ∀ {l m : List Int}, (l.Pairwise fun a b => a < b) → (m.Pairwise fun a b => a < b) → (∀ x, x ∈ l ↔ x ∈ m) → l = m
 | [], [], _, _, _ => rfl
 | [], b :: m, _, _, h => by have := (h b).mpr List.mem_cons_self; cases this
 | a :: l, [], _, _, h => by have := (h a).mp List.mem_cons_self; cases this
 | a :: l, b :: m, hl, hm, h => by
  obtain ⟨l1, l2⟩ := List.pairwise_cons.mp hl
  obtain ⟨m1, m2⟩ := List.pairwise_cons.mp hm
  have hab : a = b := by
   rcases List.mem_cons.mp ((h a).mp List.mem_cons_self) with h1 | h1
   ·exact h1
   ·rcases List.mem_cons.mp ((h b).mpr List.mem_cons_self) with h2 | h2
    ·exact h2.symm
    ·have := l1 b h2; have := m1 a h1; omega
  subst hab
  have : l = m := S2 l2 m2 fun x => by
   constructor
   ·intro hx
    rcases List.mem_cons.mp ((h x).mp (List.mem_cons_of_mem _ hx)) with h1 | h1
    ·subst h1; have := l1 x hx; omega
    ·exact h1
   ·intro hx
    rcases List.mem_cons.mp ((h x).mpr (List.mem_cons_of_mem _ hx)) with h1 | h1
    ·subst h1; have := m1 x hx; omega
    ·exact h1
  rw [this]
theorem Ol (s : Nat) : (Bd s).Pairwise fun a b => a < b := by
 unfold Bd Q2
 rw [List.pairwise_map]
 refine List.Pairwise.filter _ ?_
 exact List.pairwise_lt_range.imp fun h => by omega
theorem B9w (s : Nat) : Bd (s &&& 16777215) = Bd s := by
 refine S2 (Ol _) (Ol _) fun x => ?_
 rw [Jv, Jv, E4]
 constructor
 ·rintro ⟨h1, h2, h3⟩
  rw [Bool.and_eq_true] at h3
  exact ⟨h1, h2, h3.2⟩
 ·rintro ⟨h1, h2, h3⟩
  exact ⟨h1, h2, by rw [h3, decide_eq_true A1]; rfl⟩
theorem B9v {r : Nat} (h0 : ¬ r = 0) (h : r < 4294967296) : ∃ m, r = 2 ^ Lib.ctz 32 r * (2 * m + 1) ∧ Lib.ctz 32 r < 32 := by
 obtain ⟨m, h1, h2⟩ := Lib.ctzFrom_spec 32 r A1 h
 have e : Lib.ctz 32 r = Lib.ctzFrom 32 r := by unfold Lib.ctz; rw [if_neg h0]
 rw [e]
 exact ⟨m, h1, h2⟩
theorem C8w {r k m i : Nat} (h : r = 2 ^ k * (2 * m + 1)) : (r &&& (r - 1)).testBit i = (r.testBit i && decide (i ≠ k)) ∧ r.testBit k = true ∧ (i < k → r.testBit i = false) := by
 have hp : 0 < 2 ^ k := Nat.pow_pos F2
 have e1 : r = 2 ^ (k + 1) * m + 2 ^ k := by rw [h, Nat.pow_succ, Nat.mul_add, Nat.mul_assoc]; simp
 have e2 : r - 1 = 2 ^ (k + 1) * m + (2 ^ k - 1) := by omega
 have hb1 : 2 ^ k < 2 ^ (k + 1) := by rw [Nat.pow_succ]; omega
 have hb2 : 2 ^ k - 1 < 2 ^ (k + 1) := by omega
 have t1 : ∀ j, r.testBit j = if j < k + 1 then (2 ^ k).testBit j else m.testBit (j - (k + 1)) := fun j => by rw [e1]; exact Nat.testBit_two_pow_mul_add m hb1 j
 have t2 : ∀ j, (r - 1).testBit j = if j < k + 1 then (2 ^ k - 1).testBit j else m.testBit (j - (k + 1)) := fun j => by rw [e2]; exact Nat.testBit_two_pow_mul_add m hb2 j
 refine ⟨?_, by rw [t1, if_pos A1, Nat.testBit_two_pow_self], fun hi => by rw [t1, if_pos A1, Nat.testBit_two_pow_of_ne A1]⟩
 rw [Nat.testBit_and, t1, t2]
 by_cases hi : i < k + 1
 ·rw [if_pos hi, if_pos hi, Nat.testBit_two_pow, Nat.testBit_two_pow_sub_one]
  by_cases hk : k = i
  ·subst hk; simp
  ·simp [hk]
 ·rw [if_neg hi, if_neg hi]
  have : i ≠ k := by omega
  simp [this]
theorem A3h {r : Nat} (h0 : ¬ r = 0) (h : r < 16777216) : Lib.ctz 32 r < 24 ∧ Bd r = (Lib.ctz 32 r : Int) :: Bd (r &&& (r - 1)) := by
 obtain ⟨m, h1, h2⟩ := B9v h0 A1
 have hb := fun i => C8w (i := i) h1
 have hk : Lib.ctz 32 r < 24 := Decidable.byContradiction fun hn => by
  have h3 := Nat.ge_two_pow_of_testBit (hb 0).2.1
  have h4 : 2 ^ 24 ≤ 2 ^ Lib.ctz 32 r := Nat.pow_le_pow_right F2 A1
  omega
 refine ⟨hk, S2 (Ol _) (List.pairwise_cons.mpr ⟨fun x hx => ?_, Ol _⟩) fun x => ?_⟩
 ·obtain ⟨x0, x1, x2⟩ := Jv.mp hx
  rw [(hb x.toNat).1, Bool.and_eq_true, decide_eq_true_eq] at x2
  have : ¬ x.toNat < Lib.ctz 32 r := fun hlt => by have := (hb x.toNat).2.2 hlt; rw [x2.1] at this; cases this
  omega
 ·rw [List.mem_cons, Jv, Jv, (hb x.toNat).1, Bool.and_eq_true, decide_eq_true_eq]
  constructor
  ·rintro ⟨x0, x1, x2⟩
   by_cases hx : x = (Lib.ctz 32 r : Int)
   ·exact .inl hx
   ·exact .inr ⟨x0, x1, x2, by omega⟩
  ·rintro (rfl | ⟨x0, x1, x2, _⟩)
   ·exact ⟨by omega, by omega, by rw [Int.toNat_natCast]; exact (hb 0).2.1⟩
   ·exact ⟨x0, x1, x2⟩
theorem D3g {r : Nat} (h0 : ¬ r = 0) : r &&& (r - 1) < r := Nat.lt_of_le_of_lt Nat.and_le_right A1
def D2d : ByteArray := ⟨#[0, 1, 1, 2, 1, 2, 2, 3, 1, 2, 2, 3, 2, 3, 3, 4, 1, 2, 2, 3, 2, 3, 3, 4, 2, 3, 3, 4, 3, 4, 4, 5, 1, 2, 2, 3, 2, 3, 3, 4, 2, 3, 3, 4, 3, 4, 4, 5, 2, 3, 3, 4, 3, 4, 4, 5, 3, 4, 4, 5, 4, 5, 5, 6, 1, 2, 2, 3, 2, 3, 3, 4, 2, 3, 3, 4, 3, 4, 4, 5, 2, 3, 3, 4, 3, 4, 4, 5, 3, 4, 4, 5, 4, 5, 5, 6, 2, 3, 3, 4, 3, 4, 4, 5, 3, 4, 4, 5, 4, 5, 5, 6, 3, 4, 4, 5, 4, 5, 5, 6, 4, 5, 5, 6, 5, 6, 6, 7, 1, 2, 2, 3, 2, 3, 3, 4, 2, 3, 3, 4, 3, 4, 4, 5, 2, 3, 3, 4, 3, 4, 4, 5, 3, 4, 4, 5, 4, 5, 5, 6, 2, 3, 3, 4, 3, 4, 4, 5, 3, 4, 4, 5, 4, 5, 5, 6, 3, 4, 4, 5, 4, 5, 5, 6, 4, 5, 5, 6, 5, 6, 6, 7, 2, 3, 3, 4, 3, 4, 4, 5, 3, 4, 4, 5, 4, 5, 5, 6, 3, 4, 4, 5, 4, 5, 5, 6, 4, 5, 5, 6, 5, 6, 6, 7, 3, 4, 4, 5, 4, 5, 5, 6, 4, 5, 5, 6, 5, 6, 6, 7, 4, 5, 5, 6, 5, 6, 6, 7, 5, 6, 6, 7, 6, 7, 7, 8]⟩
def pop8 (j : Nat) : Nat := j % 2 + j / 2 % 2 + j / 4 % 2 + j / 8 % 2 + j / 16 % 2 + j / 32 % 2 + j / 64 % 2 + j / 128 % 2
theorem Y0 : ∀ j, j < 256 → D2d[j]? = some (UInt8.ofNat (pop8 j)) ∧ pop8 j ≤ 8 := by decide +kernel
def P4 (s : Nat) : Nat := pop8 (s / 16777216) + pop8 (s / 65536 &&& 255) + pop8 (s / 256 &&& 255) + pop8 (s &&& 255)
theorem B9c : ∀ k, k < 24 → P4 (2 ^ k) = 1 := by decide +kernel
theorem B3t : P4 0 = 0 := by decide
theorem A7n (s : Nat) : s &&& 255 < 256 := Nat.lt_of_le_of_lt Nat.and_le_right F2
section
variable {tn : Bool} {pn : Nat} {P : Program} [Tab P] {f : FuncId} {R : Ending → World → Prop} {B : C6} {n : Fz} {K : List Item} {ops : Array Oper} {i : Nat} {l fin : List Nat} {σ : Nat → Value} {Γ : List Fact} {Ms Ms2 : List B4}
variable {dst : Option Tmp} {op : Op} {ty : TypeId} {pos : String} {after : Array Edge} {v : Value} {x y z : Operand}
theorem A9s {t : TypeId} {s : ByteArray} {j : Nat} (hu : Tab.und P t = some .string) (hx : ev σ x = .string s) (hs : s = D2d) (hy : ev σ y = .int .u32 (j : Int)) (hj : j < 256) : Ch P σ (.index t x y) ty (.int .u8 (pop8 j : Nat)) := fun w => by
 subst hs
 have h := (Y0 j hj)
 have e : ((UInt8.ofNat (pop8 j)).toNat : Int) = (pop8 j : Nat) := by
  rw [UInt8.toNat_ofNat']
  have := h.2
  omega
 simp [Cb, execOp, hx, hy, Instr.index, asIntOf, Dq hu, h.1]
 have := h.2
 omega
theorem C3m {t t' : TypeId} {a b : Nat} (hx : ev σ x = .int .u8 (a : Nat)) (hy : ev σ y = .int .u8 (b : Nat)) (h : a + b < 256) : Ch P σ (.binOp .add t x y t') ty (.int .u8 ((a + b : Nat) : Int)) :=
 D6 hx hy (fun w => Bv w) (fun w => by
  have e : IntKind.u8.wrap ((a : Int) + (b : Int)) = ((a + b : Nat) : Int) := by simp [IntKind.wrap, IntKind.signed, IntKind.bits]; omega
  show Result.ok (Value.int .u8 (IntKind.u8.wrap ((a : Int) + (b : Int)))) w = _
  rw [e])
theorem B9i {s d : TypeId} {ds : TypeDesc} {a : Nat} (hs : Tab.und P s = some ds) (hd : Tab.und P d = some (.int .i64)) (hx : ev σ x = .int .u8 (a : Nat)) (ha : a < 256) : Ch P σ (.convert s d x) ty (.int .i64 (a : Int)) := by
 have h := Lx hs hd hx (ty := ty)
 rwa [show IntKind.i64.wrap (a : Int) = (a : Int) by rw [IntKind.wrap_i64]; omega] at h
theorem Ww {t : TypeId} {s : ByteArray} {j : Nat} (k_ : NV tn pn P f R B n K ops fin l (Af σ dst (.int .u8 (pop8 j : Nat))) Γ Ms) (hx : ev σ x = .string s := by exact A9) (hy : ev σ y = .int .u32 (j : Int) := by exact A9) (hs : s = D2d := by rfl) (hu : Tab.und P t = some .string := by rfl) (hj : j < 256 := by first | omega | exact A7n _) (hd : Aa n dst = true := by rfl) : Jk tn pn P f R B n K ops fin i l dst (.index t x y) ty σ Γ Ms := Cz (A9s hu hx hs hy hj) hd k_
theorem A4w {t t' : TypeId} {a b : Nat} (k_ : NV tn pn P f R B n K ops fin l (Af σ dst (.int .u8 ((a + b : Nat) : Int))) Γ Ms) (hx : ev σ x = .int .u8 (a : Nat) := by exact A9) (hy : ev σ y = .int .u8 (b : Nat) := by exact A9) (h : a + b < 256 := by omega) (hd : Aa n dst = true := by rfl) : Jk tn pn P f R B n K ops fin i l dst (.binOp .add t x y t') ty σ Γ Ms := Cz (C3m hx hy h) hd k_
theorem C1v {s d : TypeId} {ds : TypeDesc} {a : Nat} (k_ : NV tn pn P f R B n K ops fin l (Af σ dst (.int .i64 (a : Int))) Γ Ms) (hx : ev σ x = .int .u8 (a : Nat) := by exact A9) (hs : Tab.und P s = some ds := by rfl) (hd' : Tab.und P d = some (.int .i64) := by rfl) (ha : a < 256 := by omega) (hd : Aa n dst = true := by rfl) : Jk tn pn P f R B n K ops fin i l dst (.convert s d x) ty σ Γ Ms := Cz (B9i hs hd' hx ha) hd k_
end
theorem Sb {l : List Cl} (h : (Bm l).1 ≠ 0) : (Bm l).2 = [] := by
 unfold Bm at h ⊢
 split
 ·rfl
 ·rename_i h1
  rw [if_neg h1] at h
  split
  ·rfl
  ·rename_i h2
   rw [if_neg h2] at h
   exact absurd rfl h
theorem A1b {l : List Cl} {f b : Int} (hl : Aq l = true) (h0 : 0 ≤ f) (hb : 0 ≤ b) (h : b = 0 ∨ 24 ≤ f) : Ae l f b = (0, l) := by
 obtain ⟨hr, _⟩ := A6w hl
 have key : ∀ c, c ∈ l → Bi c f b = (0, c) := fun c hc => by
  obtain ⟨h2, h3⟩ := Vw.mp (hr c hc)
  unfold Bi
  rw [if_neg (by rw [hr c hc]; simp), A3e h2 h0 hb h, A3e h3 h0 hb h]
  simp
 have hf : Fw (fun c => Bi c f b) l = (0, l) := by
  unfold Fw
  rw [List.find?_eq_none.mpr (fun c hc => by show ¬ decide ((Bi c f b).1 ≠ 0) = true; rw [key c hc]; simp)]
  simp only
  congr 1
  conv => rhs; rw [← List.map_id l]
  exact List.map_congr_left (fun c hc => by rw [key c hc]; rfl)
 unfold Ae
 rw [if_neg (by rw [hl]; simp), hf, if_neg Cs]
 have := A6i l
 rw [hl, Bool.and_eq_true, decide_eq_true_eq, decide_eq_true_eq] at this
 exact Prod.ext this.1 this.2
theorem A5k {l : List Cl} {f b : Int} (hl : Aq l = true) (h0 : 0 ≤ f) (hb : 0 ≤ b) : Be b l f = if (Ae l f b).1 = 0 then .ok (Ae l f b).2 else .bad (Ae l f b).1 := by
 unfold Be
 by_cases h : b = 0 ∨ 24 ≤ f
 ·rw [if_pos h, A1b hl h0 hb h]; rfl
 ·rw [if_neg h]
abbrev EL : Type := Int × List Cl
def Fu (i : Int) : Nat := if 0 ≤ i ∧ i < 24 then 2 ^ i.toNat else 0
def A8c (s : Nat) (i : Int) : Nat := if 0 ≤ i ∧ i < 24 then (s &&& 16777215) ||| 2 ^ i.toNat else s &&& 16777215
def Dm (s : Nat) (i : Int) : Nat := if 0 ≤ i ∧ i < 24 then Bg (s &&& 16777215) (2 ^ i.toNat) else s &&& 16777215
theorem Jq (i : Int) : A8c 0 i = Fu i := by unfold A8c Fu; split <;> simp
theorem Mr (i : Int) : Fu i < 16777216 := by
 unfold Fu
 split
 ·exact Nat.pow_lt_pow_right (n := 24) (a := 2) F2 A1
 ·decide
theorem Vm (s : Nat) (i : Int) : Dm s i < 16777216 := by
 unfold Dm
 split
 ·rw [show (16777216 : Nat) = 2 ^ 24 from rfl]
  exact Nat.lt_pow_two_of_testBit _ fun j hj => by
   rw [Gl, E4, decide_eq_false (show ¬ j < 24 by omega)]; simp
 ·exact Hg s
theorem C5h (s : Nat) (i : Int) : ((decide (0 ≤ i) && decide (i < 24)) && decide (((s / 2 ^ (min i.toNat 32) &&& 1 : Nat) : Int) = 1)) = Ft s i := by
 rw [C9e, Nat.and_one_is_mod]
 by_cases h : 0 ≤ i ∧ i < 24
 ·rw [show min i.toNat 32 = i.toNat by omega]
  congr 1
  exact decide_eq_decide.mpr A1
 ·have : (decide (0 ≤ i) && decide (i < 24)) = false := by simp; omega
  rw [this]; rfl
def Fc (i : Int) : Bool := decide (0 ≤ i) && decide (i < 24)
theorem B6i {i : Int} (h : Fc i = true) : P4 (Fu i &&& 16777215) = 1 := by
 have h1 : 0 ≤ i ∧ i < 24 := by unfold Fc at h; simpa using h
 have h2 := Mr i
 rw [B2n, Nat.mod_eq_of_lt A1]
 unfold Fu
 rw [if_pos h1]
 exact B9c _ A1
theorem A9g {i : Int} (h : Fc i = false) : P4 (Fu i &&& 16777215) = 0 := by
 have h1 : ¬ (0 ≤ i ∧ i < 24) := by unfold Fc at h; simp at h; omega
 unfold Fu
 rw [if_neg h1]
 exact B3t
theorem B6h (i : Int) : decide (((P4 (Fu i &&& 16777215) : Nat) : Int) = 1) = Fc i := by
 cases h : Fc i
 ·rw [A9g h]; rfl
 ·rw [B6i h]; rfl
theorem A9h (i : Int) : decide (((P4 (Fu i &&& 16777215) : Nat) : Int) = 0) = !Fc i := by
 cases h : Fc i
 ·rw [A9g h]; rfl
 ·rw [B6i h]; rfl
def Hq (x : EL) (k : List Cl → EL) : EL := if x.1 ≠ 0 then (x.1, []) else k x.2
theorem Du {x : EL} {k : List Cl → EL} (h : x.1 ≠ 0) : Hq x k = (x.1, []) := if_pos h
theorem E2 {x : EL} {k : List Cl → EL} (h : x.1 = 0) : Hq x k = k x.2 := if_neg (by simp [h])
def Cu (g : List Cl → Cl → EL) : List Cl → List Cl → EL
 | h, [] => (0, h)
 | h, c :: cs => Hq (g h c) fun h' => Cu g h' cs
theorem Z3 {g : List Cl → Cl → EL} : ∀ {l m h h' : List Cl}, Cu g h l = (0, h') → Cu g h (l ++ m) = Cu g h' m
 | [], m, h, h', e => by
  rw [Cu, Prod.mk.injEq] at e
  rw [List.nil_append, e.2]
 | d :: l, m, h, h', e => by
  rw [Cu] at e
  by_cases h0 : (g h d).1 = 0
  ·rw [E2 h0] at e
   rw [List.cons_append, Cu, E2 h0]
   exact Z3 e
  ·rw [Du h0, Prod.mk.injEq] at e
   exact absurd e.1 h0
theorem M9 {g : List Cl → Cl → EL} {l h h' : List Cl} {i : Nat} (hi : i < l.length) (e : Cu g h (l.take i) = (0, h')) (h0 : (g h' (l.getD i B5)).1 = 0) : Cu g h (l.take (i + 1)) = (0, (g h' (l.getD i B5)).2) := by
 rw [Ab (d := B5) hi, Z3 e, Cu, E2 h0, Cu]
theorem G7 {g : List Cl → Cl → EL} {l h h' : List Cl} {i : Nat} (hi : i < l.length) (e : Cu g h (l.take i) = (0, h')) (h0 : (g h' (l.getD i B5)).1 ≠ 0) : Cu g h l = ((g h' (l.getD i B5)).1, []) := by
 have e2 : l = l.take i ++ l.getD i B5 :: l.drop (i + 1) := by rw [Gs (d := B5) hi, List.getElem_cons_drop, List.take_append_drop]
 rw [e2, Z3 e, ← e2, Cu, Du h0]
theorem V9 {g : List Cl → Cl → EL} {l h h' : List Cl} {i : Nat} (hi : i = l.length) (e : Cu g h (l.take i) = (0, h')) : Cu g h l = (0, h') := by
 rw [hi, List.take_length] at e
 exact e
def Fl (f g : List Cl) : EL := Bm (f ++ g)
def Mn (f g : List Cl) : List Cl := f.flatMap fun a => g.map fun b => Dk a b
def Jd (f g : List Cl) : EL := Bm (Mn f g)
def A0s (c : Cl) : List Cl := ((Bd c.pos).map fun i => (⟨0, Fu i⟩ : Cl)) ++ ((Bd c.neg).map fun i => (⟨Fu i, 0⟩ : Cl))
def A5t (c : Cl) : EL := Bm (A0s c)
def E6 (h : List Cl) (c : Cl) : EL := Hq (A5t c) fun o => Jd h o
def Pf (f : List Cl) : EL := Cu E6 [B5] f
def S7 (f : List Cl) : EL := if Aq f then Pf f else (2, [])
def C1 (c : Cl) (i : Int) : Cl := ⟨Dm c.pos i, Dm c.neg i⟩
def Gw (i : Int) (r : List Cl) (c : Cl) : EL := if Ft c.pos i then Jd [C1 c i] r else (0, [C1 c i])
def Ja (i : Int) (r : List Cl) (c : Cl) (g : List Cl) : EL := if Ft c.neg i then Hq (Pf r) fun s => Jd g s else (0, g)
def C2 (i : Int) (r h : List Cl) (c : Cl) : EL := Hq (Gw i r c) fun g => Hq (Ja i r c g) fun g => Fl h g
theorem A5n {i : Int} {r h : List Cl} {c : Cl} {P : EL} (hP : Gw i r c = P) (h0 : P.1 ≠ 0) : C2 i r h c = (P.1, []) := by unfold C2; rw [hP]; exact Du h0
theorem L1 {i : Int} {r h : List Cl} {c : Cl} {P N : EL} (hP : Gw i r c = P) (h0 : P.1 = 0) (hN : Ja i r c P.2 = N) (h1 : N.1 ≠ 0) : C2 i r h c = (N.1, []) := by unfold C2; rw [hP, E2 h0, hN]; exact Du h1
theorem Mm {i : Int} {r h : List Cl} {c : Cl} {P N : EL} (hP : Gw i r c = P) (h0 : P.1 = 0) (hN : Ja i r c P.2 = N) (h1 : N.1 = 0) : C2 i r h c = Fl h N.2 := by unfold C2; rw [hP, E2 h0, hN]; exact E2 h1
theorem Xz {i : Int} {r : List Cl} {c : Cl} {g : List Cl} {s : EL} (h : Ft c.neg i = true) (hs : s = Pf r) (h0 : s.1 ≠ 0) : Ja i r c g = (s.1, []) := by unfold Ja; rw [if_pos h, ← hs]; exact Du h0
theorem O8 {i : Int} {r : List Cl} {c : Cl} {g : List Cl} {s m : EL} (h : Ft c.neg i = true) (hs : s = Pf r) (h0 : s.1 = 0) (hm : m = Jd g s.2) : Ja i r c g = m := by unfold Ja; rw [if_pos h, ← hs, hm]; exact E2 h0
theorem A2n {i : Int} {r : List Cl} {c : Cl} {g : List Cl} (h : Ft c.neg i = false) : Ja i r c g = (0, g) := by unfold Ja; rw [if_neg (by simp [h])]
def Bn (f : List Cl) (i : Int) (r : List Cl) : EL := if (Aq f && Aq r) = false then (2, []) else if Fc i = false then (2, []) else Cu (C2 i r) [] f
def Ez (l : List Cl) : List Cl := l.filter fun c => !Hp c
def Wx (f : List Cl) : EL := if Aq f then Bm (Ez f) else (2, [])
def Gx (r : List Cl) : EL := Hq (S7 r) Wx
def Kh (f g : List Cl) : EL := Bm (f.flatMap fun a => Ez (g.map fun b => Dk a b))
def Cv (i : Int) (r : List Cl) (c : Cl) : EL := if Ft c.pos i then Hq (Wx r) fun x => Kh [C1 c i] x else if Ft c.neg i then Hq (Gx r) fun x => Kh [C1 c i] x else (0, [C1 c i])
def Cc (i : Int) (r h : List Cl) (c : Cl) : EL := Hq (Cv i r c) fun g => Fl h g
theorem Kk {i : Int} {r h : List Cl} {c : Cl} {P : EL} (hP : Cv i r c = P) (h0 : P.1 = 0) : Cc i r h c = Fl h P.2 := by unfold Cc; rw [hP]; exact E2 h0
theorem Fo {i : Int} {r h : List Cl} {c : Cl} {P : EL} (hP : Cv i r c = P) (h0 : P.1 ≠ 0) : Cc i r h c = (P.1, []) := by unfold Cc; rw [hP]; exact Du h0
theorem A6t {i : Int} {r : List Cl} {c : Cl} {q m : EL} (h : Ft c.pos i = true) (hq : q = Wx r) (h0 : q.1 = 0) (hm : m = Kh [C1 c i] q.2) : Cv i r c = m := by unfold Cv; rw [if_pos h, ← hq, hm]; exact E2 h0
theorem A1d {i : Int} {r : List Cl} {c : Cl} {q : EL} (h : Ft c.pos i = true) (hq : q = Wx r) (h0 : q.1 ≠ 0) : Cv i r c = (q.1, []) := by unfold Cv; rw [if_pos h, ← hq]; exact Du h0
theorem A6u {i : Int} {r : List Cl} {c : Cl} {q m : EL} (h1 : Ft c.pos i = false) (h : Ft c.neg i = true) (hq : q = Gx r) (h0 : q.1 = 0) (hm : m = Kh [C1 c i] q.2) : Cv i r c = m := by unfold Cv; rw [if_neg (by simp [h1]), if_pos h, ← hq, hm]; exact E2 h0
theorem A1e {i : Int} {r : List Cl} {c : Cl} {q : EL} (h1 : Ft c.pos i = false) (h : Ft c.neg i = true) (hq : q = Gx r) (h0 : q.1 ≠ 0) : Cv i r c = (q.1, []) := by unfold Cv; rw [if_neg (by simp [h1]), if_pos h, ← hq]; exact Du h0
theorem B1j {i : Int} {r : List Cl} {c : Cl} (h1 : Ft c.pos i = false) (h : Ft c.neg i = false) : Cv i r c = (0, [C1 c i]) := by unfold Cv; rw [if_neg (by simp [h1]), if_neg (by simp [h])]
def Bb (f : List Cl) (i : Int) (r : List Cl) : EL := if (B3 f && Fc i && Aq r) = false then (2, []) else Cu (Cc i r) [] f
abbrev Pe (x : EL) : Prop := Ax x.2
theorem B8z {l m : List Cl} (h : Ax l) (hs : ∀ c, c ∈ m → c ∈ l) (hl : m.length ≤ l.length) : Ax m := ⟨fun c hc => h.1 c (hs c hc), by have := h.2; omega⟩
theorem Lf {l : List Cl} (h : ∀ c, c ∈ l → u32 c) : Pe (Bm l) := A3k h
theorem I4 {x : EL} {k : List Cl → EL} (h : x.1 = 0 → Pe (k x.2)) : Pe (Hq x k) := by
 by_cases h0 : x.1 = 0
 ·rw [E2 h0]; exact h h0
 ·rw [Du h0]; exact Eg
theorem Tx {g : List Cl → Cl → EL} : ∀ {l h : List Cl}, (∀ h c, c ∈ l → Ax h → Pe (g h c)) → Ax h → Pe (Cu g h l)
 | [], h, _, h2 => h2
 | c :: l, h, h1, h2 => by
  rw [Cu]
  exact I4 fun _ => Tx (fun h' d hd => h1 h' d (List.mem_cons_of_mem _ hd)) (h1 h c List.mem_cons_self h2)
theorem Lq {a b : Cl} (h : u32 a) (h2 : u32 b) : u32 (Dk a b) := ⟨Nat.or_lt_two_pow (n := 32) h.1 h2.1, Nat.or_lt_two_pow (n := 32) h.2 h2.2⟩
theorem Xc {f g : List Cl} (h : ∀ c, c ∈ f → u32 c) (h2 : ∀ c, c ∈ g → u32 c) : ∀ c, c ∈ f ++ g → u32 c := fun c hc => (List.mem_append.mp hc).elim (h c) (h2 c)
theorem A1n {f g : List Cl} (h : ∀ c, c ∈ f → u32 c) (h2 : ∀ c, c ∈ g → u32 c) : ∀ c, c ∈ Mn f g → u32 c := fun c hc => by
 obtain ⟨a, ha, hc⟩ := List.mem_flatMap.mp hc
 obtain ⟨b, hb, rfl⟩ := List.mem_map.mp hc
 exact Lq (h a ha) (h2 b hb)
theorem B5z (c : Cl) : ∀ d, d ∈ A0s c → u32 d := fun d hd => by
 rcases List.mem_append.mp hd with hd | hd
 ·obtain ⟨i, _, rfl⟩ := List.mem_map.mp hd
  exact ⟨by show (0 : Nat) < _; decide, by have := Mr i; show Fu i < 4294967296; omega⟩
 ·obtain ⟨i, _, rfl⟩ := List.mem_map.mp hd
  exact ⟨by have := Mr i; show Fu i < 4294967296; omega, by show (0 : Nat) < _; decide⟩
theorem Ea (c : Cl) (i : Int) : u32 (C1 c i) := ⟨by have := Vm c.pos i; show Dm c.pos i < _; omega, by have := Vm c.neg i; show Dm c.neg i < _; omega⟩
theorem D2 {c : Cl} (h : u32 c) : Ax [c] := ⟨fun d hd => by rw [List.mem_singleton] at hd; subst hd; exact h, by unfold reach; simp⟩
theorem M3 {f g : List Cl} (h : Ax f) (h2 : Ax g) : Pe (Fl f g) := Lf (Xc h.1 h2.1)
theorem M1 {f g : List Cl} (h : Ax f) (h2 : Ax g) : Pe (Jd f g) := Lf (A1n h.1 h2.1)
theorem B6t (c : Cl) : Pe (A5t c) := Lf (B5z c)
theorem W4 {h : List Cl} {c : Cl} (hh : Ax h) : Pe (E6 h c) := I4 fun _ => M1 hh (B6t c)
theorem S4 : Ax [B5] := D2 ⟨by decide, by decide⟩
theorem Qv (f : List Cl) : Pe (Pf f) := Tx (fun h c _ hh => W4 hh) S4
theorem B0b (f : List Cl) : Pe (S7 f) := by unfold S7; split; exact Qv f; exact Eg
theorem B4b {i : Int} {r : List Cl} {c : Cl} (hr : Ax r) : Pe (Gw i r c) := by
 unfold Gw
 split
 ·exact M1 (D2 (Ea c i)) hr
 ·exact D2 (Ea c i)
theorem B4c {i : Int} {r : List Cl} {c : Cl} {g : List Cl} (hg : Ax g) : Pe (Ja i r c g) := by
 unfold Ja
 split
 ·exact I4 fun _ => M1 hg (Qv r)
 ·exact hg
theorem W0 {i : Int} {r h : List Cl} {c : Cl} (hr : Ax r) (hh : Ax h) : Pe (C2 i r h c) := by
 unfold C2
 refine I4 fun _ => I4 fun _ => M3 hh ?_
 have h1 : Pe (Gw i r c) := B4b hr
 exact B4c h1
theorem B0c {f r : List Cl} {i : Int} (hr : Ax r) : Pe (Bn f i r) := by
 unfold Bn
 split
 ·exact Eg
 ·split
  ·exact Eg
  ·exact Tx (fun h c _ hh => W0 hr hh) Eg
theorem S5 {l : List Cl} (h : Ax l) : Ax (Ez l) := B8z h (fun c hc => (List.mem_filter.mp hc).1) (List.length_filter_le _ _)
theorem Yh {f : List Cl} (h : Ax f) : Pe (Wx f) := by unfold Wx; split; exact Lf (S5 h).1; exact Eg
theorem Od (r : List Cl) : Pe (Gx r) := I4 fun _ => Yh (B0b r)
theorem Le {f g : List Cl} (h : Ax f) (h2 : Ax g) : Pe (Kh f g) := Lf fun c hc => by
 obtain ⟨a, ha, hc⟩ := List.mem_flatMap.mp hc
 obtain ⟨b, hb, rfl⟩ := List.mem_map.mp (List.mem_filter.mp hc).1
 exact Lq (h.1 a ha) (h2.1 b hb)
theorem A5x {i : Int} {r : List Cl} {c : Cl} (hr : Ax r) : Pe (Cv i r c) := by
 unfold Cv
 split
 ·exact I4 fun _ => Le (D2 (Ea c i)) (Yh hr)
 ·split
  ·exact I4 fun _ => Le (D2 (Ea c i)) (Od r)
  ·exact D2 (Ea c i)
theorem A5w {i : Int} {r h : List Cl} {c : Cl} (hr : Ax r) (hh : Ax h) : Pe (Cc i r h c) := I4 fun _ => M3 hh (A5x hr)
theorem B0d {f r : List Cl} {i : Int} (hr : Ax r) : Pe (Bb f i r) := by
 unfold Bb
 split
 ·exact Eg
 ·exact Tx (fun h c _ hh => A5w hr hh) Eg
abbrev Ws (x : EL) : Prop := x.2.length ≤ 64
theorem Ei (l : List Cl) : Ws (Bm l) := by
 rcases L8 l with ⟨_, _, h, h2⟩ | h | h
 ·show (Bm l).2.length ≤ 64; rw [h]; exact h2
 ·show (Bm l).2.length ≤ 64; rw [Sb A1]; decide
 ·show (Bm l).2.length ≤ 64; rw [Sb A1]; decide
theorem Q3 {x : EL} {k : List Cl → EL} (h : x.1 = 0 → Ws (k x.2)) : Ws (Hq x k) := by
 by_cases h0 : x.1 = 0
 ·rw [E2 h0]; exact h h0
 ·rw [Du h0]; show ([] : List Cl).length ≤ 64; decide
theorem B0u {g : List Cl → Cl → EL} : ∀ {l h : List Cl}, (∀ h c, c ∈ l → h.length ≤ 64 → Ws (g h c)) → h.length ≤ 64 → Ws (Cu g h l)
 | [], h, _, h2 => h2
 | c :: l, h, h1, h2 => by
  rw [Cu]
  exact Q3 fun _ => B0u (fun h' d hd => h1 h' d (List.mem_cons_of_mem _ hd)) (h1 h c List.mem_cons_self h2)
theorem Wa (h : List Cl) (c : Cl) : Ws (E6 h c) := Q3 fun _ => Ei _
theorem B7i (f : List Cl) : Ws (Pf f) := B0u (fun h c _ _ => Wa h c) F2
theorem B0t (i : Int) (r h : List Cl) (c : Cl) : Ws (C2 i r h c) := Q3 fun _ => Q3 fun _ => Ei _
theorem C4t (f : List Cl) : Ws (Wx f) := by unfold Wx; split; exact Ei _; (show ([] : List Cl).length ≤ 64; decide)
theorem B4n (r : List Cl) : Ws (Gx r) := Q3 fun _ => C4t _
theorem C0a {f : List Cl} (h : Aq f = true) : f.length ≤ 64 := by
 unfold Aq at h
 simp only [Bool.and_eq_true, decide_eq_true_eq] at h
 exact h.2
theorem C3s (c : Cl) : (A0s c).length ≤ 48 := by
 unfold A0s
 rw [List.length_append, List.length_map, List.length_map]
 have h1 : (Bd c.pos).length ≤ 24 := Jw _ _
 have h2 : (Bd c.neg).length ≤ 24 := Jw _ _
 omega
theorem C4p {s i : Nat} (h : i < (Bd s).length) : 0 ≤ (Bd s).getD i 0 ∧ (Bd s).getD i 0 < 24 := by
 have h1 := A3g (Ad (d := (0 : Int)) h)
 exact ⟨h1.1, by have := h1.2; exact_mod_cast this⟩
theorem B0r {s i : Nat} (h : i < (Bd s).length) : Aj ((Bd s).getD i 0) := by have := C4p h; unfold Aj; omega
theorem A3d (f g : List Cl) : (Mn f g).length = f.length * g.length := by
 unfold Mn
 induction f with
 | nil => simp
 | cons a f ih => rw [List.flatMap_cons, List.length_append, ih, List.length_map, List.length_cons, Nat.succ_mul]; omega
theorem B4j (f g : List Cl) (a : Cl) : Mn (f ++ [a]) g = Mn f g ++ g.map fun b => Dk a b := by unfold Mn; rw [List.flatMap_append]; simp
theorem C9 {ok : Nat → Prop} {l : List Cl} {a : SH} {w : World} (h : Km ok l a w) : Ax l := ⟨h.2, h.1.2.1⟩
def Wu (i : Int) : EL := if Fc i then (0, [⟨Fu i, 0⟩]) else (2, [])
theorem St.D3h {B : C6} {Γ : List Fact} {Ms : List B4} {w : World} {e : TypeId} {b : Nat} {l m : List Cl} {a a' : SH} (hs : St B Γ (A8 b [sl a l.length, sl a' m.length] e :: Ms) w) {hBp : Prop} (hB : hBp) (hF : CL l a ∈ Γ) (hG : CL m a' ∈ Γ) : St B (CCF [(l, a), (m, a')] (some ⟨b, 0, Option.none⟩, 2) :: Γ) Ms w := by
 have h1 := ((hs.Ig (sz := 1) (m := 2) rfl F2).C6u cpE).B5r (x := (l, a)) List.mem_cons_self (List.mem_cons_of_mem _ hF)
 have h2 := h1.B5r (x := (m, a')) List.mem_cons_self (List.mem_cons_of_mem _ (List.mem_cons_of_mem _ hG))
 exact (h2.A2e (F := R3) (E := cpE) (d := cp0) (bt := 24) (l := [(l, a), (m, a')]) (fun _ => rfl) hB List.mem_cons_self rfl rfl F2).less sx_
theorem St.D0t {B : C6} {Γ : List Fact} {Ms : List B4} {w : World} {b : Nat} {e : TypeId} {cs : List Value} {c : Cl} (hs : St B Γ (A8 b cs e :: Ms) w) {hBp : Prop} (hB : hBp) (hc : cs = Ai c) (hu : u32 c) : St B (CL [c] (some ⟨b, 0, Option.none⟩, 1) :: Γ) Ms w :=
 (hs.Ig (sz := 2) (m := 1) (by rw [hc]; rfl) F2).Bx (l := [c]) hB (by rw [hc]; simp [A6]) rfl (D2 hu).2 (D2 hu).1
theorem Spec.Tm {P : Program} {k : FuncId} {args : Array Value} {pre : List Fact} {e : TypeId} {r r' : EL} (he : r' = r) (h : Spec P k args pre [] (fun x : SH => .tuple #[sl x r.2.length, .int .i64 r.1]) (fun _ => []) (fun x => [Al 2 e x r.2.length (A6 r.2)])) (hr : Pe r) :
  Spec P k args pre [] (fun x : SH => .tuple #[sl x r'.2.length, .int .i64 r'.1]) (fun x => [CL r'.2 x]) (fun _ => []) := by
 subst he
 exact fun ok w hok hst => (h ok w hok hst).mono fun e w' hh => by
  obtain ⟨x, he, hs⟩ := hh
  exact ⟨x, he, hs.Bx trivial rfl rfl hr.2 hr.1⟩
theorem Spec.O6 {P : Program} {k : FuncId} {args : Array Value} {pre : List Fact} {e : TypeId} {r r' : EL} (he : r' = r) (h : Spec P k args pre [] (fun x : SH => .tuple #[sl x r.2.length, .int .i64 r.1]) (fun _ => []) (fun x => [Al 2 e x r.2.length (A6 r.2)])) :
  Spec P k args pre [] (fun x : SH => .tuple #[sl x r'.2.length, .int .i64 r'.1]) (fun _ => []) (fun x => [Al 2 e x r'.2.length (A6 r'.2)]) := by
 subst he
 exact h
structure Ds where
 form : Int → List Cl → EL
 Ah : Int → List Cl → EL
def elR (x : EL) : Ac (List Cl) := if x.1 = 0 then .ok x.2 else .bad x.1
theorem B5a {x : EL} (h : x.1 = 0) : elR x = .ok x.2 := if_pos h
theorem B7r {x : EL} (h : x.1 ≠ 0) : elR x = .bad x.1 := if_neg h
theorem Zb {x : EL} {g : List Cl} : elR x = .ok g ↔ x = (0, g) := by
 unfold elR
 split
 ·rename_i h
  constructor
  ·intro h2; injection h2 with h2; exact Prod.ext h h2
  ·rintro rfl; rfl
 ·rename_i h
  constructor
  ·intro h2; cases h2
  ·rintro rfl; exact absurd rfl h
theorem Wh {x : EL} {e : Int} : elR x = .bad e ↔ x.1 = e ∧ e ≠ 0 := by
 unfold elR
 split
 ·rename_i h
  constructor
  ·intro h2; cases h2
  ·rintro ⟨h2, h3⟩; exact absurd (h2.symm.trans h) h3
 ·rename_i h
  constructor
  ·intro h2; injection h2 with h2; exact ⟨h2, h2 ▸ h⟩
  ·rintro ⟨h2, h3⟩; rw [h2]
def Ds.row (W : Ds) (k d : Int) (r : List Cl) : EL := if k = 14 then W.Ah d r else W.form d r
def Bo (W : Ds) : Tr Int where
 own d k n _ r := (elR (W.row k d r)).bind fun g => .ok (.inr (n, g))
 Ah d f := (elR (W.Ah d f)).bind fun g => .ok (if g.length = 0 then none else some g)
 Oq d b := .ok (d + b.2)
theorem Xr {W : Ds} {d : Int} {b : Int × Int} : (Bo W).Oq d b = .ok (d + b.2) := rfl
theorem Vs {W : Ds} {d k n : Int} {nm : ByteArray} {r : List Cl} (h : (W.row k d r).1 = 0) : (Bo W).own d k n nm r = .ok (.inr (n, (W.row k d r).2)) := by
 show (elR _).bind _ = _; rw [B5a h]; rfl
theorem A5j {W : Ds} {d k n : Int} {nm : ByteArray} {r : List Cl} (h : (W.row k d r).1 ≠ 0) : (Bo W).own d k n nm r = .bad (W.row k d r).1 := by
 show (elR _).bind _ = _; rw [B7r h]; rfl
theorem O4 {W : Ds} {d k n : Int} {nm : ByteArray} {r : List Cl} {p : Int × List Cl} : (Bo W).own d k n nm r = .ok (.inr p) ↔ W.row k d r = (0, p.2) ∧ p.1 = n := by
 constructor
 ·intro h
  obtain ⟨g, hg, h2⟩ := Ac.A2 (x := elR (W.row k d r)) h
  injection h2 with h2; injection h2 with h2; subst h2
  exact ⟨Zb.mp hg, rfl⟩
 ·rintro ⟨h1, h2⟩
  rw [Vs (by rw [h1]), h1, ← h2]
theorem L0 {W : Ds} {d k n : Int} {nm : ByteArray} {r : List Cl} {u : T} : (Bo W).own d k n nm r ≠ .ok (.inl u) := by
 intro h
 obtain ⟨g, hg, h2⟩ := Ac.A2 (x := elR (W.row k d r)) h
 injection h2 with h2; cases h2
theorem V0 {W : Ds} {d k n e : Int} {nm : ByteArray} {r : List Cl} : (Bo W).own d k n nm r = .bad e ↔ (W.row k d r).1 = e ∧ e ≠ 0 := by
 rw [← Wh]
 show (elR _).bind _ = _ ↔ _
 cases elR (W.row k d r) with
 | ok g => constructor <;> (intro h; cases h)
 | bad e' => exact Iff.intro (fun h => by injection h with h; rw [h]) (fun h => by injection h with h; rw [h]; rfl)
theorem Xs {W : Ds} {d : Int} {f : List Cl} (h : (W.Ah d f).1 = 0) (h2 : (W.Ah d f).2.length = 0) : (Bo W).Ah d f = .ok none := by
 show (elR _).bind _ = _; rw [B5a h]; show Ac.ok (if _ then _ else _) = _; rw [if_pos h2]
theorem Pt {W : Ds} {d : Int} {f : List Cl} (h : (W.Ah d f).1 = 0) (h2 : (W.Ah d f).2.length ≠ 0) : (Bo W).Ah d f = .ok (some (W.Ah d f).2) := by
 show (elR _).bind _ = _; rw [B5a h]; show Ac.ok (if _ then _ else _) = _; rw [if_neg h2]
theorem A0o {W : Ds} {d : Int} {f : List Cl} (h : (W.Ah d f).1 ≠ 0) : (Bo W).Ah d f = .bad (W.Ah d f).1 := by
 show (elR _).bind _ = _; rw [B7r h]; rfl
theorem Ib {W : Ds} {d : Int} {f g : List Cl} : (Bo W).Ah d f = .ok (some g) ↔ W.Ah d f = (0, g) ∧ g ≠ [] := by
 constructor
 ·intro h
  obtain ⟨g', hg, h2⟩ := Ac.A2 (x := elR (W.Ah d f)) h
  injection h2 with h2
  split at h2
  ·cases h2
  ·rename_i h3
   injection h2 with h2; subst h2
   exact ⟨Zb.mp hg, fun h => h3 (by rw [h]; rfl)⟩
 ·rintro ⟨h, h2⟩
  have h3 := Pt (W := W) (d := d) (f := f) (by rw [h]) (by rw [h]; intro h4; exact h2 (List.eq_nil_of_length_eq_zero h4))
  rw [h3, h]
theorem Tj {W : Ds} {d e : Int} {f : List Cl} : (Bo W).Ah d f = .bad e ↔ (W.Ah d f).1 = e ∧ e ≠ 0 := by
 rw [← Wh]
 show (elR _).bind _ = _ ↔ _
 cases elR (W.Ah d f) with
 | ok g => constructor <;> (intro h; cases h)
 | bad e' => exact Iff.intro (fun h => by injection h with h; rw [h]) (fun h => by injection h with h; rw [h]; rfl)
def Ed (g : Nat → T → Ac T) : Nat → List T → Ac (List T)
 | _, [] => .ok []
 | i, t :: ts => (g i t).bind fun t' => (Ed g (i + 1) ts).bind fun ts' => .ok (t' :: ts')
section
variable {g : Nat → T → Ac T}
theorem Si : ∀ (i : Nat) (l : List T) (t : T), Ed g i (l ++ [t]) = (Ed g i l).bind fun l' => (g (i + l.length) t).bind fun t' => .ok (l' ++ [t'])
 | i, [], t => by
  simp only [List.nil_append, Ed, Ac.bind, List.length_nil, Nat.add_zero]
 | i, a :: l, t => by
  simp only [List.cons_append, Ed, Si (i + 1) l t, List.length_cons]
  rw [show i + 1 + l.length = i + (l.length + 1) by omega]
  cases g i a with
  | bad e => rfl
  | ok a' =>
   simp only [Ac.bind]
   cases Ed g (i + 1) l with
   | bad e => rfl
   | ok l' =>
    simp only
    cases g (i + (l.length + 1)) t with
    | bad e => rfl
    | ok c2 => rfl
theorem A3u {e : Int} : ∀ {l m : List T} {i : Nat}, Ed g i l = .bad e → Ed g i (l ++ m) = .bad e
 | [], m, i, h => by rw [Ed] at h; cases h
 | a :: l, m, i, h => by
  rw [List.cons_append, Ed]
  rw [Ed] at h
  cases h1 : g i a with
  | bad e' => rw [h1] at h; exact h
  | ok a' =>
   rw [h1] at h
   simp only [Ac.bind] at h ⊢
   cases h3 : Ed g (i + 1) l with
   | bad e' => rw [h3] at h; rw [A3u h3]; exact h
   | ok l' => rw [h3] at h; cases h
theorem B1m {l us : List T} {i : Nat} {u : T} (hi : i < l.length) (h : Ed g 0 (l.take i) = .ok us) (hu : g i (l.getD i t0) = .ok u) : Ed g 0 (l.take (i + 1)) = .ok (us ++ [u]) := by
 rw [Ab (d := t0) hi, Si, h]
 simp only [Ac.bind, List.length_take, Nat.zero_add, Nat.min_eq_left (Nat.le_of_lt hi)]
 rw [hu]
theorem A6x {l us : List T} {i : Nat} {e : Int} (hi : i < l.length) (h : Ed g 0 (l.take i) = .ok us) (hu : g i (l.getD i t0) = .bad e) : Ed g 0 l = .bad e := by
 have h1 : Ed g 0 (l.take (i + 1)) = .bad e := by
  rw [Ab (d := t0) hi, Si, h]
  simp only [Ac.bind, List.length_take, Nat.zero_add, Nat.min_eq_left (Nat.le_of_lt hi)]
  rw [hu]
 have h2 := A3u (m := l.drop (i + 1)) h1
 rwa [List.take_append_drop] at h2
theorem A3t : ∀ {l us : List T} {i : Nat}, Ed g i l = .ok us → us.length = l.length
 | [], us, i, h => by rw [Ed] at h; injection h with h; subst h; rfl
 | a :: l, us, i, h => by
  rw [Ed] at h
  obtain ⟨a', _, h⟩ := Ac.A2 h
  obtain ⟨l', h2, h⟩ := Ac.A2 h
  injection h with h; subst h
  simp [A3t h2]
theorem A3s {e : Int} : ∀ {l : List T} {i : Nat}, Ed g i l = .bad e → ∃ j t, t ∈ l ∧ g j t = .bad e
 | [], i, h => by rw [Ed] at h; cases h
 | a :: l, i, h => by
  rw [Ed] at h
  cases h1 : g i a with
  | bad e' => rw [h1] at h; injection h with h; subst h; exact ⟨i, a, List.mem_cons_self, h1⟩
  | ok a' =>
   rw [h1] at h
   simp only [Ac.bind] at h
   cases h3 : Ed g (i + 1) l with
   | bad e' => rw [h3] at h; injection h with h; subst h; obtain ⟨j, t, ht, hj⟩ := A3s h3; exact ⟨j, t, List.mem_cons_of_mem _ ht, hj⟩
   | ok l' => rw [h3] at h; cases h
end
theorem Uv {W : Ds} {k d : Int} : ∀ {i : Nat} {ts : List T}, Dh (Bo W) k i ts d = Ed (fun j t => Bj (Bo W) t (d + (binds k j).2)) i ts
 | i, [] => by rw [Dt, Ed]
 | i, t :: ts => by rw [Dc, Ed, Xr, Uv (i := i + 1) (ts := ts)]; rfl
theorem Uu {W : Ds} {k d : Int} : ∀ {i : Nat} {ts : List T}, Ck (Bo W) k ts d = Ed (fun _ t => Bj (Bo W) t (d + more k)) i ts
 | i, [] => by rw [E3, Ed]
 | i, t :: ts => by rw [Db, Ed, Xr, Uu (i := i + 1) (ts := ts)]; rfl
theorem A0l {C : Type} {A : Tr C} {k : Int} {c : C} {ss : List Br} {s : Nat} {bs : List Br} (hs : s < ss.length) (hb : D7 A k (ss.take s) c = .ok bs) (hf : A.Ah c (ss.getD s B1).Ah = .ok none) : D7 A k (ss.take (s + 1)) c = .ok bs := by
 rw [Ab (d := B1) hs, O2, hb]
 simp only [Ac.bind]
 rw [hf]
theorem A0k {C : Type} {A : Tr C} {t : T} {c : C} {e : Int} {p : Int × List Cl} (h : A.own c t.kind t.n t.name t.r = .ok (.inr p)) (hl : Dh A t.kind 0 t.kids c = .bad e) : Bj A t c = .bad e := by
 rw [F8, h]; simp only [Ac.bind]; rw [hl]
def Ou (r : Ac (List T)) : Int × List T := match r with
 | .ok u => (0, u)
 | .bad e => (e, [])
theorem C1h {r : Ac T} (h : (Qg r).1 ≠ 0) : r = .bad (Qg r).1 := by
 cases r with
 | ok u => exact absurd rfl h
 | bad e => rfl
theorem C6p {r : Ac T} (hb : ∀ e, r = .bad e → e ≠ 0) (h : (Qg r).1 = 0) : r = .ok (Qg r).2 := by
 cases r with
 | ok u => rfl
 | bad e => exact absurd h (hb e rfl)
theorem Zr {r : Ac (List T)} (h : (Ou r).1 ≠ 0) : r = .bad (Ou r).1 := by
 cases r with
 | ok u => exact absurd rfl h
 | bad e => rfl
theorem A4h {r : Ac (List T)} (hb : ∀ e, r = .bad e → e ≠ 0) (h : (Ou r).1 = 0) : r = .ok (Ou r).2 := by
 cases r with
 | ok u => rfl
 | bad e => exact absurd h (hb e rfl)
theorem Ka {W : Ds} : ∀ (t : T) {d e : Int}, Bj (Bo W) t d = .bad e → e ≠ 0 := T.ind fun t ih d e h => by
 rcases A8j h with h1 | ⟨b, _, h1⟩ | ⟨p, hp, h1 | ⟨c', _, h2⟩⟩
 ·exact (V0.mp h1).2
 ·exact (Tj.mp h1).2
 ·cases h1
 ·exact ih p hp h2
theorem Ue {W : Ds} {b : Nat → Int} {l : List T} {i : Nat} {e d : Int} (h : Ed (fun j t => Bj (Bo W) t (d + b j)) i l = .bad e) : e ≠ 0 := by
 obtain ⟨j, t, _, h1⟩ := A3s h
 exact Ka t h1
abbrev Cg (W : Ds) (t : T) (d : Int) : Int × T := Qg (Bj (Bo W) t d)
abbrev Vn (W : Ds) (b : Nat → Int) (l : List T) (d : Int) : Int × List T := Ou (Ed (fun j t => Bj (Bo W) t (d + b j)) 0 l)
def Cp (P : List Cl → Int → List Cl → EL) (i : Int) (r : List Cl) (d : Int) (f : List Cl) : EL := if Ft (G9 f) (i + d) = false then (0, f) else Hq (Ae r 0 d) fun s => P f (i + d) s
def Pd (i : Int) (r : List Cl) : Ds := ⟨Cp Bn i r, Cp Bb i r⟩
def I8 (i : Int) (d : Int) (f : List Cl) : EL := Bm (f.map fun c => ⟨Fx c.pos (i + d), Fx c.neg (i + d)⟩)
def P8 (i : Int) : Ds := ⟨I8 i, I8 i⟩
theorem A8i {f : List Cl} {j : Int} {c : Cl} (hc : c ∈ f.map fun c => (⟨Fx c.pos j, Fx c.neg j⟩ : Cl)) : u32 c := by
 obtain ⟨e, _, rfl⟩ := List.mem_map.mp hc
 exact ⟨by have := Ug e.pos j; show Fx _ _ < _; omega, by have := Ug e.neg j; show Fx _ _ < _; omega⟩
theorem A5e {t k : T} (h : k ∈ t.kids) : size k < size t := by obtain ⟨p, hp, e⟩ := Ex h; exact e ▸ Kz hp
theorem A5c {t k : T} {b : Br} (h : b ∈ t.sys) (h2 : k ∈ b.kids) : size k < size t := by obtain ⟨p, hp, e⟩ := Gt h h2; exact e ▸ Kz hp
theorem Spec.D6k {P : Program} {k : FuncId} {args : Array Value} {pre : List Fact} {Ms0 : List B4} {y : Tys} {r r' : Int × T} (he : r' = r) (h : Spec P k args pre Ms0 (fun x : {h : HT // h.er = r.2} => .tuple #[.agg (tc r.2 x.1.vr x.1.vk x.1.vs).toArray, .int .i64 r.1]) (fun _ => []) (fun x => [Cn (F3 y x.1)])) :
  Spec P k args pre Ms0 (fun x : {h : HT // h.er = r'.2} => .tuple #[.agg (tc r'.2 x.1.vr x.1.vk x.1.vs).toArray, .int .i64 r'.1]) (fun _ => []) (fun x => [Cn (F3 y x.1)]) := by
 subst he
 exact h
theorem Spec.D0u {P : Program} {k : FuncId} {args : Array Value} {pre : List Fact} {Ms0 : List B4} {y : Tys} {e : TypeId} {r r' : Int × List T} (he : r' = r) (h : Spec P k args pre Ms0 (fun x : {p : List HT × SH // p.1.map HT.er = r.2} => .tuple #[sl x.1.2 r.2.length, .int .i64 r.1]) (fun _ => []) (fun x => [Al 6 e x.1.2 r.2.length (Bz (x.1.1.map HT.tp)), Cn (E1 y x.1.1)])) :
  Spec P k args pre Ms0 (fun x : {p : List HT × SH // p.1.map HT.er = r'.2} => .tuple #[sl x.1.2 r'.2.length, .int .i64 r'.1]) (fun _ => []) (fun x => [Al 6 e x.1.2 r'.2.length (Bz (x.1.1.map HT.tp)), Cn (E1 y x.1.1)]) := by
 subst he
 exact h
section
variable {W : Ds}
mutual
theorem Ur : ∀ {t u : T} {d : Int}, Bj (Bo W) t d = .ok u → size u ≤ size t
 | .mk k n nm r ks ss, u, d, hu => by
  rw [F8] at hu
  simp only [T.kind, T.n, T.name, T.r, T.kids, T.sys] at hu
  obtain ⟨o, h9, hu⟩ := Ac.A2 hu
  cases o with
  | inl v => exact absurd h9 L0
  | inr p =>
   obtain ⟨ks', h10, hu⟩ := Ac.A2 hu
   obtain ⟨ss', h11, hu⟩ := Ac.A2 hu
   injection hu with hu
   subst hu
   rw [Dd, Dd]
   simp only [T.kids, T.sys]
   have h1 := X9 h10
   have h2 := Rw h11
   omega
theorem X9 {k : Int} : ∀ {ts us : List T} {i : Nat} {d : Int}, Dh (Bo W) k i ts d = .ok us → Ci us ≤ Ci ts
 | [], us, i, d, hu => by rw [Dt] at hu; injection hu with hu; subst hu; exact Nat.le_refl _
 | t :: ts, us, i, d, hu => by
  rw [Dc] at hu
  obtain ⟨c', _, hu⟩ := Ac.A2 hu
  obtain ⟨t', h2, hu⟩ := Ac.A2 hu
  obtain ⟨ts', h3, hu⟩ := Ac.A2 hu
  injection hu with hu
  subst hu
  have h4 := Ur h2
  have h5 := X9 h3
  simp only [Ci]
  omega
theorem X7 {k : Int} : ∀ {ts us : List T} {d : Int}, Ck (Bo W) k ts d = .ok us → Ci us ≤ Ci ts
 | [], us, d, hu => by rw [E3] at hu; injection hu with hu; subst hu; exact Nat.le_refl _
 | t :: ts, us, d, hu => by
  rw [Db] at hu
  obtain ⟨c', _, hu⟩ := Ac.A2 hu
  obtain ⟨t', h2, hu⟩ := Ac.A2 hu
  obtain ⟨ts', h3, hu⟩ := Ac.A2 hu
  injection hu with hu
  subst hu
  have h4 := Ur h2
  have h5 := X7 h3
  simp only [Ci]
  omega
theorem Rw {k : Int} : ∀ {bs us : List Br} {d : Int}, D7 (Bo W) k bs d = .ok us → Ew us ≤ Ew bs
 | [], us, d, hu => by rw [D1] at hu; injection hu with hu; subst hu; exact Nat.le_refl _
 | .mk f ks :: bs, us, d, hu => by
  rw [Cw] at hu
  simp only [Br.Ah, Br.kids] at hu
  obtain ⟨o, h5, hu⟩ := Ac.A2 hu
  cases o with
  | none => have h6 := Rw hu; simp only [Ew]; omega
  | some g =>
   obtain ⟨ks', h7, hu⟩ := Ac.A2 hu
   obtain ⟨bs', h8, hu⟩ := Ac.A2 hu
   injection hu with hu
   subst hu
   have h1 := X7 h7
   have h2 := Rw h8
   simp only [Ew, Br.kids]
   omega
end
theorem C1p (hW : ∀ d f, Ax f → Pe (W.form d f) ∧ Pe (W.Ah d f)) {t u : T} {d : Int} (h : Kf t) (hu : Bj (Bo W) t d = .ok u) : Kf u := by
 refine T6 (A := Bo W) ?_ ?_ ?_ t d u h hu
 ·intro c k n nm r p _ hn hr ho
  obtain ⟨h1, h2⟩ := O4.mp ho
  have h3 := hW c r hr
  have h4 : Pe (W.row k c r) := by unfold Ds.row; split; exact h3.2; exact h3.1
  unfold Pe at h4
  rw [h1] at h4
  exact ⟨by rw [h2]; exact hn, h4⟩
 ·intro c k n nm r u ho
  exact absurd ho L0
 ·intro c f f' hr ho
  obtain ⟨h1, _⟩ := Ib.mp ho
  have h3 := (hW c f hr).2
  unfold Pe at h3
  rw [h1] at h3
  exact h3
theorem C7q : size t0 = 1 := by decide
theorem Zq {t : T} {d : Int} : size (Cg W t d).2 ≤ size t := by
 unfold Cg
 cases h : Bj (Bo W) t d with
 | ok u => exact Ur h
 | bad e => show size t0 ≤ size t; rw [C7q]; exact size_pos' t
theorem Vi (hW : ∀ d f, Ax f → Pe (W.form d f) ∧ Pe (W.Ah d f)) {t : T} {d : Int} (h : Kf t) : Kf (Cg W t d).2 := by
 unfold Cg
 cases hu : Bj (Bo W) t d with
 | ok u => exact C1p hW h hu
 | bad e => exact Ob
end
theorem Yg {P : List Cl → Int → List Cl → EL} (hP : ∀ f i r, Ax f → Ax r → Pe (P f i r)) {i d : Int} {r f : List Cl} (hf : Ax f) : Pe (Cp P i r d f) := by
 unfold Cp
 split
 ·exact hf
 ·exact I4 fun _ => hP _ _ _ hf (Kj r 0 d)
theorem B6s (i : Int) (r : List Cl) : ∀ d f, Ax f → Pe ((Pd i r).form d f) ∧ Pe ((Pd i r).Ah d f) := fun d f hf =>
 ⟨Yg (fun f i r _ hr => B0c hr) hf, Yg (fun f i r _ hr => B0d hr) hf⟩
theorem B0e {i d : Int} {f : List Cl} (hf : Ax f) : Pe (I8 i d f) := Lf fun c hc => A8i hc
theorem C3v (i : Int) : ∀ d f, Ax f → Pe ((P8 i).form d f) ∧ Pe ((P8 i).Ah d f) := fun d f hf => ⟨B0e hf, B0e hf⟩
def Xh (x : Int × T) (k : T → Int × T) : Int × T := if x.1 ≠ 0 then (x.1, t0) else k x.2
theorem Qn {x : Int × T} {k : T → Int × T} (h : x.1 ≠ 0) : Xh x k = (x.1, t0) := if_pos h
theorem T9 {x : Int × T} {k : T → Int × T} (h : x.1 = 0) : Xh x k = k x.2 := if_neg (by simp [h])
section
variable {α : Type} {g : α → T → Int × T}
end
def Ek (t : T) (i : Int) (r : List Cl) : Int := if A7 t ≠ 0 then A7 t else if (Fc i && Aq r) = false then 2 else 0
def Ak (t : T) (i : Int) (r : List Cl) : Int × T := if Ek t i r ≠ 0 then (Ek t i r, t0) else if (Ae r i 1).1 ≠ 0 then ((Ae r i 1).1, t0) else Xh (Cg (Pd i (Ae r i 1).2) t 0) fun x => Cg (P8 i) x 0
theorem X6 {t : T} {i : Int} {r : List Cl} (h : Ek t i r = 0) : A7 t = 0 ∧ (0 ≤ i ∧ i < 24) ∧ Aq r = true := by
 unfold Ek at h
 split at h
 ·rename_i h1; exact absurd h h1
 ·rename_i h1
  split at h
  ·cases h
  ·rename_i h2
   simp only [Bool.not_eq_false, Bool.and_eq_true] at h2
   refine ⟨Decidable.not_not.mp h1, ?_, h2.2⟩
   have h3 := h2.1
   unfold Fc at h3
   simpa using h3
section
variable {P : Program} [Tab P] {f : FuncId} {R : Ending → World → Prop} {B : C6} {n : Fz} {K : List Item} {ops : Array Oper} {l : List Nat} {σ : Nat → Value} {Γ : List Fact} {Ms : List B4} {dst : Option Tmp} {ty : TypeId} {x : Operand}
end
theorem Spec.B7t {P : Program} {k : FuncId} {args : Array Value} {pre L : List Fact} {G : Fact} {Ms0 : List B4} {X : Type} {val : X → Value} {N : X → List Fact} {Ms1 : X → List B4} (hp : ∀ F, F ∈ pre → F ∈ G :: L) (h : Spec P k args pre Ms0 val N Ms1) : Spec P k args [Kx L, G] Ms0 val N Ms1 := fun ok w hok hs =>
 h ok w hok ⟨hs.chg, fun F hF => by
  rcases List.mem_cons.mp (hp F hF) with e | e
  ·subst e; exact hs.facts _ (List.mem_cons_of_mem _ List.mem_cons_self)
  ·exact hs.facts (Kx L) List.mem_cons_self F e, hs.res, hs.lt, hs.disj⟩
theorem Spec.B5y {P : Program} {k : FuncId} {args : Array Value} {pre L : List Fact} {G : Fact} {Ms0 : List B4} {X : Type} {val : X → Value} {N : X → List Fact} {Ms1 : X → List B4} (hL : ∀ F, F ∈ L → F ∈ pre) (hG : G ∈ pre) (h : Spec P k args [Kx L, G] Ms0 val N Ms1) : Spec P k args pre Ms0 val N Ms1 := fun ok w hok hs =>
 h ok w hok ⟨hs.chg, fun F hF => by
  rcases List.mem_cons.mp hF with e | e
  ·subst e; exact fun F' hF' => hs.facts F' (hL F' hF')
  ·rw [List.mem_singleton] at e; subst e; exact hs.facts _ hG, hs.res, hs.lt, hs.disj⟩
end Go.Hy
namespace Go.Hy
open Go Go.ChangeShapes Go.WideShapes Go.RowKit Go.Shelf Go.Proofs
theorem Wt {C : Checked} {os : Os} {f : FuncId} {fn : Func} {s : ChangeSpec} {conds : List PathCond} {ts : List TypeId} {tb : TypeId} {H : Type} {enc : TypeId × Value → H} {L : List (String × DataW Unit)}
  (own : ownKnob C.prog.godebug = none) (started : os.Started) (noInit : C.prog.inits.idxOf? f = none) (hfn : C.prog.funcs[f]? = some fn)
  (witness : ∃ (w : World) (tape : Tape) (i : Input), w.os = os ∧ (w.forCall tape i).Shaped C.prog ∧ i.vars = [] ∧ Input.okWide C.prog (w.forCall tape i) .any w.heap.size f i ∧
   ((s.pre enc C.prog fn conds false (w.forCall tape i).memory i.args ∧ laidMetH C.prog L (w.forCall tape i).memory) ∧ sizedMet enc C.prog fn (OpenSpec.ofChange s) false (w.forCall tape i).memory i.args) ∧ Assume.holds {} C.prog (lone (Frame.enter C.prog f i.args .normal) [] (w.forCall tape i)))
  (laid : laidOutB C.prog = true) (hps : fn.params.toList = ts) (hread : ts.all (fun t => C.prog.readableRec t && decide (t < C.prog.types.size)) = true) (hres : fn.resultTypes = #[tb]) (hbool : C.prog.underlying tb = some .bool) (hvars : s.vars = [])
  (hsays : ∀ ds : List (DataW H), ds.length = ts.length → s.fn H ds = { results := [.lit (.bool true)], args := ds })
  (hcall : ∀ (W : World) (base : Nat) (args : Array Value) (ds : List (DataW H)) (p : List MemPlace), (∀ (j : Nat) t v, ts[j]? = some t → args[j]? = some v → Value.okWide C.prog W .any base t v) →
   DataW.TrodAll enc C.prog W 0 (fun _ => true) true ts args.toList ds p → (∀ x, x ∈ DataW.weightsEach C.prog ts ds → x ≤ reach) → laidMetH C.prog L W →
   Calls C.prog f args W fun e W' => e = .returned (.bool true) ∧ Below W.heap.size W W') :
  ReturnsInHanded {} C os f .any (fun w args => (s.pre enc C.prog fn conds false w args ∧ laidMetH C.prog L w) ∧ sizedMet enc C.prog fn (OpenSpec.ofChange s) false w args) (s.post enc C.prog fn false true false false) := by
 refine returnsInHanded_of_change_and (X := fun w _ => laidMetH C.prog L w) (fun _ _ _ hh h => h.of_heap hh) own started noInit hfn witness ?_
 intro W base args ds gs before hval hW hcnd hwt hL _
 have hW' := hW
 obtain ⟨p, q, hA, hV, rfl, hfz, hnd⟩ := hW
 rw [hvars] at hV
 obtain ⟨rfl, rfl⟩ := trodVars_none hV
 rw [hps] at hA hwt
 have hlen : ∀ {ts : List TypeId} {vs : List Value} {ds : List (DataW H)} {ps : List MemPlace}, DataW.TrodAll enc C.prog W 0 (fun _ => true) true ts vs ds ps → ds.length = ts.length := by
  intro ts
  induction ts with
  | nil => intro vs ds ps h; obtain ⟨_, rfl, _⟩ := trodAll_nil h; rfl
  | cons t ts ih =>
   intro vs ds ps h
   obtain ⟨v, vs1, d, ds1, a, b, rfl, rfl, rfl, _, h2⟩ := trodAll_cons h
   simp [ih h2]
 have hvt : s.plain.varTypes C.prog = [] := by
  have : s.plain.vars = [] := hvars
  unfold DataSpec.varTypes; rw [this]; rfl
 have hw2 : ∀ x, x ∈ DataW.weightsEach C.prog ts ds → x ≤ reach := by
  intro x hx
  rw [List.append_nil, hvt, List.append_nil] at hwt
  have := List.all_eq_true.mp hwt x hx
  exact of_decide_eq_true this
 refine (hcall W base args ds p (fun j t v ht hv => hval j t v (by rw [← Array.getElem?_toList, hps]; exact ht) hv) hA hw2 hL).mono ?_
 intro e W' ⟨he, hb⟩
 have hlt : ∀ x ∈ p, x.block < W.heap.size := fun x hx => hW'.lt x (by simpa using hx)
 refine ⟨.bool true, he, ds, [], p ++ [], [], p, [], hW', ?_, ?_, ?_, hb.frame _, fun h => by cases h⟩
 ·rw [List.append_nil, hsays ds (hlen hA), hres]
  exact ⟨[], [], ⟨1, by simp [DataW.trod, Value.cells, hbool]⟩, rfl, rfl⟩
 ·rw [List.append_nil, hsays ds (hlen hA), hps]
  refine Rl laid hb (fun t ht => ?_) hA hlt
  have := List.all_eq_true.mp hread t ht
  simpa using this
 ·rw [List.append_nil, hsays ds (hlen hA), hvars]
  rfl
theorem C2a {P : Program} {W : World} {nm : String} {t e : TypeId} {tab : List Nat} (hg : P.globalNamed nm = some 0) (ht : (P.globals[0]?).map (·.type) = some t) (hu : P.underlying t = some (.array tab.length e)) (he : P.underlying e = some (.int .u8)) (hc : P.cellsOf e = 1) (hc2 : P.cellsOf t = tab.length) (hpos : 0 < tab.length)
  (hp : ([(nm, (DataW.agg (tab.map fun (v : Nat) => .lit (.int .u8 (v : Int))) : DataW Unit))].all fun x => x.2.handleName?.isNone) = true) (h : laidMetH P [(nm, .agg (tab.map fun (v : Nat) => .lit (.int .u8 (v : Int))))] W) : TabAt 0 tab W ∧ 0 < W.heap.size := by
 rw [MakeChecks.laidMetH_plain _ _ _ hp] at h
 obtain ⟨ps, ⟨g0, t0, cs0, f0, p0, q0, hg0, ht0, hv0, hd0, _⟩, _⟩ := h
 obtain rfl := u_ hg hg0
 obtain rfl := u_ ht ht0
 obtain ⟨xs, m1, rfl, hx1, hlen, hn3, hel⟩ := DataW.trod_array hu hd0
 simp only [Prod.mk.injEq, DataW.agg.injEq] at hx1
 have hcell : ∀ j, j < tab.length → W.cell? ⟨0, j, none⟩ = some (.int .u8 (tab.getD j 0)) := by
  intro j hj
  have h1 := hel j hj
  rw [hc, Nat.mul_one, List.getElem?_eq_getElem A1] at h1
  obtain ⟨n, e1, e2, _⟩ := DataW.trod_int he h1
  have h2 := World.var?_cell hg0 hv0 j
  have h3 : cs0[j]? = some (.int .u8 n) := by
   have h4 := congrArg (fun l => l[0]?) e1
   simp only [List.getElem?_take, List.getElem?_drop, List.getElem?_cons_zero] at h4
   simpa using h4
  rw [h2, h3]
  have h5 : (tab.map fun (v : Nat) => (DataW.lit (.int .u8 (v : Int)) : DataW Unit))[j]? = (xs.map (·.1))[j]? := by rw [hx1.1]
  rw [List.getElem?_map, List.getElem?_map, List.getElem?_eq_getElem hj, List.getElem?_eq_getElem (show j < xs.length by omega)] at h5
  simp only [Option.map_some, Option.some.injEq] at h5
  rw [e2] at h5
  simp only [DataW.lit.injEq, Lit.int.injEq, true_and] at h5
  rw [List.getD_eq_getElem?_getD, List.getElem?_eq_getElem hj]
  simp [← h5]
 refine ⟨hcell, ?_⟩
 have h6 := hcell 0 hpos
 refine Nat.lt_of_not_le fun hz => ?_
 unfold World.cell? at h6
 rw [Array.getElem?_eq_none (show W.heap.size ≤ 0 from hz)] at h6
 simp at h6
theorem C2b {W : World} {tab : List Nat} (h : TabAt 0 tab W ∧ 0 < W.heap.size) : (At 0 0 (tab.map fun (v : Nat) => Value.int .u8 (v : Int))).f (okw W) W := by
 refine ⟨h.2, fun j v hj => ?_⟩
 rw [List.getElem?_map] at hj
 cases hq : tab[j]? with
 | none => rw [hq] at hj; cases hj
 | some k =>
  rw [hq] at hj
  injection hj with hj
  subst hj
  have hlt : j < tab.length := by
   refine Nat.lt_of_not_le fun hn => ?_
   rw [List.getElem?_eq_none hn] at hq
   cases hq
  have h1 := h.1 j hlt
  rw [List.getD_eq_getElem?_getD, hq] at h1
  rw [Nat.zero_add]
  exact h1
end Go.Hy
namespace Go.Hy
abbrev Wd : Type := Nat → Prop
def Hr (c : Cl) (P N : Wd) : Prop := (∀ i, c.pos.testBit i = true → P i) ∧ ∀ i, c.neg.testBit i = true → N i
def sat (l : List Cl) (P N : Wd) : Prop := ∃ c, c ∈ l ∧ Hr c P N
def Wo (s : Nat) : Wd := fun i => s.testBit i = true
def Ui (P N : Wd) : Prop := ∀ i, ¬ (P i ∧ N i)
theorem C3r {a b : Nat} : a ||| b = a ↔ ∀ i, b.testBit i = true → a.testBit i = true := by
 constructor
 ·intro h i hi
  rw [← h, Nat.testBit_or, hi, Bool.or_true]
 ·intro h
  refine Nat.eq_of_testBit_eq fun i => ?_
  rw [Nat.testBit_or]
  cases hb : b.testBit i with
  | false => simp
  | true => rw [h i hb]; rfl
theorem R8 {a b : Cl} : below a b = true ↔ Hr b (Wo a.pos) (Wo a.neg) := by
 unfold below Hr Wo
 rw [Bool.and_eq_true, decide_eq_true_eq, decide_eq_true_eq, C3r, C3r]
theorem B8y (c : Cl) : Hr c (Wo c.pos) (Wo c.neg) := ⟨fun i h => h, fun i h => h⟩
theorem Tg {a b : Cl} {P N : Wd} (h : below a b = true) (hs : Hr a P N) : Hr b P N := by
 have h1 := R8.mp h
 exact ⟨fun i hi => hs.1 i (h1.1 i hi), fun i hi => hs.2 i (h1.2 i hi)⟩
theorem B5o (c : Cl) : below c c = true := R8.mpr (B8y c)
theorem B2i {a b c : Cl} (h : below a b = true) (h2 : below b c = true) : below a c = true := R8.mpr (Tg h2 (R8.mp h))
theorem A0w {l : List Cl} {c : Cl} (h : Cm l c = true) : ∃ d, d ∈ l ∧ c ≠ d ∧ below c d = true := by
 unfold Cm at h
 obtain ⟨d, hd, h2⟩ := List.any_eq_true.mp h
 rw [Bool.and_eq_true] at h2
 exact ⟨d, hd, by simpa using h2.1, h2.2⟩
theorem Wb {l : List Cl} : ∀ (n : Nat) (c : Cl), c.pos + c.neg ≤ n → c ∈ l → ∃ d, d ∈ G2 l ∧ below c d = true
 | n, c, hn, hc => by
  cases h : Cm l c with
  | false => exact ⟨c, Fk.mpr ⟨hc, h⟩, B5o c⟩
  | true =>
   obtain ⟨d, hd, hne, hb⟩ := A0w h
   have h1 : c.pos ||| d.pos = c.pos ∧ c.neg ||| d.neg = c.neg := by
    unfold below at hb
    rw [Bool.and_eq_true, decide_eq_true_eq, decide_eq_true_eq] at hb
    exact hb
   have h2 : d.pos ≤ c.pos := by have := Nat.right_le_or (n := c.pos) (m := d.pos); omega
   have h3 : d.neg ≤ c.neg := by have := Nat.right_le_or (n := c.neg) (m := d.neg); omega
   have h4 : d.pos + d.neg < c.pos + c.neg := by
    refine Nat.lt_of_le_of_ne A1 fun he => hne ?_
    have e1 : c.pos = d.pos := by omega
    have e2 : c.neg = d.neg := by omega
    cases c; cases d; simp_all
   obtain ⟨e, he, h5⟩ := Wb (d.pos + d.neg) d (Nat.le_refl _) hd
   exact ⟨e, he, B2i hb h5⟩
termination_by n c => c.pos + c.neg
theorem A5i {l : List Cl} {P N : Wd} : sat (G2 l) P N ↔ sat l P N := by
 constructor
 ·rintro ⟨c, hc, h⟩; exact ⟨c, (Fk.mp hc).1, h⟩
 ·rintro ⟨c, hc, h⟩
  obtain ⟨d, hd, hb⟩ := Wb _ c (Nat.le_refl _) hc
  exact ⟨d, hd, Tg hb h⟩
theorem Gu {l : List Cl} {P N : Wd} (h : (Bm l).1 = 0) : sat (Bm l).2 P N ↔ sat l P N := by
 rcases L8 l with ⟨_, _, h2, _⟩ | h2 | h2
 ·rw [h2]; exact A5i
 ·rw [h2] at h; cases h
 ·rw [h2] at h; cases h
theorem Ie {l : List Cl} (h : Aq l = true) : l.all Bw = true := by
 unfold Aq at h
 simp only [Bool.and_eq_true] at h
 exact h.1.1.1
theorem Vf {c : Cl} : Hp c = false ↔ Ui (Wo c.pos) (Wo c.neg) := by
 unfold Hp Ui Wo
 rw [decide_eq_false_iff_not, Decidable.not_not]
 constructor
 ·rintro h i ⟨h1, h2⟩
  have h3 : (c.pos &&& c.neg).testBit i = true := by rw [Nat.testBit_and, h1, h2]; rfl
  rw [h, Nat.zero_testBit] at h3
  cases h3
 ·intro h
  refine Nat.eq_of_testBit_eq fun i => ?_
  rw [Nat.testBit_and, Nat.zero_testBit]
  cases h1 : c.pos.testBit i with
  | false => rfl
  | true => cases h2 : c.neg.testBit i with
   | false => rfl
   | true => exact absurd ⟨h1, h2⟩ (h i)
theorem Jy {l : List Cl} (h : B3 l = true) : Aq l = true ∧ ∀ c, c ∈ l → Hp c = false := by
 unfold B3 at h
 rw [Bool.and_eq_true, Bool.not_eq_true'] at h
 refine ⟨h.1, fun c hc => ?_⟩
 cases hq : Hp c with
 | false => rfl
 | true => rw [List.any_eq_true.mpr ⟨c, hc, hq⟩] at h; cases h.2
theorem C0y {l : List Cl} (h : Aq l = true) (h2 : ∀ c, c ∈ l → Hp c = false) : B3 l = true := by
 unfold B3
 rw [Bool.and_eq_true, Bool.not_eq_true', h]
 refine ⟨rfl, ?_⟩
 cases hq : l.any Hp with
 | false => rfl
 | true => obtain ⟨c, hc, h3⟩ := List.any_eq_true.mp hq; rw [h2 c hc] at h3; cases h3
section
variable {f g l : List Cl} {P N : Wd} {a b c : Cl}
theorem B6f : ¬ sat [] P N := by rintro ⟨c, hc, _⟩; cases hc
theorem S3 : sat (f ++ g) P N ↔ sat f P N ∨ sat g P N := by
 unfold sat
 simp only [List.mem_append]
 constructor
 ·rintro ⟨c, h | h, h2⟩
  ·exact .inl ⟨c, h, h2⟩
  ·exact .inr ⟨c, h, h2⟩
 ·rintro (⟨c, h, h2⟩ | ⟨c, h, h2⟩)
  ·exact ⟨c, .inl h, h2⟩
  ·exact ⟨c, .inr h, h2⟩
theorem Lu : sat [c] P N ↔ Hr c P N := by
 unfold sat
 constructor
 ·rintro ⟨d, hd, h⟩; rw [List.mem_singleton] at hd; subst hd; exact h
 ·intro h; exact ⟨c, List.mem_singleton.mpr rfl, h⟩
theorem C2l : Hr B5 P N := ⟨fun i hi => by simp [B5] at hi, fun i hi => by simp [B5] at hi⟩
theorem C7u : sat [B5] P N := Lu.mpr C2l
theorem A2f : Hr (Dk a b) P N ↔ Hr a P N ∧ Hr b P N := by
 unfold Hr Dk
 simp only [Nat.testBit_or, Bool.or_eq_true]
 constructor
 ·rintro ⟨h1, h2⟩; exact ⟨⟨fun i hi => h1 i (.inl hi), fun i hi => h2 i (.inl hi)⟩, fun i hi => h1 i (.inr hi), fun i hi => h2 i (.inr hi)⟩
 ·rintro ⟨h1, h2⟩; exact ⟨fun i hi => hi.elim (h1.1 i) (h2.1 i), fun i hi => hi.elim (h1.2 i) (h2.2 i)⟩
theorem Qq : sat (Mn f g) P N ↔ sat f P N ∧ sat g P N := by
 unfold sat Mn
 simp only [List.mem_flatMap, List.mem_map]
 constructor
 ·rintro ⟨c, ⟨a, ha, b, hb, rfl⟩, h⟩
  have h2 := A2f.mp h
  exact ⟨⟨a, ha, h2.1⟩, b, hb, h2.2⟩
 ·rintro ⟨⟨a, ha, h1⟩, b, hb, h2⟩
  exact ⟨_, ⟨a, ha, b, hb, rfl⟩, A2f.mpr ⟨h1, h2⟩⟩
theorem Xq (hw : Ui P N) : sat (Ez l) P N ↔ sat l P N := by
 unfold sat Ez
 constructor
 ·rintro ⟨c, hc, h⟩; exact ⟨c, (List.mem_filter.mp hc).1, h⟩
 ·rintro ⟨c, hc, h⟩
  refine ⟨c, List.mem_filter.mpr ⟨hc, ?_⟩, h⟩
  rw [Bool.not_eq_true', Vf]
  rintro i ⟨h1, h2⟩
  exact hw i ⟨h.1 i h1, h.2 i h2⟩
end
theorem Uk {i : Int} {j : Nat} : (Fu i).testBit j = true ↔ (0 ≤ i ∧ i < 24) ∧ (j : Int) = i := by
 unfold Fu
 split
 ·rename_i h
  rw [Nat.testBit_two_pow, decide_eq_true_eq]
  omega
 ·rename_i h
  rw [Nat.zero_testBit]
  constructor
  ·intro h2; cases h2
  ·rintro ⟨h2, _⟩; exact absurd h2 h
theorem J3 {s : Nat} {i : Int} {j : Nat} : (Dm s i).testBit j = true ↔ j < 24 ∧ s.testBit j = true ∧ (j : Int) ≠ i := by
 unfold Dm
 split
 ·rename_i h
  rw [Gl, E4, Nat.testBit_two_pow]
  simp only [Bool.and_eq_true, decide_eq_true_eq, Bool.not_eq_true', decide_eq_false_iff_not]
  constructor
  ·rintro ⟨⟨_, h2, h3⟩, h4⟩; exact ⟨h2, h3, by omega⟩
  ·rintro ⟨h1, h2, h3⟩; exact ⟨⟨by omega, h1, h2⟩, by omega⟩
 ·rename_i h
  rw [E4]
  simp only [Bool.and_eq_true, decide_eq_true_eq]
  constructor
  ·rintro ⟨h1, h2⟩; exact ⟨h1, h2, by omega⟩
  ·rintro ⟨h1, h2, _⟩; exact ⟨h1, h2⟩
theorem Hm {c : Cl} (h : Bw c = true) : (∀ i, c.pos.testBit i = true → i < 24) ∧ ∀ i, c.neg.testBit i = true → i < 24 := by
 obtain ⟨h1, h2⟩ := Vw.mp h
 have key : ∀ s i : Nat, s < 16777216 → s.testBit i = true → i < 24 := fun s i hs hi => by
  refine Decidable.byContradiction fun hn => ?_
  have h3 : s < 2 ^ i := Nat.lt_of_lt_of_le (show s < 2 ^ 24 by omega) (Nat.pow_le_pow_right A1 A1)
  rw [Nat.testBit_lt_two_pow h3] at hi
  cases hi
 exact ⟨fun i hi => key _ i h1 hi, fun i hi => key _ i h2 hi⟩
theorem B8x {c : Cl} {i : Int} {P N : Wd} (hc : Bw c = true) : Hr (C1 c i) P N ↔ (∀ j : Nat, c.pos.testBit j = true → (j : Int) ≠ i → P j) ∧ ∀ j : Nat, c.neg.testBit j = true → (j : Int) ≠ i → N j := by
 obtain ⟨h1, h2⟩ := Hm hc
 unfold Hr C1
 simp only [J3]
 exact ⟨fun h => ⟨fun j hj hn => h.1 j ⟨h1 j hj, hj, hn⟩, fun j hj hn => h.2 j ⟨h2 j hj, hj, hn⟩⟩, fun h => ⟨fun j hj => h.1 j hj.2.1 hj.2.2, fun j hj => h.2 j hj.2.1 hj.2.2⟩⟩
theorem Qx {s : Nat} {x : Int} : x ∈ Bd s ↔ 0 ≤ x ∧ x < 24 ∧ s.testBit x.toNat = true := Jv
theorem C7t {c : Cl} {P N : Wd} (hc : Bw c = true) : sat (A0s c) P N ↔ (∃ i, c.pos.testBit i = true ∧ N i) ∨ ∃ i, c.neg.testBit i = true ∧ P i := by
 obtain ⟨b1, b2⟩ := Hm hc
 unfold A0s
 rw [S3]
 have one : ∀ (s : Nat) (hs : ∀ i, s.testBit i = true → i < 24) (mk : Nat → Cl) (Q : Wd) (hq : ∀ x : Int, 0 ≤ x → x < 24 → (Hr (mk (Fu x)) P N ↔ Q x.toNat)), sat ((Bd s).map fun i => mk (Fu i)) P N ↔ ∃ i, s.testBit i = true ∧ Q i := by
  intro s hs mk Q hq
  unfold sat
  simp only [List.mem_map]
  constructor
  ·rintro ⟨_, ⟨x, hx, rfl⟩, h⟩
   obtain ⟨x0, x1, x2⟩ := Qx.mp hx
   exact ⟨x.toNat, x2, (hq x x0 x1).mp h⟩
  ·rintro ⟨i, hi, h⟩
   have h3 := hs i hi
   exact ⟨_, ⟨(i : Int), Qx.mpr ⟨by omega, by omega, by simpa using hi⟩, rfl⟩, (hq (i : Int) A1 A1).mpr (by simpa using h)⟩
 have e1 := one c.pos b1 (fun s => ⟨0, s⟩) N (fun x x0 x1 => by
  unfold Hr
  simp only [Nat.zero_testBit, Uk]
  constructor
  ·intro h; exact h.2 x.toNat ⟨⟨x0, x1⟩, by omega⟩
  ·intro h; exact ⟨fun i hi => (by cases hi), fun i hi => (show i = x.toNat by omega) ▸ h⟩)
 have e2 := one c.neg b2 (fun s => ⟨s, 0⟩) P (fun x x0 x1 => by
  unfold Hr
  simp only [Nat.zero_testBit, Uk]
  constructor
  ·intro h; exact h.1 x.toNat ⟨⟨x0, x1⟩, by omega⟩
  ·intro h; exact ⟨fun i hi => (show i = x.toNat by omega) ▸ h, fun i hi => (by cases hi)⟩)
 exact or_congr e1 e2
theorem Nr {g : List Cl → Cl → EL} {L : List Cl} {I : List Cl → List Cl → Prop} (hs : ∀ pre c h, c ∈ L → I pre h → (g h c).1 = 0 → I (pre ++ [c]) (g h c).2) : ∀ (m pre h : List Cl), I pre h → (∀ c, c ∈ m → c ∈ L) → (Cu g h m).1 = 0 → I (pre ++ m) (Cu g h m).2
 | [], pre, h, hi, _, _ => by rw [List.append_nil]; exact hi
 | c :: m, pre, h, hi, hm, h0 => by
  rw [Cu] at h0 ⊢
  by_cases h1 : (g h c).1 = 0
  ·rw [E2 h1] at h0 ⊢
   have h2 := Nr hs m (pre ++ [c]) _ (hs pre c h (hm c List.mem_cons_self) hi h1) (fun d hd => hm d (List.mem_cons_of_mem _ hd)) h0
   rwa [List.append_assoc] at h2
  ·rw [Du h1] at h0
   exact absurd h0 h1
theorem Cy {x : EL} {k : List Cl → EL} (h : (Hq x k).1 = 0) : x.1 = 0 ∧ (k x.2).1 = 0 ∧ Hq x k = k x.2 := by
 by_cases h1 : x.1 = 0
 ·rw [E2 h1] at h ⊢; exact ⟨h1, h, rfl⟩
 ·rw [Du h1] at h; exact absurd h h1
def Wl (P : Wd) : Wd := fun i => ¬ P i
theorem B6e {f : List Cl} {P N : Wd} (hf : ∀ c, c ∈ f → Bw c = true) (h : (Pf f).1 = 0) : sat (Pf f).2 P N ↔ ¬ sat f (Wl N) (Wl P) := by
 have h2 := Nr (g := E6) (L := f) (I := fun pre h => ∀ P N, sat h P N ↔ ∀ c, c ∈ pre → ¬ Hr c (Wl N) (Wl P)) (fun pre c h hc hi h0 P N => by
  unfold E6 at h0 ⊢
  obtain ⟨a1, a2, a3⟩ := Cy h0
  rw [a3]
  unfold Jd at a2 ⊢
  rw [Gu a2, Qq, hi]
  unfold A5t at a1 ⊢
  rw [Gu a1, C7t (hf c hc)]
  simp only [List.mem_append, List.mem_singleton, or_imp, forall_and, forall_eq]
  refine and_congr Iff.rfl ?_
  unfold Hr Wl
  constructor
  ·rintro (⟨i, hi, hn⟩ | ⟨i, hi, hn⟩) ⟨h1, h2⟩
   ·exact h1 i hi hn
   ·exact h2 i hi hn
  ·intro h1
   refine Classical.byContradiction fun h2 => h1 ⟨fun i hi hn => h2 (.inl ⟨i, hi, hn⟩), fun i hi hn => h2 (.inr ⟨i, hi, hn⟩)⟩) f [] [B5] (fun P N => ⟨fun _ c hc => (by cases hc), fun _ => C7u⟩) (fun c hc => hc) h P N
 rw [List.nil_append] at h2
 unfold Pf
 rw [h2]
 unfold sat
 constructor
 ·rintro h3 ⟨c, hc, h4⟩; exact h3 c hc h4
 ·intro h3 c hc h4; exact h3 ⟨c, hc, h4⟩
def ovr (P : Wd) (i : Int) (A : Prop) : Wd := fun j => if (j : Int) = i then A else P j
theorem Ti {c : Cl} {i : Int} {P N : Wd} {A A' : Prop} (hc : Bw c = true) : Hr c (ovr P i A) (ovr N i A') ↔ Hr (C1 c i) P N ∧ (Ft c.pos i = true → A) ∧ (Ft c.neg i = true → A') := by
 obtain ⟨b1, b2⟩ := Hm hc
 rw [B8x hc]
 unfold Hr ovr Ft
 simp only [Bool.and_eq_true, decide_eq_true_eq]
 constructor
 ·rintro ⟨h1, h2⟩
  refine ⟨⟨fun j hj hn => ?_, fun j hj hn => ?_⟩, ?_, ?_⟩
  ·have := h1 j hj; rwa [if_neg hn] at this
  ·have := h2 j hj; rwa [if_neg hn] at this
  ·rintro ⟨⟨h3, h4⟩, h5⟩; have := h1 _ h5; rwa [if_pos A1] at this
  ·rintro ⟨⟨h3, h4⟩, h5⟩; have := h2 _ h5; rwa [if_pos A1] at this
 ·rintro ⟨⟨h1, h2⟩, h3, h4⟩
  refine ⟨fun j hj => ?_, fun j hj => ?_⟩
  ·split
   ·rename_i h; have := b1 j hj; exact h3 ⟨⟨by omega, by omega⟩, by rw [← h]; simpa using hj⟩
   ·rename_i h; exact h1 j hj h
  ·split
   ·rename_i h; have := b2 j hj; exact h4 ⟨⟨by omega, by omega⟩, by rw [← h]; simpa using hj⟩
   ·rename_i h; exact h2 j hj h
theorem A9b {f r : List Cl} {i : Int} {P N : Wd} (h : (Bn f i r).1 = 0) : Aq f = true ∧ Aq r = true ∧ (0 ≤ i ∧ i < 24) ∧ (sat (Bn f i r).2 P N ↔ sat f (ovr P i (sat r P N)) (ovr N i (¬ sat r (Wl N) (Wl P)))) := by
 unfold Bn at h ⊢
 split at h
 ·cases h
 ·rename_i h1
  split at h
  ·cases h
  ·rename_i h2
   rw [if_neg h1, if_neg h2]
   simp only [Bool.not_eq_false, Bool.and_eq_true] at h1
   have h3 : 0 ≤ i ∧ i < 24 := by unfold Fc at h2; simpa using h2
   refine ⟨h1.1, h1.2, h3, ?_⟩
   have hr := Ie h1.2
   have hf := Ie h1.1
   have h4 := Nr (g := C2 i r) (L := f) (I := fun pre h => ∀ P N, sat h P N ↔ ∃ c, c ∈ pre ∧ Hr c (ovr P i (sat r P N)) (ovr N i (¬ sat r (Wl N) (Wl P)))) (fun pre c h hc hi h0 P N => by
    unfold C2 at h0 ⊢
    obtain ⟨a1, a2, a3⟩ := Cy h0
    rw [a3]
    obtain ⟨b1, b2, b3⟩ := Cy a2
    rw [b3]
    unfold Fl at b2 ⊢
    rw [Gu b2, S3, hi]
    have hc24 := List.all_eq_true.mp hf c hc
    have e1 : ∀ P N, sat (Gw i r c).2 P N ↔ Hr (C1 c i) P N ∧ (Ft c.pos i = true → sat r P N) := by
     intro P N
     unfold Gw at a1 ⊢
     split
     ·rename_i h5
      rw [if_pos h5] at a1
      unfold Jd at a1 ⊢
      rw [Gu a1, Qq, Lu]
      exact ⟨fun h => ⟨h.1, fun _ => h.2⟩, fun h => ⟨h.1, h.2 h5⟩⟩
     ·rename_i h5
      rw [Lu]
      exact ⟨fun h => ⟨h, fun h6 => absurd h6 h5⟩, fun h => h.1⟩
    have e2 : sat (Ja i r c (Gw i r c).2).2 P N ↔ sat (Gw i r c).2 P N ∧ (Ft c.neg i = true → ¬ sat r (Wl N) (Wl P)) := by
     unfold Ja at b1 ⊢
     split
     ·rename_i h5
      rw [if_pos h5] at b1
      obtain ⟨d1, d2, d3⟩ := Cy b1
      rw [d3]
      unfold Jd at d2 ⊢
      rw [Gu d2, Qq, B6e (fun c hc => List.all_eq_true.mp hr c hc) d1]
      exact ⟨fun h => ⟨h.1, fun _ => h.2⟩, fun h => ⟨h.1, h.2 h5⟩⟩
     ·rename_i h5
      exact ⟨fun h => ⟨h, fun h6 => absurd h6 h5⟩, fun h => h.1⟩
    rw [e2, e1]
    simp only [List.mem_append, List.mem_singleton]
    constructor
    ·rintro (⟨d, hd, hs⟩ | hs)
     ·exact ⟨d, .inl hd, hs⟩
     ·exact ⟨c, .inr rfl, (Ti hc24).mpr ⟨hs.1.1, hs.1.2, hs.2⟩⟩
    ·rintro ⟨d, hd | hd, hs⟩
     ·exact .inl ⟨d, hd, hs⟩
     ·subst hd
      obtain ⟨q1, q2, q3⟩ := (Ti hc24).mp hs
      exact .inr ⟨⟨q1, q2⟩, q3⟩) f [] [] (fun P N => ⟨fun h => absurd h B6f, fun ⟨c, hc, _⟩ => (by cases hc)⟩) (fun c hc => hc) h P N
   rw [List.nil_append] at h4
   exact h4
theorem C2k {r : List Cl} {P N : Wd} (hw : Ui P N) (h : (Wx r).1 = 0) : sat (Wx r).2 P N ↔ sat r P N := by
 unfold Wx at h ⊢
 split at h
 ·rename_i h1
  rw [if_pos h1, Gu h, Xq hw]
 ·cases h
theorem B3j {r : List Cl} {P N : Wd} (hw : Ui P N) (h : (Gx r).1 = 0) : sat (Gx r).2 P N ↔ ¬ sat r (Wl N) (Wl P) := by
 unfold Gx at h ⊢
 obtain ⟨a1, a2, a3⟩ := Cy h
 rw [a3, C2k hw a2]
 unfold S7 at a1 ⊢
 split at a1
 ·rename_i h1
  rw [if_pos h1, B6e (fun c hc => List.all_eq_true.mp (Ie h1) c hc) a1]
 ·cases a1
theorem V6 {c : Cl} {x : List Cl} : Kh [c] x = Bm (Ez (x.map fun b => Dk c b)) := by
 unfold Kh
 simp
theorem Th {c : Cl} {x : List Cl} {P N : Wd} : sat (x.map fun b => Dk c b) P N ↔ Hr c P N ∧ sat x P N := by
 have h := Qq (f := [c]) (g := x) (P := P) (N := N)
 rw [Lu] at h
 rw [← h]
 unfold Mn
 simp
theorem B5i {c : Cl} {i : Int} (h : Hp c = false) : Hp (C1 c i) = false := by
 rw [Vf] at h ⊢
 rintro j ⟨h1, h2⟩
 exact h j ⟨(J3.mp h1).2.1, (J3.mp h2).2.1⟩
theorem has_both {c : Cl} {i : Int} (h : Hp c = false) (h1 : Ft c.pos i = true) : Ft c.neg i = false := by
 cases h2 : Ft c.neg i with
 | false => rfl
 | true =>
  unfold Ft at h1 h2
  simp only [Bool.and_eq_true] at h1 h2
  exact absurd ⟨h1.2, h2.2⟩ (Vf.mp h _)
theorem C2j {c : Cl} {r : List Cl} {i : Int} {P N : Wd} (hw : Ui P N) (hcl : Hp c = false) (h : (Cv i r c).1 = 0) : sat (Cv i r c).2 P N ↔ Hr (C1 c i) P N ∧ (Ft c.pos i = true → sat r P N) ∧ (Ft c.neg i = true → ¬ sat r (Wl N) (Wl P)) := by
 unfold Cv at h ⊢
 split at h
 ·rename_i h1
  rw [if_pos h1]
  obtain ⟨a1, a2, a3⟩ := Cy h
  rw [a3]
  rw [V6] at a2 ⊢
  rw [Gu a2, Xq hw, Th, C2k hw a1]
  have h2 := has_both hcl h1
  exact ⟨fun h => ⟨h.1, fun _ => h.2, fun h3 => by rw [h2] at h3; cases h3⟩, fun h => ⟨h.1, h.2.1 h1⟩⟩
 ·rename_i h1
  rw [if_neg h1]
  split at h
  ·rename_i h2
   rw [if_pos h2]
   obtain ⟨a1, a2, a3⟩ := Cy h
   rw [a3]
   rw [V6] at a2 ⊢
   rw [Gu a2, Xq hw, Th, B3j hw a1]
   exact ⟨fun h => ⟨h.1, fun h3 => absurd h3 h1, fun _ => h.2⟩, fun h => ⟨h.1, h.2.2 h2⟩⟩
  ·rename_i h2
   rw [if_neg h2, Lu]
   exact ⟨fun h => ⟨h, fun h3 => absurd h3 h1, fun h3 => absurd h3 h2⟩, fun h => h.1⟩
theorem B9k {c : Cl} {r : List Cl} {i : Int} (hcl : Hp c = false) (h : (Cv i r c).1 = 0) : ∀ d, d ∈ (Cv i r c).2 → Hp d = false := by
 have key : ∀ x : List Cl, (Kh [C1 c i] x).1 = 0 → ∀ d, d ∈ (Kh [C1 c i] x).2 → Hp d = false := by
  intro x hx d hd
  rw [V6] at hx hd
  have h2 := On hx hd
  unfold Ez at h2
  simpa using (List.mem_filter.mp h2).2
 unfold Cv at h ⊢
 split at h
 ·rename_i h1
  rw [if_pos h1]
  obtain ⟨a1, a2, a3⟩ := Cy h
  rw [a3]
  exact key _ a2
 ·rename_i h1
  rw [if_neg h1]
  split at h
  ·rename_i h2
   rw [if_pos h2]
   obtain ⟨a1, a2, a3⟩ := Cy h
   rw [a3]
   exact key _ a2
  ·rename_i h2
   rw [if_neg h2]
   intro d hd
   rw [List.mem_singleton] at hd
   subst hd
   exact B5i hcl
theorem Ps {f r : List Cl} {i : Int} (h : (Bb f i r).1 = 0) : B3 f = true ∧ Aq r = true ∧ (0 ≤ i ∧ i < 24) ∧ B3 (Bb f i r).2 = true ∧ ∀ P N, Ui P N → (sat (Bb f i r).2 P N ↔ sat f (ovr P i (sat r P N)) (ovr N i (¬ sat r (Wl N) (Wl P)))) := by
 unfold Bb at h ⊢
 split at h
 ·cases h
 ·rename_i h1
  rw [if_neg h1]
  simp only [Bool.not_eq_false, Bool.and_eq_true] at h1
  obtain ⟨⟨hf, hi⟩, hr⟩ := h1
  have h3 : 0 ≤ i ∧ i < 24 := by unfold Fc at hi; simpa using hi
  obtain ⟨hff, hfc⟩ := Jy hf
  have hf24 := Ie hff
  refine ⟨hf, hr, h3, ?_⟩
  have h4 := Nr (g := Cc i r) (L := f) (I := fun pre h => B3 h = true ∧ ∀ P N, Ui P N → (sat h P N ↔ ∃ c, c ∈ pre ∧ Hr c (ovr P i (sat r P N)) (ovr N i (¬ sat r (Wl N) (Wl P))))) (fun pre c h hc hi h0 => by
   unfold Cc at h0 ⊢
   obtain ⟨a1, a2, a3⟩ := Cy h0
   rw [a3]
   unfold Fl at a2 ⊢
   have hcl := hfc c hc
   refine ⟨C0y (Qz a2) fun d hd => ?_, fun P N hw => ?_⟩
   ·rcases List.mem_append.mp (On a2 hd) with hd | hd
    ·exact (Jy hi.1).2 d hd
    ·exact B9k hcl a1 d hd
   ·rw [Gu a2, S3, hi.2 P N hw, C2j hw hcl a1]
    have hc24 := List.all_eq_true.mp hf24 c hc
    simp only [List.mem_append, List.mem_singleton]
    constructor
    ·rintro (⟨d, hd, hs⟩ | hs)
     ·exact ⟨d, .inl hd, hs⟩
     ·exact ⟨c, .inr rfl, (Ti hc24).mpr hs⟩
    ·rintro ⟨d, hd | hd, hs⟩
     ·exact .inl ⟨d, hd, hs⟩
     ·subst hd
      exact .inr ((Ti hc24).mp hs)) f [] [] ⟨by decide, fun P N _ => ⟨fun h => absurd h B6f, fun ⟨c, hc, _⟩ => (by cases hc)⟩⟩ (fun c hc => hc) h
  rw [List.nil_append] at h4
  exact h4
theorem Z1 {f r : List Cl} {i : Int} (h : (Bn f i r).1 = 0) : Aq (Bn f i r).2 = true := by
 unfold Bn at h ⊢
 split at h
 ·cases h
 ·rename_i h1
  split at h
  ·cases h
  ·rename_i h2
   rw [if_neg h1, if_neg h2]
   exact Nr (g := C2 i r) (L := f) (I := fun pre h => Aq h = true) (fun pre c h hc hi h0 => by
    unfold C2 at h0 ⊢
    obtain ⟨a1, a2, a3⟩ := Cy h0
    rw [a3]
    obtain ⟨b1, b2, b3⟩ := Cy a2
    rw [b3]
    exact Qz b2) f [] [] F2 (fun c hc => hc) h
def shW (P : Wd) (f b : Int) : Wd := fun j => if (j : Int) < f then P j else P (j + b.toNat)
theorem A2g {c : Cl} {f b : Int} {P N : Wd} (h : (Bi c f b).1 = 0) : Hr (Bi c f b).2 P N ↔ Hr c (shW P f b) (shW N f b) := by
 obtain ⟨hr, h1, h2, h3⟩ := A4c h
 obtain ⟨b1, b2⟩ := Hm hr
 obtain ⟨f0, b0, _⟩ := Oi h1 0
 rw [h3]
 have key : ∀ (s : Nat) (hs : ∀ i, s.testBit i = true → i < 24) (hm : (As s f b).1 = 0) (Q : Wd), (∀ i, (As s f b).2.testBit i = true → Q i) ↔ ∀ i, s.testBit i = true → shW Q f b i := by
  intro s hs hm Q
  constructor
  ·intro h i hi
   unfold shW
   split
   ·rename_i h4; exact h i ((L5 hm i).mpr ⟨i, hs i hi, hi, .inl ⟨h4, rfl⟩⟩)
   ·rename_i h4; exact h _ ((L5 hm _).mpr ⟨i, hs i hi, hi, .inr ⟨by omega, by omega⟩⟩)
  ·intro h i hi
   obtain ⟨j, _, hj, h4⟩ := (L5 hm i).mp hi
   have h5 := h j hj
   unfold shW at h5
   rcases h4 with ⟨h4, h6⟩ | ⟨h4, h6⟩
   ·rw [if_pos h4] at h5; rw [h6]; exact h5
   ·rw [if_neg A1] at h5; rw [show i = j + b.toNat by omega]; exact h5
 unfold Hr
 exact and_congr (key _ b1 h1 P) (key _ b2 h2 N)
theorem A8z {l : List Cl} {f b : Int} {P N : Wd} (h : (Ae l f b).1 = 0) : sat (Ae l f b).2 P N ↔ sat l (shW P f b) (shW N f b) := by
 obtain ⟨_, h2, h3⟩ := M8 h
 rw [h3] at h ⊢
 rw [Gu h]
 unfold sat
 simp only [List.mem_map]
 constructor
 ·rintro ⟨_, ⟨c, hc, rfl⟩, hs⟩; exact ⟨c, hc, (A2g (h2 c hc)).mp hs⟩
 ·rintro ⟨c, hc, hs⟩; exact ⟨_, ⟨c, hc, rfl⟩, (A2g (h2 c hc)).mpr hs⟩
theorem C0o {s : Nat} {i : Int} (h0 : 0 ≤ i) {k : Nat} : (Fx s i).testBit k = true ↔ ∃ j, j < 24 ∧ s.testBit j = true ∧ (((j : Int) < i ∧ k = j) ∨ (i < (j : Int) ∧ k + 1 = j)) := by
 unfold Fx
 split
 ·rename_i h
  rw [Nat.testBit_or, Nat.testBit_and, M5, Nat.testBit_mul_two_pow, Nat.testBit_div_two_pow, E4, E4]
  simp only [Bool.or_eq_true, Bool.and_eq_true, decide_eq_true_eq]
  constructor
  ·rintro (⟨⟨h1, h2⟩, h3⟩ | ⟨h1, h2, h3⟩)
   ·exact ⟨k, h1, h2, .inl ⟨by omega, rfl⟩⟩
   ·exact ⟨_, h2, h3, .inr ⟨by omega, by omega⟩⟩
  ·rintro ⟨j, h1, h2, ⟨h3, h4⟩ | ⟨h3, h4⟩⟩
   ·subst h4; exact .inl ⟨⟨h1, h2⟩, by omega⟩
   ·refine .inr ⟨by omega, ?_⟩
    rw [show k - i.toNat + (i.toNat + 1) = j by omega]
    exact ⟨h1, h2⟩
 ·rename_i h
  rw [E4]
  simp only [Bool.and_eq_true, decide_eq_true_eq]
  constructor
  ·rintro ⟨h1, h2⟩; exact ⟨k, h1, h2, .inl ⟨by omega, rfl⟩⟩
  ·rintro ⟨j, h1, h2, ⟨h3, h4⟩ | ⟨h3, h4⟩⟩
   ·subst h4; exact ⟨h1, h2⟩
   ·omega
theorem A0n {c : Cl} {i : Int} {P N : Wd} {A A' : Prop} (h : ∀ j : Nat, (c.pos ||| c.neg).testBit j = true → (j : Int) ≠ i) : Hr c (ovr P i A) (ovr N i A') ↔ Hr c P N := by
 unfold Hr ovr
 constructor
 ·rintro ⟨h1, h2⟩
  refine ⟨fun j hj => ?_, fun j hj => ?_⟩
  ·have := h1 j hj; rwa [if_neg (h j (by rw [Nat.testBit_or, hj]; rfl))] at this
  ·have := h2 j hj; rwa [if_neg (h j (by rw [Nat.testBit_or, hj, Bool.or_true]))] at this
 ·rintro ⟨h1, h2⟩
  refine ⟨fun j hj => ?_, fun j hj => ?_⟩
  ·rw [if_neg (h j (by rw [Nat.testBit_or, hj]; rfl))]; exact h1 j hj
  ·rw [if_neg (h j (by rw [Nat.testBit_or, hj, Bool.or_true]))]; exact h2 j hj
theorem C5g {f : List Cl} {i : Int} (hf : f.all Bw = true) (h : Ft (G9 f) i = false) {c : Cl} (hc : c ∈ f) (j : Nat) (hj : (c.pos ||| c.neg).testBit j = true) : (j : Int) ≠ i := by
 intro e
 subst e
 obtain ⟨b1, b2⟩ := Hm (List.all_eq_true.mp hf c hc)
 have hlt : j < 24 := by
  rw [Nat.testBit_or, Bool.or_eq_true] at hj
  exact hj.elim (b1 j) (b2 j)
 unfold Ft at h
 rw [decide_eq_true (show (0 : Int) ≤ (j : Int) by omega), decide_eq_true (show (j : Int) < 24 by omega)] at h
 simp only [Bool.true_and, Int.toNat_natCast] at h
 rw [Lh.mpr ⟨hlt, c, hc, hj⟩] at h
 cases h
theorem A9a {f : List Cl} {i : Int} {P N : Wd} {A A' : Prop} (hf : f.all Bw = true) (h : Ft (G9 f) i = false) : sat f (ovr P i A) (ovr N i A') ↔ sat f P N := by
 unfold sat
 exact exists_congr fun c => and_congr_right fun hc => A0n (fun j hj => C5g hf h hc j hj)
def uE : T := .mk 3 0 ⟨#[]⟩ [] [] []
def aE (t u : T) : T := .mk 6 0 ⟨#[]⟩ [] [t, u] []
def lE (t : T) : T := .mk 5 0 ⟨#[]⟩ [] [t] []
def lpE (r : List Cl) : T := .mk 21 0 ⟨#[]⟩ r [] []
def hcF : T := .mk 15 0 ⟨#[]⟩ [] [uE, uE] []
theorem B8t {x : Int × T} {k : T → Int × T} (hx : Kf x.2) (h : ∀ u, Kf u → Kf (k u).2) : Kf (Xh x k).2 := by
 by_cases h1 : x.1 = 0
 ·rw [T9 h1]; exact h _ hx
 ·rw [Qn h1]; exact Ob
theorem A6z {t : T} {i : Int} {r : List Cl} (h : Kf t) : Kf (Ak t i r).2 := by
 unfold Ak
 split
 ·exact Ob
 ·split
  ·exact Ob
  ·exact B8t (Vi (B6s _ _) h) fun u hu => Vi (C3v i) hu
theorem Sd {k n : Int} {nm : ByteArray} {r : List Cl} (h : Q7 k n nm r) : (k = 14 → B3 r = true) ∧ Aq r = true := by
 obtain ⟨_, _, h3, h4, h5, h6, h7⟩ := h
 refine ⟨h6, ?_⟩
 by_cases e : k = 13 ∨ k = 21 ∨ k = 26
 ·exact h5 e
 ·by_cases e2 : k = 14
  ·exact (Jy (h6 e2)).1
  ·rw [h7 A1]; decide
theorem C2t {P : List Cl → Int → List Cl → EL} {i d : Int} {r f : List Cl} (h : Ft (G9 f) (i + d) = false) : Cp P i r d f = (0, f) := by
 unfold Cp
 rw [if_pos h]
section
variable {C : Type} {A : Tr C}
end
theorem C3p {t : T} {v e e' : Int} (he : 24 ≤ e') (ho : I3 t v e = true) : I3 t (-1) e' = true := by
 have hw : ∀ l : List Cl, within l e' = true := fun l => Ql l he
 rw [A5s] at ho ⊢
 obtain ⟨o1, o2⟩ := ho
 refine ⟨o1, ?_⟩
 by_cases k1 : t.kind = 1
 ·rw [if_pos k1] at o2 ⊢
  exact ⟨o2.1, o2.2.1, .inl F2⟩
 ·rw [if_neg k1] at o2 ⊢
  by_cases k2 : t.kind = 2
  ·rw [if_pos k2] at o2 ⊢; exact o2
  ·rw [if_neg k2] at o2 ⊢
   by_cases k3 : t.kind = 13 ∨ t.kind = 21 ∨ t.kind = 26
   ·rw [if_pos k3] at o2 ⊢; exact ⟨o2.1, hw _⟩
   ·rw [if_neg k3] at o2 ⊢
    by_cases k4 : t.kind = 14
    ·rw [if_pos k4] at o2 ⊢; exact ⟨o2.1, hw _⟩
    ·rw [if_neg k4] at o2 ⊢
     exact ⟨fun x hx => M0.mpr ⟨(M0.mp (o2.1 x hx)).1, hw _⟩, o2.2⟩
theorem C6q {bd : Bool} : ∀ (t : T) {v e e' : Int}, 24 ≤ e' → Mh t v e bd = true → Mh t (-1) e' false = true := T.ind fun t ih v e e' he ha => by
 rw [A7o] at ha ⊢
 obtain ⟨a1, a2, a3⟩ := ha
 refine ⟨by simp, C3p he a2, fun p hp => ?_⟩
 have h1 := Kd hp
 rw [if_pos F2, show IntKind.i64.wrap (-1 + 0) = -1 by decide]
 exact ih p hp A1 (a3 p hp)
theorem A6q {t : T} {v e : Int} (h : Fe t v e = 0) : A7 t = 0 := by
 obtain ⟨_, _, _, h4, h5⟩ := Xw.mp h
 exact Q9.mpr ⟨h4, C6q t (Int.le_refl 24) h5⟩
theorem C2h (N : Wd) (f b : Int) : shW (Wl N) f b = Wl (shW N f b) := by
 funext j
 unfold shW Wl
 by_cases h : (j : Int) < f
 ·simp only [if_pos h]
 ·simp only [if_neg h]
def atP (r : List Cl) (d : Int) (P N : Wd) : Prop := sat r (shW P 0 d) (shW N 0 d)
def atN (r : List Cl) (d : Int) (P N : Wd) : Prop := ¬ sat r (Wl (shW N 0 d)) (Wl (shW P 0 d))
theorem B2j {r : List Cl} {d : Int} {P N : Wd} (h : (Ae r 0 d).1 = 0) : sat (Ae r 0 d).2 P N ↔ atP r d P N := A8z h
theorem B2k {r : List Cl} {d : Int} {P N : Wd} (h : (Ae r 0 d).1 = 0) : (¬ sat (Ae r 0 d).2 (Wl N) (Wl P)) ↔ atN r d P N := by
 unfold atN
 rw [A8z h, C2h, C2h]
theorem A8x {f r x : List Cl} {i d : Int} {P N : Wd} (hf : Aq f = true) (h : Cp Bn i r d f = (0, x)) : Aq x = true ∧ (sat x P N ↔ sat f (ovr P (i + d) (atP r d P N)) (ovr N (i + d) (atN r d P N))) := by
 unfold Cp at h
 split at h
 ·rename_i h1
  injection h with _ h
  subst h
  exact ⟨hf, (A9a (Ie hf) h1).symm⟩
 ·obtain ⟨a1, a2, a3⟩ := Cy (by rw [h] : (Hq (Ae r 0 d) fun s => Bn f (i + d) s).1 = 0)
  rw [a3] at h
  have h0 : (Bn f (i + d) (Ae r 0 d).2).1 = 0 := by rw [h]
  have hx : x = (Bn f (i + d) (Ae r 0 d).2).2 := by rw [h]
  rw [hx]
  refine ⟨Z1 h0, ?_⟩
  rw [(A9b h0).2.2.2]
  rw [propext (B2j (P := P) (N := N) a1), propext (B2k (P := P) (N := N) a1)]
theorem A8y {f r x : List Cl} {i d : Int} (hf : B3 f = true) (h : Cp Bb i r d f = (0, x)) : B3 x = true ∧ ∀ P N, Ui P N → (sat x P N ↔ sat f (ovr P (i + d) (atP r d P N)) (ovr N (i + d) (atN r d P N))) := by
 unfold Cp at h
 split at h
 ·rename_i h1
  injection h with _ h
  subst h
  exact ⟨hf, fun P N _ => (A9a (Ie (Jy hf).1) h1).symm⟩
 ·obtain ⟨a1, a2, a3⟩ := Cy (by rw [h] : (Hq (Ae r 0 d) fun s => Bb f (i + d) s).1 = 0)
  rw [a3] at h
  have h0 : (Bb f (i + d) (Ae r 0 d).2).1 = 0 := by rw [h]
  have hx : x = (Bb f (i + d) (Ae r 0 d).2).2 := by rw [h]
  rw [hx]
  refine ⟨(Ps h0).2.2.2.1, fun P N hw => ?_⟩
  rw [(Ps h0).2.2.2.2 P N hw]
  rw [propext (B2j (P := P) (N := N) a1), propext (B2k (P := P) (N := N) a1)]
def La (b : Br) : Bool := decide (b.Ah = [B5])
def Dj : List Br → Int
 | [] => -1
 | b :: l => if La b then 0 else if Dj l = -1 then -1 else Dj l + 1
theorem A1v : ∀ l, -1 ≤ Dj l
 | [] => Int.le_refl _
 | b :: l => by
  have := A1v l
  rw [Dj]
  split
  ·omega
  ·split <;> omega
theorem Xe : ∀ {l : List Br}, (∀ j, j < l.length → La (l.getD j B1) = false) → Dj l = -1
 | [], _ => rfl
 | b :: l, h => by
  have h0 := h 0 Cs
  rw [List.getD_cons_zero] at h0
  rw [Dj, h0, Xe (l := l) fun j hj => by have := h (j + 1) (by simpa using hj); rwa [List.getD_cons_succ] at this]
  rfl
theorem A8m : ∀ {l : List Br} {i : Nat}, i < l.length → (∀ j, j < i → La (l.getD j B1) = false) → La (l.getD i B1) = true → Dj l = i
 | [], i, hi, _, _ => absurd hi Cs
 | b :: l, 0, hi, h, h1 => by
  rw [List.getD_cons_zero] at h1
  rw [Dj, h1]; rfl
 | b :: l, i + 1, hi, h, h1 => by
  have h0 := h 0 A1
  rw [List.getD_cons_zero] at h0
  rw [List.getD_cons_succ] at h1
  have h2 := A8m (l := l) (i := i) (by simpa using hi) (fun j hj => by have := h (j + 1) A1; rwa [List.getD_cons_succ] at this) h1
  rw [Dj, h0, h2, if_neg Cs, if_neg A1]
  omega
theorem B5q {b : Br} : (decide ((b.Ah.length : Int) = 1) && decide (b.Ah.getD 0 B5 = B5)) = La b := by
 unfold La
 rw [← Bool.decide_and]
 refine decide_eq_decide.mpr ⟨fun h => ?_, fun h => ?_⟩
 ·match hf : b.Ah, h with
  | [], h => exact absurd h.1 Cs
  | [c], h => rw [show c = B5 from h.2]
  | a :: c :: l, h => exact absurd h.1 (by simp; omega)
 ·rw [h]; exact ⟨rfl, rfl⟩
structure A4n (W : Ds) : Prop where
 form : ∀ d f, 0 ≤ d → Aq f = true → (W.form d f).1 = 0 → Aq (W.form d f).2 = true
 Ah : ∀ d f, 0 ≤ d → B3 f = true → (W.Ah d f).1 = 0 → B3 (W.Ah d f).2 = true
 nil : ∀ d, W.form d [] = (0, [])
theorem C5c (i : Int) (r : List Cl) : A4n (Pd i r) where
 form := fun d f hd hf h0 => (A8x (P := fun _ => True) (N := fun _ => True) hf (Prod.ext h0 rfl)).1
 Ah := fun d f hd hf h0 => (A8y hf (Prod.ext h0 rfl)).1
 nil := fun d => C2t (by unfold Ft G9; simp)
theorem C2o {W : Ds} (hW : A4n W) {k n d : Int} {nm : ByteArray} {r : List Cl} (hd : 0 ≤ d) (h : Q7 k n nm r) (h0 : (W.row k d r).1 = 0) : Q7 k n nm (W.row k d r).2 := by
 have h9 := h
 obtain ⟨h1, h2, h3, h4, h5, h6, h7⟩ := h
 obtain ⟨q1, q2⟩ := Sd h9
 unfold Ds.row at h0 ⊢
 by_cases e : k = 14
 ·rw [if_pos e] at h0 ⊢
  exact ⟨h1, h2, fun h => by omega, fun h => by omega, fun h => by omega, fun _ => hW.Ah d r hd (h6 e) h0, fun h => by omega⟩
 ·rw [if_neg e] at h0 ⊢
  refine ⟨h1, h2, fun h => ⟨?_, (h3 h).2⟩, fun h => ⟨?_, (h4 h).2⟩, fun h => hW.form d r hd q2 h0, fun h => absurd h e, fun h => ?_⟩
  ·rw [(h3 h).1, hW.nil]
  ·rw [(h4 h).1, hW.nil]
  ·rw [h7 h, hW.nil]
section
variable {W : Ds}
mutual
theorem Sc (hW : A4n W) : ∀ {t u : T} {d : Int}, 0 ≤ d → F5 t → Bj (Bo W) t d = .ok u → F5 u
 | .mk k n nm r ks ss, u, d, hd, h, hu => by
  simp only [F5] at h
  obtain ⟨h1, h2, h3, h4, h5⟩ := h
  rw [F8] at hu
  simp only [T.kind, T.n, T.name, T.r, T.kids, T.sys] at hu
  obtain ⟨o, h9, hu⟩ := Ac.A2 hu
  cases o with
  | inl v => exact absurd h9 L0
  | inr p =>
   obtain ⟨a1, a2⟩ := O4.mp h9
   obtain ⟨ks', h10, hu⟩ := Ac.A2 hu
   obtain ⟨ss', h11, hu⟩ := Ac.A2 hu
   injection hu with hu
   subst hu
   simp only [F5]
   have hr := C2o hW hd h1 (by rw [a1])
   rw [a1] at hr
   refine ⟨by rw [a2]; exact hr, by rw [Ng h10]; exact h2, fun h => ?_, We hW hd h4 h10, Q5 hW hd h5 h11⟩
   have h12 := Nh h11
   rw [h3 h] at h12
   exact List.eq_nil_of_length_eq_zero (Nat.le_zero.mp h12)
theorem We (hW : A4n W) {kd : Int} : ∀ {ts : List T} {i : Nat} {d : Int} {us : List T}, 0 ≤ d → Iu ts → Dh (Bo W) kd i ts d = .ok us → Iu us
 | [], i, d, us, hd, h, hu => by rw [Dt] at hu; injection hu with hu; subst hu; simp only [Iu]
 | t :: ts, i, d, us, hd, h, hu => by
  simp only [Iu] at h
  rw [Dc] at hu
  obtain ⟨c', h1, hu⟩ := Ac.A2 hu
  obtain ⟨t', h2, hu⟩ := Ac.A2 hu
  obtain ⟨ts', h3, hu⟩ := Ac.A2 hu
  injection hu with hu
  subst hu
  injection h1 with h1
  subst h1
  have hb := (Gd kd i).2.2.1
  simp only [Iu]
  exact ⟨Sc hW A1 h.1 h2, We hW hd h.2 h3⟩
theorem Wc (hW : A4n W) {kd : Int} : ∀ {ts : List T} {d : Int} {us : List T}, 0 ≤ d → Iu ts → Ck (Bo W) kd ts d = .ok us → Iu us
 | [], d, us, hd, h, hu => by rw [E3] at hu; injection hu with hu; subst hu; simp only [Iu]
 | t :: ts, d, us, hd, h, hu => by
  simp only [Iu] at h
  rw [Db] at hu
  obtain ⟨c', h1, hu⟩ := Ac.A2 hu
  obtain ⟨t', h2, hu⟩ := Ac.A2 hu
  obtain ⟨ts', h3, hu⟩ := Ac.A2 hu
  injection hu with hu
  subst hu
  injection h1 with h1
  subst h1
  have hb := (Tz kd).1
  simp only [Iu]
  exact ⟨Sc hW (by dsimp only; omega) h.1 h2, Wc hW hd h.2 h3⟩
theorem Q5 (hW : A4n W) {kd : Int} : ∀ {bs : List Br} {d : Int} {us : List Br}, 0 ≤ d → P6 kd bs → D7 (Bo W) kd bs d = .ok us → P6 kd us
 | [], d, us, hd, h, hu => by rw [D1] at hu; injection hu with hu; subst hu; simp only [P6]
 | .mk f ks :: bs, d, us, hd, h, hu => by
  simp only [P6] at h
  obtain ⟨h1, h2, h3, h4⟩ := h
  rw [Cw] at hu
  simp only [Br.Ah, Br.kids] at hu
  obtain ⟨o, h5, hu⟩ := Ac.A2 hu
  cases o with
  | none => exact Q5 hW hd h4 hu
  | some f' =>
   obtain ⟨e1, _⟩ := Ib.mp h5
   obtain ⟨ks', h6, hu⟩ := Ac.A2 hu
   obtain ⟨bs', h7, hu⟩ := Ac.A2 hu
   injection hu with hu
   subst hu
   simp only [P6]
   have hf := hW.Ah d f hd h2 (by rw [e1])
   rw [e1] at hf
   exact ⟨by rw [Nf h6]; exact h1, hf, Wc hW hd h3 h6, Q5 hW hd h4 h7⟩
end
end
section
variable {i d k n : Int} {nm : ByteArray} {r f : List Cl} {x : EL}
end
theorem Us {W : Ds} {t : T} {d : Int} : (∃ u, Bj (Bo W) t d = .ok u ∧ Cg W t d = (0, u)) ∨ ∃ e, Bj (Bo W) t d = .bad e ∧ Cg W t d = (e, t0) := by
 unfold Cg
 cases h : Bj (Bo W) t d with
 | ok u => exact .inl ⟨u, rfl, rfl⟩
 | bad e => exact .inr ⟨e, rfl, rfl⟩
def Je (r : List Cl) : Int := if r.length = 0 then 0 else if r = [B5] then 1 else -1
def Cf (k : Int) (r : List Cl) (ks : List T) : T := .mk k 0 ⟨#[]⟩ r ks []
abbrev kd (t : T) (i : Nat) : T := t.kids.getD i t0
def F9 (t : T) : List T := (t.sys.getD (Dj t.sys).toNat B1).kids
def Bk (t : T) : Option (Int × T) :=
 if Dj t.sys < 0 then none
 else if t.kind = 15 then some (Ak ((F9 t).getD 0 t0) 0 [B5])
 else if t.kind = 18 then some (0, Cf 6 [] [Cf 9 [] [(F9 t).getD 0 t0], kd t 0])
 else if t.kind = 16 ∨ t.kind = 17 then some (0, (F9 t).getD 0 t0)
 else none
def H0 (t : T) : Option (Int × T) :=
 if 0 ≤ Je t.r then some (0, kd t (1 + (Je t.r).toNat))
 else if (kd t 0).kind = 12 then some (Ak (kd (kd t 0) 0) 0 t.r)
 else none
def Dx (t : T) : Option (Int × T) :=
 if (kd t 3).kind = 20 then some (0, kd t 1)
 else if (kd t 3).kind = 21 then some (0, Cf 13 (kd t 3).r [kd t 2, kd t 1, kd t 1])
 else none
def Gp (t : T) : Option (Int × T) :=
 if (kd t 4).kind = 24 then some (0, kd t 1)
 else if (kd t 4).kind = 25 then some (0, kd t 2)
 else if (kd t 4).kind = 26 then some (0, Cf 13 (kd t 4).r [Cf 6 [] [kd t 3, kd (kd t 4) 0], kd t 1, kd t 2])
 else none
def Eb (t : T) : Option (Int × T) :=
 if Je t.r < 0 then none
 else if t.kind = 21 then some (0, Cf 20 [] [])
 else if Je t.r = 0 then some (0, Cf 24 [] [])
 else some (0, Cf 25 [] [])
def Az (t : T) : Option (Int × T) :=
 if t.kind = 6 ∧ (kd t 0).kind = 5 then some (Av (kd (kd t 0) 0) 0 (kd t 1))
 else if (t.kind = 9 ∨ t.kind = 10) ∧ (kd t 0).kind = 8 then some (0, kd (kd t 0) (t.kind - 9).toNat)
 else if t.kind = 13 then H0 t
 else if t.kind = 21 ∨ t.kind = 26 then Eb t
 else if t.kind = 22 then Dx t
 else if t.kind = 27 then Gp t
 else if t.kind = 28 then some (0, kd t 0)
 else if t.kind = 14 then (if Je t.r = 1 then some (0, kd t 1) else none)
 else match Bk t with
  | some x => some x
  | none => if t.kind = 18 ∧ (kd t 0).kind = 17 then some (0, kd (kd t 0) 0) else none
def Qc : Option (Int × T) → Int × Bool × T
 | none => (0, false, t0)
 | some x => if x.1 ≠ 0 then (x.1, false, t0) else if A7 x.2 ≠ 0 then (A7 x.2, false, t0) else (0, true, x.2)
def Cq (t : T) : Int × Bool × T := if A7 t ≠ 0 then (A7 t, false, t0) else Qc (Az t)
theorem A1x {t : T} (h : A7 t ≠ 0) : Cq t = (A7 t, false, t0) := if_pos h
theorem Tc {t : T} (h : A7 t = 0) : Cq t = Qc (Az t) := if_neg (by simp [h])
theorem Zc {x : Option (Int × T)} (h : (Qc x).2.1 = true) : ∃ u, x = some (0, u) ∧ A7 u = 0 ∧ Qc x = (0, true, u) := by
 cases x with
 | none => cases h
 | some x =>
  obtain ⟨e, u⟩ := x
  simp only [Qc] at h ⊢
  by_cases h1 : e ≠ 0
  ·rw [if_pos h1] at h; cases h
  ·rw [if_neg h1] at h
   by_cases h2 : A7 u ≠ 0
   ·rw [if_pos h2] at h; cases h
   ·have e0 : e = 0 := Decidable.not_not.mp h1
    subst e0
    exact ⟨u, rfl, Decidable.not_not.mp h2, by rw [if_neg Cs, if_neg h2]⟩
theorem B5b {x : Option (Int × T)} (h : (Qc x).2.1 = false) : (Qc x).2.2 = t0 := by
 cases x with
 | none => rfl
 | some x =>
  simp only [Qc] at h ⊢
  split
  ·rfl
  ·rename_i h1
   rw [if_neg h1] at h
   split
   ·rfl
   ·rename_i h2; rw [if_neg h2] at h; cases h
theorem Lg {t : T} {i : Nat} (h : A7 t = 0) (hi : (i : Int) < D3 t.kind) : A7 (kd t i) = 0 := by
 have hf := (G8.mp (Cj.mp h).2).2.1
 exact B4w h (Ad (show i < t.kids.length by omega))
theorem Xf : ∀ {l : List Br}, 0 ≤ Dj l → (Dj l).toNat < l.length
 | [], h => absurd h F2
 | b :: l, h => by
  have hg := A1v l
  rw [Dj] at h ⊢
  split
  ·simp
  ·rename_i h1
   rw [if_neg h1] at h
   split
   ·rename_i h2; rw [if_pos h2] at h; omega
   ·rename_i h2
    have := Xf (l := l) A1
    rw [List.length_cons]
    omega
end Go.Hy
