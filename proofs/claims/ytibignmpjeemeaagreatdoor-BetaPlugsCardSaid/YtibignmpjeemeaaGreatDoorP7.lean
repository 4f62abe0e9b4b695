/- Contracts of this program's functions and the laws that they need. -/
import Derived.Lib.TrailingZeros
import Derived.LaidMore
import Derived.OpenShut
import Derived.Stop.Joined
import Derived.MakeChecks
import Derived.Shelf.Spec.TrailingZeros
import Derived.RangeFuncNested
import Derived.RangeFuncBound
import Derived.RangeFuncCalls
import Derived.RangeFuncLeaves
import Derived.RangeFuncBox
import Derived.Shelf.Abstract
import Derived.Shelf.RegionOpen
import Derived.WalkKit
import Derived.OwnWalkIn
import Derived.TacticsInMore
import Derived.LoopNIn
import Derived.LoopIn
import Derived.Tactics2
import Derived.Test.YtibignmpjeemeaaGreatDoorP6
set_option linter.unusedVariables false
set_option linter.unusedSimpArgs false
set_option linter.unusedSectionVars false
namespace Go.Hy
def M6 (n : Int) (u : T) (c : Int × Int) (k m : Int) (r : List Cl) : Af (T ⊕ (Int × List Cl)) :=
 if k = 1 then (if m = n + c.1 then (if (Ck u c.1 c.2).1 = 0 then .ok (.inl (Ck u c.1 c.2).2) else .bad (Ck u c.1 c.2).1) else .ok (.inr (if n + c.1 < m then m - 1 else m, r))) else .ok (.inr (m, r))
def Bv (n : Int) (u : T) : Tr (Int × Int) where
 own c k m _ r := M6 n u c k m r
 Ap _ f := .ok (some f)
 Nv c b := .ok (c.1 + b.1, c.2 + b.2)
theorem Rl {t : T} (h : Gb t) (hk : t.kind = 1) : t = .mk 1 t.n ⟨#[]⟩ [] [] [] ∧ 0 ≤ t.n := by
 obtain ⟨h1, h2, h3, h4, h5⟩ := K2.mp h
 obtain ⟨_, a2, a3, _⟩ := h1
 have hn : t.name = ⟨#[]⟩ := Wl.mp (beq_iff_eq.mpr (a2 (by rw [hk]; decide)))
 have hr := (a3 hk).1
 have hks : t.kids = [] := by
  rw [hk, show D4 1 = 0 by decide] at h2
  exact List.eq_nil_of_length_eq_zero A2
 have hss := h3 (by rw [hk]; decide)
 refine ⟨?_, (a3 hk).2⟩
 obtain ⟨k, n, nm, r, ks, ss⟩ := t
 simp only [T.kind, T.n, T.name, T.r, T.kids, T.sys] at *
 subst hk hn hr hks hss
 rfl
theorem B3s {t : T} (h : Gb t) (hk : t.kind ≠ 1) : t.n = 0 := (K2.mp h).1.1 hk
theorem Lj {n : Int} {u : T} {v d : Int} {b : Int × Int} : (Bv n u).Nv (v, d) b = .ok (v + b.1, d + b.2) := rfl
theorem Oh {n : Int} {u : T} {c : Int × Int} {f : List Cl} : (Bv n u).Ap c f = .ok (some f) := rfl
theorem Ni {n : Int} {u : T} {c : Int × Int} {k m : Int} {nm : ByteArray} {r : List Cl} (hk : k ≠ 1) : (Bv n u).own c k m nm r = .ok (.inr (m, r)) := by
 show M6 n u c k m r = _
 unfold M6
 rw [if_neg hk]
theorem Jr {n : Int} {u : T} {c : Int × Int} {m : Int} {nm : ByteArray} {r : List Cl} (h : m = n + c.1) : (Bv n u).own c 1 m nm r = if (Ck u c.1 c.2).1 = 0 then .ok (.inl (Ck u c.1 c.2).2) else .bad (Ck u c.1 c.2).1 := by
 show M6 n u c 1 m r = _
 unfold M6
 rw [if_pos rfl, if_pos h]
theorem Qv {n : Int} {u : T} {c : Int × Int} {m : Int} {nm : ByteArray} {r : List Cl} (h : m ≠ n + c.1) : (Bv n u).own c 1 m nm r = .ok (.inr (if n + c.1 < m then m - 1 else m, r)) := by
 show M6 n u c 1 m r = _
 unfold M6
 rw [if_pos rfl, if_neg h]
theorem B5v {n : Int} {u t : T} {v d : Int} (hk : t.kind = 1) (h : t.n = n + v) (h0 : (Ck u v d).1 = 0) : Bm (Bv n u) t (v, d) = .ok (Ck u v d).2 := by
 rw [Fx, hk, Jr h, if_pos h0]; rfl
theorem A0m {n : Int} {u t : T} {v d : Int} (hk : t.kind = 1) (h : t.n = n + v) (h0 : (Ck u v d).1 ≠ 0) : Bm (Bv n u) t (v, d) = .bad (Ck u v d).1 := by
 rw [Fx, hk, Jr h, if_neg h0]; rfl
theorem Sf {n : Int} {u t : T} {c : Int × Int} (hf : Gb t) (hk : t.kind = 1) (h : t.n ≠ n + c.1) : Bm (Bv n u) t c = .ok (.mk 1 (if n + c.1 < t.n then t.n - 1 else t.n) ⟨#[]⟩ [] [] []) := by
 have e := (Rl hf hk).1
 generalize t.n = m at e h ⊢
 subst e
 rw [Fx]
 simp only [T.kind, T.n, T.name, T.r, T.kids, T.sys]
 rw [Qv h]
 simp only [Af.bind, Em, Di]
theorem B2n {n : Int} {u t : T} {c : Int × Int} (hf : Gb t) (hk : t.kind = 1) (h : n + c.1 < t.n) : Bm (Bv n u) t c = .ok (.mk 1 (t.n - 1) ⟨#[]⟩ [] [] []) := by
 rw [Sf hf hk A2, if_pos h]
theorem B2m {n : Int} {u t : T} {c : Int × Int} (hf : Gb t) (hk : t.kind = 1) (h : t.n < n + c.1) : Bm (Bv n u) t c = .ok t := by
 rw [Sf hf hk A2, if_neg A2]
 exact congrArg Af.ok (Rl hf hk).1.symm
theorem Yf {n : Int} {u : T} {k : Int} {c : Int × Int} : ∀ {l l' : List Br}, D7 (Bv n u) k l c = .ok l' → l'.length = l.length
 | [], l', h => by rw [Di] at h; injection h with h; subst h; rfl
 | b :: l, l', h => by
  rw [Dj, Oh] at h
  simp only [Af.bind] at h
  obtain ⟨ks, h1, h⟩ := Af.A9 (x := Co (Bv n u) k b.kids c) h
  obtain ⟨bs, h2, h⟩ := Af.A9 h
  injection h with h
  subst h
  rw [List.length_cons, List.length_cons, Yf h2]
mutual
def Cz : T → Int → Int
 | .mk k n nm r ks ss, m => if k = 1 ∧ n = m then 1 else E8 k 0 ks m + Ei ss m
def E8 (k : Int) : Nat → List T → Int → Int
 | _, [], _ => 0
 | i, t :: ts, m => Cz t (m + (binds k i).1) + E8 k (i + 1) ts m
def Es : List T → Int → Int
 | [], _ => 0
 | t :: ts, m => Cz t m + Es ts m
def Ei : List Br → Int → Int
 | [], _ => 0
 | .mk f ks :: bs, m => Es ks m + Ei bs m
end
theorem Zb (t : T) (m : Int) : Cz t m = if t.kind = 1 ∧ t.n = m then 1 else E8 t.kind 0 t.kids m + Ei t.sys m := by obtain ⟨k, n, nm, r, ks, ss⟩ := t; rfl
theorem Ts {k m : Int} {t : T} : ∀ {ts : List T} {i : Nat}, E8 k i (ts ++ [t]) m = E8 k i ts m + Cz t (m + (binds k ((i + ts.length : Nat) : Int)).1)
 | [], i => by simp only [List.nil_append, E8, List.length_nil, Nat.add_zero]; omega
 | a :: ts, i => by
  rw [List.cons_append, E8, Ts (ts := ts), E8, List.length_cons, show i + 1 + ts.length = i + (ts.length + 1) by omega]
  omega
theorem Tq {m : Int} {t : T} : ∀ {ts : List T}, Es (ts ++ [t]) m = Es ts m + Cz t m
 | [] => by simp only [List.nil_append, Es]; omega
 | a :: ts => by rw [List.cons_append, Es, Tq (ts := ts), Es]; omega
theorem O1 {m : Int} {b : Br} : ∀ {bs : List Br}, Ei (bs ++ [b]) m = Ei bs m + Es b.kids m
 | [] => by obtain ⟨f, ks⟩ := b; simp only [List.nil_append, Ei, Br.kids]; omega
 | .mk f ks :: bs => by rw [List.cons_append, Ei, O1 (bs := bs), Ei]; omega
def D3 : List T → Nat
 | [] => 0
 | t :: ts => size t + D3 ts
def Fe : List Br → Nat
 | [] => 0
 | b :: bs => D3 b.kids + Fe bs
theorem foldl_add {α : Type} (f : α → Nat) : ∀ (l : List α) (a : Nat), l.foldl (fun a p => a + f p) a = a + l.foldl (fun a p => a + f p) 0
 | [], a => rfl
 | x :: l, a => by rw [List.foldl_cons, List.foldl_cons, foldl_add f l (a + f x), foldl_add f l (0 + f x)]; omega
theorem Cm (t : T) : size t = 1 + D3 t.kids + Fe t.sys := by
 have hk : ∀ (k : Int) (ts : List T) (i : Nat), (Da k i ts).foldl (fun a p => a + size p.1) 0 = D3 ts := by
  intro k ts
  induction ts with
  | nil => intro i; rfl
  | cons t ts ih => intro i; rw [Da, List.foldl_cons, foldl_add, ih, D3]; simp only; omega
 have hm : ∀ (ts : List T) (b : Int × Int), (ts.map fun k => ((k, b.1, b.2) : Part)).foldl (fun a p => a + size p.1) 0 = D3 ts := by
  intro ts b
  induction ts with
  | nil => rfl
  | cons t ts ih => rw [List.map_cons, List.foldl_cons, foldl_add, ih, D3]; simp only; omega
 have hs : ∀ (k : Int) (bs : List Br), (D8 k bs).foldl (fun a p => a + size p.1) 0 = Fe bs := by
  intro k bs
  induction bs with
  | nil => rfl
  | cons b bs ih => rw [D8, List.foldl_append, foldl_add, ih, hm b.kids (0, more k), Fe]
 rw [size_eq, parts, List.foldl_append, foldl_add, hs, foldl_add, hk]
mutual
theorem Wh : ∀ (t : T) (m : Int), 0 ≤ Cz t m
 | .mk k n nm r ks ss, m => by
  rw [Cz]
  have h1 := Lu (k := k) ks 0 m
  have h2 := Ov ss m
  split <;> omega
theorem Lu {k : Int} : ∀ (ts : List T) (i : Nat) (m : Int), 0 ≤ E8 k i ts m
 | [], i, m => by rw [E8]; omega
 | t :: ts, i, m => by
  rw [E8]
  have h1 := Wh t (m + (binds k i).1)
  have h2 := Lu (k := k) ts (i + 1) m
  omega
theorem Ot : ∀ (ts : List T) (m : Int), 0 ≤ Es ts m
 | [], m => by rw [Es]; omega
 | t :: ts, m => by
  rw [Es]
  have h1 := Wh t m
  have h2 := Ot ts m
  omega
theorem Ov : ∀ (bs : List Br) (m : Int), 0 ≤ Ei bs m
 | [], m => by rw [Ei]; omega
 | .mk f ks :: bs, m => by
  rw [Ei]
  have h1 := Ot ks m
  have h2 := Ov bs m
  omega
end
mutual
theorem count_le : ∀ (t : T) (m : Int), Cz t m ≤ size t
 | .mk k n nm r ks ss, m => by
  rw [Cz, Cm]
  have h1 := Ou (k := k) ks 0 m
  have h2 := Sv ss m
  show _ ≤ ((1 + D3 ks + Fe ss : Nat) : Int)
  split <;> omega
theorem Ou {k : Int} : ∀ (ts : List T) (i : Nat) (m : Int), E8 k i ts m ≤ D3 ts
 | [], i, m => by rw [E8, D3]; omega
 | t :: ts, i, m => by
  rw [E8, D3]
  have h1 := count_le t (m + (binds k i).1)
  have h2 := Ou (k := k) ts (i + 1) m
  omega
theorem Zc : ∀ (ts : List T) (m : Int), Es ts m ≤ D3 ts
 | [], m => by rw [Es, D3]; omega
 | t :: ts, m => by
  rw [Es, D3]
  have h1 := count_le t m
  have h2 := Zc ts m
  omega
theorem Sv : ∀ (bs : List Br) (m : Int), Ei bs m ≤ Fe bs
 | [], m => by rw [Ei, Fe]; omega
 | .mk f ks :: bs, m => by
  rw [Ei, Fe]
  have h1 := Zc ks m
  have h2 := Sv bs m
  simp only [Br.kids]
  omega
end
theorem A5y {k m : Int} (ts : List T) (i : Nat) : ∀ j, E8 k i (ts.take j) m ≤ E8 k i ts m := by
 induction ts generalizing i with
 | nil => intro j; rw [List.take_nil]; omega
 | cons t ts ih =>
  intro j
  cases j with
  | zero => rw [List.take_zero]; exact Lu (t :: ts) i m
  | succ j => rw [List.take_succ_cons, E8, E8]; have := ih (i + 1) j; omega
theorem A5x {m : Int} (ts : List T) : ∀ j, Es (ts.take j) m ≤ Es ts m := by
 induction ts with
 | nil => intro j; rw [List.take_nil]; omega
 | cons t ts ih =>
  intro j
  cases j with
  | zero => rw [List.take_zero]; exact Ot (t :: ts) m
  | succ j => rw [List.take_succ_cons, Es, Es]; have := ih j; omega
theorem A5z {m : Int} (bs : List Br) : ∀ j, Ei (bs.take j) m ≤ Ei bs m := by
 induction bs with
 | nil => intro j; rw [List.take_nil]; omega
 | cons b bs ih =>
  intro j
  obtain ⟨f, ks⟩ := b
  cases j with
  | zero => rw [List.take_zero]; exact Ov (.mk f ks :: bs) m
  | succ j => rw [List.take_succ_cons, Ei, Ei]; have := ih j; omega
def Wj (t : T) (m : Int) (i : Nat) : Int := E8 t.kind 0 (t.kids.take i) m
def Xl (t : T) (m : Int) (s : Nat) : Int := E8 t.kind 0 t.kids m + Ei (t.sys.take s) m
def Wi (t : T) (m : Int) (s k : Nat) : Int := Xl t m s + Es ((t.sys.getD s B5).kids.take k) m
theorem B4e (t : T) (m : Int) : Wj t m 0 = 0 := by simp [Wj, E8]
theorem Ze {t : T} {m : Int} {i : Nat} (h : i < t.kids.length) : Wj t m (i + 1) = Wj t m i + Cz (t.kids.getD i t0) (m + (binds t.kind (i : Int)).1) := by
 unfold Wj
 rw [Ab (d := t0) h, Ts, List.length_take, Nat.min_eq_left A2, Nat.zero_add]
theorem B4d (t : T) (m : Int) : Xl t m 0 = Wj t m t.kids.length := by
 unfold Xl Wj
 rw [List.take_length, List.take_zero, show Ei [] m = 0 from rfl]; omega
theorem B8p {t : T} {m : Int} (h : ¬ (t.kind = 1 ∧ t.n = m)) : Xl t m t.sys.length = Cz t m := by unfold Xl; rw [List.take_length, Zb, if_neg h]
theorem B4c (t : T) (m : Int) (s : Nat) : Wi t m s 0 = Xl t m s := by
 unfold Wi
 rw [List.take_zero, show Es [] m = 0 from rfl]; omega
theorem Zd {t : T} {m : Int} {s k : Nat} (h : k < (t.sys.getD s B5).kids.length) : Wi t m s (k + 1) = Wi t m s k + Cz ((t.sys.getD s B5).kids.getD k t0) m := by
 unfold Wi
 rw [Ab (d := t0) h, Tq]; omega
theorem B8o {t : T} {m : Int} {s : Nat} (h : s < t.sys.length) : Wi t m s (t.sys.getD s B5).kids.length = Xl t m (s + 1) := by
 unfold Wi Xl
 rw [List.take_length, Ab (d := B5) h, O1]; omega
theorem B1d (t : T) (m : Int) (i : Nat) : 0 ≤ Wj t m i ∧ Wj t m i ≤ size t := by
 have h1 := Lu (k := t.kind) (t.kids.take i) 0 m
 have h2 := A5y (k := t.kind) (m := m) t.kids 0 i
 have h3 := Ou (k := t.kind) t.kids 0 m
 have h4 := Cm t
 unfold Wj
 omega
theorem B1c {t : T} {m : Int} {s : Nat} (hs : s < t.sys.length) (k : Nat) : 0 ≤ Wi t m s k ∧ Wi t m s k ≤ size t := by
 have h1 := Lu (k := t.kind) t.kids 0 m
 have h2 := Ov (t.sys.take s) m
 have h3 := Ot ((t.sys.getD s B5).kids.take k) m
 have h4 := A5x (m := m) (t.sys.getD s B5).kids k
 have h5 := A5z (m := m) t.sys (s + 1)
 rw [Ab (d := B5) hs, O1] at h5
 have h6 := Sv t.sys m
 have h7 := Ou (k := t.kind) t.kids 0 m
 have h8 := Cm t
 unfold Wi Xl
 omega
abbrev Sl (n : Int) : Int := if 1099511627776 < n then 1099511627776 else n
def Ai (t : T) (n : Int) (u : T) : Int × T :=
 if A6 t ≠ 0 then (A6 t, t0) else if A6 u ≠ 0 then (A6 u, t0) else if n < 0 then (2, t0) else
 if 20000 < (size t : Int) + Cz t (Sl n) * ((size u : Int) - 1) then (221, t0) else
 match Bm (Bv (Sl n) u) t (0, 0) with
 | .bad e => (e, t0)
 | .ok x => if 200 < depth x then (62, t0) else (0, x)
section
variable {t u : T} {n : Int}
theorem Yd (h : A6 t ≠ 0) : Ai t n u = (A6 t, t0) := by unfold Ai; rw [if_pos h]
theorem Yc (h : A6 t = 0) (h2 : A6 u ≠ 0) : Ai t n u = (A6 u, t0) := by unfold Ai; rw [if_neg (by simp [h]), if_pos h2]
theorem Ye (h : A6 t = 0) (h2 : A6 u = 0) (h3 : n < 0) : Ai t n u = (2, t0) := by unfold Ai; rw [if_neg (by simp [h]), if_neg (by simp [h2]), if_pos h3]
theorem Qw (h : A6 t = 0) (h2 : A6 u = 0) (h3 : ¬ n < 0) (h4 : 20000 < (size t : Int) + Cz t (Sl n) * ((size u : Int) - 1)) : Ai t n u = (221, t0) := by unfold Ai; rw [if_neg (by simp [h]), if_neg (by simp [h2]), if_neg h3, if_pos h4]
theorem Td {e : Int} (h : A6 t = 0) (h2 : A6 u = 0) (h3 : ¬ n < 0) (h4 : ¬ 20000 < (size t : Int) + Cz t (Sl n) * ((size u : Int) - 1)) (h5 : Bm (Bv (Sl n) u) t (0, 0) = .bad e) : Ai t n u = (e, t0) := by
 unfold Ai; rw [if_neg (by simp [h]), if_neg (by simp [h2]), if_neg h3, if_neg h4, h5]
theorem Qx {x : T} (h : A6 t = 0) (h2 : A6 u = 0) (h3 : ¬ n < 0) (h4 : ¬ 20000 < (size t : Int) + Cz t (Sl n) * ((size u : Int) - 1)) (h5 : Bm (Bv (Sl n) u) t (0, 0) = .ok x) (h6 : 200 < depth x) : Ai t n u = (62, t0) := by
 unfold Ai; rw [if_neg (by simp [h]), if_neg (by simp [h2]), if_neg h3, if_neg h4, h5]; simp only; rw [if_pos h6]
theorem V4 {x : T} (h : A6 t = 0) (h2 : A6 u = 0) (h3 : ¬ n < 0) (h4 : ¬ 20000 < (size t : Int) + Cz t (Sl n) * ((size u : Int) - 1)) (h5 : Bm (Bv (Sl n) u) t (0, 0) = .ok x) (h6 : ¬ 200 < depth x) : Ai t n u = (0, x) := by
 unfold Ai; rw [if_neg (by simp [h]), if_neg (by simp [h2]), if_neg h3, if_neg h4, h5]; simp only; rw [if_neg h6]
end
theorem A2a {u : T} {v d : Int} (h : (Ck u v d).1 = 0) : A6 u = 0 ∧ 0 ≤ v ∧ 0 ≤ d ∧ A6d u v d = .ok (Ck u v d).2 := by
 unfold Ck Bw at h ⊢
 split at h
 ·rename_i h1; exact absurd h h1
 ·rename_i h1
  split at h
  ·cases h
  ·rename_i h2
   rw [if_neg h1, if_neg h2]
   simp only [List.all_cons, List.all_nil, Bool.and_true, Bool.not_eq_false, Bool.and_eq_true, decide_eq_true_eq] at h2
   refine ⟨by omega, h2.1, h2.2.1, ?_⟩
   cases hx : A6d u v d with
   | bad e =>
    exfalso
    rw [hx] at h
    simp only at h
    rcases D1 hx with h3 | ⟨y, _, h3⟩
    ·exact lift_bad_ne' h3 h
    ·exact lift_bad_ne' h3 h
   | ok x => rfl
theorem A9c {u : T} {v d : Int} (h : (Ck u v d).1 = 0) : size (Ck u v d).2 = size u := by
 obtain ⟨_, _, _, h1⟩ := A2a h
 obtain ⟨y, h2, h3⟩ := Af.A9 (x := Bm (Be v 0) u (0, 0)) h1
 rw [Lq h3, Lq h2]
mutual
theorem Og {n : Int} {u : T} : ∀ {t x : T} {c : Int × Int}, Gb t → Bm (Bv n u) t c = .ok x → (size x : Int) = size t + Cz t (n + c.1) * ((size u : Int) - 1)
 | .mk k m nm r ks ss, x, c, hf, hx => by
  by_cases hk : k = 1
  ·subst hk
   have hfv := Rl hf rfl
   simp only [T.n, T.mk.injEq, true_and] at hfv
   obtain ⟨⟨hnm, hr, hks, hss⟩, _⟩ := hfv
   subst hr hks hss
   by_cases h : m = n + c.1
   ·rw [Fx] at hx
    simp only [T.kind, T.n, T.name, T.r, T.kids, T.sys] at hx
    rw [Jr h] at hx
    split at hx
    ·rename_i h0
     injection hx with hx
     rw [← hx, A9c h0, Cz, if_pos ⟨rfl, h⟩, Cm (.mk 1 m nm [] [] [])]
     simp only [T.kids, T.sys, D3, Fe]
     omega
    ·cases hx
   ·have := Sf (u := u) hf rfl (c := c) h
    rw [this] at hx
    injection hx with hx
    rw [← hx, Cz, if_neg (show ¬ ((1 : Int) = 1 ∧ m = n + c.1) from fun h2 => h h2.2), Cm, Cm (.mk 1 m nm [] [] [])]
    simp only [T.kids, T.sys, D3, Fe, E8, Ei]
    omega
  ·rw [Fx] at hx
   simp only [T.kind, T.n, T.name, T.r, T.kids, T.sys] at hx
   rw [Ni hk] at hx
   simp only [Af.bind] at hx
   obtain ⟨ks', h1, hx⟩ := Af.A9 (x := Dc (Bv n u) k 0 ks c) hx
   obtain ⟨ss', h2, hx⟩ := Af.A9 hx
   injection hx with hx
   have hf2 := K2.mp hf
   simp only [T.kids, T.sys, T.kind] at hf2
   have e1 := V5 hf2.2.2.2.1 h1
   have e2 := V6 hf2.2.2.2.2 h2
   rw [← hx, Cz, if_neg (fun h2 => hk h2.1), Cm, Cm]
   simp only [T.kids, T.sys]
   rw [Int.add_mul]
   omega
theorem V5 {n k : Int} {u : T} : ∀ {ts xs : List T} {i : Nat} {c : Int × Int}, Pd ts → Dc (Bv n u) k i ts c = .ok xs → (D3 xs : Int) = D3 ts + E8 k i ts (n + c.1) * ((size u : Int) - 1)
 | [], xs, i, c, hf, hx => by rw [Em] at hx; injection hx with hx; subst hx; simp [D3, E8]
 | t :: ts, xs, i, c, hf, hx => by
  rw [E5, Lj] at hx
  simp only [Af.bind] at hx
  obtain ⟨t', h2, hx⟩ := Af.A9 (x := Bm (Bv n u) t _) hx
  obtain ⟨ts', h3, hx⟩ := Af.A9 hx
  injection hx with hx
  subst hx
  have e1 := Og hf.1 h2
  have e2 := V5 hf.2 h3
  rw [D3, D3, E8, Int.add_mul]
  rw [← Int.add_assoc] at e1
  omega
theorem V3 {n k : Int} {u : T} : ∀ {ts xs : List T} {c : Int × Int}, Pd ts → Co (Bv n u) k ts c = .ok xs → (D3 xs : Int) = D3 ts + Es ts (n + c.1) * ((size u : Int) - 1)
 | [], xs, c, hf, hx => by rw [Ey] at hx; injection hx with hx; subst hx; simp [D3, Es]
 | t :: ts, xs, c, hf, hx => by
  rw [E4, Lj] at hx
  simp only [Af.bind] at hx
  obtain ⟨t', h2, hx⟩ := Af.A9 (x := Bm (Bv n u) t _) hx
  obtain ⟨ts', h3, hx⟩ := Af.A9 hx
  injection hx with hx
  subst hx
  have e1 := Og hf.1 h2
  have e2 := V3 hf.2 h3
  rw [D3, D3, Es, Int.add_mul]
  rw [show n + (c.1 + 0) = n + c.1 by omega] at e1
  omega
theorem V6 {n k : Int} {u : T} : ∀ {bs xs : List Br} {c : Int × Int}, To k bs → D7 (Bv n u) k bs c = .ok xs → (Fe xs : Int) = Fe bs + Ei bs (n + c.1) * ((size u : Int) - 1)
 | [], xs, c, hf, hx => by rw [Di] at hx; injection hx with hx; subst hx; simp [Fe, Ei]
 | .mk f ks :: bs, xs, c, hf, hx => by
  rw [Dj, Oh] at hx
  simp only [Af.bind, Br.Ap, Br.kids] at hx
  obtain ⟨ks', h2, hx⟩ := Af.A9 (x := Co (Bv n u) k ks c) hx
  obtain ⟨bs', h3, hx⟩ := Af.A9 hx
  injection hx with hx
  subst hx
  have e1 := V3 hf.2.2.1 h2
  have e2 := V6 hf.2.2.2 h3
  rw [Fe, Fe, Ei, Int.add_mul]
  simp only [Br.kids]
  omega
end
section
variable {CA CB CC CD : Type} {A : Tr CA} {B : Tr CB} {C : Tr CC} {D : Tr CD} (R : CA → CB → CC → CD → Prop)
variable {R}
end
theorem A3t {n : Int} {u : T} : ∀ {t : T} {c : Int × Int} {e : Int}, Bm (Bv n u) t c = .bad e → e ≠ 0 := fun {t} => T.ind (P := fun t => ∀ {c : Int × Int} {e : Int}, Bm (Bv n u) t c = .bad e → e ≠ 0) (fun t ih c e h => by
 rcases A3b h with h1 | ⟨b, _, h1⟩ | ⟨p, hp, h1 | ⟨c', _, h2⟩⟩
 ·by_cases hk : t.kind = 1
  ·rw [hk] at h1
   by_cases h2 : t.n = n + c.1
   ·rw [Jr h2] at h1
    split at h1
    ·cases h1
    ·rename_i h3; injection h1 with h1; exact h1 ▸ h3
   ·rw [Qv h2] at h1; cases h1
  ·rw [Ni hk] at h1; cases h1
 ·cases h1
 ·cases h1
 ·exact ih p hp h2) t
theorem A0o {t u : T} {n : Int} (h : (Ai t n u).1 = 0) : A6 t = 0 ∧ A6 u = 0 ∧ 0 ≤ n ∧ size (Ai t n u).2 ≤ 20000 ∧ Bm (Bv (Sl n) u) t (0, 0) = .ok (Ai t n u).2 := by
 by_cases h1 : A6 t = 0
 ·by_cases h2 : A6 u = 0
  ·by_cases h3 : n < 0
   ·rw [Ye h1 h2 h3] at h; cases h
   ·by_cases h4 : 20000 < (size t : Int) + Cz t (Sl n) * ((size u : Int) - 1)
    ·rw [Qw h1 h2 h3 h4] at h; cases h
    ·cases h5 : Bm (Bv (Sl n) u) t (0, 0) with
     | bad e =>
      rw [Td h1 h2 h3 h4 h5] at h
      exact absurd h (A3t h5)
     | ok x =>
      by_cases h6 : 200 < depth x
      ·rw [Qx h1 h2 h3 h4 h5 h6] at h; cases h
      ·rw [V4 h1 h2 h3 h4 h5 h6]
       have := Og (Fu.mp h1).2 h5
       rw [show Sl n + ((0, 0) : Int × Int).1 = Sl n from Int.add_zero _] at this
       exact ⟨h1, h2, by omega, by show size x ≤ 20000; omega, rfl⟩
  ·rw [Yc h1 h2] at h; exact absurd h h2
 ·rw [Yd h1] at h; exact absurd h h1
theorem A3u (t u : T) (n : Int) : size (Ai t n u).2 ≤ 20000 := by
 by_cases h : (Ai t n u).1 = 0
 ·exact (A0o h).2.2.2.1
 ·have : (Ai t n u).2 = t0 := by
   unfold Ai at h ⊢
   split
   ·rfl
   ·rename_i h1
    rw [if_neg h1] at h
    split
    ·rfl
    ·rename_i h2
     rw [if_neg h2] at h
     split
     ·rfl
     ·rename_i h3
      rw [if_neg h3] at h
      split
      ·rfl
      ·rename_i h4
       rw [if_neg h4] at h
       cases h5 : Bm (Bv (Sl n) u) t (0, 0) with
       | bad e => rfl
       | ok x =>
        rw [h5] at h
        simp only at h ⊢
        by_cases h6 : 200 < depth x
        ·rw [if_pos h6]
        ·rw [if_neg h6] at h; exact absurd rfl h
  rw [this]
  decide
theorem Pp : ∀ {l m : List Int}, (l.Pairwise fun a b => a < b) → (m.Pairwise fun a b => a < b) → (∀ x, x ∈ l ↔ x ∈ m) → l = m
 | [], [], _, _, _ => rfl
 | [], b :: m, _, _, h => by have := (h b).mpr List.mem_cons_self; cases this
 | a :: l, [], _, _, h => by have := (h a).mp List.mem_cons_self; cases this
 | a :: l, b :: m, hl, hm, h => by
  obtain ⟨l1, l2⟩ := List.pairwise_cons.mp hl
  obtain ⟨m1, m2⟩ := List.pairwise_cons.mp hm
  have hab : a = b := by
   rcases List.mem_cons.mp ((h a).mp List.mem_cons_self) with h1 | h1
   ·exact h1
   ·rcases List.mem_cons.mp ((h b).mpr List.mem_cons_self) with h2 | h2
    ·exact h2.symm
    ·have := l1 b h2; have := m1 a h1; omega
  subst hab
  have : l = m := Pp l2 m2 fun x => by
   constructor
   ·intro hx
    rcases List.mem_cons.mp ((h x).mp (List.mem_cons_of_mem _ hx)) with h1 | h1
    ·subst h1; have := l1 x hx; omega
    ·exact h1
   ·intro hx
    rcases List.mem_cons.mp ((h x).mpr (List.mem_cons_of_mem _ hx)) with h1 | h1
    ·subst h1; have := m1 x hx; omega
    ·exact h1
  rw [this]
theorem Mg (s : Nat) : (B8 s).Pairwise fun a b => a < b := by
 unfold B8 Nt
 rw [List.pairwise_map]
 refine List.Pairwise.filter _ ?_
 exact List.pairwise_lt_range.imp fun h => by omega
theorem B3f (s : Nat) : B8 (s &&& 16777215) = B8 s := by
 refine Pp (Mg _) (Mg _) fun x => ?_
 rw [Kj, Kj, Zl]
 constructor
 ·rintro ⟨h1, h2, h3⟩
  rw [Bool.and_eq_true] at h3
  exact ⟨h1, h2, h3.2⟩
 ·rintro ⟨h1, h2, h3⟩
  exact ⟨h1, h2, by rw [h3, decide_eq_true A2]; rfl⟩
theorem B3e {r : Nat} (h0 : ¬ r = 0) (h : r < 4294967296) : ∃ m, r = 2 ^ Lib.ctz 32 r * (2 * m + 1) ∧ Lib.ctz 32 r < 32 := by
 obtain ⟨m, h1, h2⟩ := Lib.ctzFrom_spec 32 r A2 h
 have e : Lib.ctz 32 r = Lib.ctzFrom 32 r := by unfold Lib.ctz; rw [if_neg h0]
 rw [e]
 exact ⟨m, h1, h2⟩
theorem C0t {r k m i : Nat} (h : r = 2 ^ k * (2 * m + 1)) : (r &&& (r - 1)).testBit i = (r.testBit i && decide (i ≠ k)) ∧ r.testBit k = true ∧ (i < k → r.testBit i = false) := by
 have hp : 0 < 2 ^ k := Nat.pow_pos Gu
 have e1 : r = 2 ^ (k + 1) * m + 2 ^ k := by rw [h, Nat.pow_succ, Nat.mul_add, Nat.mul_assoc]; simp
 have e2 : r - 1 = 2 ^ (k + 1) * m + (2 ^ k - 1) := by omega
 have hb1 : 2 ^ k < 2 ^ (k + 1) := by rw [Nat.pow_succ]; omega
 have hb2 : 2 ^ k - 1 < 2 ^ (k + 1) := by omega
 have t1 : ∀ j, r.testBit j = if j < k + 1 then (2 ^ k).testBit j else m.testBit (j - (k + 1)) := fun j => by rw [e1]; exact Nat.testBit_two_pow_mul_add m hb1 j
 have t2 : ∀ j, (r - 1).testBit j = if j < k + 1 then (2 ^ k - 1).testBit j else m.testBit (j - (k + 1)) := fun j => by rw [e2]; exact Nat.testBit_two_pow_mul_add m hb2 j
 refine ⟨?_, by rw [t1, if_pos A2, Nat.testBit_two_pow_self], fun hi => by rw [t1, if_pos A2, Nat.testBit_two_pow_of_ne A2]⟩
 rw [Nat.testBit_and, t1, t2]
 by_cases hi : i < k + 1
 ·rw [if_pos hi, if_pos hi, Nat.testBit_two_pow, Nat.testBit_two_pow_sub_one]
  by_cases hk : k = i
  ·subst hk; simp
  ·simp [hk]
 ·rw [if_neg hi, if_neg hi]
  have : i ≠ k := by omega
  simp [this]
theorem Yw {r : Nat} (h0 : ¬ r = 0) (h : r < 16777216) : Lib.ctz 32 r < 24 ∧ B8 r = (Lib.ctz 32 r : Int) :: B8 (r &&& (r - 1)) := by
 obtain ⟨m, h1, h2⟩ := B3e h0 A2
 have hb := fun i => C0t (i := i) h1
 have hk : Lib.ctz 32 r < 24 := Decidable.byContradiction fun hn => by
  have h3 := Nat.ge_two_pow_of_testBit (hb 0).2.1
  have h4 : 2 ^ 24 ≤ 2 ^ Lib.ctz 32 r := Nat.pow_le_pow_right Gu A2
  omega
 refine ⟨hk, Pp (Mg _) (List.pairwise_cons.mpr ⟨fun x hx => ?_, Mg _⟩) fun x => ?_⟩
 ·obtain ⟨x0, x1, x2⟩ := Kj.mp hx
  rw [(hb x.toNat).1, Bool.and_eq_true, decide_eq_true_eq] at x2
  have : ¬ x.toNat < Lib.ctz 32 r := fun hlt => by have := (hb x.toNat).2.2 hlt; rw [x2.1] at this; cases this
  omega
 ·rw [List.mem_cons, Kj, Kj, (hb x.toNat).1, Bool.and_eq_true, decide_eq_true_eq]
  constructor
  ·rintro ⟨x0, x1, x2⟩
   by_cases hx : x = (Lib.ctz 32 r : Int)
   ·exact .inl hx
   ·exact .inr ⟨x0, x1, x2, by omega⟩
  ·rintro (rfl | ⟨x0, x1, x2, _⟩)
   ·exact ⟨by omega, by omega, by rw [Int.toNat_natCast]; exact (hb 0).2.1⟩
   ·exact ⟨x0, x1, x2⟩
theorem C4t {r : Nat} (h0 : ¬ r = 0) : r &&& (r - 1) < r := Nat.lt_of_le_of_lt Nat.and_le_right A2
def C3q : ByteArray := ⟨#[0, 1, 1, 2, 1, 2, 2, 3, 1, 2, 2, 3, 2, 3, 3, 4, 1, 2, 2, 3, 2, 3, 3, 4, 2, 3, 3, 4, 3, 4, 4, 5, 1, 2, 2, 3, 2, 3, 3, 4, 2, 3, 3, 4, 3, 4, 4, 5, 2, 3, 3, 4, 3, 4, 4, 5, 3, 4, 4, 5, 4, 5, 5, 6, 1, 2, 2, 3, 2, 3, 3, 4, 2, 3, 3, 4, 3, 4, 4, 5, 2, 3, 3, 4, 3, 4, 4, 5, 3, 4, 4, 5, 4, 5, 5, 6, 2, 3, 3, 4, 3, 4, 4, 5, 3, 4, 4, 5, 4, 5, 5, 6, 3, 4, 4, 5, 4, 5, 5, 6, 4, 5, 5, 6, 5, 6, 6, 7, 1, 2, 2, 3, 2, 3, 3, 4, 2, 3, 3, 4, 3, 4, 4, 5, 2, 3, 3, 4, 3, 4, 4, 5, 3, 4, 4, 5, 4, 5, 5, 6, 2, 3, 3, 4, 3, 4, 4, 5, 3, 4, 4, 5, 4, 5, 5, 6, 3, 4, 4, 5, 4, 5, 5, 6, 4, 5, 5, 6, 5, 6, 6, 7, 2, 3, 3, 4, 3, 4, 4, 5, 3, 4, 4, 5, 4, 5, 5, 6, 3, 4, 4, 5, 4, 5, 5, 6, 4, 5, 5, 6, 5, 6, 6, 7, 3, 4, 4, 5, 4, 5, 5, 6, 4, 5, 5, 6, 5, 6, 6, 7, 4, 5, 5, 6, 5, 6, 6, 7, 5, 6, 6, 7, 6, 7, 7, 8]⟩
def pop8 (j : Nat) : Nat := j % 2 + j / 2 % 2 + j / 4 % 2 + j / 8 % 2 + j / 16 % 2 + j / 32 % 2 + j / 64 % 2 + j / 128 % 2
theorem V2 : ∀ j, j < 256 → C3q[j]? = some (UInt8.ofNat (pop8 j)) ∧ pop8 j ≤ 8 := by decide +kernel
def Mu (s : Nat) : Nat := pop8 (s / 16777216) + pop8 (s / 65536 &&& 255) + pop8 (s / 256 &&& 255) + pop8 (s &&& 255)
theorem B2l : ∀ k, k < 24 → Mu (2 ^ k) = 1 := by decide +kernel
theorem A7l : Mu 0 = 0 := by decide
theorem A2f (s : Nat) : s &&& 255 < 256 := Nat.lt_of_le_of_lt Nat.and_le_right Gu
section
variable {tn : Bool} {pn : Nat} {P : Program} [Tab P] {f : FuncId} {R : Ending → World → Prop} {B : By} {n : Fz} {K : List Item} {ops : Array Oper} {i : Nat} {l fin : List Nat} {σ : Nat → Value} {Γ : List Fact} {Ms Ms2 : List Az}
variable {dst : Option Tmp} {op : Op} {ty : TypeId} {pos : String} {after : Array Edge} {v : Value} {x y z : Operand}
theorem A4b {t : TypeId} {s : ByteArray} {j : Nat} (hu : Tab.und P t = some .string) (hx : ev σ x = .string s) (hs : s = C3q) (hy : ev σ y = .int .u32 (j : Int)) (hj : j < 256) : C8 P σ (.index t x y) ty (.int .u8 (pop8 j : Nat)) := fun w => by
 subst hs
 have h := (V2 j hj)
 have e : ((UInt8.ofNat (pop8 j)).toNat : Int) = (pop8 j : Nat) := by
  rw [UInt8.toNat_ofNat']
  have := h.2
  omega
 simp [C2, execOp, hx, hy, Instr.index, asIntOf, D9 hu, h.1]
 have := h.2
 omega
theorem B6l {t t' : TypeId} {a b : Nat} (hx : ev σ x = .int .u8 (a : Nat)) (hy : ev σ y = .int .u8 (b : Nat)) (h : a + b < 256) : C8 P σ (.binOp .add t x y t') ty (.int .u8 ((a + b : Nat) : Int)) :=
 Cw hx hy (fun w => Bl w) (fun w => by
  have e : IntKind.u8.wrap ((a : Int) + (b : Int)) = ((a + b : Nat) : Int) := by simp [IntKind.wrap, IntKind.signed, IntKind.bits]; omega
  show Result.ok (Value.int .u8 (IntKind.u8.wrap ((a : Int) + (b : Int)))) w = _
  rw [e])
theorem B2r {s d : TypeId} {ds : TypeDesc} {a : Nat} (hs : Tab.und P s = some ds) (hd : Tab.und P d = some (.int .i64)) (hx : ev σ x = .int .u8 (a : Nat)) (ha : a < 256) : C8 P σ (.convert s d x) ty (.int .i64 (a : Int)) := by
 have h := Kc hs hd hx (ty := ty)
 rwa [show IntKind.i64.wrap (a : Int) = (a : Int) by rw [IntKind.wrap_i64]; omega] at h
theorem U5 {t : TypeId} {s : ByteArray} {j : Nat} (k_ : NV tn pn P f R B n K ops fin l (Ac σ dst (.int .u8 (pop8 j : Nat))) Γ Ms) (hx : ev σ x = .string s := by exact A8) (hy : ev σ y = .int .u32 (j : Int) := by exact A8) (hs : s = C3q := by rfl) (hu : Tab.und P t = some .string := by rfl) (hj : j < 256 := by first | omega | exact A2f _) (hd : Aa n dst = true := by rfl) : Ib tn pn P f R B n K ops fin i l dst (.index t x y) ty σ Γ Ms := Cq (A4b hu hx hs hy hj) hd k_
theorem Zw {t t' : TypeId} {a b : Nat} (k_ : NV tn pn P f R B n K ops fin l (Ac σ dst (.int .u8 ((a + b : Nat) : Int))) Γ Ms) (hx : ev σ x = .int .u8 (a : Nat) := by exact A8) (hy : ev σ y = .int .u8 (b : Nat) := by exact A8) (h : a + b < 256 := by omega) (hd : Aa n dst = true := by rfl) : Ib tn pn P f R B n K ops fin i l dst (.binOp .add t x y t') ty σ Γ Ms := Cq (B6l hx hy h) hd k_
theorem B5b {s d : TypeId} {ds : TypeDesc} {a : Nat} (k_ : NV tn pn P f R B n K ops fin l (Ac σ dst (.int .i64 (a : Int))) Γ Ms) (hx : ev σ x = .int .u8 (a : Nat) := by exact A8) (hs : Tab.und P s = some ds := by rfl) (hd' : Tab.und P d = some (.int .i64) := by rfl) (ha : a < 256 := by omega) (hd : Aa n dst = true := by rfl) : Ib tn pn P f R B n K ops fin i l dst (.convert s d x) ty σ Γ Ms := Cq (B2r hs hd' hx ha) hd k_
end
theorem Vy {l : List Cl} (h : (Cd l).1 ≠ 0) : (Cd l).2 = [] := by
 unfold Cd at h ⊢
 split
 ·rfl
 ·rename_i h1
  rw [if_neg h1] at h
  split
  ·rfl
  ·rename_i h2
   rw [if_neg h2] at h
   exact absurd rfl h
abbrev EL : Type := Int × List Cl
def G2 (i : Int) : Nat := if 0 ≤ i ∧ i < 24 then 2 ^ i.toNat else 0
def A2v (s : Nat) (i : Int) : Nat := if 0 ≤ i ∧ i < 24 then (s &&& 16777215) ||| 2 ^ i.toNat else s &&& 16777215
def Dq (s : Nat) (i : Int) : Nat := if 0 ≤ i ∧ i < 24 then Bh (s &&& 16777215) (2 ^ i.toNat) else s &&& 16777215
theorem Ii (i : Int) : A2v 0 i = G2 i := by unfold A2v G2; split <;> simp
theorem L2 (i : Int) : G2 i < 16777216 := by
 unfold G2
 split
 ·exact Nat.pow_lt_pow_right (n := 24) (a := 2) Gu A2
 ·decide
theorem T3 (s : Nat) (i : Int) : Dq s i < 16777216 := by
 unfold Dq
 split
 ·rw [show (16777216 : Nat) = 2 ^ 24 from rfl]
  exact Nat.lt_pow_two_of_testBit _ fun j hj => by
   rw [Rv, Zl, decide_eq_false (show ¬ j < 24 by omega)]; simp
 ·exact He s
theorem B7x (s : Nat) (i : Int) : ((decide (0 ≤ i) && decide (i < 24)) && decide (((s / 2 ^ (min i.toNat 32) &&& 1 : Nat) : Int) = 1)) = Ir s i := by
 rw [C1b, Nat.and_one_is_mod]
 by_cases h : 0 ≤ i ∧ i < 24
 ·rw [show min i.toNat 32 = i.toNat by omega]
  congr 1
  exact decide_eq_decide.mpr A2
 ·have : (decide (0 ≤ i) && decide (i < 24)) = false := by simp; omega
  rw [this]; rfl
def Fa (i : Int) : Bool := decide (0 ≤ i) && decide (i < 24)
theorem A9t {i : Int} (h : Fa i = true) : Mu (G2 i &&& 16777215) = 1 := by
 have h1 : 0 ≤ i ∧ i < 24 := by unfold Fa at h; simpa using h
 have h2 := L2 i
 rw [B1j, Nat.mod_eq_of_lt A2]
 unfold G2
 rw [if_pos h1]
 exact B2l _ A2
theorem A3r {i : Int} (h : Fa i = false) : Mu (G2 i &&& 16777215) = 0 := by
 have h1 : ¬ (0 ≤ i ∧ i < 24) := by unfold Fa at h; simp at h; omega
 unfold G2
 rw [if_neg h1]
 exact A7l
theorem A9s (i : Int) : decide (((Mu (G2 i &&& 16777215) : Nat) : Int) = 1) = Fa i := by
 cases h : Fa i
 ·rw [A3r h]; rfl
 ·rw [A9t h]; rfl
theorem A3s (i : Int) : decide (((Mu (G2 i &&& 16777215) : Nat) : Int) = 0) = !Fa i := by
 cases h : Fa i
 ·rw [A3r h]; rfl
 ·rw [A9t h]; rfl
def Jk (x : EL) (k : List Cl → EL) : EL := if x.1 ≠ 0 then (x.1, []) else k x.2
theorem E2 {x : EL} {k : List Cl → EL} (h : x.1 ≠ 0) : Jk x k = (x.1, []) := if_pos h
theorem Eb {x : EL} {k : List Cl → EL} (h : x.1 = 0) : Jk x k = k x.2 := if_neg (by simp [h])
def D5 (g : List Cl → Cl → EL) : List Cl → List Cl → EL
 | h, [] => (0, h)
 | h, c :: cs => Jk (g h c) fun h' => D5 g h' cs
theorem W4 {g : List Cl → Cl → EL} : ∀ {l m h h' : List Cl}, D5 g h l = (0, h') → D5 g h (l ++ m) = D5 g h' m
 | [], m, h, h', e => by
  rw [D5, Prod.mk.injEq] at e
  rw [List.nil_append, e.2]
 | d :: l, m, h, h', e => by
  rw [D5] at e
  by_cases h0 : (g h d).1 = 0
  ·rw [Eb h0] at e
   rw [List.cons_append, D5, Eb h0]
   exact W4 e
  ·rw [E2 h0, Prod.mk.injEq] at e
   exact absurd e.1 h0
theorem Kl {g : List Cl → Cl → EL} {l h h' : List Cl} {i : Nat} (hi : i < l.length) (e : D5 g h (l.take i) = (0, h')) (h0 : (g h' (l.getD i B2)).1 = 0) : D5 g h (l.take (i + 1)) = (0, (g h' (l.getD i B2)).2) := by
 rw [Ab (d := B2) hi, W4 e, D5, Eb h0, D5]
theorem Fl {g : List Cl → Cl → EL} {l h h' : List Cl} {i : Nat} (hi : i < l.length) (e : D5 g h (l.take i) = (0, h')) (h0 : (g h' (l.getD i B2)).1 ≠ 0) : D5 g h l = ((g h' (l.getD i B2)).1, []) := by
 have e2 : l = l.take i ++ l.getD i B2 :: l.drop (i + 1) := by rw [Gp (d := B2) hi, List.getElem_cons_drop, List.take_append_drop]
 rw [e2, W4 e, ← e2, D5, E2 h0]
theorem Sn {g : List Cl → Cl → EL} {l h h' : List Cl} {i : Nat} (hi : i = l.length) (e : D5 g h (l.take i) = (0, h')) : D5 g h l = (0, h') := by
 rw [hi, List.take_length] at e
 exact e
def Fj (f g : List Cl) : EL := Cd (f ++ g)
def Pa (f g : List Cl) : List Cl := f.flatMap fun a => g.map fun b => Dz a b
def Kh (f g : List Cl) : EL := Cd (Pa f g)
def B2u (c : Cl) : List Cl := ((B8 c.pos).map fun i => (⟨0, G2 i⟩ : Cl)) ++ ((B8 c.neg).map fun i => (⟨G2 i, 0⟩ : Cl))
def A4j (c : Cl) : EL := Cd (B2u c)
def Eh (h : List Cl) (c : Cl) : EL := Jk (A4j c) fun o => Kh h o
def R4 (f : List Cl) : EL := D5 Eh [B2] f
def U0 (f : List Cl) : EL := if Bb f then R4 f else (2, [])
def Ct (c : Cl) (i : Int) : Cl := ⟨Dq c.pos i, Dq c.neg i⟩
def Ik (i : Int) (r : List Cl) (c : Cl) : EL := if Ir c.pos i then Kh [Ct c i] r else (0, [Ct c i])
def Kb (i : Int) (r : List Cl) (c : Cl) (g : List Cl) : EL := if Ir c.neg i then Jk (R4 r) fun s => Kh g s else (0, g)
def Cg (i : Int) (r h : List Cl) (c : Cl) : EL := Jk (Ik i r c) fun g => Jk (Kb i r c g) fun g => Fj h g
theorem A0l {i : Int} {r h : List Cl} {c : Cl} {P : EL} (hP : Ik i r c = P) (h0 : P.1 ≠ 0) : Cg i r h c = (P.1, []) := by unfold Cg; rw [hP]; exact E2 h0
theorem Jq {i : Int} {r h : List Cl} {c : Cl} {P N : EL} (hP : Ik i r c = P) (h0 : P.1 = 0) (hN : Kb i r c P.2 = N) (h1 : N.1 ≠ 0) : Cg i r h c = (N.1, []) := by unfold Cg; rw [hP, Eb h0, hN]; exact E2 h1
theorem Kv {i : Int} {r h : List Cl} {c : Cl} {P N : EL} (hP : Ik i r c = P) (h0 : P.1 = 0) (hN : Kb i r c P.2 = N) (h1 : N.1 = 0) : Cg i r h c = Fj h N.2 := by unfold Cg; rw [hP, Eb h0, hN]; exact Eb h1
theorem V1 {i : Int} {r : List Cl} {c : Cl} {g : List Cl} {s : EL} (h : Ir c.neg i = true) (hs : s = R4 r) (h0 : s.1 ≠ 0) : Kb i r c g = (s.1, []) := by unfold Kb; rw [if_pos h, ← hs]; exact E2 h0
theorem M5 {i : Int} {r : List Cl} {c : Cl} {g : List Cl} {s m : EL} (h : Ir c.neg i = true) (hs : s = R4 r) (h0 : s.1 = 0) (hm : m = Kh g s.2) : Kb i r c g = m := by unfold Kb; rw [if_pos h, ← hs, hm]; exact Eb h0
theorem Ya {i : Int} {r : List Cl} {c : Cl} {g : List Cl} (h : Ir c.neg i = false) : Kb i r c g = (0, g) := by unfold Kb; rw [if_neg (by simp [h])]
def D2 (f : List Cl) (i : Int) (r : List Cl) : EL := if (Bb f && Bb r) = false then (2, []) else if Fa i = false then (2, []) else D5 (Cg i r) [] f
def Fq (l : List Cl) : List Cl := l.filter fun c => !Rt c
def ofF (f : List Cl) : EL := if Bb f then Cd (Fq f) else (2, [])
def I8 (r : List Cl) : EL := Jk (U0 r) ofF
def Mv (f g : List Cl) : EL := Cd (f.flatMap fun a => Fq (g.map fun b => Dz a b))
def Er (i : Int) (r : List Cl) (c : Cl) : EL := if Ir c.pos i then Jk (ofF r) fun x => Mv [Ct c i] x else if Ir c.neg i then Jk (I8 r) fun x => Mv [Ct c i] x else (0, [Ct c i])
def Ch (i : Int) (r h : List Cl) (c : Cl) : EL := Jk (Er i r c) fun g => Fj h g
theorem J7 {i : Int} {r h : List Cl} {c : Cl} {P : EL} (hP : Er i r c = P) (h0 : P.1 = 0) : Ch i r h c = Fj h P.2 := by unfold Ch; rw [hP]; exact Eb h0
theorem F4 {i : Int} {r h : List Cl} {c : Cl} {P : EL} (hP : Er i r c = P) (h0 : P.1 ≠ 0) : Ch i r h c = (P.1, []) := by unfold Ch; rw [hP]; exact E2 h0
theorem A1r {i : Int} {r : List Cl} {c : Cl} {q m : EL} (h : Ir c.pos i = true) (hq : q = ofF r) (h0 : q.1 = 0) (hm : m = Mv [Ct c i] q.2) : Er i r c = m := by unfold Er; rw [if_pos h, ← hq, hm]; exact Eb h0
theorem Xi {i : Int} {r : List Cl} {c : Cl} {q : EL} (h : Ir c.pos i = true) (hq : q = ofF r) (h0 : q.1 ≠ 0) : Er i r c = (q.1, []) := by unfold Er; rw [if_pos h, ← hq]; exact E2 h0
theorem A1s {i : Int} {r : List Cl} {c : Cl} {q m : EL} (h1 : Ir c.pos i = false) (h : Ir c.neg i = true) (hq : q = I8 r) (h0 : q.1 = 0) (hm : m = Mv [Ct c i] q.2) : Er i r c = m := by unfold Er; rw [if_neg (by simp [h1]), if_pos h, ← hq, hm]; exact Eb h0
theorem Xj {i : Int} {r : List Cl} {c : Cl} {q : EL} (h1 : Ir c.pos i = false) (h : Ir c.neg i = true) (hq : q = I8 r) (h0 : q.1 ≠ 0) : Er i r c = (q.1, []) := by unfold Er; rw [if_neg (by simp [h1]), if_pos h, ← hq]; exact E2 h0
theorem A5r {i : Int} {r : List Cl} {c : Cl} (h1 : Ir c.pos i = false) (h : Ir c.neg i = false) : Er i r c = (0, [Ct c i]) := by unfold Er; rw [if_neg (by simp [h1]), if_neg (by simp [h])]
def Bu (f : List Cl) (i : Int) (r : List Cl) : EL := if (Cj f && Fa i && Bb r) = false then (2, []) else D5 (Ch i r) [] f
abbrev N2 (x : EL) : Prop := Au x.2
theorem B2i {l m : List Cl} (h : Au l) (hs : ∀ c, c ∈ m → c ∈ l) (hl : m.length ≤ l.length) : Au m := ⟨fun c hc => h.1 c (hs c hc), by have := h.2; omega⟩
theorem K1 {l : List Cl} (h : ∀ c, c ∈ l → u32 c) : N2 (Cd l) := Yz h
theorem H9 {x : EL} {k : List Cl → EL} (h : x.1 = 0 → N2 (k x.2)) : N2 (Jk x k) := by
 by_cases h0 : x.1 = 0
 ·rw [Eb h0]; exact h h0
 ·rw [E2 h0]; exact Dx
theorem R2 {g : List Cl → Cl → EL} : ∀ {l h : List Cl}, (∀ h c, c ∈ l → Au h → N2 (g h c)) → Au h → N2 (D5 g h l)
 | [], h, _, h2 => h2
 | c :: l, h, h1, h2 => by
  rw [D5]
  exact H9 fun _ => R2 (fun h' d hd => h1 h' d (List.mem_cons_of_mem _ hd)) (h1 h c List.mem_cons_self h2)
theorem K7 {a b : Cl} (h : u32 a) (h2 : u32 b) : u32 (Dz a b) := ⟨Nat.or_lt_two_pow (n := 32) h.1 h2.1, Nat.or_lt_two_pow (n := 32) h.2 h2.2⟩
theorem Um {f g : List Cl} (h : ∀ c, c ∈ f → u32 c) (h2 : ∀ c, c ∈ g → u32 c) : ∀ c, c ∈ f ++ g → u32 c := fun c hc => (List.mem_append.mp hc).elim (h c) (h2 c)
theorem Xs {f g : List Cl} (h : ∀ c, c ∈ f → u32 c) (h2 : ∀ c, c ∈ g → u32 c) : ∀ c, c ∈ Pa f g → u32 c := fun c hc => by
 obtain ⟨a, ha, hc⟩ := List.mem_flatMap.mp hc
 obtain ⟨b, hb, rfl⟩ := List.mem_map.mp hc
 exact K7 (h a ha) (h2 b hb)
theorem A9n (c : Cl) : ∀ d, d ∈ B2u c → u32 d := fun d hd => by
 rcases List.mem_append.mp hd with hd | hd
 ·obtain ⟨i, _, rfl⟩ := List.mem_map.mp hd
  exact ⟨by show (0 : Nat) < _; decide, by have := L2 i; show G2 i < 4294967296; omega⟩
 ·obtain ⟨i, _, rfl⟩ := List.mem_map.mp hd
  exact ⟨by have := L2 i; show G2 i < 4294967296; omega, by show (0 : Nat) < _; decide⟩
theorem Dr (c : Cl) (i : Int) : u32 (Ct c i) := ⟨by have := T3 c.pos i; show Dq c.pos i < _; omega, by have := T3 c.neg i; show Dq c.neg i < _; omega⟩
theorem Cs {c : Cl} (h : u32 c) : Au [c] := ⟨fun d hd => by rw [List.mem_singleton] at hd; subst hd; exact h, by unfold reach; simp⟩
theorem Kf {f g : List Cl} (h : Au f) (h2 : Au g) : N2 (Fj f g) := K1 (Um h.1 h2.1)
theorem Ke {f g : List Cl} (h : Au f) (h2 : Au g) : N2 (Kh f g) := K1 (Xs h.1 h2.1)
theorem B0f (c : Cl) : N2 (A4j c) := K1 (A9n c)
theorem Ti {h : List Cl} {c : Cl} (hh : Au h) : N2 (Eh h c) := H9 fun _ => Ke hh (B0f c)
theorem Pr : Au [B2] := Cs ⟨by decide, by decide⟩
theorem Oi (f : List Cl) : N2 (R4 f) := R2 (fun h c _ hh => Ti hh) Pr
theorem A4m (f : List Cl) : N2 (U0 f) := by unfold U0; split; exact Oi f; exact Dx
theorem A7u {i : Int} {r : List Cl} {c : Cl} (hr : Au r) : N2 (Ik i r c) := by
 unfold Ik
 split
 ·exact Ke (Cs (Dr c i)) hr
 ·exact Cs (Dr c i)
theorem A7v {i : Int} {r : List Cl} {c : Cl} {g : List Cl} (hg : Au g) : N2 (Kb i r c g) := by
 unfold Kb
 split
 ·exact H9 fun _ => Ke hg (Oi r)
 ·exact hg
theorem Th {i : Int} {r h : List Cl} {c : Cl} (hr : Au r) (hh : Au h) : N2 (Cg i r h c) := by
 unfold Cg
 refine H9 fun _ => H9 fun _ => Kf hh ?_
 have h1 : N2 (Ik i r c) := A7u hr
 exact A7v h1
theorem A4n {f r : List Cl} {i : Int} (hr : Au r) : N2 (D2 f i r) := by
 unfold D2
 split
 ·exact Dx
 ·split
  ·exact Dx
  ·exact R2 (fun h c _ hh => Th hr hh) Dx
theorem Ps {l : List Cl} (h : Au l) : Au (Fq l) := B2i h (fun c hc => (List.mem_filter.mp hc).1) (List.length_filter_le _ _)
theorem Vj {f : List Cl} (h : Au f) : N2 (ofF f) := by unfold ofF; split; exact K1 (Ps h).1; exact Dx
theorem Ma (r : List Cl) : N2 (I8 r) := H9 fun _ => Vj (A4m r)
theorem K0 {f g : List Cl} (h : Au f) (h2 : Au g) : N2 (Mv f g) := K1 fun c hc => by
 obtain ⟨a, ha, hc⟩ := List.mem_flatMap.mp hc
 obtain ⟨b, hb, rfl⟩ := List.mem_map.mp (List.mem_filter.mp hc).1
 exact K7 (h.1 a ha) (h2.1 b hb)
theorem A0w {i : Int} {r : List Cl} {c : Cl} (hr : Au r) : N2 (Er i r c) := by
 unfold Er
 split
 ·exact H9 fun _ => K0 (Cs (Dr c i)) (Vj hr)
 ·split
  ·exact H9 fun _ => K0 (Cs (Dr c i)) (Ma r)
  ·exact Cs (Dr c i)
theorem A0v {i : Int} {r h : List Cl} {c : Cl} (hr : Au r) (hh : Au h) : N2 (Ch i r h c) := H9 fun _ => Kf hh (A0w hr)
theorem A4o {f r : List Cl} {i : Int} (hr : Au r) : N2 (Bu f i r) := by
 unfold Bu
 split
 ·exact Dx
 ·exact R2 (fun h c _ hh => A0v hr hh) Dx
abbrev U1 (x : EL) : Prop := x.2.length ≤ 64
theorem E0 (l : List Cl) : U1 (Cd l) := by
 rcases A1h l with ⟨_, _, h, h2⟩ | h | h
 ·show (Cd l).2.length ≤ 64; rw [h]; exact h2
 ·show (Cd l).2.length ≤ 64; rw [Vy A2]; decide
 ·show (Cd l).2.length ≤ 64; rw [Vy A2]; decide
theorem Nu {x : EL} {k : List Cl → EL} (h : x.1 = 0 → U1 (k x.2)) : U1 (Jk x k) := by
 by_cases h0 : x.1 = 0
 ·rw [Eb h0]; exact h h0
 ·rw [E2 h0]; show ([] : List Cl).length ≤ 64; decide
theorem A5d {g : List Cl → Cl → EL} : ∀ {l h : List Cl}, (∀ h c, c ∈ l → h.length ≤ 64 → U1 (g h c)) → h.length ≤ 64 → U1 (D5 g h l)
 | [], h, _, h2 => h2
 | c :: l, h, h1, h2 => by
  rw [D5]
  exact Nu fun _ => A5d (fun h' d hd => h1 h' d (List.mem_cons_of_mem _ hd)) (h1 h c List.mem_cons_self h2)
theorem Tl (h : List Cl) (c : Cl) : U1 (Eh h c) := Nu fun _ => E0 _
theorem B0q (f : List Cl) : U1 (R4 f) := A5d (fun h c _ _ => Tl h c) Gu
theorem A5c (i : Int) (r h : List Cl) (c : Cl) : U1 (Cg i r h c) := Nu fun _ => Nu fun _ => E0 _
theorem B7m (f : List Cl) : U1 (ofF f) := by unfold ofF; split; exact E0 _; (show ([] : List Cl).length ≤ 64; decide)
theorem A8f (r : List Cl) : U1 (I8 r) := Nu fun _ => B7m _
theorem B3i {f : List Cl} (h : Bb f = true) : f.length ≤ 64 := by
 unfold Bb at h
 simp only [Bool.and_eq_true, decide_eq_true_eq] at h
 exact h.2
theorem B6p (c : Cl) : (B2u c).length ≤ 48 := by
 unfold B2u
 rw [List.length_append, List.length_map, List.length_map]
 have h1 : (B8 c.pos).length ≤ 24 := Iq _ _
 have h2 : (B8 c.neg).length ≤ 24 := Iq _ _
 omega
theorem B7i {s i : Nat} (h : i < (B8 s).length) : 0 ≤ (B8 s).getD i 0 ∧ (B8 s).getD i 0 < 24 := by
 have h1 := Yv (Am (d := (0 : Int)) h)
 exact ⟨h1.1, by have := h1.2; exact_mod_cast this⟩
theorem A4z {s i : Nat} (h : i < (B8 s).length) : An ((B8 s).getD i 0) := by have := B7i h; unfold An; omega
theorem Ys (f g : List Cl) : (Pa f g).length = f.length * g.length := by
 unfold Pa
 induction f with
 | nil => simp
 | cons a f ih => rw [List.flatMap_cons, List.length_append, ih, List.length_map, List.length_cons, Nat.succ_mul]; omega
theorem A8d (f g : List Cl) (a : Cl) : Pa (f ++ [a]) g = Pa f g ++ g.map fun b => Dz a b := by unfold Pa; rw [List.flatMap_append]; simp
theorem Bz {ok : Nat → Prop} {l : List Cl} {a : SH} {w : World} (h : J9 ok l a w) : Au l := ⟨h.2, h.1.2.1⟩
def U3 (i : Int) : EL := if Fa i then (0, [⟨G2 i, 0⟩]) else (2, [])
theorem St.C4u {B : By} {Γ : List Fact} {Ms : List Az} {w : World} {e : TypeId} {b : Nat} {l m : List Cl} {a a' : SH} (hs : St B Γ (A7 b [sl a l.length, sl a' m.length] e :: Ms) w) {hBp : Prop} (hB : hBp) (hF : CL l a ∈ Γ) (hG : CL m a' ∈ Γ) : St B (CCF [(l, a), (m, a')] (some ⟨b, 0, Option.none⟩, 2) :: Γ) Ms w := by
 have h1 := ((hs.Hi (sz := 1) (m := 2) rfl Gu).B9c cpE).A9g (x := (l, a)) List.mem_cons_self (List.mem_cons_of_mem _ hF)
 have h2 := h1.A9g (x := (m, a')) List.mem_cons_self (List.mem_cons_of_mem _ (List.mem_cons_of_mem _ hG))
 exact (h2.Y7 (F := Oq) (E := cpE) (d := cp0) (bt := 24) (l := [(l, a), (m, a')]) (fun _ => rfl) hB List.mem_cons_self rfl rfl Gu).less sx_
theorem St.C2k {B : By} {Γ : List Fact} {Ms : List Az} {w : World} {b : Nat} {e : TypeId} {cs : List Value} {c : Cl} (hs : St B Γ (A7 b cs e :: Ms) w) {hBp : Prop} (hB : hBp) (hc : cs = Ae c) (hu : u32 c) : St B (CL [c] (some ⟨b, 0, Option.none⟩, 1) :: Γ) Ms w :=
 (hs.Hi (sz := 2) (m := 1) (by rw [hc]; rfl) Gu).Bo (l := [c]) hB (by rw [hc]; simp [A5]) rfl (Cs hu).2 (Cs hu).1
theorem Spec.Qt {P : Program} {k : FuncId} {args : Array Value} {pre : List Fact} {e : TypeId} {r r' : EL} (he : r' = r) (h : Spec P k args pre [] (fun x : SH => .tuple #[sl x r.2.length, .int .i64 r.1]) (fun _ => []) (fun x => [Ag 2 e x r.2.length (A5 r.2)])) (hr : N2 r) :
  Spec P k args pre [] (fun x : SH => .tuple #[sl x r'.2.length, .int .i64 r'.1]) (fun x => [CL r'.2 x]) (fun _ => []) := by
 subst he
 exact fun ok w hok hst => (h ok w hok hst).mono fun e w' hh => by
  obtain ⟨x, he, hs⟩ := hh
  exact ⟨x, he, hs.Bo trivial rfl rfl hr.2 hr.1⟩
theorem Spec.M3 {P : Program} {k : FuncId} {args : Array Value} {pre : List Fact} {e : TypeId} {r r' : EL} (he : r' = r) (h : Spec P k args pre [] (fun x : SH => .tuple #[sl x r.2.length, .int .i64 r.1]) (fun _ => []) (fun x => [Ag 2 e x r.2.length (A5 r.2)])) :
  Spec P k args pre [] (fun x : SH => .tuple #[sl x r'.2.length, .int .i64 r'.1]) (fun _ => []) (fun x => [Ag 2 e x r'.2.length (A5 r'.2)]) := by
 subst he
 exact h
structure E3 where
 form : Int → List Cl → EL
 Ap : Int → List Cl → EL
def Z4 (x : EL) : Af (List Cl) := if x.1 = 0 then .ok x.2 else .bad x.1
theorem A8r {x : EL} (h : x.1 = 0) : Z4 x = .ok x.2 := if_pos h
theorem B0z {x : EL} (h : x.1 ≠ 0) : Z4 x = .bad x.1 := if_neg h
theorem Wc {x : EL} {g : List Cl} : Z4 x = .ok g ↔ x = (0, g) := by
 unfold Z4
 split
 ·rename_i h
  constructor
  ·intro h2; injection h2 with h2; exact Prod.ext h h2
  ·rintro rfl; rfl
 ·rename_i h
  constructor
  ·intro h2; cases h2
  ·rintro rfl; exact absurd rfl h
theorem Tp {x : EL} {e : Int} : Z4 x = .bad e ↔ x.1 = e ∧ e ≠ 0 := by
 unfold Z4
 split
 ·rename_i h
  constructor
  ·intro h2; cases h2
  ·rintro ⟨h2, h3⟩; exact absurd (h2.symm.trans h) h3
 ·rename_i h
  constructor
  ·intro h2; injection h2 with h2; exact ⟨h2, h2 ▸ h⟩
  ·rintro ⟨h2, h3⟩; rw [h2]
def E3.row (W : E3) (k d : Int) (r : List Cl) : EL := if k = 14 then W.Ap d r else W.form d r
def Bq (W : E3) : Tr Int where
 own d k n _ r := (Z4 (W.row k d r)).bind fun g => .ok (.inr (n, g))
 Ap d f := (Z4 (W.Ap d f)).bind fun g => .ok (if g.length = 0 then none else some g)
 Nv d b := .ok (d + b.2)
theorem A3n {W : E3} {d : Int} {b : Int × Int} : (Bq W).Nv d b = .ok (d + b.2) := rfl
theorem T9 {W : E3} {d k n : Int} {nm : ByteArray} {r : List Cl} (h : (W.row k d r).1 = 0) : (Bq W).own d k n nm r = .ok (.inr (n, (W.row k d r).2)) := by
 show (Z4 _).bind _ = _; rw [A8r h]; rfl
theorem A0j {W : E3} {d k n : Int} {nm : ByteArray} {r : List Cl} (h : (W.row k d r).1 ≠ 0) : (Bq W).own d k n nm r = .bad (W.row k d r).1 := by
 show (Z4 _).bind _ = _; rw [B0z h]; rfl
theorem A0i {W : E3} {d k n : Int} {nm : ByteArray} {r : List Cl} {p : Int × List Cl} : (Bq W).own d k n nm r = .ok (.inr p) ↔ W.row k d r = (0, p.2) ∧ p.1 = n := by
 constructor
 ·intro h
  obtain ⟨g, hg, h2⟩ := Af.A9 (x := Z4 (W.row k d r)) h
  injection h2 with h2; injection h2 with h2; subst h2
  exact ⟨Wc.mp hg, rfl⟩
 ·rintro ⟨h1, h2⟩
  rw [T9 (by rw [h1]), h1, ← h2]
theorem Qr {W : E3} {d k n : Int} {nm : ByteArray} {r : List Cl} {u : T} : (Bq W).own d k n nm r ≠ .ok (.inl u) := by
 intro h
 obtain ⟨g, hg, h2⟩ := Af.A9 (x := Z4 (W.row k d r)) h
 injection h2 with h2; cases h2
theorem Sd {W : E3} {d k n e : Int} {nm : ByteArray} {r : List Cl} : (Bq W).own d k n nm r = .bad e ↔ (W.row k d r).1 = e ∧ e ≠ 0 := by
 rw [← Tp]
 show (Z4 _).bind _ = _ ↔ _
 cases Z4 (W.row k d r) with
 | ok g => constructor <;> (intro h; cases h)
 | bad e' => exact Iff.intro (fun h => by injection h with h; rw [h]) (fun h => by injection h with h; rw [h]; rfl)
theorem Uy {W : E3} {d : Int} {f : List Cl} (h : (W.Ap d f).1 = 0) (h2 : (W.Ap d f).2.length = 0) : (Bq W).Ap d f = .ok none := by
 show (Z4 _).bind _ = _; rw [A8r h]; show Af.ok (if _ then _ else _) = _; rw [if_pos h2]
theorem Nh {W : E3} {d : Int} {f : List Cl} (h : (W.Ap d f).1 = 0) (h2 : (W.Ap d f).2.length ≠ 0) : (Bq W).Ap d f = .ok (some (W.Ap d f).2) := by
 show (Z4 _).bind _ = _; rw [A8r h]; show Af.ok (if _ then _ else _) = _; rw [if_neg h2]
theorem X8 {W : E3} {d : Int} {f : List Cl} (h : (W.Ap d f).1 ≠ 0) : (Bq W).Ap d f = .bad (W.Ap d f).1 := by
 show (Z4 _).bind _ = _; rw [B0z h]; rfl
theorem Pq {W : E3} {d : Int} {f g : List Cl} : (Bq W).Ap d f = .ok (some g) ↔ W.Ap d f = (0, g) ∧ g ≠ [] := by
 constructor
 ·intro h
  obtain ⟨g', hg, h2⟩ := Af.A9 (x := Z4 (W.Ap d f)) h
  injection h2 with h2
  split at h2
  ·cases h2
  ·rename_i h3
   injection h2 with h2; subst h2
   exact ⟨Wc.mp hg, fun h => h3 (by rw [h]; rfl)⟩
 ·rintro ⟨h, h2⟩
  have h3 := Nh (W := W) (d := d) (f := f) (by rw [h]) (by rw [h]; intro h4; exact h2 (List.eq_nil_of_length_eq_zero h4))
  rw [h3, h]
theorem Qs {W : E3} {d e : Int} {f : List Cl} : (Bq W).Ap d f = .bad e ↔ (W.Ap d f).1 = e ∧ e ≠ 0 := by
 rw [← Tp]
 show (Z4 _).bind _ = _ ↔ _
 cases Z4 (W.Ap d f) with
 | ok g => constructor <;> (intro h; cases h)
 | bad e' => exact Iff.intro (fun h => by injection h with h; rw [h]) (fun h => by injection h with h; rw [h]; rfl)
def Du (g : Nat → T → Af T) : Nat → List T → Af (List T)
 | _, [] => .ok []
 | i, t :: ts => (g i t).bind fun t' => (Du g (i + 1) ts).bind fun ts' => .ok (t' :: ts')
section
variable {g : Nat → T → Af T}
theorem Pz : ∀ (i : Nat) (l : List T) (t : T), Du g i (l ++ [t]) = (Du g i l).bind fun l' => (g (i + l.length) t).bind fun t' => .ok (l' ++ [t'])
 | i, [], t => by
  simp only [List.nil_append, Du, Af.bind, List.length_nil, Nat.add_zero]
 | i, a :: l, t => by
  simp only [List.cons_append, Du, Pz (i + 1) l t, List.length_cons]
  rw [show i + 1 + l.length = i + (l.length + 1) by omega]
  cases g i a with
  | bad e => rfl
  | ok a' =>
   simp only [Af.bind]
   cases Du g (i + 1) l with
   | bad e => rfl
   | ok l' =>
    simp only
    cases g (i + (l.length + 1)) t with
    | bad e => rfl
    | ok c2 => rfl
theorem Z8 {e : Int} : ∀ {l m : List T} {i : Nat}, Du g i l = .bad e → Du g i (l ++ m) = .bad e
 | [], m, i, h => by rw [Du] at h; cases h
 | a :: l, m, i, h => by
  rw [List.cons_append, Du]
  rw [Du] at h
  cases h1 : g i a with
  | bad e' => rw [h1] at h; exact h
  | ok a' =>
   rw [h1] at h
   simp only [Af.bind] at h ⊢
   cases h3 : Du g (i + 1) l with
   | bad e' => rw [h3] at h; rw [Z8 h3]; exact h
   | ok l' => rw [h3] at h; cases h
theorem A5v {l us : List T} {i : Nat} {u : T} (hi : i < l.length) (h : Du g 0 (l.take i) = .ok us) (hu : g i (l.getD i t0) = .ok u) : Du g 0 (l.take (i + 1)) = .ok (us ++ [u]) := by
 rw [Ab (d := t0) hi, Pz, h]
 simp only [Af.bind, List.length_take, Nat.zero_add, Nat.min_eq_left (Nat.le_of_lt hi)]
 rw [hu]
theorem A1u {l us : List T} {i : Nat} {e : Int} (hi : i < l.length) (h : Du g 0 (l.take i) = .ok us) (hu : g i (l.getD i t0) = .bad e) : Du g 0 l = .bad e := by
 have h1 : Du g 0 (l.take (i + 1)) = .bad e := by
  rw [Ab (d := t0) hi, Pz, h]
  simp only [Af.bind, List.length_take, Nat.zero_add, Nat.min_eq_left (Nat.le_of_lt hi)]
  rw [hu]
 have h2 := Z8 (m := l.drop (i + 1)) h1
 rwa [List.take_append_drop] at h2
theorem Z7 : ∀ {l us : List T} {i : Nat}, Du g i l = .ok us → us.length = l.length
 | [], us, i, h => by rw [Du] at h; injection h with h; subst h; rfl
 | a :: l, us, i, h => by
  rw [Du] at h
  obtain ⟨a', _, h⟩ := Af.A9 h
  obtain ⟨l', h2, h⟩ := Af.A9 h
  injection h with h; subst h
  simp [Z7 h2]
theorem Z6 {e : Int} : ∀ {l : List T} {i : Nat}, Du g i l = .bad e → ∃ j t, t ∈ l ∧ g j t = .bad e
 | [], i, h => by rw [Du] at h; cases h
 | a :: l, i, h => by
  rw [Du] at h
  cases h1 : g i a with
  | bad e' => rw [h1] at h; injection h with h; subst h; exact ⟨i, a, List.mem_cons_self, h1⟩
  | ok a' =>
   rw [h1] at h
   simp only [Af.bind] at h
   cases h3 : Du g (i + 1) l with
   | bad e' => rw [h3] at h; injection h with h; subst h; obtain ⟨j, t, ht, hj⟩ := Z6 h3; exact ⟨j, t, List.mem_cons_of_mem _ ht, hj⟩
   | ok l' => rw [h3] at h; cases h
end
theorem S6 {W : E3} {k d : Int} : ∀ {i : Nat} {ts : List T}, Dc (Bq W) k i ts d = Du (fun j t => Bm (Bq W) t (d + (binds k j).2)) i ts
 | i, [] => by rw [Em, Du]
 | i, t :: ts => by rw [E5, Du, A3n, S6 (i := i + 1) (ts := ts)]; rfl
theorem S5 {W : E3} {k d : Int} : ∀ {i : Nat} {ts : List T}, Co (Bq W) k ts d = Du (fun _ t => Bm (Bq W) t (d + more k)) i ts
 | i, [] => by rw [Ey, Du]
 | i, t :: ts => by rw [E4, Du, A3n, S5 (i := i + 1) (ts := ts)]; rfl
theorem X6 {C : Type} {A : Tr C} {k : Int} {c : C} {ss : List Br} {s : Nat} {bs : List Br} (hs : s < ss.length) (hb : D7 A k (ss.take s) c = .ok bs) (hf : A.Ap c (ss.getD s B5).Ap = .ok none) : D7 A k (ss.take (s + 1)) c = .ok bs := by
 rw [Ab (d := B5) hs, M0, hb]
 simp only [Af.bind]
 rw [hf]
theorem X5 {C : Type} {A : Tr C} {t : T} {c : C} {e : Int} {p : Int × List Cl} (h : A.own c t.kind t.n t.name t.r = .ok (.inr p)) (hl : Dc A t.kind 0 t.kids c = .bad e) : Bm A t c = .bad e := by
 rw [Fx, h]; simp only [Af.bind]; rw [hl]
def Ml (r : Af (List T)) : Int × List T := match r with
 | .ok u => (0, u)
 | .bad e => (e, [])
theorem B4l {r : Af T} (h : (O4 r).1 ≠ 0) : r = .bad (O4 r).1 := by
 cases r with
 | ok u => exact absurd rfl h
 | bad e => rfl
theorem B8y {r : Af T} (hb : ∀ e, r = .bad e → e ≠ 0) (h : (O4 r).1 = 0) : r = .ok (O4 r).2 := by
 cases r with
 | ok u => rfl
 | bad e => exact absurd h (hb e rfl)
theorem Wr {r : Af (List T)} (h : (Ml r).1 ≠ 0) : r = .bad (Ml r).1 := by
 cases r with
 | ok u => exact absurd rfl h
 | bad e => rfl
theorem Zh {r : Af (List T)} (hb : ∀ e, r = .bad e → e ≠ 0) (h : (Ml r).1 = 0) : r = .ok (Ml r).2 := by
 cases r with
 | ok u => rfl
 | bad e => exact absurd h (hb e rfl)
theorem Ta {W : E3} : ∀ (t : T) {d e : Int}, Bm (Bq W) t d = .bad e → e ≠ 0 := T.ind fun t ih d e h => by
 rcases A3b h with h1 | ⟨b, _, h1⟩ | ⟨p, hp, h1 | ⟨c', _, h2⟩⟩
 ·exact (Sd.mp h1).2
 ·exact (Qs.mp h1).2
 ·cases h1
 ·exact ih p hp h2
theorem Ro {W : E3} {b : Nat → Int} {l : List T} {i : Nat} {e d : Int} (h : Du (fun j t => Bm (Bq W) t (d + b j)) i l = .bad e) : e ≠ 0 := by
 obtain ⟨j, t, _, h1⟩ := Z6 h
 exact Ta t h1
abbrev C7 (W : E3) (t : T) (d : Int) : Int × T := O4 (Bm (Bq W) t d)
abbrev T4 (W : E3) (b : Nat → Int) (l : List T) (d : Int) : Int × List T := Ml (Du (fun j t => Bm (Bq W) t (d + b j)) 0 l)
def Ef (P : List Cl → Int → List Cl → EL) (i : Int) (r : List Cl) (d : Int) (f : List Cl) : EL := if Ir (Pe f) (i + d) = false then (0, f) else Jk (Bc r 0 d) fun s => P f (i + d) s
def P0 (i : Int) (r : List Cl) : E3 := ⟨Ef D2 i r, Ef Bu i r⟩
def Kz (i : Int) (d : Int) (f : List Cl) : EL := Cd (f.map fun c => ⟨G6 c.pos (i + d), G6 c.neg (i + d)⟩)
def Pf (i : Int) : E3 := ⟨Kz i, Kz i⟩
theorem A3a {f : List Cl} {j : Int} {c : Cl} (hc : c ∈ f.map fun c => (⟨G6 c.pos j, G6 c.neg j⟩ : Cl)) : u32 c := by
 obtain ⟨e, _, rfl⟩ := List.mem_map.mp hc
 exact ⟨by have := Rq e.pos j; show G6 _ _ < _; omega, by have := Rq e.neg j; show G6 _ _ < _; omega⟩
theorem A0d {t k : T} (h : k ∈ t.kids) : size k < size t := by obtain ⟨p, hp, e⟩ := F7 h; exact e ▸ Jp hp
theorem A0c {t k : T} {b : Br} (h : b ∈ t.sys) (h2 : k ∈ b.kids) : size k < size t := by obtain ⟨p, hp, e⟩ := G7 h h2; exact e ▸ Jp hp
theorem Spec.C7y {P : Program} {k : FuncId} {args : Array Value} {pre : List Fact} {Ms0 : List Az} {y : Tys} {r r' : Int × T} (he : r' = r) (h : Spec P k args pre Ms0 (fun x : {h : HT // h.er = r.2} => .tuple #[.agg (tc r.2 x.1.vr x.1.vk x.1.vs).toArray, .int .i64 r.1]) (fun _ => []) (fun x => [Cc (Eo y x.1)])) :
  Spec P k args pre Ms0 (fun x : {h : HT // h.er = r'.2} => .tuple #[.agg (tc r'.2 x.1.vr x.1.vk x.1.vs).toArray, .int .i64 r'.1]) (fun _ => []) (fun x => [Cc (Eo y x.1)]) := by
 subst he
 exact h
theorem Spec.C2l {P : Program} {k : FuncId} {args : Array Value} {pre : List Fact} {Ms0 : List Az} {y : Tys} {e : TypeId} {r r' : Int × List T} (he : r' = r) (h : Spec P k args pre Ms0 (fun x : {p : List HT × SH // p.1.map HT.er = r.2} => .tuple #[sl x.1.2 r.2.length, .int .i64 r.1]) (fun _ => []) (fun x => [Ag 6 e x.1.2 r.2.length (Bp (x.1.1.map HT.tp)), Cc (Dh y x.1.1)])) :
  Spec P k args pre Ms0 (fun x : {p : List HT × SH // p.1.map HT.er = r'.2} => .tuple #[sl x.1.2 r'.2.length, .int .i64 r'.1]) (fun _ => []) (fun x => [Ag 6 e x.1.2 r'.2.length (Bp (x.1.1.map HT.tp)), Cc (Dh y x.1.1)]) := by
 subst he
 exact h
section
variable {W : E3}
mutual
theorem S3 : ∀ {t u : T} {d : Int}, Bm (Bq W) t d = .ok u → size u ≤ size t
 | .mk k n nm r ks ss, u, d, hu => by
  rw [Fx] at hu
  simp only [T.kind, T.n, T.name, T.r, T.kids, T.sys] at hu
  obtain ⟨o, h9, hu⟩ := Af.A9 hu
  cases o with
  | inl v => exact absurd h9 Qr
  | inr p =>
   obtain ⟨ks', h10, hu⟩ := Af.A9 hu
   obtain ⟨ss', h11, hu⟩ := Af.A9 hu
   injection hu with hu
   subst hu
   rw [Cm, Cm]
   simp only [T.kids, T.sys]
   have h1 := Ui h10
   have h2 := Pl h11
   omega
theorem Ui {k : Int} : ∀ {ts us : List T} {i : Nat} {d : Int}, Dc (Bq W) k i ts d = .ok us → D3 us ≤ D3 ts
 | [], us, i, d, hu => by rw [Em] at hu; injection hu with hu; subst hu; exact Nat.le_refl _
 | t :: ts, us, i, d, hu => by
  rw [E5] at hu
  obtain ⟨c', _, hu⟩ := Af.A9 hu
  obtain ⟨t', h2, hu⟩ := Af.A9 hu
  obtain ⟨ts', h3, hu⟩ := Af.A9 hu
  injection hu with hu
  subst hu
  have h4 := S3 h2
  have h5 := Ui h3
  simp only [D3]
  omega
theorem Ug {k : Int} : ∀ {ts us : List T} {d : Int}, Co (Bq W) k ts d = .ok us → D3 us ≤ D3 ts
 | [], us, d, hu => by rw [Ey] at hu; injection hu with hu; subst hu; exact Nat.le_refl _
 | t :: ts, us, d, hu => by
  rw [E4] at hu
  obtain ⟨c', _, hu⟩ := Af.A9 hu
  obtain ⟨t', h2, hu⟩ := Af.A9 hu
  obtain ⟨ts', h3, hu⟩ := Af.A9 hu
  injection hu with hu
  subst hu
  have h4 := S3 h2
  have h5 := Ug h3
  simp only [D3]
  omega
theorem Pl {k : Int} : ∀ {bs us : List Br} {d : Int}, D7 (Bq W) k bs d = .ok us → Fe us ≤ Fe bs
 | [], us, d, hu => by rw [Di] at hu; injection hu with hu; subst hu; exact Nat.le_refl _
 | .mk f ks :: bs, us, d, hu => by
  rw [Dj] at hu
  simp only [Br.Ap, Br.kids] at hu
  obtain ⟨o, h5, hu⟩ := Af.A9 hu
  cases o with
  | none => have h6 := Pl hu; simp only [Fe]; omega
  | some g =>
   obtain ⟨ks', h7, hu⟩ := Af.A9 hu
   obtain ⟨bs', h8, hu⟩ := Af.A9 hu
   injection hu with hu
   subst hu
   have h1 := Ug h7
   have h2 := Pl h8
   simp only [Fe, Br.kids]
   omega
end
theorem B4w (hW : ∀ d f, Au f → N2 (W.form d f) ∧ N2 (W.Ap d f)) {t u : T} {d : Int} (h : Lp t) (hu : Bm (Bq W) t d = .ok u) : Lp u := by
 refine Qk (A := Bq W) ?_ ?_ ?_ t d u h hu
 ·intro c k n nm r p _ hn hr ho
  obtain ⟨h1, h2⟩ := A0i.mp ho
  have h3 := hW c r hr
  have h4 : N2 (W.row k c r) := by unfold E3.row; split; exact h3.2; exact h3.1
  unfold N2 at h4
  rw [h1] at h4
  exact ⟨by rw [h2]; exact hn, h4⟩
 ·intro c k n nm r u ho
  exact absurd ho Qr
 ·intro c f f' hr ho
  obtain ⟨h1, _⟩ := Pq.mp ho
  have h3 := (hW c f hr).2
  unfold N2 at h3
  rw [h1] at h3
  exact h3
theorem B9v : size t0 = 1 := by decide
theorem Wq {t : T} {d : Int} : size (C7 W t d).2 ≤ size t := by
 unfold C7
 cases h : Bm (Bq W) t d with
 | ok u => exact S3 h
 | bad e => show size t0 ≤ size t; rw [B9v]; exact size_pos' t
theorem Sy (hW : ∀ d f, Au f → N2 (W.form d f) ∧ N2 (W.Ap d f)) {t : T} {d : Int} (h : Lp t) : Lp (C7 W t d).2 := by
 unfold C7
 cases hu : Bm (Bq W) t d with
 | ok u => exact B4w hW h hu
 | bad e => exact M8
end
theorem Vi {P : List Cl → Int → List Cl → EL} (hP : ∀ f i r, Au f → Au r → N2 (P f i r)) {i d : Int} {r f : List Cl} (hf : Au f) : N2 (Ef P i r d f) := by
 unfold Ef
 split
 ·exact hf
 ·exact H9 fun _ => hP _ _ _ hf (J6 r 0 d)
theorem B0e (i : Int) (r : List Cl) : ∀ d f, Au f → N2 ((P0 i r).form d f) ∧ N2 ((P0 i r).Ap d f) := fun d f hf =>
 ⟨Vi (fun f i r _ hr => A4n hr) hf, Vi (fun f i r _ hr => A4o hr) hf⟩
theorem A4p {i d : Int} {f : List Cl} (hf : Au f) : N2 (Kz i d f) := K1 fun c hc => A3a hc
theorem B6s (i : Int) : ∀ d f, Au f → N2 ((Pf i).form d f) ∧ N2 ((Pf i).Ap d f) := fun d f hf => ⟨A4p hf, A4p hf⟩
def Ur (x : Int × T) (k : T → Int × T) : Int × T := if x.1 ≠ 0 then (x.1, t0) else k x.2
theorem Sa {x : Int × T} {k : T → Int × T} (h : x.1 ≠ 0) : Ur x k = (x.1, t0) := if_pos h
theorem Uq {x : Int × T} {k : T → Int × T} (h : x.1 = 0) : Ur x k = k x.2 := if_neg (by simp [h])
section
variable {α : Type} {g : α → T → Int × T}
end
def E1 (t : T) (i : Int) (r : List Cl) : Int := if A6 t ≠ 0 then A6 t else if (Fa i && Bb r) = false then 2 else 0
def As (t : T) (i : Int) (r : List Cl) : Int × T := if E1 t i r ≠ 0 then (E1 t i r, t0) else if (Bc r i 1).1 ≠ 0 then ((Bc r i 1).1, t0) else Ur (C7 (P0 i (Bc r i 1).2) t 0) fun x => C7 (Pf i) x 0
theorem A6s {t : T} {i : Int} {r : List Cl} (h : E1 t i r = 0) : A6 t = 0 ∧ (0 ≤ i ∧ i < 24) ∧ Bb r = true := by
 unfold E1 at h
 split at h
 ·rename_i h1; exact absurd h h1
 ·rename_i h1
  split at h
  ·cases h
  ·rename_i h2
   simp only [Bool.not_eq_false, Bool.and_eq_true] at h2
   refine ⟨Decidable.not_not.mp h1, ?_, h2.2⟩
   have h3 := h2.1
   unfold Fa at h3
   simpa using h3
section
variable {P : Program} [Tab P] {f : FuncId} {R : Ending → World → Prop} {B : By} {n : Fz} {K : List Item} {ops : Array Oper} {l : List Nat} {σ : Nat → Value} {Γ : List Fact} {Ms : List Az} {dst : Option Tmp} {ty : TypeId} {x : Operand}
end
theorem Spec.B1b {P : Program} {k : FuncId} {args : Array Value} {pre L : List Fact} {G : Fact} {Ms0 : List Az} {X : Type} {val : X → Value} {N : X → List Fact} {Ms1 : X → List Az} (hp : ∀ F, F ∈ pre → F ∈ G :: L) (h : Spec P k args pre Ms0 val N Ms1) : Spec P k args [Jn L, G] Ms0 val N Ms1 := fun ok w hok hs =>
 h ok w hok ⟨hs.chg, fun F hF => by
  rcases List.mem_cons.mp (hp F hF) with e | e
  ·subst e; exact hs.facts _ (List.mem_cons_of_mem _ List.mem_cons_self)
  ·exact hs.facts (Jn L) List.mem_cons_self F e, hs.res, hs.lt, hs.disj⟩
theorem Spec.A9m {P : Program} {k : FuncId} {args : Array Value} {pre L : List Fact} {G : Fact} {Ms0 : List Az} {X : Type} {val : X → Value} {N : X → List Fact} {Ms1 : X → List Az} (hL : ∀ F, F ∈ L → F ∈ pre) (hG : G ∈ pre) (h : Spec P k args [Jn L, G] Ms0 val N Ms1) : Spec P k args pre Ms0 val N Ms1 := fun ok w hok hs =>
 h ok w hok ⟨hs.chg, fun F hF => by
  rcases List.mem_cons.mp hF with e | e
  ·subst e; exact fun F' hF' => hs.facts F' (hL F' hF')
  ·rw [List.mem_singleton] at e; subst e; exact hs.facts _ hG, hs.res, hs.lt, hs.disj⟩
end Go.Hy
namespace Go.Hy
open Go Go.ChangeShapes Go.WideShapes Go.RowKit Go.Shelf Go.Proofs
theorem U2 {C : Checked} {os : Os} {f : FuncId} {fn : Func} {s : ChangeSpec} {conds : List PathCond} {ts : List TypeId} {tb : TypeId} {H : Type} {enc : TypeId × Value → H} {L : List (String × DataW Unit)}
  (own : ownKnob C.prog.godebug = none) (started : os.Started) (noInit : C.prog.inits.idxOf? f = none) (hfn : C.prog.funcs[f]? = some fn)
  (witness : ∃ (w : World) (tape : Tape) (i : Input), w.os = os ∧ (w.forCall tape i).Shaped C.prog ∧ i.vars = [] ∧ Input.okWide C.prog (w.forCall tape i) .any w.heap.size f i ∧
   ((s.pre enc C.prog fn conds false (w.forCall tape i).memory i.args ∧ laidMetH C.prog L (w.forCall tape i).memory) ∧ sizedMet enc C.prog fn (OpenSpec.ofChange s) false (w.forCall tape i).memory i.args) ∧ Assume.holds {} C.prog (lone (Frame.enter C.prog f i.args .normal) [] (w.forCall tape i)))
  (laid : laidOutB C.prog = true) (hps : fn.params.toList = ts) (hread : ts.all (fun t => C.prog.readableRec t && decide (t < C.prog.types.size)) = true) (hres : fn.resultTypes = #[tb]) (hbool : C.prog.underlying tb = some .bool) (hvars : s.vars = [])
  (hsays : ∀ ds : List (DataW H), ds.length = ts.length → s.fn H ds = { results := [.lit (.bool true)], args := ds })
  (hcall : ∀ (W : World) (base : Nat) (args : Array Value) (ds : List (DataW H)) (p : List MemPlace), (∀ (j : Nat) t v, ts[j]? = some t → args[j]? = some v → Value.okWide C.prog W .any base t v) →
   DataW.TrodAll enc C.prog W 0 (fun _ => true) true ts args.toList ds p → (∀ x, x ∈ DataW.weightsEach C.prog ts ds → x ≤ reach) → laidMetH C.prog L W →
   Calls C.prog f args W fun e W' => e = .returned (.bool true) ∧ Below W.heap.size W W') :
  ReturnsInHanded {} C os f .any (fun w args => (s.pre enc C.prog fn conds false w args ∧ laidMetH C.prog L w) ∧ sizedMet enc C.prog fn (OpenSpec.ofChange s) false w args) (s.post enc C.prog fn false true false false) := by
 refine returnsInHanded_of_change_and (X := fun w _ => laidMetH C.prog L w) (fun _ _ _ hh h => h.of_heap hh) own started noInit hfn witness ?_
 intro W base args ds gs before hval hW hcnd hwt hL _
 have hW' := hW
 obtain ⟨p, q, hA, hV, rfl, hfz, hnd⟩ := hW
 rw [hvars] at hV
 obtain ⟨rfl, rfl⟩ := trodVars_none hV
 rw [hps] at hA hwt
 have hlen : ∀ {ts : List TypeId} {vs : List Value} {ds : List (DataW H)} {ps : List MemPlace}, DataW.TrodAll enc C.prog W 0 (fun _ => true) true ts vs ds ps → ds.length = ts.length := by
  intro ts
  induction ts with
  | nil => intro vs ds ps h; obtain ⟨_, rfl, _⟩ := trodAll_nil h; rfl
  | cons t ts ih =>
   intro vs ds ps h
   obtain ⟨v, vs1, d, ds1, a, b, rfl, rfl, rfl, _, h2⟩ := trodAll_cons h
   simp [ih h2]
 have hvt : s.plain.varTypes C.prog = [] := by
  have : s.plain.vars = [] := hvars
  unfold DataSpec.varTypes; rw [this]; rfl
 have hw2 : ∀ x, x ∈ DataW.weightsEach C.prog ts ds → x ≤ reach := by
  intro x hx
  rw [List.append_nil, hvt, List.append_nil] at hwt
  have := List.all_eq_true.mp hwt x hx
  exact of_decide_eq_true this
 refine (hcall W base args ds p (fun j t v ht hv => hval j t v (by rw [← Array.getElem?_toList, hps]; exact ht) hv) hA hw2 hL).mono ?_
 intro e W' ⟨he, hb⟩
 have hlt : ∀ x ∈ p, x.block < W.heap.size := fun x hx => hW'.lt x (by simpa using hx)
 refine ⟨.bool true, he, ds, [], p ++ [], [], p, [], hW', ?_, ?_, ?_, hb.frame _, fun h => by cases h⟩
 ·rw [List.append_nil, hsays ds (hlen hA), hres]
  exact ⟨[], [], ⟨1, by simp [DataW.trod, Value.cells, hbool]⟩, rfl, rfl⟩
 ·rw [List.append_nil, hsays ds (hlen hA), hps]
  refine P7 laid hb (fun t ht => ?_) hA hlt
  have := List.all_eq_true.mp hread t ht
  simpa using this
 ·rw [List.append_nil, hsays ds (hlen hA), hvars]
  rfl
theorem B5f {P : Program} {W : World} {nm : String} {t e : TypeId} {tab : List Nat} (hg : P.globalNamed nm = some 0) (ht : (P.globals[0]?).map (·.type) = some t) (hu : P.underlying t = some (.array tab.length e)) (he : P.underlying e = some (.int .u8)) (hc : P.cellsOf e = 1) (hc2 : P.cellsOf t = tab.length) (hpos : 0 < tab.length)
  (hp : ([(nm, (DataW.agg (tab.map fun (v : Nat) => .lit (.int .u8 (v : Int))) : DataW Unit))].all fun x => x.2.handleName?.isNone) = true) (h : laidMetH P [(nm, .agg (tab.map fun (v : Nat) => .lit (.int .u8 (v : Int))))] W) : TabAt 0 tab W ∧ 0 < W.heap.size := by
 rw [MakeChecks.laidMetH_plain _ _ _ hp] at h
 obtain ⟨ps, ⟨g0, t0, cs0, f0, p0, q0, hg0, ht0, hv0, hd0, _⟩, _⟩ := h
 obtain rfl := u_ hg hg0
 obtain rfl := u_ ht ht0
 obtain ⟨xs, m1, rfl, hx1, hlen, hn3, hel⟩ := DataW.trod_array hu hd0
 simp only [Prod.mk.injEq, DataW.agg.injEq] at hx1
 have hcell : ∀ j, j < tab.length → W.cell? ⟨0, j, none⟩ = some (.int .u8 (tab.getD j 0)) := by
  intro j hj
  have h1 := hel j hj
  rw [hc, Nat.mul_one, List.getElem?_eq_getElem A2] at h1
  obtain ⟨n, e1, e2, _⟩ := DataW.trod_int he h1
  have h2 := World.var?_cell hg0 hv0 j
  have h3 : cs0[j]? = some (.int .u8 n) := by
   have h4 := congrArg (fun l => l[0]?) e1
   simp only [List.getElem?_take, List.getElem?_drop, List.getElem?_cons_zero] at h4
   simpa using h4
  rw [h2, h3]
  have h5 : (tab.map fun (v : Nat) => (DataW.lit (.int .u8 (v : Int)) : DataW Unit))[j]? = (xs.map (·.1))[j]? := by rw [hx1.1]
  rw [List.getElem?_map, List.getElem?_map, List.getElem?_eq_getElem hj, List.getElem?_eq_getElem (show j < xs.length by omega)] at h5
  simp only [Option.map_some, Option.some.injEq] at h5
  rw [e2] at h5
  simp only [DataW.lit.injEq, Lit.int.injEq, true_and] at h5
  rw [List.getD_eq_getElem?_getD, List.getElem?_eq_getElem hj]
  simp [← h5]
 refine ⟨hcell, ?_⟩
 have h6 := hcell 0 hpos
 refine Nat.lt_of_not_le fun hz => ?_
 unfold World.cell? at h6
 rw [Array.getElem?_eq_none (show W.heap.size ≤ 0 from hz)] at h6
 simp at h6
theorem B5g {W : World} {tab : List Nat} (h : TabAt 0 tab W ∧ 0 < W.heap.size) : (At 0 0 (tab.map fun (v : Nat) => Value.int .u8 (v : Int))).f (okw W) W := by
 refine ⟨h.2, fun j v hj => ?_⟩
 rw [List.getElem?_map] at hj
 cases hq : tab[j]? with
 | none => rw [hq] at hj; cases hj
 | some k =>
  rw [hq] at hj
  injection hj with hj
  subst hj
  have hlt : j < tab.length := by
   refine Nat.lt_of_not_le fun hn => ?_
   rw [List.getElem?_eq_none hn] at hq
   cases hq
  have h1 := h.1 j hlt
  rw [List.getD_eq_getElem?_getD, hq] at h1
  rw [Nat.zero_add]
  exact h1
end Go.Hy
namespace Go.Hy
abbrev Wd : Type := Nat → Prop
section
variable {f g l : List Cl} {P N : Wd} {a b c : Cl}
end
def uE : T := .mk 3 0 ⟨#[]⟩ [] [] []
def aE (t u : T) : T := .mk 6 0 ⟨#[]⟩ [] [t, u] []
def lE (t : T) : T := .mk 5 0 ⟨#[]⟩ [] [t] []
def lpE (r : List Cl) : T := .mk 21 0 ⟨#[]⟩ r [] []
def hcF : T := .mk 15 0 ⟨#[]⟩ [] [uE, uE] []
theorem B2d {x : Int × T} {k : T → Int × T} (hx : Lp x.2) (h : ∀ u, Lp u → Lp (k u).2) : Lp (Ur x k).2 := by
 by_cases h1 : x.1 = 0
 ·rw [Uq h1]; exact h _ hx
 ·rw [Sa h1]; exact M8
theorem A1w {t : T} {i : Int} {r : List Cl} (h : Lp t) : Lp (As t i r).2 := by
 unfold As
 split
 ·exact M8
 ·split
  ·exact M8
  ·exact B2d (Sy (B0e _ _) h) fun u hu => Sy (B6s i) hu
def Jw (b : Br) : Bool := decide (b.Ap = [B2])
def Dk : List Br → Int
 | [] => -1
 | b :: l => if Jw b then 0 else if Dk l = -1 then -1 else Dk l + 1
theorem Y0 : ∀ l, -1 ≤ Dk l
 | [] => Int.le_refl _
 | b :: l => by
  have := Y0 l
  rw [Dk]
  split
  ·omega
  ·split <;> omega
theorem Uo : ∀ {l : List Br}, (∀ j, j < l.length → Jw (l.getD j B5) = false) → Dk l = -1
 | [], _ => rfl
 | b :: l, h => by
  have h0 := h 0 Cf
  rw [List.getD_cons_zero] at h0
  rw [Dk, h0, Uo (l := l) fun j hj => by have := h (j + 1) (by simpa using hj); rwa [List.getD_cons_succ] at this]
  rfl
theorem A3d : ∀ {l : List Br} {i : Nat}, i < l.length → (∀ j, j < i → Jw (l.getD j B5) = false) → Jw (l.getD i B5) = true → Dk l = i
 | [], i, hi, _, _ => absurd hi Cf
 | b :: l, 0, hi, h, h1 => by
  rw [List.getD_cons_zero] at h1
  rw [Dk, h1]; rfl
 | b :: l, i + 1, hi, h, h1 => by
  have h0 := h 0 A2
  rw [List.getD_cons_zero] at h0
  rw [List.getD_cons_succ] at h1
  have h2 := A3d (l := l) (i := i) (by simpa using hi) (fun j hj => by have := h (j + 1) A2; rwa [List.getD_cons_succ] at this) h1
  rw [Dk, h0, h2, if_neg Cf, if_neg A2]
  omega
theorem A9f {b : Br} : (decide ((b.Ap.length : Int) = 1) && decide (b.Ap.getD 0 B2 = B2)) = Jw b := by
 unfold Jw
 rw [← Bool.decide_and]
 refine decide_eq_decide.mpr ⟨fun h => ?_, fun h => ?_⟩
 ·match hf : b.Ap, h with
  | [], h => exact absurd h.1 Cf
  | [c], h => rw [show c = B2 from h.2]
  | a :: c :: l, h => exact absurd h.1 (by simp; omega)
 ·rw [h]; exact ⟨rfl, rfl⟩
section
variable {i d k n : Int} {nm : ByteArray} {r f : List Cl} {x : EL}
end
theorem B1z {W : E3} {t : T} {d : Int} : (∃ u, Bm (Bq W) t d = .ok u ∧ C7 W t d = (0, u)) ∨ ∃ e, Bm (Bq W) t d = .bad e ∧ C7 W t d = (e, t0) := by
 unfold C7
 cases h : Bm (Bq W) t d with
 | ok u => exact .inl ⟨u, rfl, rfl⟩
 | bad e => exact .inr ⟨e, rfl, rfl⟩
def J8 (r : List Cl) : Int := if r.length = 0 then 0 else if r = [B2] then 1 else -1
def Bn (k : Int) (r : List Cl) (ks : List T) : T := .mk k 0 ⟨#[]⟩ r ks []
abbrev kd (t : T) (i : Nat) : T := t.kids.getD i t0
def Fy (t : T) : List T := (t.sys.getD (Dk t.sys).toNat B5).kids
def Ba (t : T) : Option (Int × T) :=
 if Dk t.sys < 0 then none
 else if t.kind = 15 then some (As ((Fy t).getD 0 t0) 0 [B2])
 else if t.kind = 18 then some (0, Bn 6 [] [Bn 9 [] [(Fy t).getD 0 t0], kd t 0])
 else if t.kind = 16 ∨ t.kind = 17 then some (0, (Fy t).getD 0 t0)
 else none
def Gm (t : T) : Option (Int × T) :=
 if 0 ≤ J8 t.r then some (0, kd t (1 + (J8 t.r).toNat))
 else if (kd t 0).kind = 12 then some (As (kd (kd t 0) 0) 0 t.r)
 else none
def Dm (t : T) : Option (Int × T) :=
 if (kd t 3).kind = 20 then some (0, kd t 1)
 else if (kd t 3).kind = 21 then some (0, Bn 13 (kd t 3).r [kd t 2, kd t 1, kd t 1])
 else none
def Ga (t : T) : Option (Int × T) :=
 if (kd t 4).kind = 24 then some (0, kd t 1)
 else if (kd t 4).kind = 25 then some (0, kd t 2)
 else if (kd t 4).kind = 26 then some (0, Bn 13 (kd t 4).r [Bn 6 [] [kd t 3, kd (kd t 4) 0], kd t 1, kd t 2])
 else none
def E7 (t : T) : Option (Int × T) :=
 if J8 t.r < 0 then none
 else if t.kind = 21 then some (0, Bn 20 [] [])
 else if J8 t.r = 0 then some (0, Bn 24 [] [])
 else some (0, Bn 25 [] [])
def Aw (t : T) : Option (Int × T) :=
 if t.kind = 6 ∧ (kd t 0).kind = 5 then some (Ai (kd (kd t 0) 0) 0 (kd t 1))
 else if (t.kind = 9 ∨ t.kind = 10) ∧ (kd t 0).kind = 8 then some (0, kd (kd t 0) (t.kind - 9).toNat)
 else if t.kind = 13 then Gm t
 else if t.kind = 21 ∨ t.kind = 26 then E7 t
 else if t.kind = 22 then Dm t
 else if t.kind = 27 then Ga t
 else if t.kind = 28 then some (0, kd t 0)
 else if t.kind = 14 then (if J8 t.r = 1 then some (0, kd t 1) else none)
 else match Ba t with
  | some x => some x
  | none => if t.kind = 18 ∧ (kd t 0).kind = 17 then some (0, kd (kd t 0) 0) else none
def Rr : Option (Int × T) → Int × Bool × T
 | none => (0, false, t0)
 | some x => if x.1 ≠ 0 then (x.1, false, t0) else if A6 x.2 ≠ 0 then (A6 x.2, false, t0) else (0, true, x.2)
def Cp (t : T) : Int × Bool × T := if A6 t ≠ 0 then (A6 t, false, t0) else Rr (Aw t)
theorem Od {t : T} (h : A6 t ≠ 0) : Cp t = (A6 t, false, t0) := if_pos h
theorem Nd {t : T} (h : A6 t = 0) : Cp t = Rr (Aw t) := if_neg (by simp [h])
def Zj (t u : T) : T := Bn 6 [] [Bn 5 [] [t], u]
def Ew (k : Int) (t u : T) : T := Bn k [] [Bn 8 [] [t, u]]
theorem B5l (t u : T) : Aw (Zj t u) = some (Ai t 0 u) := if_pos ⟨rfl, rfl⟩
theorem B5k (t u : T) : Aw (Ew 9 t u) = some (0, t) := rfl
theorem B5j (t u : T) : Aw (Ew 10 t u) = some (0, u) := rfl
theorem B8x {t u : T} : ((Ai t 0 u).1 = 0 → (Cp (Zj t u)).1 = 0 → (Cp (Zj t u)).2.1 = true ∧ (Cp (Zj t u)).2.2 = (Ai t 0 u).2) ∧ ((Ai t 0 u).1 ≠ 0 → (Cp (Zj t u)).2.1 = false) := by
 by_cases hf : A6 (Zj t u) = 0
 ·rw [Nd hf, B5l]
  constructor
  ·intro h0 h1
   simp only [Rr] at h1 ⊢
   rw [if_neg (by simp [h0])] at h1 ⊢
   by_cases h2 : A6 (Ai t 0 u).2 ≠ 0
   ·rw [if_pos h2] at h1; exact absurd h1 h2
   ·rw [if_neg h2]; exact ⟨rfl, rfl⟩
  ·intro h0
   simp only [Rr]
   rw [if_pos h0]
 ·rw [Od hf]
  exact ⟨fun _ h1 => absurd h1 hf, fun _ => rfl⟩
theorem A8t (t u : T) : depth (Ew 9 t u) = depth (Ew 10 t u) ∧ size (Ew 9 t u) = size (Ew 10 t u) := by
 constructor
 ·rw [depth, Yi, Yi]; rfl
 ·rw [Cm, Cm]; rfl
theorem B3t {t u : T} : Gb (Ew 9 t u) ↔ Gb (Ew 10 t u) := by
 unfold Ew Bn
 simp only [Gb]
 have e9 : D4 9 = 1 := rfl
 have e10 : D4 10 = 1 := rfl
 have h9 : Nx 9 0 ⟨#[]⟩ [] ↔ Nx 10 0 ⟨#[]⟩ [] := by unfold Nx; simp
 rw [h9, e9, e10]
 simp [To]
theorem A5m (t u : T) : A6 (Ew 9 t u) = A6 (Ew 10 t u) := by
 obtain ⟨d1, d2⟩ := A8t t u
 have hs : sized (Ew 9 t u) = sized (Ew 10 t u) := by unfold sized; rw [d1, d2]
 unfold A6
 rw [hs]
 split
 ·rfl
 ·rename_i h0
  have h0 : sized (Ew 10 t u) = 0 := Decidable.not_not.mp h0
  have k : Rx (Ew 9 t u) (-1) 24 false = Rx (Ew 10 t u) (-1) 24 false := by
   rw [Bool.eq_iff_iff, Wu _ 24 A2, Wu _ 24 A2]
   exact B3t
  rw [k]
theorem B4j {t u : T} (ht : A6 t = 0) (hu : A6 u = 0) : (Cp (Ew 9 t u)).1 = (Cp (Ew 10 t u)).1 ∧ ((Cp (Ew 9 t u)).1 = 0 → (Cp (Ew 9 t u)).2 = (true, t) ∧ (Cp (Ew 10 t u)).2 = (true, u)) := by
 have e := A5m t u
 by_cases hf : A6 (Ew 9 t u) = 0
 ·rw [Nd hf, Nd (e ▸ hf), B5k, B5j]
  have d1 : Rr (some (0, t)) = (0, true, t) := by
   simp only [Rr]
   rw [if_neg Cf, if_neg (by simp [ht])]
  have d2 : Rr (some (0, u)) = (0, true, u) := by
   simp only [Rr]
   rw [if_neg Cf, if_neg (by simp [hu])]
  rw [d1, d2]
  exact ⟨rfl, fun _ => ⟨rfl, rfl⟩⟩
 ·rw [Od hf, Od (e ▸ hf)]
  exact ⟨e, fun h => absurd h hf⟩
theorem A3c : ∀ {l : List Br}, 0 ≤ Dk l → (Dk l).toNat < l.length
 | [], h => absurd h Gu
 | b :: l, h => by
  have hg := Y0 l
  rw [Dk] at h ⊢
  split
  ·simp
  ·rename_i h1
   rw [if_neg h1] at h
   split
   ·rename_i h2; rw [if_pos h2] at h; omega
   ·rename_i h2
    have := A3c (l := l) A2
    rw [List.length_cons]
    omega
section
variable {P : Program} [Tab P] {f : FuncId} {fn : Func} {B : By} {n : Fz} {K : List Item} {σ : Nat → Value} {Γ : List Fact} {Ms : List Az} {X : Type} {val : X → Value} {N : X → List Fact} {Ms1 : X → List Az}
theorem A0k {r t T : Nat} {r2 r3 : Tmp} {b s bt : Nat} {zv v2 v3 : Value} {lay : List (Nat × Nat)} {cs : List Value} (hf : P.funcs[f]? = some fn) (hr : fn.results = #[.cell r t, .tmp r2, .tmp r3]) (x : X) (hb : σ r = .pointer (some ⟨b, 0, none⟩)) (hm : A7 b cs T ∈ Ms) (hl : Tab.lay P t = some lay) (hi : Tab.inf P t = some (s, bt, zv)) (hcs : cs.length = s) (h2 : σ r2 = v2) (h3 : σ r3 = v3) (hv : Value.tuple #[.agg cs.toArray, v2, v3] = val x) (hs : ∀ w, St B Γ Ms w → St B (N x) (Ms1 x) w) (hD : n.defs = [] := by rfl) (hK : okK n.kind := by first | exact .inl rfl | exact .inr rfl) : Ec P f (Ends B val N Ms1) B n (.code .ret :: K) σ Γ Ms :=
 go_ret hf (fun a w ha h => by
  have h1 := ha.get r
  rw [hb] at h1
  have h3' := ha.get r2
  rw [h2] at h3'
  have h5 := ha.get r3
  rw [h3] at h5
  have h4 := Cv (P := P) (bk := b) (off := 0) (w := w) hl hi hcs (fun j v hj => by rw [Nat.zero_add]; exact Ja h hm j v hj)
  have h1' : (a.tmps[r]?.getD undef) = .pointer (some ⟨b, 0, none⟩) := by simpa [Array.getD_eq_getD_getElem?] using h1
  have h3'' : (a.tmps[r2]?.getD undef) = v2 := by simpa [Array.getD_eq_getD_getElem?] using h3'
  have h5' : (a.tmps[r3]?.getD undef) = v3 := by simpa [Array.getD_eq_getD_getElem?] using h5
  simp [results, hr, asAddr, h1', h4, h3'', h5', ← hv]) (fun w h => ⟨x, rfl, hs w h⟩) hD hK
end
def Ls (e e2 : Int) : Int := if e = 0 then e2 else e
def kpT (e : Int) (t : T) : T := if e = 0 then t else t0
def Z0 (e : Int) (s : SH) : SH := if e = 0 then s else (none, 0)
theorem Re (e : Int) : Ls 0 e = e := if_pos rfl
theorem A1j {e : Int} {t : T} (h : e = 0) : kpT e t = t := if_pos h
theorem U7 {e : Int} {t : T} (h : e ≠ 0) : kpT e t = t0 := if_neg h
theorem Mi {e : Int} {t : SH} (h : e = 0) : Z0 e t = t := if_pos h
theorem Jv {e : Int} {t : SH} (h : e ≠ 0) : Z0 e t = (none, 0) := if_neg h
theorem St.kp {B : By} {Γ : List Fact} {Ms : List Az} {w : World} (e : Int) {t : T} {a b c : SH} (hs : St B Γ Ms w) (h : RT t a b c ∈ Γ) : St B (RT (kpT e t) (Z0 e a) (Z0 e b) (Z0 e c) :: Γ) Ms w := by
 by_cases he : e = 0
 ·rw [A1j he, Mi he, Mi he, Mi he]
  exact hs.less (by
   intro F hF
   rcases List.mem_cons.mp hF with rfl | hF
   ·exact h
   ·exact hF)
 ·rw [U7 he, Jv he, Jv he, Jv he]
  exact hs.Ih
theorem A0n {t u : T} {n : Int} (h : (Ai t n u).1 ≠ 0) : (Ai t n u).2 = t0 := by
 unfold Ai at h ⊢
 split
 ·rfl
 ·rename_i h1
  rw [if_neg h1] at h
  split
  ·rfl
  ·rename_i h2
   rw [if_neg h2] at h
   split
   ·rfl
   ·rename_i h3
    rw [if_neg h3] at h
    split
    ·rfl
    ·rename_i h4
     rw [if_neg h4] at h
     cases h5 : Bm (Bv (Sl n) u) t (0, 0) with
     | ok x =>
      rw [h5] at h
      simp only at h ⊢
      split
      ·rfl
      ·rename_i h6
       rw [if_neg h6] at h
       exact absurd rfl h
     | bad e => rfl
theorem A6u {W : E3} {t : T} {d : Int} (h : (C7 W t d).1 ≠ 0) : (C7 W t d).2 = t0 := by
 rcases B1z (W := W) (t := t) (d := d) with ⟨u, _, h2⟩ | ⟨e, _, h2⟩
 ·rw [h2] at h; exact absurd rfl h
 ·rw [h2]
theorem Xk {t : T} {i : Int} {r : List Cl} (h : (As t i r).1 ≠ 0) : (As t i r).2 = t0 := by
 unfold As at h ⊢
 split
 ·rfl
 ·rename_i h1
  rw [if_neg h1] at h
  split
  ·rfl
  ·rename_i h2
   rw [if_neg h2] at h
   by_cases h3 : (C7 (P0 i (Bc r i 1).2) t 0).1 = 0
   ·rw [Uq h3] at h ⊢
    exact A6u h
   ·rw [Sa h3]
theorem A5g {x : Int × T} (h : x.1 ≠ 0 → x.2 = t0) : kpT x.1 x.2 = x.2 := by
 by_cases h0 : x.1 = 0
 ·exact A1j h0
 ·rw [U7 h0, h h0]
def Ln : Option (Int × T) → T
 | none => t0
 | some x => x.2
def G0 : Option (Int × T) → Int
 | none => 0
 | some x => x.1
abbrev Cn (s : Option (Int × T)) : Bool := s.isSome
theorem Dg {t : T} (h : Gb t) {k : Int} {n : Nat} (hk : t.kind = k) (hn : D4 k = (n : Int)) : t.kids.length = n := by
 have := (K2.mp h).2.1
 rw [hk, hn] at this
 omega
theorem Om {t : T} {i : Nat} (h : Gb t) (hi : i < t.kids.length) : Gb (t.kids.getD i t0) := by
 obtain ⟨p, hp, e⟩ := F7 (Am (d := t0) hi)
 exact e ▸ Lt h hp
theorem Z3 (r : List Cl) : J8 r = 0 ∨ J8 r = 1 ∨ J8 r = -1 := by
 unfold J8
 split
 ·exact .inl rfl
 ·split
  ·exact .inr (.inl rfl)
  ·exact .inr (.inr rfl)
def N3 (e : Int) (t : T) : Int × Bool × T := if e ≠ 0 then (e, false, t0) else if A6 t ≠ 0 then (A6 t, false, t0) else (0, true, t)
theorem A3f {t : T} (h : A6 t = 0) (h0 : ¬ Dk t.sys < 0) : (Dk t.sys).toNat < t.sys.length ∧ 0 < (Fy t).length := by
 have hf := K2.mp (Fu.mp h).2
 have hlt : (Dk t.sys).toNat < t.sys.length := A3c A2
 have hm := Am (d := B5) hlt
 have hlen := (Sp.mp hf.2.2.2.2 _ hm).1
 have hp : Ds t.kind ≠ 0 := fun h9 => by
  have := hf.2.2.1 h9
  rw [this] at hlt
  exact absurd hlt Cf
 have h1 : 1 ≤ Ds t.kind := by
  unfold Ds at hp ⊢
  split
  ·omega
  ·split
   ·omega
   ·rename_i h2 h3; rw [if_neg h2, if_neg h3] at hp; exact absurd rfl hp
 exact ⟨hlt, by unfold Fy; omega⟩
section
variable {tn : Bool} {pn : Nat} {P : Program} [Tab P] {f : FuncId} {R : Ending → World → Prop} {B : By} {n : Fz} {K : List Item} {ops : Array Oper} {fin l : List Nat} {σ : Nat → Value} {Γ : List Fact} {Ms : List Az} {i : Nat} {dst : Option Tmp} {ty : TypeId} {x y z : Operand}
theorem B1l {t e : TypeId} {sz bt : Nat} {zv : Value} {cs cs2 cs3 : List Value} (hu : Tab.und P t = some (.slice e)) (hi : Tab.inf P e = some (sz, bt, zv)) (hle : 3 * sz ≤ 16777216) (hx : (ev σ x).cells = cs.toArray) (hy : (ev σ y).cells = cs2.toArray) (hz : (ev σ z).cells = cs3.toArray) (hl : cs.length = sz) (hl2 : cs2.length = sz) (hl3 : cs3.length = sz) :
  Ld P σ (.buildSlice t 3 #[(0, x), (1, y), (2, z)]) ty (fun b => .slice (some ⟨b, 0, Option.none⟩) 3 3) (cs ++ cs2 ++ cs3) e := by
 refine Ww (pv := [(0, ev σ x), (1, ev σ y), (2, ev σ z)]) hu hi hle rfl ?_
 have := Sq (sz := sz) [ev σ x, ev σ y, ev σ z] 0 ((List.range (3 * sz)).map (zv.cells[· % zv.cells.size]!)).toArray Cf (fun v hv => by
  simp only [List.mem_cons, List.not_mem_nil, or_false] at hv
  rcases hv with rfl | rfl | rfl
  ·rw [hx]; simpa using hl
  ·rw [hy]; simpa using hl2
  ·rw [hz]; simpa using hl3)
 simpa [hx, hy, hz, List.append_assoc] using this
theorem C4f {t e : TypeId} {sz bt : Nat} {zv : Value} {cs cs2 cs3 : List Value} (k_ : ∀ b, De P f R B n K ops l (Ac σ dst ((fun b => .slice (some ⟨b, 0, none⟩) 3 3) b)) Γ (A7 b (cs ++ cs2 ++ cs3) e :: Ms)) (hu : Tab.und P t = some (.slice e) := by rfl) (hi : Tab.inf P e = some (sz, bt, zv) := by rfl) (hle : 3 * sz ≤ 16777216 := by decide) (hx : (ev σ x).cells = cs.toArray := by rfl) (hy : (ev σ y).cells = cs2.toArray := by rfl) (hz : (ev σ z).cells = cs3.toArray := by rfl) (hl : cs.length = sz := by rfl) (hl2 : cs2.length = sz := by rfl) (hl3 : cs3.length = sz := by rfl) (hd : Aa n dst = true := by rfl) : E9 P f R B n K ops l (C2 dst (.buildSlice t 3 #[(0, x), (1, y), (2, z)]) ty) σ Γ Ms := K9 (B1l hu hi hle hx hy hz hl hl2 hl3) hd k_
theorem B4x {t e : TypeId} {sz bt : Nat} {zv : Value} {cs cs2 cs3 : List Value} (F : Nat → List Fact) (hF : ∀ b M w, St B Γ (A7 b (cs ++ cs2 ++ cs3) e :: M) w → St B (F b ++ Γ) M w) (k_ : ∀ b, NV tn pn P f R B n K ops fin l (Ac σ dst ((fun b => .slice (some ⟨b, 0, none⟩) 3 3) b)) (F b ++ Γ) Ms) (hu : Tab.und P t = some (.slice e) := by rfl) (hi : Tab.inf P e = some (sz, bt, zv) := by rfl) (hle : 3 * sz ≤ 16777216 := by decide) (hx : (ev σ x).cells = cs.toArray := by rfl) (hy : (ev σ y).cells = cs2.toArray := by rfl) (hz : (ev σ z).cells = cs3.toArray := by rfl) (hl : cs.length = sz := by rfl) (hl2 : cs2.length = sz := by rfl) (hl3 : cs3.length = sz := by rfl) (hd : Aa n dst = true := by rfl) (hq : Nat.beq pn 1000001 = true := by rfl) : Ib tn pn P f R B n K ops fin i l dst (.buildSlice t 3 #[(0, x), (1, y), (2, z)]) ty σ Γ Ms := Sj F (B1l hu hi hle hx hy hz hl hl2 hl3) rfl rfl hF hd hq k_
theorem St.B7h {w : World} {b : Nat} {e : TypeId} {cs : List Value} {t u v : T} {vr vk vs ur uk us wr wk ws : SH} (hs : St B Γ (A7 b cs e :: Ms) w) {hBp : Prop} (hB : hBp) (hR : RT t vr vk vs ∈ Γ) (hR2 : RT u ur uk us ∈ Γ) (hR3 : RT v wr wk ws ∈ Γ) (hc : cs = tc t vr vk vs ++ tc u ur uk us ++ tc v wr wk ws) : St B (TL [t, u, v] (some ⟨b, 0, Option.none⟩, 3) :: Γ) Ms w := by
 have h1 := ((hs.Hi (sz := 6) (m := 3) (by rw [hc]; rfl) Gu).Ws).Ru (ps := []) (t := t) (vr := vr) (vk := vk) (vs := vs) List.mem_cons_self (List.mem_cons_of_mem _ hR)
 have h2 := h1.Ru (ps := [(t, vr, vk, vs)]) (t := u) (vr := ur) (vk := uk) (vs := us) List.mem_cons_self (by simp [hR2])
 have h3 := h2.Ru (ps := [(t, vr, vk, vs), (u, ur, uk, us)]) (t := v) (vr := wr) (vk := wk) (vs := ws) List.mem_cons_self (by simp [hR3])
 exact (h3.Ka (ps := [(t, vr, vk, vs), (u, ur, uk, us), (v, wr, wk, ws)]) hB List.mem_cons_self (by rw [hc]; simp [Bp, Gx]) rfl rfl Gu).less sx_
theorem St.Vq {w : World} (k : Int) (r : List Cl) (ks : List T) (vr vk : SH) (hs : St B Γ Ms w) (h1 : An k) (h4 : CL r vr ∈ Γ) (h5 : TL ks vk ∈ Γ) : St B (RT (Bn k r ks) vr vk B6 :: Γ) Ms w :=
 ((hs.B0m 0).B3b h1 (by unfold An; omega) (nm := ⟨#[]⟩) (n := 0) (by exact Nat.zero_le _) (r := r) (ks := ks) (ss := []) (vr := vr) (vk := vk) (vs := B6) (by simp [h4]) (by simp [h5]) Cf).less (by simp +contextual [Bn])
end
theorem B8m {r : List Cl} (h : r.length = 0) : J8 r = 0 := if_pos h
theorem C1f {r : List Cl} (h : r.length = 1) (h2 : r.getD 0 B2 = (⟨0, 0⟩ : Cl)) : J8 r = 1 := by
 match r, h with
 | [c], _ =>
  have h2 : c = B2 := h2
  subst h2
  rfl
theorem C1g {r : List Cl} (h : r.length ≠ 0) (h2 : r.length ≠ 1 ∨ r.getD 0 B2 ≠ (⟨0, 0⟩ : Cl)) : J8 r = -1 := by
 unfold J8
 rw [if_neg h, if_neg]
 rintro rfl
 rcases h2 with h2 | h2
 ·exact h2 rfl
 ·exact h2 rfl
theorem Li {t : T} (h1 : ¬ (t.kind = 6 ∧ (kd t 0).kind = 5)) (h2 : ¬ ((t.kind = 9 ∨ t.kind = 10) ∧ (kd t 0).kind = 8)) (h3 : t.kind ≠ 13 ∧ t.kind ≠ 21 ∧ t.kind ≠ 26 ∧ t.kind ≠ 22 ∧ t.kind ≠ 27 ∧ t.kind ≠ 28 ∧ t.kind ≠ 14) (h4 : ¬ (t.kind = 18 ∧ (kd t 0).kind = 17) ∨ (Ba t).isSome = true) : Aw t = Ba t := by
 unfold Aw
 rw [if_neg h1, if_neg h2, if_neg A2, if_neg A2, if_neg A2, if_neg A2, if_neg A2, if_neg A2]
 cases h : Ba t with
 | some x => rfl
 | none =>
  simp only
  rw [if_neg]
  rcases h4 with h4 | h4
  ·exact h4
  ·rw [h] at h4; cases h4
theorem Ve (t : T) : G0 (E7 t) = 0 := by unfold E7; (repeat' split) <;> rfl
theorem A4i (t : T) : G0 (Dm t) = 0 := by unfold Dm; (repeat' split) <;> rfl
theorem B2t (t : T) : G0 (Ga t) = 0 := by unfold Ga; (repeat' split) <;> rfl
theorem B3u {s : Option (Int × T)} (h : Cn s = true) : N3 (G0 s) (Ln s) = Rr s := by
 cases s with
 | none => cases h
 | some x => rfl
theorem A1m (t : T) (i : Nat) : size (kd t i) ≤ size t := by
 by_cases h : i < t.kids.length
 ·exact Nat.le_of_lt (F2 (t := t) (i := i) h)
 ·have e : kd t i = t0 := by unfold kd; rw [List.getD_eq_getElem?_getD, List.getElem?_eq_none A2]; rfl
  rw [e]
  have h1 : size t0 = 1 := by decide +kernel
  have := size_pos' t
  omega
theorem B9o (t : T) : size ((Fy t).getD 0 t0) ≤ size t := by
 have h1 : size t0 = 1 := by decide +kernel
 have hp := size_pos' t
 by_cases h : (Dk t.sys).toNat < t.sys.length
 ·by_cases h2 : 0 < (Fy t).length
  ·have := J2 (t := t) h (k := 0) (by unfold Fy at h2; omega)
   unfold Fy
   omega
  ·rw [List.getD_eq_getElem?_getD, List.getElem?_eq_none A2]
   show size t0 ≤ _
   omega
 ·have e : Fy t = [] := by
   unfold Fy
   rw [List.getD_eq_getElem?_getD, List.getElem?_eq_none A2]
   rfl
  rw [e]
  show size t0 ≤ _
  omega
theorem R8 (k : Int) (r : List Cl) (a : T) : size (Bn k r [a]) = 1 + size a := by rw [Cm]; show 1 + D3 [a] + Fe [] = _; simp [D3, Fe]
theorem R7 (k : Int) (r : List Cl) (a b : T) : size (Bn k r [a, b]) = 1 + size a + size b := by rw [Cm]; show 1 + D3 [a, b] + Fe [] = _; simp [D3, Fe]; omega
theorem A4v (k : Int) (r : List Cl) (a b c : T) : size (Bn k r [a, b, c]) = 1 + size a + size b + size c := by rw [Cm]; show 1 + D3 [a, b, c] + Fe [] = _; simp [D3, Fe]; omega
theorem B7e (k : Int) (r : List Cl) : size (Bn k r []) = 1 := by rw [Cm]; show 1 + D3 [] + Fe [] = _; simp [D3, Fe]
theorem Uh {W : E3} {t : T} {d : Int} : size (C7 W t d).2 ≤ size t := Wq
theorem take_size (t : T) (i : Int) (r : List Cl) : size (As t i r).2 ≤ size t := by
 have h1 : size t0 = 1 := by decide +kernel
 have hp := size_pos' t
 unfold As
 split
 ·show size t0 ≤ _; omega
 ·split
  ·show size t0 ≤ _; omega
  ·unfold Ur
   split
   ·show size t0 ≤ _; omega
   ·exact Nat.le_trans Uh Uh
theorem A7a {t : T} {y : Int × T} (h : Aw t = some y) : size y.2 ≤ 20000 + 10 * size t := by
 have hp := size_pos' t
 have k := fun i => A1m t i
 have kk := fun i j => Nat.le_trans (A1m (kd t i) j) (A1m t i)
 have ht := B9o t
 unfold Aw at h
 (repeat' split at h)
 ·injection h with h; subst h; have := A3u (kd (kd t 0) 0) (kd t 1) 0; omega
 ·injection h with h; subst h; have := kk 0 (t.kind - 9).toNat; show size (kd (kd t 0) _) ≤ _; omega
 ·unfold Gm at h
  (repeat' split at h)
  ·injection h with h; subst h; have := k (1 + (J8 t.r).toNat); show size (kd t _) ≤ _; omega
  ·injection h with h; subst h; have h1 := take_size (kd (kd t 0) 0) 0 t.r; have := kk 0 0; omega
  ·cases h
 ·unfold E7 at h
  (repeat' split at h)
  ·cases h
  all_goals (injection h with h; subst h; show size (Bn _ _ _) ≤ _; rw [B7e]; omega)
 ·unfold Dm at h
  (repeat' split at h)
  ·injection h with h; subst h; have := k 1; show size (kd t _) ≤ _; omega
  ·injection h with h; subst h; show size (Bn _ _ _) ≤ _; rw [A4v]; have := k 1; have := k 2; omega
  ·cases h
 ·unfold Ga at h
  (repeat' split at h)
  ·injection h with h; subst h; have := k 1; show size (kd t _) ≤ _; omega
  ·injection h with h; subst h; have := k 2; show size (kd t _) ≤ _; omega
  ·injection h with h; subst h; show size (Bn _ _ _) ≤ _; rw [A4v, R7]; have := k 1; have := k 2; have := k 3; have := kk 4 0; omega
  ·cases h
 ·injection h with h; subst h; have := k 0; show size (kd t _) ≤ _; omega
 ·injection h with h; subst h; have := k 1; show size (kd t _) ≤ _; omega
 ·cases h
 ·rename_i x hx
  injection h with h; subst h
  unfold Ba at hx
  (repeat' split at hx)
  ·cases hx
  ·injection hx with hx; subst hx; have h1 := take_size ((Fy t).getD 0 t0) 0 [B2]; omega
  ·injection hx with hx; subst hx; show size (Bn _ _ _) ≤ _; rw [R7, R8]; have := k 0; omega
  ·injection hx with hx; subst hx; show size ((Fy t).getD 0 t0) ≤ _; omega
  ·cases hx
 ·injection h with h; subst h; have := kk 0 0; show size (kd (kd t 0) 0) ≤ _; omega
 ·cases h
theorem Spec.B9w {P : Program} {k : FuncId} {args : Array Value} {pre : List Fact} (y : Tys) {u : T} (g : Value → Value) (h : Spec P k args pre [] (fun x : {h : HT // h.er = u ∧ Lp u} => g (.agg (tc u x.1.vr x.1.vk x.1.vs).toArray)) (fun _ => []) (fun x => [Cc (Eo y x.1)])) :
  Spec P k args pre [] (fun x : SH × SH × SH => g (.agg (tc u x.1 x.2.1 x.2.2).toArray)) (fun x => [RT u x.1 x.2.1 x.2.2]) (fun _ => []) := fun ok w hk hs => (h ok w hk hs).mono fun e w' hh => by
 obtain ⟨x, he, hs'⟩ := hh
 have h1 : St ⟨ok, B3 [], w⟩ [] (Eo y x.1 ++ []) w' := hs'.unpack
 have h2 := St.I5 y trivial x.1 (by rw [x.2.1]; exact x.2.2) h1
 rw [x.2.1] at h2
 exact ⟨(x.1.vr, x.1.vk, x.1.vs), he, h2⟩
def Q1 : T := .mk 20 0 ⟨#[]⟩ [] [] []
def paE : T := .mk 13 0 ⟨#[]⟩ [⟨0, 2⟩] [.mk 12 0 ⟨#[]⟩ [] [lpE [⟨1, 0⟩]] [], Q1, Q1] []
theorem B8l : Cp (aE (lE (vE 0)) uE) = (0, true, uE) := by decide +kernel
theorem B8k : Cp paE = (0, true, lpE [⟨0, 2⟩]) := by decide +kernel
theorem B8j : Cp uE = (0, false, t0) := by decide +kernel
theorem Wa : size (aE (lE (vE 0)) uE) = 4 ∧ size paE = 5 ∧ size uE = 1 := by decide +kernel
end Go.Hy
namespace Go.Hy
open Go.RowKit Go.Shelf
theorem B2j {F : Fence} {n : Nat} {P : Program} {α : Type} {g : Operand} {ps : Array Tmp} {assign body : Code} {Q : Exit → Act → World → Prop} {a : Act} {w : World}
  (hro : F.round = none) (h1 : 1 ≤ n) {gf : Nat} {lb : Array Value} (hg : a.eval g = .func (.func gf) #[] lb) (hFg : F.fn gf) (eg : ∀ args w, (callFunc gf args).run P w = .ok (.enter gf args) w)
  {encs : α → Array Value} (hps : ∀ x, (encs x).size = ps.size) (I : List α → World → Prop) (Px : List α → α → Prop) (Kp : World → World → Prop)
  (hIp : ∀ (pre : List α) (A : World) (l : Nat) (o o0 : Obj), I pre A → A.heap[l]? = some o0 → o0.isCells = false → w.heap.size ≤ l → I pre (A.putObj l o)) (hIa : ∀ (pre : List α) (A : World) (o : Obj), I pre A → w.heap.size ≤ A.heap.size → I pre (A.alloc o)) (h0 : I [] w)
  (hKt : ∀ {A B C : World}, Kp A B → Kp B C → Kp A C) (hKp : ∀ (A : World) (l : Nat) (o o0 : Obj), A.heap[l]? = some o0 → o0.isCells = false → w.heap.size ≤ l → Kp A (A.putObj l o))
  (xs : List α)
  (hit : ∀ (l : Nat) (J : List α → World → Prop) (W1 : World), (∀ pre W, J pre W → I pre W) →
   (∀ pre A B, J pre A → I pre B → (∀ (k : Nat) (o : Obj), A.heap[k]? = some o → o.isCells = false → B.heap[k]? = some o) → J pre B) →
   (∀ pre x W, J pre W → Px pre x → YieldAt F (n - 1 - 1) P l (encs x) W fun e W' => e = .returned (.bool true) ∧ J (pre ++ [x]) W' ∧ Kp W W') → J [] W1 → (∀ (k : Nat), k < w.heap.size → W1.heap[k]? = w.heap[k]?) →
   CallsIn F (n - 1) P gf (#[.func (.yield l) #[] #[]] ++ lb) W1 fun e W' => (∃ v, e = .returned v) ∧ J xs W')
  (a₁ : α → Act)
  (hassign : ∀ (l : Nat) (x : α) (W : World) (K : Act → World → Prop), K (a₁ x) W →
   assign.wpIn (F.inRound l) (n - 1 - 1) P (Exit.then K (fun _ _ _ => False)) { tmps := (ps.zip (encs x)).foldl (fun t (p, v) => t.setIfInBounds p v) a.tmps, defers := [] } W)
  (hbody : ∀ (l : Nat) (pre : List α) (x : α) (W : World), I pre W → Px pre x →
   body.wpIn (F.inRound l) (n - 1 - 1) P (fun e _ W' => e = .normal ∧ KeepsOthers W W' ∧ Kp W W' ∧ I (pre ++ [x]) W') (a₁ x) W)
  (hdone : ∀ (D : Nat) (W : World), w.heap.size ≤ D → I xs W → W.heap[D]? = some (.deferred (some [])) → Q .normal { a with defers := { target := .collected D, args := #[] } :: a.defers } W) :
  (Code.rangeFunc g ps assign body).wpIn F n P Q a w := by
 refine wpIn_rangeFunc ?_
 intro fn hfn
 rw [hro]
 obtain ⟨rec, hrec⟩ : ∃ rec : LoopState → Option Code → Loop, rec = fun st pe => { state := st, pending := pe, fn, tmps := a.tmps, params := ps, assign, body, defers := w.heap.size } := ⟨_, rfl⟩
 obtain ⟨W1, hW1⟩ : ∃ W1, (w.alloc (.deferred (some []))).alloc (.loop (rec .ready none)) = W1 := ⟨_, rfl⟩
 have hL1 : W1.heap[w.heap.size + 1]? = some (.loop (rec .ready none)) := by
  rw [← hW1]; have := World.alloc_heap_new (w.alloc (.deferred (some []))) (.loop (rec .ready none)); rwa [World.size_alloc] at this
 have hK1 : W1.heap[w.heap.size]? = some (.deferred (some [])) := by
  rw [← hW1]; exact (Below.heap_alloc _ _ _ Cf).trans (World.alloc_heap_new w _)
 have hI1 : I [] W1 := by rw [← hW1]; exact hIa _ _ _ (hIa _ _ _ h0 (Nat.le_refl _)) Cf
 refine ⟨w.heap.size + 1, [{ target := .collected w.heap.size, args := #[] }], W1, { target := .fn (.func gf) lb, args := #[.func (.yield (w.heap.size + 1)) #[] #[]] }, W1, gf,
  #[.func (.yield (w.heap.size + 1)) #[] #[]] ++ lb, W1, ?_, ?_, ?_, ?_, fun _ => h1, ?_⟩
 ·rw [← hW1, hrec]; exact run_enterLoop_outer _ _ _ _ _
 ·simp only [resolve, hg]
  simp [go_sem]
 ·intro f' hf'; simp [Target.leads] at hf'; subst hf'; exact hFg
 ·simp [invoke, go_sem, eg]
 ·refine (hit (w.heap.size + 1) (fun pre W => I pre W ∧ W.heap[w.heap.size + 1]? = some (.loop (rec .ready none)) ∧ W.heap[w.heap.size]? = some (.deferred (some []))) W1
   (fun pre W h => h.1) (fun pre A B hA hB hk => ⟨hB, hk _ _ hA.2.1 rfl, hk _ _ hA.2.2 rfl⟩) ?_ ⟨hI1, hL1, hK1⟩ (fun k hk => by rw [← hW1]; exact (Below.heap_alloc _ _ _ (by simp; omega)).trans (Below.heap_alloc _ _ _ hk))).mono ?_
  ·rintro pre x W ⟨hi, hl, hk⟩ hpx
   have hlt : w.heap.size + 1 < W.heap.size := (Array.getElem?_eq_some_iff.1 hl).1
   have hy := run_yield (P := P) (args := encs x) hl (by rw [hrec]; exact hps x)
   rw [hrec] at hy
   refine ⟨fn, _, assign, body, hy, roundIn_of_wpIn hfn (hassign _ x W _ ⟨_, run_beginRound hl (by rw [hrec]), ?_⟩)⟩
   have hl2 : (W.putObj (w.heap.size + 1) (.loop { rec .ready none with state := .busy })).heap[w.heap.size + 1]? = some (.loop { rec .ready none with state := .busy }) := World.putObj_heap_same hlt
   have hk2 : (W.putObj (w.heap.size + 1) (.loop { rec .ready none with state := .busy })).heap[w.heap.size]? = some (.deferred (some [])) := (World.putObj_heap_other A2).trans hk
   refine wpIn_mono (hbody _ pre x _ (hIp _ _ _ _ _ hi hl rfl A2) hpx) ?_
   rintro e a3 W3 ⟨rfl, hk3, hkp3, hi3⟩
   have hl3 := hk3.same _ _ hl2 rfl
   have hend := run_endRound (P := P) none hl3
   rw [hrec] at hl3 hend
   refine ⟨_, _, hend, rfl, ⟨hIp _ _ _ _ _ hi3 hl3 rfl A2, ?_, ?_⟩, hKt (hKt (hKp _ _ _ _ hl rfl A2) hkp3) (hKp _ _ _ _ hl3 rfl A2)⟩
   ·rw [hrec]; exact World.putObj_heap_same (Array.getElem?_eq_some_iff.1 hl3).1
   ·exact (World.putObj_heap_other A2).trans (hk3.same _ _ hk2 rfl)
  ·rintro e W2 ⟨⟨v, rfl⟩, hi, hl, hk⟩
   exact ⟨none, _, by have := run_endLoop (P := P) hl (by rw [hrec]; simp); rw [hrec] at this; exact this, hdone _ _ (Nat.le_refl _) (hIp _ _ _ _ _ hi hl rfl A2) ((World.putObj_heap_other A2).trans hk)⟩
end Go.Hy
namespace Go.Hy
open Go.Proofs Go.Proofs.Tryz
set_option maxRecDepth 100000
theorem A7g (l : List Cl) (a_l : SH) (m : List Cl) (a_m : SH)  : Spec prog 31 #[sl a_l (l.length), sl a_m (m.length)] [CL l a_l, CL m a_m] [] (fun _ : Unit => .bool ((decide (l = m)))) (fun _ => []) (fun _ => []) := by
 refine Db ntmps31 fun B hB => ?_
 refine A3 (l := l) (a := a_l) (fun hl1 hA1 hU1 => ?_); refine A3 (l := m) (a := a_m) (fun hl2 hA2 hU2 => ?_); refine T1 ?_; refine Jc ?_; refine Dp ?_; refine Jc ?_; refine Tx ?_; refine Bx (decide ((l.length : Int) ≠ (m.length : Int))) (fun h10 c10 => ?_) (fun h10 c10 => ?_)
 ·have hne : ¬ l = m := fun e => by subst e; simp at h10
  refine Ce ?_; refine Al f_ rfl A8 () (by rw [decide_eq_false hne]) (fun w hs => hs.none)
 ·have hlen : l.length = m.length := by simp at h10; omega
  refine Hs ?_; refine Ce ?_; refine J0 ?_; refine Bf (X := Nat) (fun s_ => s_ ≤ l.length ∧ ∀ j, j < s_ → l.getD j B2 = m.getD j B2) (fun s_ => [(0, sl a_l (l.length)), (1, sl a_m (m.length)), (5, iv ((s_ : Int)))]) (fun s_ G_ => G_) (fun s_ => []) (fun s_ => l.length - s_) (0) (⟨by omega, fun j hj => by omega⟩) (by exact Ez) ?_ ?_
  ·exact fun w hs => hs
  ·intro i base0 ⟨hi, hok⟩ next0; refine Gv ?_; refine Dp ?_; refine Jc ?_; refine S1 ?_; refine Hm ?_; refine Bx (decide ((i : Int) < (l.length : Int))) (fun h14 c14 => ?_) (fun h14 c14 => ?_)
   ·refine Ie ?_; refine B0 (pn := 1000000) (tn := false) (A := [0, 0, 3, 7, 0, 0, 48, 112, 255]) (l := [0, 1, 2, 3, 4, 5, 6, 7, 8]) (fin := []) Tab.mixed ⟨_, func31⟩ (by rfl) ?_; refine H6 ?_; obtain ⟨bk3, o3, hav3⟩ := hA1 A2; refine n0 rfl (F1 ?_ (j := i)); refine n0 rfl (A9l ?_); refine H6 ?_; obtain ⟨bk4, o4, hav4⟩ := hA2 A2; refine n0 rfl (F1 ?_ (j := i)); refine n0 rfl (A9l ?_); refine n0 rfl (C1z ?_ (c := (l.getD i B2)) (c' := (m.getD i B2))); refine Gz ?_; refine Bx (!decide ((l.getD i B2) = (m.getD i B2))) (fun h25 c25 => ?_) (fun h25 c25 => ?_)
    ·refine Ce ?_; refine Al f_ rfl A8 () (by rw [decide_eq_false (fun e => by subst e; simp at h25)]) (fun w hs => hs.none)
    ·refine H8 ?_; refine Ed ?_; refine Mq ?_; have hb : l.getD i B2 = m.getD i B2 := by simpa using h25
     refine A1 (fun w hs => ?_) (next0 (i + 1) _ (⟨by omega, B5i hok hb⟩) A2 Ez); exact (hs.l9)
   ·refine P3 ?_; refine Al f_ rfl A8 () (by rw [decide_eq_true (Me hlen (fun j hj => hok j A2))]) (fun w hs => hs.none)
end Go.Hy
namespace Go.Hy
open Go.Proofs Go.Proofs.Tryz
set_option maxRecDepth 100000
attribute [local go_sem] Oper.semAt_some
open Go.RowKit Go.Shelf
set_option maxHeartbeats 1000000
theorem D1c (F : Fence) (n : Nat) (hF : F.fn 258) (hro : F.round = none) (r : Nat) (k idx : Nat) (hk : k < 24) (h0 : ((r : Int) == 0) = false)
  (key : bits BinOp.and IntKind.u32 (r : Int) (-(r : Int) % 4294967296) * 125613361 % 4294967296 / 134217728 = (idx : Int)) (hi : idx < 32) (W : World) (hc : W.cell? ⟨0, idx, none⟩ = some (.int .u8 (k : Int))) :
  CallsIn F n prog 258 #[.int .u32 (r : Int)] W fun e w' => e = .returned (iv (k : Int)) ∧ w' = W := by
 refine callsIn_of_wp func258 rfl hF ?_ hro; simp only [ntmps258, List.size_toArray, List.length_cons, List.length_nil, Nat.reduceAdd, Nat.reduceSub, Array.replicate_succ, Array.replicate_zero, List.push_toArray, List.append_toArray, List.nil_append, List.cons_append]
 gi_wp2_with (simp only [key])
 go_ret
 exact ⟨rfl, rfl⟩
theorem tz32' (F : Fence) (n : Nat) (hF : F.fn 258) (hro : F.round = none) (r : Nat) (h0 : ¬ r = 0) (hr : r < 16777216) (W : World) (hT : TabAt 0 Lib.deBruijn32tab W) :
  CallsIn F n prog 258 #[.int .u32 (r : Int)] W fun e w' => e = .returned (iv (Lib.ctz 32 r : Int)) ∧ w' = W := by
 obtain ⟨hlow, hk⟩ := Lib.lowest_bit 32 r h0 A2; obtain ⟨hi, htab⟩ := Lib.deBruijn32_at _ hk; have hcell := hT _ hi; rw [htab] at hcell; exact D1c F n hF hro r _ _ (Yw h0 hr).1 (by simp; omega) (tz32_key r _ A2 h0 hlow) hi W hcell
theorem in1 (F : Fence) (n : Nat) (h208 : F.fn 257) (h209 : F.fn 258) (hro : F.round = none) (hn : 1 ≤ n) (l g : Nat) (s : Nat) (J : List Int → World → Prop)
  (hY : ∀ pre x W, J pre W → pre.length < 24 → (0 ≤ x ∧ x < 24) → YieldAt F (n - 1) prog l #[iv x] W fun e W' => e = .returned (.bool true) ∧ J (pre ++ [x]) W' ∧ W'.heap[g]? = W.heap[g]?)
  (hT : ∀ pre W, J pre W → TabAt 0 Lib.deBruijn32tab W)
  (hJ : ∀ pre W v, J pre W → J pre (W.setCell ⟨g, 0, none⟩ v))
  (hs : s < 4294967296) (W : World) (hg : Boxed W g 89 (.int .u32 (s : Int))) (h0 : J [] W) :
  CallsIn F n prog 257 #[.func (.yield l) #[] #[], pz g] W fun e W' => (∃ v, e = .returned v) ∧ J (B8 s) W' := by
 refine callsIn_of_wp func257 rfl h208 ?_ hro; simp only [ntmps257, List.size_toArray, List.length_cons, List.length_nil, Nat.reduceAdd, Nat.reduceSub, Array.replicate_succ, Array.replicate_zero, List.push_toArray, List.append_toArray, List.nil_append, List.cons_append]; have hc := hg.cell; have hf := hg.frozen
 gi_wp2
 gi_loopw [] (fun wr => ∃ (pre : List Int) (r : Nat), B8 s = pre ++ B8 r ∧ r < 16777216 ∧ Boxed wr g 89 (.int .u32 (r : Int)) ∧ J pre wr)
  (fun wr => match wr.cell? ⟨g, 0, none⟩ with | some (.int _ v) => v.toNat | _ => 0)
 case atStart =>
  refine ⟨[], s &&& 16777215, by rw [List.nil_append, B3f], by rw [B1j]; exact Nat.mod_lt _ Gu, ?_, hJ _ _ _ h0⟩; rw [← bits_and_u32_nat s 16777215 hs Gu]; exact hg.set _
 case round =>
  obtain ⟨pre, r, hx, hr, hb, hj⟩ := hrel; have hc2 := hb.cell; have hf2 := hb.frozen; by_cases hr0 : r = 0
  ·subst hr0
   gi_wp2
   go_end0
   exact ⟨⟨_, rfl⟩, by rw [hx, show B8 0 = [] from by decide, List.append_nil]; exact hj⟩
  ·obtain ⟨hk, hlist⟩ := Yw hr0 hr
   have hlen : pre.length < 24 := by
    have h1 := congrArg List.length hx; have h2 : (B8 s).length ≤ 24 := Iq s 24; rw [List.length_append, hlist, List.length_cons] at h1; omega
   obtain ⟨fn, tmps, assign, body, hy, hR⟩ := hY pre (Lib.ctz 32 r : Int) wr hj hlen A2; have hbe : ((r : Int) != 0) = true := by simp; omega
   gi_wp2_with (gi_at_call 258; refine (tz32' F (n - 1) h209 hro r hr0 hr wr (hT _ _ hj)).mono ?_; rintro e w' ⟨rfl, rfl⟩)
   refine hR.mono ?_; rintro e W3 ⟨rfl, hJ3, hg3⟩; have hb3 : Boxed W3 g 89 (.int .u32 (r : Int)) := hg3.trans hb; have hc3 := hb3.cell; have hf3 := hb3.frozen
   gi_wp2
   have e1 : bits BinOp.and IntKind.u32 (r : Int) ((r : Int) - 1) = ((r &&& (r - 1) : Nat) : Int) := by
    rw [show (r : Int) - 1 = ((r - 1 : Nat) : Int) by omega]; exact bits_and_u32_nat r (r - 1) A2 A2
   rw [e1]; have hb4 := hb3.set (.int .u32 ((r &&& (r - 1) : Nat) : Int)); have hlt := C4t hr0
   go_roundw
   case rel => exact ⟨pre ++ [(Lib.ctz 32 r : Int)], r &&& (r - 1), by rw [hx, hlist, List.append_assoc]; rfl, by omega, hb4, hJ _ _ _ hJ3⟩
   case measure =>
    rw [hb4.cell, hc2]; simp only [Int.toNat_natCast]; exact hlt
theorem C9b (F : Fence) (n : Nat) (h : F.fn 206) (hro : F.round = none) (s : Nat) (w : World) :
  CallsIn F n prog 206 #[.int .u32 (s : Int)] w fun e w' => e = .returned (.func (.func 257) #[] #[.pointer (some ⟨w.heap.size, 0, none⟩)]) ∧ w' = w.alloc (.cells #[.int .u32 (s : Int)] 89) := by
 refine callsIn_of_wp func206 rfl h ?_ hro; simp only [ntmps206, List.size_toArray, List.length_cons, List.length_nil, Nat.reduceAdd, Nat.reduceSub, Array.replicate_succ, Array.replicate_zero, List.push_toArray, List.append_toArray, List.nil_append, List.cons_append]
 gi_wp2
 go_ret
 exact ⟨rfl, rfl⟩
theorem C0y : (prog.info? 3).map (fun i => (i.zero, i.size, i.bytes)) = some (some (iv 0), 1, 8) := by kernel_rfl
theorem C0u (F : Fence) (n : Nat) (h81 : F.fn 123) (h156 : F.fn 206) (h208 : F.fn 257) (h209 : F.fn 258) (hro : F.round = none) (hn : 3 ≤ n) (s : Nat) (hs : s < 4294967296) (w : World) (hw : 0 < w.heap.size) (hT : TabAt 0 Lib.deBruijn32tab w) :
  CallsIn F n prog 123 #[.int .u32 (s : Int)] w fun e W' => ∃ v, e = .returned v ∧ W'.ownsRow w.heap.size 3 1 v (B8 s).length ((B8 s).map (Value.int .i64)) ∧ Below w.heap.size w W' := by
 have h1 : 1 ≤ n := by omega
 obtain ⟨i0, hi, hz0, hz1, hz2⟩ := info_parts C0y; refine callsIn_of_wp_marks func123 rfl h81 ?_ hro; simp only [ntmps123, List.size_toArray, List.length_cons, List.length_nil, Nat.reduceAdd, Nat.reduceSub, Array.replicate_succ, Array.replicate_zero, List.push_toArray, List.append_toArray, List.nil_append, List.cons_append]
 gi_wp2_with (gi_at_call 206; refine (C9b F (n - 1) h156 hro _ _).mono ?_; rintro e w' ⟨rfl, rfl⟩)
 obtain ⟨w2, hw2⟩ : ∃ w2, (w.alloc (.cells #[.slice none 0 0] 140)).alloc (.cells #[.int .u32 (s : Int)] 89) = w2 := ⟨_, rfl⟩; have bO : Boxed w2 w.heap.size 140 (.slice none 0 0) := by rw [← hw2]; exact (Boxed.new w 140 (.slice none 0 0)).alloc _
 have bS : Boxed w2 (w.heap.size + 1) 89 (.int .u32 (s : Int)) := by rw [← hw2]; have := Boxed.new (w.alloc (.cells #[.slice none 0 0] 140)) 89 (.int .u32 (s : Int)); rwa [World.size_alloc] at this
 have hsz2 : w2.heap.size = w.heap.size + 2 := by rw [← hw2]; simp
 have hB2 : Below w.heap.size w w2 := by rw [← hw2]; exact ((Below.refl _ w).alloc (Nat.le_refl _) _).alloc Cf _
 have hrw : ∀ {A B : World}, B.heap[w.heap.size + 1]? = A.heap[w.heap.size + 1]? → ∀ u, Boxed A (w.heap.size + 1) 89 u → Boxed B (w.heap.size + 1) 89 u := fun h u hu => h.trans hu
 simp only [World.size_alloc, hw2]
 refine B2j hro h1 (gf := 257) (lb := #[.pointer (some ⟨w.heap.size + 1, 0, none⟩)]) rfl h208 (enters_of func257 (by kernel_rfl) rfl) (encs := fun x : Int => #[iv x]) (fun _ => rfl)
  (fun pre W => (∃ v, Boxed W w.heap.size 140 v ∧ W.ownsRow w.heap.size 3 1 v pre.length (pre.map (Value.int .i64))) ∧ (∃ u, Boxed W (w.heap.size + 1) 89 u) ∧ Below w.heap.size w W)
  (fun pre x => pre.length < 24 ∧ (0 ≤ x ∧ x < 24)) (fun W W' => W'.heap[w.heap.size + 1]? = W.heap[w.heap.size + 1]?)
  ?ip ?ia ⟨⟨_, bO, World.ownsRow_nil _ _ _ _⟩, ⟨_, bS⟩, hB2⟩ (fun h k => k.trans h) ?kp (B8 s) ?it
  (fun x => { tmps := #[.int .u32 (s : Int), undef, .slice none 0 0, .pointer (some ⟨w.heap.size, 0, none⟩), iv x, .int .u32 (s : Int), .func (.func 257) #[] #[.pointer (some ⟨w.heap.size + 1, 0, none⟩)], iv x, undef, undef, undef, undef, undef], defers := [] }) ?assign ?body ?done
 case ip =>
  rintro pre A l o o0 ⟨⟨v, hv, hr⟩, ⟨u, hu⟩, hB⟩ hl hc hle; refine ⟨⟨v, (World.putObj_heap_other A2).trans hv, ownsRow_putObj hr o hl hc⟩, ⟨u, (World.putObj_heap_other A2).trans hu⟩, hB.trans ⟨rfl, rfl, rfl, by simp, fun k hk => World.putObj_heap_other A2⟩⟩
 case ia =>
  rintro pre A o ⟨⟨v, hv, hr⟩, ⟨u, hu⟩, hB⟩ hle; exact ⟨⟨v, hv.alloc o, hr.kept (World.grownBy_alloc A o none) (by rcases hr.2 with ⟨rfl, _⟩ | ⟨g, cap, cur, rfl, _⟩; exact .inl rfl; exact .inr (by simp [Value.ownBlock]))⟩, ⟨u, hu.alloc o⟩, hB.alloc A2 o⟩
 case kp =>
  intro A l o o0 hl hc hle; exact World.putObj_heap_other A2
 case it =>
  intro l J W1 hJI hJk hY h0 hk1; refine in1 F (n - 1) h208 h209 hro A2 l (w.heap.size + 1) s J (fun pre x W hj hl hx => hY pre x W hj ⟨hl, hx⟩) (fun pre W hj => ?_) (fun pre W v hj => ?_) hs W1 ?_ h0
  ·intro i hi; exact ((hJI _ _ hj).2.2.cell (p := ⟨0, i, none⟩) hw).trans (hT i hi)
  ·obtain ⟨⟨v0, hv0, hr⟩, ⟨u, hu⟩, hB⟩ := hJI _ _ hj; refine hJk pre W _ hj ⟨⟨v0, hv0.other A2 v, hr.kept (grownBy_setCell' W (w.heap.size + 1) v) (.inr (hu.not_row Gu hr).symm)⟩, ⟨_, hu.set v⟩, hB.setCell (p := ⟨w.heap.size + 1, 0, none⟩) Cf v⟩ (fun k o hk ho => (KeepsOthers.setCell W _ v).same k o hk ho)
  ·exact (hk1 _ A2).trans bS
 case assign =>
  intro l x W K hK
  gi_wp2
  exact hK
 case body =>
  rintro l pre x W ⟨⟨v, hv, hrow⟩, ⟨u, hu⟩, hB⟩ ⟨hlt, hx⟩; have hc := hv.cell
  gi_wp2_with (gi_at_builtin; refine wpListIn_append_own _ rfl _ _ 140 rfl w.heap.size 3 i0 (iv 0) 1 8 Tryz.underlying140 hi hz0 hz1 hz2 rfl Gu _ _ _ rfl (hrow.alloc _) ⟨W.heap.size, 0, none⟩ 1 1 [iv x] rfl rfl (cell_one_new _ _ _) (by simp [Value.oneCell']) (by unfold maxLen; omega) A2 (by have := hB.size; simp; omega) ?_; intro v' w1 hown' hgrow _; obtain ⟨g', cap', rfl⟩ := ownsRow_succ hown'; obtain ⟨hv1, hv2, hr2, hk2, hb2⟩ := hv.appended Gu hrow hB.size (Nat.le_refl _) hown' hgrow; have hc1 := hv1.cell; have hf1 := hv1.frozen)
  have hu1 := ((hu.alloc (.cells #[iv x] 3)).kept hgrow (hu.not_row Gu hrow)).other (B' := w.heap.size) A2 (.slice (some ⟨g', 0, none⟩) (pre.length + 1) cap'); exact ⟨hu1.trans hu.symm, ⟨_, hv2, by simpa using hr2⟩, ⟨u, hu1⟩, hB.trans hb2⟩
 case done =>
  rintro D W hD ⟨⟨v, hv, hrow⟩, _, hB⟩ hK; have hc := hv.cell
  gi_wp2
  refine ⟨by simp, .inl ⟨_, _, rfl, run_takeDeferred hK, ?_⟩⟩; exact ⟨_, results_tmp rfl _ _ _, v, rfl, ownsRow_putObj hrow _ hK rfl, hB.trans ⟨rfl, rfl, rfl, by simp, fun k hk => World.putObj_heap_other A2⟩⟩
abbrev O8 : Fact := At 0 0 (Lib.deBruijn32tab.map fun (v : Nat) => Value.int .u8 (v : Int))
theorem C3h {ok : Nat → Prop} {w : World} (h : O8.f ok w) (hk : ∀ b, ok b → b < w.heap.size) : TabAt 0 Lib.deBruijn32tab w ∧ 0 < w.heap.size := by
 refine ⟨fun j hj => ?_, hk _ h.1⟩; have h1 := h.2 j (.int .u8 (Lib.deBruijn32tab.getD j 0 : Nat)) (by rw [List.getElem?_map, List.getD_eq_getElem?_getD, List.getElem?_eq_getElem hj]; rfl)
 rwa [Nat.zero_add] at h1
theorem B3d (s : Nat) (hs : s < 4294967296) : Spec prog 123 #[.int .u32 (s : Int)] [O8] [] (fun x : SH => sl x (B8 s).length) (fun _ => []) (fun x => [Ag 1 3 x (B8 s).length (On (B8 s))]) := fun ok w hok hst => by
 obtain ⟨hT, hw⟩ := C3h (hst.facts O8 List.mem_cons_self) (fun b hb => hb.2.1); refine (callsIn_wide.mp (C0u Fence.wide 3 trivial trivial trivial trivial rfl (Nat.le_refl _) s hs w hw hT)).mono fun e w' hh => ?_
 obtain ⟨v, rfl, hrow, hB⟩ := hh; obtain ⟨a, rfl⟩ := B0b hrow
 have hrow0 : w'.ownsRow 0 3 1 (sl a (B8 s).length) (B8 s).length (On (B8 s)) := by
  have h1 : w'.ownsRow 0 3 1 (sl a (B8 s).length) (B8 s).length ((B8 s).map (Value.int .i64)) := ⟨hrow.1, hrow.2.imp id (fun ⟨g, cap, cur, q1, q2, q3⟩ => ⟨g, cap, cur, q1, Nat.zero_le _, q3⟩)⟩
  rwa [show (B8 s).map (Value.int .i64) = On (B8 s) from by induction (B8 s) with | nil => rfl | cons y ys ih => (simp only [List.map_cons, On, List.flatMap_cons, Nw, List.singleton_append] at ih ⊢; rw [ih])] at h1
 refine ⟨a, rfl, ⟨hB.os, hB.tape, hB.output, hB.size, fun b hb _ => hB.block b hb⟩, fun _ hF => (by cases hF), ?_, ?_, List.pairwise_singleton _ _⟩
 ·intro m hm w2 hw2; rw [List.mem_singleton] at hm; subst hm; exact Uz hrow0 (fun b hb => hw2 b hb)
 ·intro m hm b hb; rw [List.mem_singleton] at hm; subst hm; have := hrow.lt b hb; exact ⟨this.2, .inr this.1⟩
theorem Yt (s : Nat) (hs : s < 4294967296) : Spec prog 123 #[.int .u32 (s : Int)] [O8] [] (fun x : SH => sl x (B8 s).length) (fun x => [IL (B8 s) x]) (fun _ => []) := fun ok w hok hst => (B3d s hs ok w hok hst).mono fun e w' hh => by
 obtain ⟨x, he, h⟩ := hh; have hl : (B8 s).length ≤ 24 := Iq s 24; exact ⟨x, he, h.A3j trivial rfl rfl (by unfold reach; omega) (fun c hc => by have := Yv hc; unfold An; omega)⟩
end Go.Hy
namespace Go.Hy
open Go.Proofs Go.Proofs.Tryz
set_option maxRecDepth 100000
theorem Gr (i : Int) : Spec prog 195 #[iv i] [] [] (fun _ : Unit => .bool (decide (0 ≤ i) && decide (i < 24))) (fun _ => []) (fun _ => []) := by
 refine Db ntmps195 fun B hB => ?_
 refine H7 ?_; refine A6r ?_; refine Dp ?_; refine qI rfl rfl rfl Kr (fun hg5 => Ff ?_) (fun hg5 => ?_)
 ·refine qT rfl rfl rfl (Yp ?_); refine Gf ?_; refine Al f_ rfl A8 () (by first | (simp_all; done) | (simp_all; omega)) (fun w hs => hs.none)
 ·refine Ud ?_; refine G8 ?_; refine Al f_ rfl A8 () (by first | (simp_all; done) | (simp_all; omega)) (fun w hs => hs.none)
theorem Nq (s : Nat) (hs : s < 4294967296) : Spec prog 249 #[.int .u32 (s : Int)] [] [] (fun _ : Unit => .bool (decide (s < 16777216))) (fun _ => []) (fun _ => []) := by
 refine Db ntmps249 fun B hB => ?_
 refine H7 ?_; refine q0 rfl (No ?_ (b := 16777215)); refine q0 rfl (Tj ?_ (b := 0)); refine Bt ?_; refine Al f_ rfl A8 () (by rw [A6h hs]) (fun w hs => hs.none)
theorem S2 (s : Nat) (hs : s < 4294967296) : Spec prog 112 #[.int .u32 (s : Int), iv (-1)] [] [] (fun _ : Unit => .int .u32 ((s &&& 16777215 : Nat) : Int)) (fun _ => []) (fun _ => []) := by
 refine Db ntmps112 fun B hB => ?_
 refine H7 ?_; refine q0 rfl (Ha ?_ (b := 16777215)); refine Bt ?_; refine Gv ?_; refine q0 rfl (A0 call195 (Gr (-1)) (fun x8 => ?_)); refine Iy ?_; refine A4 (fun h9 => ?_) (fun h9 => ?_)
 ·refine Jf ?_; refine Al f_ rfl A8 () rfl (fun w hs => hs.none)
 ·exact absurd h9 Gu
theorem Pw : B9g := by
 intro l a; refine Db ntmps64 fun B hB => ?_
 refine A3 (l := l) (a := a) (fun hl1 hA1 hU1 => ?_); refine Ce ?_; refine Mp ?_; refine F3 (X := Nat) (fun i => i ≤ l.length) (fun i => [(3, .int .u32 (M7 l i : Int)), (6, sl a l.length), (7, iv (l.length : Int)), (8, iv (i : Int))]) (fun i => [CL l a]) (fun i => []) (fun i => l.length - i) (0) (Nat.zero_le _) (by exact Ez) ?_ ?_
 ·exact fun w hs => hs.l8
 ·intro i base0 hi next0; refine G3 ?_; refine A4 (fun h9 => ?_) (fun h9 => ?_)
  ·have hlt : i < l.length := by have := of_decide_eq_true h9; omega
   obtain ⟨bk, o, hav⟩ := hA1 A2; have hu := hU1 _ (Am (d := B2) hlt); have hup := Yk hU1 i; have hor : (l.getD i B2).pos ||| (l.getD i B2).neg < 4294967296 := Nat.or_lt_two_pow (n := 32) hu.1 hu.2; refine I0 ?_; refine Q8 ?_; refine Q7 ?_; refine q0 rfl (Ax fun b5 => ?_); refine Dd ?_; refine Ed ?_; refine K3 ?_; refine K3 ?_; refine q0 rfl (Mb ?_ (a := (l.getD i B2).pos) (b := (l.getD i B2).neg) (ha := hu.1) (hb := hu.2)); refine q0 rfl (Mb ?_ (a := M7 l i) (b := (l.getD i B2).pos ||| (l.getD i B2).neg)); refine Je ?_; refine A1 (fun w hs => ?_) (next0 (i + 1) _ hlt A2 ⟨by rw [A4h hlt]; rfl, rfl, rfl, rfl, trivial⟩); exact (hs.l8).bare
  ·have hge : i = l.length := by have := of_decide_eq_false h9; omega
   refine Ee ?_; refine Dw ?_; refine q0 rfl (A0 call112 (S2 (M7 l i) (Yk hU1 i)) (fun x21 => ?_)); refine Bt ?_; refine Al f_ rfl A8 () (by rw [A5t, ← hge]) (fun w hs => hs.none)
theorem Lv (c : Cl) (hc : u32 c) : Spec prog 196 #[.agg (Ae c).toArray] [] [] (fun _ : Unit => .bool (Eu c)) (fun _ => []) (fun _ => []) := by
 refine Db ntmps196 fun B hB => ?_
 refine Aq ?_; refine q0 rfl (Ay fun b1 => ?_); refine Bt ?_; refine Ge ?_; refine q0 rfl (A0 call249 (Nq c.pos hc.1) (fun x5 => ?_)); refine Dp ?_; refine qI rfl rfl rfl Kr (fun hg6 => Mc ?_) (fun hg6 => ?_)
 ·refine Hz ?_; refine qT rfl rfl rfl (A0 call249 (Nq c.neg hc.2) (fun x9 => ?_)); refine Gf ?_; refine Al f_ rfl A8 () (by first | (simp_all [Eu]; done) | (simp_all [Eu]; intros; omega)) (fun w hs => hs.none)
 ·refine Fw ?_; refine G8 ?_; refine Al f_ rfl A8 () (by first | (simp_all [Eu]; done) | (simp_all [Eu]; intros; omega)) (fun w hs => hs.none)
theorem Wk (c : Cl) (hc : u32 c) : Spec prog 248 #[.agg (Ae c).toArray] [] [] (fun _ : Unit => .bool (Rt c)) (fun _ => []) (fun _ => []) := by
 refine Db ntmps248 fun B hB => ?_
 refine Aq ?_; refine q0 rfl (Ay fun b1 => ?_); refine Bt ?_; refine Ge ?_; refine K3 ?_; refine q0 rfl (Ha ?_ (a := c.pos) (b := c.neg) (ha := hc.1) (hb := hc.2)); refine q0 rfl (Vm ?_ (b := 0)); refine Bt ?_; refine Al f_ rfl A8 () (by simp only [Rt]; congr 1; apply decide_eq_decide.mpr; omega) (fun w hs => hs.none)
theorem Sk (c d : Cl) (hc : u32 c) (hd : u32 d) : Spec prog 251 #[.agg (Ae c).toArray, .agg (Ae d).toArray] [] [] (fun _ : Unit => .agg (Ae (Dz c d)).toArray) (fun _ => []) (fun _ => []) := by
 refine Db ntmps251 fun B hB => ?_
 refine Aq ?_; refine q0 rfl (Ay fun b2 => ?_); refine q0 rfl (Ay fun b3 => ?_); refine q0 rfl (Ax fun b4 => ?_); refine Hm ?_; refine Ge ?_; refine K3 ?_; refine q0 rfl (Mb ?_ (a := c.pos) (b := d.pos) (ha := hc.1) (hb := hd.1)); refine K3 ?_; refine K3 ?_; refine q0 rfl (Mb ?_ (a := c.neg) (b := d.neg) (ha := hc.2) (hb := hd.2)); refine q0 rfl (Av (cs := Ae (Dz c d)) ?_); refine Dd ?_; refine M4 f_ rfl () rfl Dn rfl rfl rfl rfl (fun w hs => hs.none)
theorem A9d (c d : Cl) (hc : u32 c) (hd : u32 d) : Spec prog 200 #[.agg (Ae c).toArray, .agg (Ae d).toArray] [] [] (fun _ : Unit => .bool (below c d)) (fun _ => []) (fun _ => []) := by
 refine Db ntmps200 fun B hB => ?_
 refine Aq ?_; refine q0 rfl (Ay fun b2 => ?_); refine q0 rfl (Ay fun b3 => ?_); refine Hw ?_; refine B0 (pn := 1000000) (tn := false) (A := [0, 0, 3, 0, 15, 31]) (l := [0, 1, 3, 2, 4, 5]) (fin := []) Tab.mixed ⟨_, func200⟩ (by rfl) ?_; refine P1 ?_; refine Pk ?_; refine n0 rfl (B1 call251 (Sk c d hc hd) (fun x7 => ?_)); refine n0 rfl (C7w ?_ (c := Dz c d) (c' := c)); refine Ty ?_; refine Gz ?_; refine Al f_ rfl A8 () (by rw [A9e]) (fun w hs => hs.none)
end Go.Hy
namespace Go.Hy
open Go.Proofs Go.Proofs.Tryz
set_option maxRecDepth 100000
open Go.Shelf Go.RowKit Go.Lib Go.Sort
theorem C0x (a : Int) (W : World) : Calls prog 291 #[.int .u32 a] W fun e w' => e = .returned (.bool false) ∧ w' = W := by
 go_enter func291, ntmps291
 go_wp2
 go_ret
 exact ⟨by simp, rfl⟩
theorem B4b (a b : Int) (W : World) : Calls prog 254 #[.int .u32 a, .int .u32 b] W fun e w' => e = .returned (iv (compareInt a b)) ∧ w' = W := by
 go_enter func254, ntmps254
 go_wp2_with (go_at_call 291; refine (C0x _ _).mono ?_; rintro e w' ⟨rfl, rfl⟩)
 all_goals (go_ret; refine ⟨?_, rfl⟩; unfold Lib.compareInt; (repeat' split) <;> first | rfl | (exfalso; omega))
def A6a (c d : Cl) : Int := if c.pos = d.pos then compareInt c.neg d.neg else compareInt c.pos d.pos
set_option maxHeartbeats 1000000 in
theorem D0s (c d : Cl) (W : World) : Calls prog 202 #[.agg #[.int .u32 c.pos, .int .u32 c.neg], .agg #[.int .u32 d.pos, .int .u32 d.neg]] W fun e w' => e = .returned (iv (A6a c d)) ∧ ∃ q os', w' = grow (W.drewN q) os' := by
 have hcon := fun a b W' => B4b a b W'
 have e1 : A6a c d = if (c.pos : Int) = d.pos then compareInt c.neg d.neg else compareInt c.pos d.pos := by unfold A6a; simp only [Int.ofNat_inj]
 generalize hr : A6a c d = r at e1 ⊢
 go_enter func202, ntmps202
 go_wp2_with (go_at_call 254; refine (hcon _ _ _).mono ?_; rintro e w' ⟨rfl, rfl⟩)
 all_goals (go_ret; refine ⟨?_, 0, _, by rw [alloc_eq_grow, alloc_eq_grow, grow_grow]; rfl⟩)
 all_goals (rw [e1]; simp_all)
instance : Inhabited Cl := ⟨B2⟩
theorem A1z (c d : Cl) : ltOf A6a c d = Cy c d := by
 unfold ltOf A6a Cy compareInt; by_cases h : c.pos = d.pos
 ·simp only [h, if_true]; by_cases h2 : c.neg < d.neg
  ·rw [if_pos A2]; simp [h2]
  ·rw [if_neg A2]; split <;> simp [h2]
 ·simp only [h, if_false]; by_cases h2 : c.pos < d.pos
  ·rw [if_pos A2]; simp [h2]
  ·rw [if_neg A2, if_pos A2]; simp [h2]
theorem C1i : SWO (ltOf A6a) where
 irrefl x := by rw [A1z]; simp [Cy]
 trans x y z h1 h2 := by
  rw [A1z] at *; simp only [Cy, Bool.or_eq_true, Bool.and_eq_true, decide_eq_true_eq] at *; omega
 ntrans x y z h1 h2 := by
  rw [A1z] at *; simp only [Cy, Bool.or_eq_false_iff, Bool.and_eq_false_iff, decide_eq_false_iff_not] at *; omega
theorem Rk (d : Array Cl) : (flatK Ae 2 d).toList = A5 d.toList := by
 apply List.ext_getElem?; intro t; have hl : (A5 d.toList).length = d.size * 2 := by rw [Km Dv]; simp
 by_cases ht : t < d.size * 2
 ·have h1 : (flatK Ae 2 d).toList[t]? = some (Ae d[t / 2]!)[t % 2]! := by
   have hs : t < (flatK Ae 2 d).size := by rw [size_flatK]; exact ht
   rw [Array.getElem?_toList, Array.getElem?_eq_getElem hs]; have := get_flatK Ae 2 d t ht; rw [getElem!_pos _ t hs] at this; rw [this]
  rw [h1]; have hd : t / 2 < d.toList.length := by simp; omega
  have e : d.toList.getD (t / 2) B2 = d[t / 2]! := by
   have : t / 2 < d.size := by simpa using hd
   rw [getElem!_pos d (t / 2) this, List.getD_eq_getElem?_getD, List.getElem?_eq_getElem hd]; simp
  have h2 : (Ae (d.toList.getD (t / 2) B2))[t % 2]? = some (Ae d[t / 2]!)[t % 2]! := by
   rw [e]; have : t % 2 < (Ae d[t / 2]!).length := by rw [Dv]; omega
   rw [List.getElem?_eq_getElem this, getElem!_pos (Ae d[t / 2]!) (t % 2) this]
  have := A1p Dv B2 d.toList (t / 2) (t % 2) _ hd h2; rw [show t / 2 * 2 + t % 2 = t by omega] at this; exact this.symm
 ·rw [List.getElem?_eq_none (by simp; omega), List.getElem?_eq_none A2]
theorem B2k (d : Array Cl) (l : List Cl) (rest : List Value) (hs : d.size = l.length) : putCells id 0 (flatK Ae 2 d) (A5 l ++ rest).toArray = (A5 d.toList ++ rest).toArray := by
 apply Array.ext_getElem?; intro t; have hl : (A5 l).length = d.size * 2 := by rw [Km Dv, hs]
 have hl2 : (A5 d.toList).length = d.size * 2 := by rw [Km Dv]; simp
 simp only [putCells, Array.getElem?_mapIdx, List.getElem?_toArray, size_flatK, Nat.zero_add, Nat.zero_le, true_and, Nat.sub_zero, id]; by_cases ht : t < d.size * 2
 ·rw [List.getElem?_append_left A2, List.getElem?_append_left A2]
  have h1 : (A5 d.toList)[t]? = some (flatK Ae 2 d)[t]! := by
   rw [← Rk, Array.getElem?_toList]; have hsz : t < (flatK Ae 2 d).size := by rw [size_flatK]; exact ht
   rw [Array.getElem?_eq_getElem hsz, getElem!_pos _ t hsz]
  rw [h1]; obtain ⟨v, hv⟩ : ∃ v, (A5 l)[t]? = some v := ⟨_, List.getElem?_eq_getElem A2⟩; rw [hv, Option.map_some, if_pos ht]
 ·rw [List.getElem?_append_right A2, List.getElem?_append_right A2, hl, hl2]; cases rest[t - d.size * 2]? with
  | none => rfl
  | some v => rw [Option.map_some, if_neg ht]
theorem B2f (l : List Cl) (g cap : Nat) (rest : List Value) (hn : l.length < 4611686018427387904) :
  Spec prog 201 #[.slice (some ⟨g, 0, none⟩) l.length cap, .func (.func 202) #[] #[]] [] [A7 g (A5 l ++ rest) 107] (fun _ : {l' : List Cl // l'.Perm l ∧ l'.Pairwise fun a b => Cy b a = false} => .tuple #[]) (fun _ => []) (fun x => [A7 g (A5 x.1 ++ rest) 107]) := by
 intro ok w hok hs; have hg : w.heap[g]? = some (.cells (A5 l ++ rest).toArray 107 (0, 0)) := hs.res _ List.mem_cons_self w (fun _ _ => rfl); have hlt : g < w.heap.size := (Array.getElem?_eq_some_iff.mp hg).1; have hu : prog.underlying 107 = some (.struct (TyF.fC prog)) := TyF.uC
 have aE : ∀ w, (isAgg (Tryz.Sb.t 24)).run prog w = .ok true w := fun w => by
  show (isAgg 107).run prog w = _; simp [isAgg, run_underlying hu]
 have zE : ∀ w, (Go.sizeOf (Tryz.Sb.t 24)).run prog w = .ok 2 w := fun w => Hn (P := prog) (t := 107) rfl w
 have hH : HoldsK Ae 2 w g 0 l.toArray := by
  intro j hj; rw [size_flatK] at hj; have e : (flatK Ae 2 l.toArray).toList = A5 l := by rw [Rk]
  have hsz : j < (flatK Ae 2 l.toArray).size := by rw [size_flatK]; exact hj
  have h1 : (A5 l)[j]? = some (flatK Ae 2 l.toArray)[j]! := by
   rw [← e, Array.getElem?_toList, Array.getElem?_eq_getElem hsz, getElem!_pos _ j hsz]
  refine ⟨?_, by simp [World.frozen?, hg]⟩; have hlen : j < (A5 l).length := (List.getElem?_eq_some_iff.mp h1).1; simp only [World.cell?, hg, Nat.zero_add, Option.isSome_none, Bool.false_eq_true, if_false, List.getElem?_toArray, id]; rw [List.getElem?_append_left hlen]; exact h1
 have hc := AnyQ.slices_SortFunc (P := prog) Tryz.C2d 2 aE zE Ae Dv (fun x v hv => by
   simp only [Ae, List.mem_cons, List.not_mem_nil, or_false] at hv; rcases hv with rfl | rfl <;> rfl) A6a C1i 202 #[] g 0 cap l.toArray w call202
  (fun m os dk hsz x y => D0s x y _) hH hlt (by simpa using hn)
 have hc2 : Calls prog 201 #[.slice (some ⟨g, 0, none⟩) l.length cap, .func (.func 202) #[] #[]] w _ := hc; refine hc2.mono ?_; rintro e w' ⟨he, d', n, os, hp, hsd, hw⟩; have hsize : d'.size = l.length := by simpa using hp.1
 have hperm : d'.toList.Perm l := by
  have := hp.2.2; have e1 : d'.extract 0 l.toArray.size = d' := by rw [show l.toArray.size = d'.size by simp [hsize]]; simp
  have e2 : l.toArray.extract 0 l.toArray.size = l.toArray := by simp
  rw [e1, e2] at this; exact this
 have hsorted : d'.toList.Pairwise fun a b => Cy b a = false := by
  rw [List.pairwise_iff_getElem]; intro i j hi hj hij; have hi' : i < d'.size := by simpa using hi
  have hj' : j < d'.size := by simpa using hj
  have := hsd i j (Nat.zero_le _) hij (by simp; omega); rw [A1z, getElem!_pos d' j hj', getElem!_pos d' i hi'] at this; simpa using this
 have hg' : w'.heap[g]? = some (.cells (A5 d'.toList ++ rest).toArray 107 (0, 0)) := by
  rw [hw]; show ((mapBlock (Go.Sort.ahead w n) g (putCells id 0 (flatK Ae 2 d'))).heap ++ os)[g]? = _; rw [Array.getElem?_append_left (by simp [mapBlock, Go.Sort.ahead]; exact hlt)]; simp only [mapBlock, Go.Sort.ahead, Array.getElem?_modify, if_true, hg, Option.map_some, onCells]; rw [B2k d' l rest hsize]
 have hold : ∀ b, b < w.heap.size → b ≠ g → w'.heap[b]? = w.heap[b]? := by
  intro b hb hne; rw [hw]; show ((mapBlock (Go.Sort.ahead w n) g (putCells id 0 (flatK Ae 2 d'))).heap ++ os)[b]? = _; rw [Array.getElem?_append_left (by simp [mapBlock, Go.Sort.ahead]; exact hb)]; simp only [mapBlock, Go.Sort.ahead, Array.getElem?_modify, if_neg (Ne.symm hne)]
 have hsz' : w.heap.size ≤ w'.heap.size := by rw [hw]; simp [sortWorldK, putRowK, Go.Sort.ahead]
 refine ⟨⟨d'.toList, hperm, hsorted⟩, he, ?_⟩; have h0 : St ⟨ok, B3 [A7 g (A5 l ++ rest) 107], w⟩ [] ([A7 g (A5 l ++ rest) 107]) w := hs
 refine h0.Dl (m' := A7 g (A5 d'.toList ++ rest) 107) ⟨by rw [hw]; rfl, by rw [hw]; rfl, by rw [hw]; rfl, hsz', fun b hb hn => hold b hb hn⟩ (fun w2 hw2 => by
  show w2.heap[g]? = _; rw [hw2 g rfl]; exact hg') (fun b hb => ?_)
 have hb : b = g := hb; subst hb; exact ⟨by omega, .inl rfl⟩
end Go.Hy
namespace Go.Hy
open Go.Proofs Go.Proofs.Tryz
set_option maxRecDepth 100000
theorem A9w {M : List Az} : M.Perm (M ++ []) := by rw [List.append_nil]
theorem A8j (l : List Cl) (a : SH) (c : FuncId) (cap : List Value) (FΓ : List Fact) (M : List Az) (g : Cl → Bool) (hc : ∀ (args : Array Value) (w : World), (callFunc c args).run prog w = .ok (.enter c args) w) (hcl : ∀ x, x ∈ l → Spec prog c (Gc x :: cap).toArray FΓ M (fun _ : Unit => .bool (g x)) (fun _ => []) (fun _ => M)) : Spec prog 250 #[sl a l.length, .func (.func c) #[] cap.toArray] (CL l a :: FΓ) M (fun _ : Unit => iv (A8k g l)) (fun _ => []) (fun _ => M) := by
 refine Db ntmps250 fun B hB => ?_
 refine A3 (l := l) (a := a) (fun hl1 hA1 hU1 => ?_); refine Mp ?_; refine F3 (X := Nat) (fun i => i ≤ l.length ∧ ∀ j, j < i → g (l.getD j B2) = false) (fun i => [(0, sl a l.length), (1, .func (.func c) #[] cap.toArray), (7, iv (l.length : Int)), (8, iv (i : Int))]) (fun i => CL l a :: FΓ) (fun i => M) (fun i => l.length - i) (0) (⟨Nat.zero_le _, fun j hj => by omega⟩) (by exact Ez) ?_ ?_
 ·exact fun w hs => hs
 ·intro i base0 ⟨hi, hok⟩ next0; refine G3 ?_; refine A4 (fun h9 => ?_) (fun h9 => ?_)
  ·have hlt : i < l.length := by have := of_decide_eq_true h9; omega
   obtain ⟨bk, o, hav⟩ := hA1 A2; refine Zq ?_; refine Jf ?_; refine Dw ?_; refine K5 ?_; refine Q8 ?_; refine Q7 ?_; refine q0 rfl (Dy hc (hcl _ (Am hlt)) (cap := cap) (fun x16 => ?_) (hm := A9w)); refine Hm ?_; refine A4 (fun h16 => ?_) (fun h16 => ?_)
   ·refine Jf ?_; refine Al f_ rfl A8 () (by rw [C0z hlt h16 hok]) (fun w hs => (hs.l8).Aj)
   ·refine Gg ?_; refine A1 (fun w hs => ?_) (next0 (i + 1) _ ⟨hlt, fun j hj => (by rcases Nat.lt_succ_iff_lt_or_eq.mp hj with h | h; exact hok j h; subst h; exact h16)⟩ A2 Ez); exact (hs.l9).Aj
  ·have hge : i = l.length := by have := of_decide_eq_false h9; omega
   refine P3 ?_; refine Al f_ rfl A8 () (by rw [B3m (by rw [← hge]; exact hok)]) (fun w hs => hs.l8)
theorem Ph (l : List Cl) (a : SH) (c : FuncId) (cap : List Value) (FΓ : List Fact) (M : List Az) (g : Cl → Bool) (hc : ∀ (args : Array Value) (w : World), (callFunc c args).run prog w = .ok (.enter c args) w) (hcl : ∀ x, x ∈ l → Spec prog c (Gc x :: cap).toArray FΓ M (fun _ : Unit => .bool (g x)) (fun _ => []) (fun _ => M)) : Spec prog 198 #[sl a l.length, .func (.func c) #[] cap.toArray] (CL l a :: FΓ) M (fun _ : Unit => .bool (l.any g)) (fun _ => []) (fun _ => M) := by
 refine Db ntmps198 fun B hB => ?_
 refine H7 ?_; refine Dp ?_; refine q0 rfl (A0 call250 (A8j l a c cap FΓ M g hc hcl) (fun x7 => ?_) (hm := A9w)); refine A6r ?_; refine Bt ?_; refine Al f_ rfl A8 () (by rw [A5k]) (fun w hs => (hs.l8).Aj)
theorem A1i (c d : Cl) (hc : u32 c) (hd : u32 d) (b : Nat) : Spec prog 199 #[Gc d, pz b] [] [A7 b (Ae c) 107] (fun _ : Unit => .bool (!decide (c = d) && below c d)) (fun _ => []) (fun _ => [A7 b (Ae c) 107]) := by
 refine Db ntmps199 fun B hB => ?_
 refine Aq ?_; refine q0 rfl (Ay fun b2 => ?_); refine Bt ?_; refine Fb ?_; refine Hg ?_; refine q0 rfl (C8p ?_ (c := c) (c' := d)); refine Dp ?_; refine qI rfl rfl rfl Kr (fun hg7 => Nn ?_) (fun hg7 => ?_)
 ·refine B1t ?_; refine qT rfl rfl rfl (A0 call200 (A9d c d hc hd) (fun x10 => ?_)); refine Gf ?_; refine Al f_ rfl A8 () (by simp_all) (fun w hs => (hs.l8).drop)
 ·refine Fw ?_; refine G8 ?_; refine Al f_ rfl A8 () (by simp_all) (fun w hs => (hs.l8).drop)
theorem A5e (l : List Cl) (a : SH) (c : Cl) (hc : u32 c) (b : Nat) : Spec prog 197 #[Gc c, pz b] [CL l a] [A7 b [sl a l.length] 22] (fun _ : Unit => .bool (Cu l c)) (fun _ => []) (fun _ => [A7 b [sl a l.length] 22]) := by
 refine Db ntmps197 fun B hB => ?_
 refine A3 (l := l) (a := a) (fun hl1 hA1 hU1 => ?_); refine Aq ?_; refine q0 rfl (Ay fun b2 => ?_); refine Bt ?_; refine N9 ?_; refine N0 ?_; refine q0 rfl (A0 call198 (Ph l a 199 [pz b2] [] [A7 b2 (Ae c) 107] (fun d => !decide (c = d) && below c d) call199 (fun d hd => A1i c d hc (hU1 d hd) b2)) (fun x6 => ?_)); refine Bt ?_; refine Al f_ rfl A8 () rfl (fun w hs => (hs.l8).drop)
end Go.Hy
