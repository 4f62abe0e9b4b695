/- Contracts of this program's functions and the laws that they need. -/
import Derived.RangeFuncNested
import Derived.RangeFuncBound
import Derived.RangeFuncCalls
import Derived.RangeFuncLeaves
import Derived.RangeFuncBox
import Derived.Shelf.Abstract
import Derived.Shelf.RegionOpen
import Derived.WalkKit
import Derived.OwnWalkIn
import Derived.TacticsInMore
import Derived.LoopNIn
import Derived.LoopIn
import Derived.Tactics2
import Derived.Test.YtpfjlbopkhdebaaGreatDoorP7
set_option linter.unusedVariables false
set_option linter.unusedSimpArgs false
set_option linter.unusedSectionVars false
namespace Go.Hy
def Oo (b : Br) : Bool := decide (b.An = [A6])
def My : List Br → Int
 | [] => -1
 | b :: l => if Oo b then 0 else if My l = -1 then -1 else My l + 1
theorem A2v : ∀ {l : List Br}, (∀ j, j < l.length → Oo (l.getD j Bp) = false) → My l = -1
 | [], _ => rfl
 | b :: l, h => by
  have h0 := h 0 Ec
  rw [List.getD_cons_zero] at h0
  rw [My, h0, A2v (l := l) fun j hj => by have := h (j + 1) (by simpa using hj); rwa [List.getD_cons_succ] at this]
  rfl
theorem B4z : ∀ {l : List Br} {i : Nat}, i < l.length → (∀ j, j < i → Oo (l.getD j Bp) = false) → Oo (l.getD i Bp) = true → My l = i
 | [], i, hi, _, _ => absurd hi Ec
 | b :: l, 0, hi, h, h1 => by
  rw [List.getD_cons_zero] at h1
  rw [My, h1]; rfl
 | b :: l, i + 1, hi, h, h1 => by
  have h0 := h 0 A3
  rw [List.getD_cons_zero] at h0
  rw [List.getD_cons_succ] at h1
  have h2 := B4z (l := l) (i := i) (by simpa using hi) (fun j hj => by have := h (j + 1) A3; rwa [List.getD_cons_succ] at this) h1
  rw [My, h0, h2, if_neg Ec, if_neg A3]
  omega
def O8 : List Cl → List Br → EL
 | h, [] => (0, h)
 | h, b :: l => Ix (Bo h b.An) fun x => O8 x l
theorem C8s {h : List Cl} {b : Br} {l : List Br} (e : (Bo h b.An).1 ≠ 0) : O8 h (b :: l) = ((Bo h b.An).1, []) := by rw [O8, Cg e]
theorem D5e {h : List Cl} {b : Br} {l : List Br} (e : (Bo h b.An).1 = 0) : O8 h (b :: l) = O8 (Bo h b.An).2 l := by rw [O8, Cf e]
theorem A9k {f g : List Cl} (h : (Bo f g).1 = 0) : (Bo f g).2.length ≤ 64 ∧ A2 (Bo f g).2 = true := by
 unfold Bo at h ⊢
 split at h
 ·cases h
 ·rename_i h1
  rw [if_neg h1]
  simp only [Bool.not_eq_false, Bool.and_eq_true] at h1
  unfold Fk at h ⊢
  have hr := Fo h
  refine ⟨F8 hr, Oy hr fun c hc => ?_⟩
  rcases List.mem_append.mp (Kv h hc) with hc | hc
  ·exact (Cr h1.1).2 c hc
  ·exact (Cr h1.2).2 c hc
theorem Qa {l : List Cl} (h : (Am l).1 ≠ 0) : (Am l).2 = [] := by
 unfold Am at h ⊢
 (repeat' split) <;> simp_all
theorem C8k {f g : List Cl} (h : (Bo f g).1 ≠ 0) : (Bo f g).2 = [] := by
 unfold Bo at h ⊢
 split
 ·rfl
 ·rename_i h1
  rw [if_neg h1] at h
  unfold Fk at h ⊢
  exact Qa h
def ofT (k : Int) (l : List Br) : T := .mk k 0 ⟨#[]⟩ [] (List.replicate (Ch k).toNat uE) l
def Qg (k : Int) (l : List Br) (D : T → Int × T) : Int × List Br := if C6 k = 0 then (2, []) else ((D (ofT k l)).1, (D (ofT k l)).2.sys)
def Nx (l : List Br) : T := .mk 0 0 ⟨#[]⟩ [] [] l
theorem C3g : ∀ {l : List Nat} {n : Nat}, n ∈ l → n ≤ l.sum
 | a :: l, n, h => by
  rw [List.sum_cons]
  rcases List.mem_cons.mp h with rfl | h
  ·omega
  ·have := C3g h; omega
theorem D0n {l : List Br} {m : Nat} (h : I0 (Nx l) ≤ m) {b : Br} (hb : b ∈ l) : b.An.length ≤ m := by
 rw [Yo] at h
 have h1 : Ny b ≤ (l.map Ny).sum := C3g (List.mem_map_of_mem hb)
 have h2 : b.An.length ≤ Ny b := by
  cases b
  simp only [Ny, Br.An]
  omega
 have h3 : (Nx l).sys = l := rfl
 rw [h3] at h
 omega
theorem Lb {k : Int} (h : C6 k ≠ 0) : (k = 15 ∨ k = 16 ∨ k = 17 ∨ k = 18) ∧ 0 ≤ Ch k ∧ Ch k ≤ 2 ∧ Au k := by
 unfold C6 at h
 have hk : k = 15 ∨ k = 16 ∨ k = 17 ∨ k = 18 := by
  split at h
  ·omega
  ·split at h
   ·omega
   ·exact absurd rfl h
 refine ⟨hk, ?_⟩
 unfold Au
 rcases hk with rfl | rfl | rfl | rfl <;> decide
theorem D0r {n : Nat} : Mr (List.replicate n uE) = n := by
 induction n with
 | zero => rfl
 | succ n ih => rw [List.replicate_succ, Mr, ih, show size uE = 1 by decide]; omega
theorem Xy {k : Int} {l : List Br} {m : Nat} (hp : C6 k ≠ 0) (h : I0 (Nx l) ≤ m) : size (ofT k l) ≤ m + 2 := by
 have h1 := B1n (Nx l)
 have h2 := (Lb hp).2
 have e1 : size (ofT k l) = 1 + Mr (List.replicate (Ch k).toNat uE) + V7 l := Rs _
 have e2 : size (Nx l) = 1 + Mr [] + V7 l := Rs _
 have e3 : Mr [] = 0 := rfl
 rw [D0r] at e1
 omega
theorem okJ {f g : List Cl} : Sr (Bo f g) := by
 unfold Bo
 split
 ·exact Fl
 ·rename_i h
  simp only [Bool.not_eq_false, Bool.and_eq_true] at h
  exact Nl (C5f h.1) (C5f h.2)
theorem C2n {b : Br} : (decide ((b.An.length : Int) = 1) && decide (b.An.getD 0 A6 = A6)) = Oo b := by
 unfold Oo
 rw [← Bool.decide_and]
 refine decide_eq_decide.mpr ⟨fun h => ?_, fun h => ?_⟩
 ·match hf : b.An, h with
  | [], h => exact absurd h.1 Ec
  | [c], h => rw [show c = A6 from h.2]
  | a :: c :: l, h => exact absurd h.1 (by simp; omega)
 ·rw [h]; exact ⟨rfl, rfl⟩
section
variable {C : Type} {A : Tr C}
end
def Vc : List Br := [.mk [⟨0, 1⟩] [uE], .mk [⟨1, 0⟩] [uE]]
theorem Ue : O8 [] Vc = (0, [⟨0, 1⟩, ⟨1, 0⟩]) ∧ Qg 15 Vc (fun t => B0 t ⟨1, 0⟩) = (0, [.mk [A6] [uE]]) ∧ My Vc = -1 ∧ My [.mk [A6] [uE]] = 0 ∧ I0 (Nx Vc) ≤ 200 := by decide +kernel
def Gb (l : List Cl) : List Cl := l.filter fun c => !M7 c
theorem C9f {l : List Cl} {i : Nat} (h : i < l.length) (hc : M7 (l.getD i A6) = false) : Gb (l.take (i + 1)) = Gb (l.take i) ++ [l.getD i A6] := by
 unfold Gb
 rw [Af (d := A6) h, List.filter_append, List.filter_cons, if_pos (by rw [hc]; rfl), List.filter_nil]
theorem D5r {l : List Cl} {i : Nat} (h : i < l.length) (hc : M7 (l.getD i A6) = true) : Gb (l.take (i + 1)) = Gb (l.take i) := by
 unfold Gb
 rw [Af (d := A6) h, List.filter_append, List.filter_cons, if_neg (by rw [hc]; decide), List.filter_nil, List.append_nil]
theorem B0h (l : List Cl) : (Gb l).length ≤ l.length := List.length_filter_le _ _
theorem Zb {l : List Cl} (h : l.all Av = true) : Gb l = F6 l := by
 unfold Gb F6
 refine List.filter_congr fun c hc => ?_
 rw [U5 (List.all_eq_true.mp h c hc)]
theorem A5t {l : List Cl} (h : ∀ c, c ∈ l → Ew c = false) : F6 l = l := by
 unfold F6
 exact List.filter_eq_self.mpr fun c hc => by rw [h c hc]; rfl
theorem A4y {f g : List Cl} : Bo f g = if (A2 f && A2 g) = false then (2, []) else Am (Gb (f ++ g)) := by
 unfold Bo
 split
 ·rfl
 ·rename_i h
  simp only [Bool.not_eq_false, Bool.and_eq_true] at h
  rw [Zb (D9b (Ht (Cr h.1).1) (Ht (Cr h.2).1)), A5t fun c hc => (List.mem_append.mp hc).elim ((Cr h.1).2 c) ((Cr h.2).2 c)]
  rfl
def Gs (t : T) (a b : Int) : Int := if B5 t ≠ 0 then B5 t else if a < 0 ∨ b < 0 then 2 else 0
def Ja (t : T) (f b : Int) : Int := if Gs t f b = 0 ∧ 1000000 < b then 2 else Gs t f b
def Hk (x : T) : Int × T := if x.kind < 0 then (-x.kind, t0) else (0, x)
theorem B0c {vb db : Int} {t : T} {v d : Int} (hf : Dy t) : Hk (Gf vb db t v d) = I7 (C1 (Bj vb db) t (v, d)) := by
 unfold Hk
 rcases Ld (vb := vb) (db := db) (v := v) (d := d) hf with ⟨h1, h2⟩ | ⟨e, h1, h2, h3⟩
 ·rw [if_neg A3, h1]; rfl
 ·rw [h3, if_pos (Iq h1), h2]
  show (-(-e), t0) = (e, t0)
  rw [Int.neg_neg]
theorem B7h {vb db : Int} : ∀ (t : T) {c : Int × Int} {e : Int}, C1 (Bj vb db) t c = .bad e → e ≤ 100 := T.ind fun t ih c e h => by
 have hr : ∀ {l : List Cl} {f e : Int}, C5 db l f = .bad e → e ≤ 100 := fun {l f e} h => by
  unfold C5 at h
  split at h
  ·cases h
  ·split at h
   ·cases h
   ·injection h with h
    have := Ub (l := l) (f := f) (b := db)
    omega
 rcases Xc h with h1 | ⟨b, _, h1⟩ | ⟨p, hp, h1 | ⟨c', _, h2⟩⟩
 ·rw [Ti] at h1
  rcases Dn h1 with h2 | ⟨g, _, h2⟩
  ·exact hr h2
  ·split at h2
   ·injection h2 with h2; omega
   ·cases h2
 ·rw [Qu] at h1
  rcases Dn h1 with h2 | ⟨g, _, h2⟩
  ·exact hr h2
  ·cases h2
 ·cases h1
 ·exact ih p hp h2
theorem A0e {t : T} {a b : Int} : Gs t a b = 0 ↔ B5 t = 0 ∧ 0 ≤ a ∧ 0 ≤ b := by
 unfold Gs
 split
 ·rename_i h; simp [h]
 ·rename_i h
  split <;> omega
theorem Vl {t : T} {f b : Int} (hb : Au b) (h : Ja t f b ≠ 0) : Fe t f b = (Ja t f b, t0) := by
 unfold Ja at h ⊢
 unfold Fe Cc
 by_cases h1 : B5 t ≠ 0
 ·have h2 : Gs t f b = B5 t := by unfold Gs; rw [if_pos h1]
  rw [if_pos h1, h2, if_neg (fun h3 => h1 h3.1)]
 ·rw [if_neg h1]
  by_cases h2 : f < 0 ∨ b < 0
  ·have h3 : Gs t f b = 2 := by unfold Gs; rw [if_neg h1, if_pos h2]
   rw [if_pos (by simp; omega), h3, if_neg A3]
  ·have h3 : Gs t f b = 0 := by unfold Gs; rw [if_neg h1, if_neg h2]
   rw [h3] at h ⊢
   by_cases h4 : 1000000 < b
   ·rw [if_pos (by have := B2s hb A3; simp; omega), if_pos ⟨rfl, h4⟩]
   ·rw [if_neg (fun h5 => h4 h5.2)] at h; exact absurd rfl h
theorem Vm {t : T} {f b : Int} (hb : Au b) (h : Ja t f b = 0) : B5 t = 0 ∧ 0 ≤ f ∧ 0 ≤ b ∧ b ≤ 1000000 ∧ Fe t f b = I7 (A0g t f b) := by
 unfold Ja at h
 by_cases h1 : Gs t f b = 0
 ·obtain ⟨h2, h3, h4⟩ := A0e.mp h1
  by_cases h5 : 1000000 < b
  ·rw [if_pos ⟨h1, h5⟩] at h; cases h
  ·exact ⟨h2, h3, h4, by omega, B7s h2 (by have := Zk h4 A3; simp [h3, h4, this])⟩
 ·rw [if_neg (fun h2 => h1 h2.1)] at h; exact absurd h h1
def Iw (e d : Int) : Int := if e = 0 ∧ d < 0 then 2 else e
theorem C2h {t : T} {v d : Int} (hv : Au v) (h : Iw (Fe t 0 v).1 d ≠ 0) : Cm t v d = ((if d < 0 ∧ Iw (Fe t 0 v).1 d = 100 ∧ B5 t = 0 then 2 else Iw (Fe t 0 v).1 d), t0) := by
 by_cases h1 : Ja t 0 v = 0
 ·obtain ⟨f1, _, f2, f3, f4⟩ := Vm hv h1
  have hm := Zk f2 f3
  unfold Cm Cc
  rw [if_neg (by simp [f1])]
  by_cases hd : d < 0
  ·rw [if_pos (by simp; omega)]
   have h2 : ¬ (d < 0 ∧ Iw (Fe t 0 v).1 d = 100 ∧ B5 t = 0) → Iw (Fe t 0 v).1 d = 2 := fun h3 => by
    unfold Iw at h3 ⊢
    rw [f4] at h3 ⊢
    cases hx : A0g t 0 v with
    | ok u => rw [if_pos ⟨rfl, hd⟩]
    | bad e =>
     rw [hx] at h3
     have he := A1q hx
     exfalso
     apply h3
     refine ⟨hd, ?_, f1⟩
     show (if e = 0 ∧ d < 0 then 2 else e) = 100
     rw [if_neg A3, he]
   by_cases h4 : d < 0 ∧ Iw (Fe t 0 v).1 d = 100 ∧ B5 t = 0
   ·rw [if_pos h4]
   ·rw [if_neg h4, h2 h4]
  ·rw [if_neg (by simp; omega), if_neg (fun h2 => hd h2.1)]
   unfold Iw at h ⊢
   rw [if_neg (fun h2 => hd h2.2)] at h ⊢
   rw [f4] at h ⊢
   have hvr : A0g t 0 v = C1 (Bj v 0) t (0, 0) := rfl
   cases hx : A0g t 0 v with
   | ok u => rw [hx] at h; exact absurd rfl h
   | bad e =>
    rw [hvr] at hx
    show (match B0k t v d with | .ok u => (0, u) | .bad e => (e, t0)) = (e, t0)
    rw [show B0k t v d = .bad e from Ao.B8q hx]
 ·have h2 := Vl hv h1
  have h3 : ∀ e, (Fe t 0 v).1 = e → e ≠ 0 → Iw (Fe t 0 v).1 d = e := fun e he h0 => by unfold Iw; rw [he, if_neg (fun h4 => h0 h4.1)]
  by_cases h4 : B5 t ≠ 0
  ·have h5 : Ja t 0 v = B5 t := by unfold Ja Gs; rw [if_pos h4, if_neg (fun h6 => h4 h6.1)]
   rw [h5] at h2
   rw [h3 _ (by rw [h2]) h4, if_neg (fun h6 => h4 h6.2.2)]
   unfold Cm Cc
   rw [if_pos h4]
  ·have h5 : Ja t 0 v = 2 := by
    unfold Ja at h1 ⊢
    split
    ·rfl
    ·rename_i h6
     rw [if_neg h6] at h1
     unfold Gs at h1 ⊢
     rw [if_neg h4] at h1 ⊢
     split
     ·rfl
     ·rename_i h7; rw [if_neg h7] at h1; exact absurd rfl h1
   rw [h5] at h2
   rw [h3 _ (by rw [h2]) K1, if_neg A3]
   unfold Cm Cc
   rw [if_neg h4, if_pos]
   by_cases h6 : v < 0
   ·simp; omega
   ·have h7 : 1000000 < v := by
     have hw : Gs t 0 v = 0 := A0e.mpr ⟨by omega, by omega, by omega⟩
     unfold Ja at h5
     rw [hw] at h5
     refine Decidable.byContradiction fun h8 => ?_
     rw [if_neg (fun h9 => h8 h9.2)] at h5
     cases h5
    have := B2s hv A3
    simp; omega
theorem C2i {t : T} {v d : Int} (hv : Au v) (h : Iw (Fe t 0 v).1 d = 0) : Cm t v d = I7 (C1 (Bj 0 d) (Fe t 0 v).2 (0, 0)) ∧ Dy (Fe t 0 v).2 ∧ 0 ≤ d ∧ size (Fe t 0 v).2 = size t ∧ size t ≤ 20000 := by
 have h0 : (Fe t 0 v).1 = 0 ∧ ¬ d < 0 := by
  unfold Iw at h
  split at h
  ·cases h
  ·rename_i h1; exact ⟨h, fun h2 => h1 ⟨h, h2⟩⟩
 by_cases h1 : Ja t 0 v = 0
 ·obtain ⟨f1, _, f2, f3, f4⟩ := Vm hv h1
  rw [f4] at h0
  have hvr : A0g t 0 v = C1 (Bj v 0) t (0, 0) := rfl
  cases hx : A0g t 0 v with
  | bad e => rw [hx] at h0; have := A1q hx; have := h0.1; simp only [I7] at this; omega
  | ok u =>
   rw [f4, hx]
   rw [hvr] at hx
   have hfine := (Lg.mp f1).2
   refine ⟨?_, C8f f2 hfine hx, by omega, U9 hx, Nr f1⟩
   rw [show Cm t v d = I7 (B0k t v d) from B7s f1 (by have := Zk f2 f3; simp [f2, this]; omega)]
   show I7 (Ao.bind _ _) = I7 (C1 (Bj 0 d) u (0, 0))
   rw [hx]; rfl
 ·rw [Vl hv h1] at h0; exact absurd h0.1 h1
theorem B7e (s : Nat) : (A4 s).Pairwise (· < ·) := by
 unfold A4 C4
 rw [List.pairwise_map]
 refine List.Pairwise.imp (fun {a b} h => by omega) ((List.pairwise_lt_range (n := 24)).filter _)
theorem U2 (l : List Int) (x : Int) : Hz (l ++ [x]) = Hz l + 2 ^ x.toNat := by simp [Hz]
theorem A8d (x : Int) (l : List Int) : Hz (x :: l) = 2 ^ x.toNat + Hz l := by simp [Hz]
theorem B5m : ∀ {l : List Int} {a : Nat}, l.Pairwise (· < ·) → (∀ x, x ∈ l → (a : Int) ≤ x) → ∃ q, Hz l = 2 ^ a * q ∧ ∀ j : Nat, (Hz l).testBit j = true ↔ (j : Int) ∈ l
 | [], a, _, _ => ⟨0, by simp [Hz], fun j => by simp [Hz]⟩
 | x :: l, a, hp, ha => by
  have hx := ha x List.mem_cons_self
  obtain ⟨h1, h2⟩ := List.pairwise_cons.mp hp
  obtain ⟨q, hq, hb⟩ := B5m (l := l) (a := x.toNat + 1) h2 fun y hy => by have := h1 y hy; omega
  have hlt : 2 ^ x.toNat < 2 ^ (x.toNat + 1) := Nat.pow_lt_pow_right K1 A3
  have e : Hz (x :: l) = 2 ^ (x.toNat + 1) * q ||| 2 ^ x.toNat := by
   rw [A8d, hq, ← Nat.two_pow_add_eq_or_of_lt hlt, Nat.add_comm]
  refine ⟨2 ^ (x.toNat - a) * (2 * q + 1), ?_, fun j => ?_⟩
  ·rw [A8d, hq, ← Nat.mul_assoc, ← Nat.pow_add, show a + (x.toNat - a) = x.toNat by omega, Nat.pow_succ, Nat.mul_add, Nat.mul_one, Nat.mul_assoc]
   omega
  ·rw [e, Nat.testBit_or, Bool.or_eq_true, ← hq, hb, List.mem_cons, Nat.testBit_two_pow, decide_eq_true_eq]
   constructor
   ·rintro (h | h)
    ·exact .inr h
    ·exact .inl A3
   ·rintro (h | h)
    ·exact .inr A3
    ·exact .inl h
theorem B5l {l : List Int} (h : l.Pairwise (· < ·)) (h0 : ∀ x, x ∈ l → 0 ≤ x) (j : Nat) : (Hz l).testBit j = true ↔ (j : Int) ∈ l := by
 obtain ⟨_, _, h2⟩ := B5m (a := 0) h fun x hx => by have := h0 x hx; omega
 exact h2 j
theorem A4e {a b : Nat} (h : ∀ j, a.testBit j = true ↔ b.testBit j = true) : a = b := Nat.eq_of_testBit_eq fun j => by
 have := h j
 cases h1 : a.testBit j <;> cases h2 : b.testBit j <;> simp_all
theorem B5k (s : Nat) (i : Int) : Hz ((A4 s).filter fun x => decide (x ≠ i)) = Al s i := A4e fun j => by
 rw [B5l ((B7e s).filter _) (fun x hx => (Gm.mp (List.mem_filter.mp hx).1).1), List.mem_filter, Gm, H6]
 simp only [decide_eq_true_eq, Int.toNat_natCast]
 constructor
 ·rintro ⟨⟨_, h2, h3⟩, h4⟩; exact ⟨by omega, h3, h4⟩
 ·rintro ⟨h2, h3, h4⟩; exact ⟨⟨by omega, by omega, h3⟩, h4⟩
theorem Yt {s : Nat} {i : Int} {j : Nat} : (Jy s i).testBit j = true ↔ j < 24 ∧ (s.testBit j = true ∨ (j : Int) = i) := by
 have h24 : (s &&& 16777215).testBit j = true ↔ j < 24 ∧ s.testBit j = true := by
  rw [show (16777215 : Nat) = 2 ^ 24 - 1 by decide, Nat.testBit_and, Nat.testBit_two_pow_sub_one, Bool.and_eq_true, decide_eq_true_eq, and_comm]
 unfold Jy
 split
 ·rename_i h
  rw [Nat.testBit_or, Bool.or_eq_true, h24, Nat.testBit_two_pow, decide_eq_true_eq]
  constructor
  ·rintro (h1 | h1)
   ·exact ⟨h1.1, .inl h1.2⟩
   ·exact ⟨by omega, .inr A3⟩
  ·rintro ⟨h1, h2 | h2⟩
   ·exact .inl ⟨h1, h2⟩
   ·exact .inr A3
 ·rename_i h
  rw [h24]
  constructor
  ·rintro ⟨h1, h2⟩; exact ⟨h1, .inl h2⟩
  ·rintro ⟨h1, h2 | h2⟩
   ·exact ⟨h1, h2⟩
   ·omega
theorem A8c {X Y i : Nat} (h : ∀ j, j ≠ i → (X.testBit j = true ↔ Y.testBit j = true)) (hx : X.testBit i = true) (hy : Y.testBit i = false) : ∀ n, Hz (C4 X n) = Hz (C4 Y n) + if i < n then 2 ^ i else 0
 | 0 => by simp [C4, Hz]
 | n + 1 => by
  have ih := A8c h hx hy n
  rw [H9, H9]
  by_cases e : n = i
  ·subst e
   rw [if_pos hx, if_neg (by simp [hy]), U2, ih, if_neg (Nat.lt_irrefl _), if_pos (Nat.lt_succ_self _), Int.toNat_natCast]
   omega
  ·have h1 := h n e
   by_cases hb : Y.testBit n = true
   ·rw [if_pos hb, if_pos (h1.mpr hb), U2, U2, ih]
    by_cases hi : i < n
    ·rw [if_pos hi, if_pos A3]; omega
    ·rw [if_neg hi, if_neg A3]; omega
   ·rw [if_neg hb, if_neg (fun h2 => hb (h1.mp h2)), ih]
    by_cases hi : i < n
    ·rw [if_pos hi, if_pos A3]
    ·rw [if_neg hi, if_neg A3]
theorem E1g {s : Nat} (h : s < 16777216) : Hz (A4 s) = s := by rw [Vt, A1i]; exact Nat.mod_eq_of_lt h
theorem D0v {s : Nat} {i : Int} (h : 0 ≤ i ∧ i < 24) : Hz (A4 (Al s i) ++ [i]) = Jy s i := by
 rw [U2]
 have hf := A8c (X := Jy s i) (Y := Al s i) (i := i.toNat) (fun j hj => by
  rw [Yt, H6]
  constructor
  ·rintro ⟨h1, h2 | h2⟩
   ·exact ⟨h1, h2, by omega⟩
   ·omega
  ·rintro ⟨h1, h2, _⟩; exact ⟨h1, .inl h2⟩) (Yt.mpr ⟨by omega, .inr A3⟩) (by
  cases hb : (Al s i).testBit i.toNat with
  | false => rfl
  | true => have := (H6.mp hb).2.2; omega) 24
 rw [if_pos A3] at hf
 rw [← hf]
 exact E1g (A2h s i)
theorem B4m (s : Nat) : Al s (-1) = s &&& 16777215 := by unfold Al; rw [if_neg K1]
theorem D0a {s : Nat} {i : Int} (h : ¬ (0 ≤ i ∧ i < 24)) : Jy s i = Al s (-1) := by rw [B4m]; unfold Jy; rw [if_neg h]
def Qd (i x : Int) : Int := if 0 ≤ i ∧ i < x then x - 1 else x
theorem set_drop (s : Nat) {i : Int} (hi : 0 ≤ i) : Hz ((A4 (Al s i)).map (Qd i)) = Ev s i := A4e fun j => by
 have hm : ∀ x, x ∈ A4 (Al s i) → 0 ≤ x ∧ x < 24 ∧ s.testBit x.toNat = true ∧ x ≠ i := fun x hx => by
  obtain ⟨h1, h2, h3⟩ := Gm.mp hx
  obtain ⟨_, h4, h5⟩ := H6.mp h3
  exact ⟨h1, h2, h4, by omega⟩
 have hp : ((A4 (Al s i)).map (Qd i)).Pairwise (· < ·) := by
  rw [List.pairwise_map]
  refine List.Pairwise.imp_of_mem (fun {a b} ha hb h => ?_) (B7e _)
  have h1 := hm a ha
  have h2 := hm b hb
  unfold Qd
  split <;> split <;> omega
 rw [B5l hp fun x hx => by
  obtain ⟨y, hy, rfl⟩ := List.mem_map.mp hx
  have := hm y hy
  unfold Qd; split <;> omega]
 rw [Zv hi, List.mem_map]
 constructor
 ·rintro ⟨y, hy, e⟩
  obtain ⟨h1, h2, h3, h4⟩ := hm y hy
  unfold Qd at e
  refine ⟨y.toNat, by omega, h3, ?_⟩
  split at e <;> omega
 ·rintro ⟨k, hk, hb, h⟩
  refine ⟨(k : Int), Gm.mpr ⟨by omega, by omega, ?_⟩, ?_⟩
  ·rw [Int.toNat_natCast]
   exact H6.mpr ⟨hk, hb, by omega⟩
  ·unfold Qd
   split <;> omega
theorem C6f {a b : Nat} (ha : a < 16777216) (hb : b < 16777216) : (A4 b).foldl Jy a = a ||| b := A4e fun j => by
 have key : ∀ (l : List Int) (x : Nat), x < 16777216 → ((l.foldl Jy x).testBit j = true ↔ x.testBit j = true ∨ ((j : Int) ∈ l ∧ j < 24)) := by
  intro l
  induction l with
  | nil => intro x hx; simp
  | cons y l ih =>
   intro x hx
   rw [List.foldl_cons, ih _ (A2h x y), Yt, List.mem_cons]
   have h24 : x.testBit j = true → j < 24 := fun h => Nat.lt_of_not_le fun h2 => by
    rw [Nat.testBit_lt_two_pow (Nat.lt_of_lt_of_le hx (Nat.pow_le_pow_right (n := 2) (i := 24) A3 h2))] at h
    cases h
   constructor
   ·rintro (⟨h1, h2 | h2⟩ | h2)
    ·exact .inl h2
    ·exact .inr ⟨.inl h2, h1⟩
    ·exact .inr ⟨.inr h2.1, h2.2⟩
   ·rintro (h1 | ⟨h1 | h1, h2⟩)
    ·exact .inl ⟨h24 h1, .inl h1⟩
    ·exact .inl ⟨h2, .inr h1⟩
    ·exact .inr ⟨h1, h2⟩
 rw [key _ _ ha, Nat.testBit_or, Bool.or_eq_true, Gm]
 have h24 : b.testBit j = true → j < 24 := fun h => Nat.lt_of_not_le fun h2 => by
  rw [Nat.testBit_lt_two_pow (Nat.lt_of_lt_of_le hb (Nat.pow_le_pow_right (n := 2) (i := 24) A3 h2))] at h
  cases h
 constructor
 ·rintro (h | h)
  ·exact .inl h
  ·exact .inr (by simpa using h.1.2.2)
 ·rintro (h | h)
  ·exact .inl h
  ·exact .inr ⟨⟨by omega, by have := h24 h; omega, by simpa using h⟩, h24 h⟩
theorem C1n {l : List Int} {a : Nat} {k : Nat} (h : k < l.length) : (l.take (k + 1)).foldl Jy a = Jy ((l.take k).foldl Jy a) (l.getD k 0) := by
 rw [Af (d := 0) h, List.foldl_append]; rfl
theorem D4z {l : List Int} {k : Nat} {p : Int → Bool} (h : k < l.length) (hp : p (l.getD k 0) = true) : (l.take (k + 1)).filter p = (l.take k).filter p ++ [l.getD k 0] := by
 rw [Af (d := 0) h, List.filter_append, List.filter_cons, if_pos hp, List.filter_nil]
theorem D8s {l : List Int} {k : Nat} {p : Int → Bool} (h : k < l.length) (hp : p (l.getD k 0) = false) : (l.take (k + 1)).filter p = (l.take k).filter p := by
 rw [Af (d := 0) h, List.filter_append, List.filter_cons, if_neg (by rw [hp]; decide), List.filter_nil, List.append_nil]
theorem C8c {s : Nat} : ∀ x, x ∈ A4 s → 0 ≤ x ∧ x < 24 := fun x hx => ⟨(Gm.mp hx).1, (Gm.mp hx).2.1⟩
theorem C4w (s : Nat) : (A4 s).length ≤ 24 := by
 unfold A4 C4
 rw [List.length_map]
 exact Nat.le_trans (List.length_filter_le _ _) Ec
def Ly (c : Cl) (i : Nat) : List Cl := (if c.pos.testBit i then [⟨0, Ee i⟩] else []) ++ if c.neg.testBit i then [⟨Ee i, 0⟩] else []
def Ga (c : Cl) (n : Nat) : List Cl := (List.range n).flatMap (Ly c)
theorem R6 (c : Cl) (n : Nat) : Ga c (n + 1) = Ga c n ++ Ly c n := by
 unfold Ga
 rw [List.range_succ, List.flatMap_append]
 simp
theorem B9h (c : Cl) (i : Nat) : (Ly c i).length ≤ 2 := by
 unfold Ly
 split <;> split <;> simp
theorem Xb (c : Cl) : ∀ n, (Ga c n).length ≤ 2 * n
 | 0 => by simp [Ga]
 | n + 1 => by
  rw [R6, List.length_append]
  have := Xb c n
  have := B9h c n
  omega
theorem B7a {c d : Cl} {n : Nat} : d ∈ Ga c n ↔ ∃ i, i < n ∧ (c.pos.testBit i = true ∧ d = ⟨0, Ee i⟩ ∨ c.neg.testBit i = true ∧ d = ⟨Ee i, 0⟩) := by
 unfold Ga
 rw [List.mem_flatMap]
 constructor
 ·rintro ⟨i, hi, hd⟩
  refine ⟨i, List.mem_range.mp hi, ?_⟩
  unfold Ly at hd
  rcases List.mem_append.mp hd with hd | hd
  ·split at hd
   ·rename_i h; exact .inl ⟨h, by simpa using hd⟩
   ·cases hd
  ·split at hd
   ·rename_i h; exact .inr ⟨h, by simpa using hd⟩
   ·cases hd
 ·rintro ⟨i, hi, h⟩
  refine ⟨i, List.mem_range.mpr hi, ?_⟩
  unfold Ly
  rcases h with ⟨h1, rfl⟩ | ⟨h1, rfl⟩
  ·rw [if_pos h1]; exact List.mem_append_left _ List.mem_cons_self
  ·rw [if_pos h1]; exact List.mem_append_right _ List.mem_cons_self
theorem Vo (c : Cl) (n : Nat) : (Ga c n).all Av = true := List.all_eq_true.mpr fun d hd => by
 obtain ⟨i, _, h⟩ := B7a.mp hd
 have := Kn (i : Int)
 rcases h with ⟨_, rfl⟩ | ⟨_, rfl⟩
 ·exact D6.mpr ⟨by show (0 : Nat) < _; omega, this⟩
 ·exact D6.mpr ⟨this, by show (0 : Nat) < _; omega⟩
theorem C7o (c : Cl) : (A1l c).all Av = true := List.all_eq_true.mpr fun d hd => by
 unfold A1l at hd
 rcases List.mem_append.mp hd with hd | hd
 ·obtain ⟨x, _, rfl⟩ := List.mem_map.mp hd
  exact D6.mpr ⟨by show (0 : Nat) < _; omega, Kn _⟩
 ·obtain ⟨x, _, rfl⟩ := List.mem_map.mp hd
  exact D6.mpr ⟨Kn _, by show (0 : Nat) < _; omega⟩
theorem D8g {c d : Cl} : d ∈ A1l c ↔ d ∈ Ga c 24 := by
 rw [B7a]
 unfold A1l
 rw [List.mem_append, List.mem_map, List.mem_map]
 constructor
 ·rintro (⟨x, hx, rfl⟩ | ⟨x, hx, rfl⟩)
  ·obtain ⟨h1, h2, h3⟩ := Gm.mp hx
   exact ⟨x.toNat, by omega, .inl ⟨h3, by rw [Int.toNat_of_nonneg h1]⟩⟩
  ·obtain ⟨h1, h2, h3⟩ := Gm.mp hx
   exact ⟨x.toNat, by omega, .inr ⟨h3, by rw [Int.toNat_of_nonneg h1]⟩⟩
 ·rintro ⟨i, hi, ⟨h, rfl⟩ | ⟨h, rfl⟩⟩
  ·exact .inl ⟨i, Gm.mpr ⟨by omega, by omega, by rw [Int.toNat_natCast]; exact h⟩, rfl⟩
  ·exact .inr ⟨i, Gm.mpr ⟨by omega, by omega, by rw [Int.toNat_natCast]; exact h⟩, rfl⟩
theorem A2q (c : Cl) : Am (Ga c 24) = Rb c :=
 C1e (fun _ _ => True) (Vo c 24) (C7o c) (fun _ _ => trivial) (fun _ _ => trivial) fun P N _ => by
  unfold sat
  exact exists_congr fun d => and_congr_left fun _ => D8g.symm
theorem Xu (c : Cl) : (Rb c).1 = 0 := by
 rw [← A2q]
 exact A0z (Vo c 24) (by have := Xb c 24; omega)
theorem D6t {i : Nat} (h : i < 24) : Hz [(i : Int)] = Ee i := by
 unfold Ee
 rw [if_pos A3]
 simp [Hz]
def G2 (f g : List Cl) (i : Nat) : List Cl := Ij (f.take i) g
theorem A9b {f g : List Cl} {i : Nat} (h : i < f.length) : G2 f g (i + 1) = G2 f g i ++ g.map (Dr (f.getD i A6)) := by
 unfold G2 Ij
 rw [Af (d := A6) h, List.flatMap_append]
 simp
theorem B7b {f g : List Cl} : ∀ i, (G2 f g i).length ≤ i * g.length
 | 0 => by simp [G2, Ij]
 | i + 1 => by
  have := B7b (f := f) (g := g) i
  by_cases h : i < f.length
  ·rw [A9b h, List.length_append, List.length_map, Nat.add_mul, Nat.one_mul]; omega
  ·have e : G2 f g (i + 1) = G2 f g i := by unfold G2; rw [List.take_of_length_le A3, List.take_of_length_le A3]
   rw [e, Nat.add_mul]; omega
def Bw (f g : List Cl) : EL := if (A9 f && A9 g) = false then (2, []) else I5 f g
def Mb (f g : List Cl) (i k : Nat) : List Cl := G2 f g i ++ (g.take k).map (Dr (f.getD i A6))
theorem N5 (f g : List Cl) (i : Nat) : Mb f g i 0 = G2 f g i := by simp [Mb]
theorem A4k {f g : List Cl} {i k : Nat} (h : k < g.length) : Mb f g i (k + 1) = Mb f g i k ++ [Dr (f.getD i A6) (g.getD k A6)] := by
 unfold Mb
 rw [Af (d := A6) h, List.map_append, List.append_assoc]
 rfl
theorem A9d {f g : List Cl} {i : Nat} (h : i < f.length) : G2 f g (i + 1) = Mb f g i g.length := by
 rw [A9b h]; unfold Mb; rw [List.take_length]
theorem U7 {f g : List Cl} {i k : Nat} (hi : i ≤ f.length) (hf : f.length ≤ 64) (hg : g.length ≤ 64) : (Mb f g i k).length ≤ 5000 := by
 have h1 := B7b (f := f) (g := g) i
 have h2 : i * g.length ≤ 64 * 64 := Nat.mul_le_mul A3 hg
 unfold Mb
 rw [List.length_append, List.length_map, List.length_take]
 omega
theorem A4i (f g : List Cl) : G2 f g f.length = Ij f g := by unfold G2; rw [List.take_length]
theorem Y3 {f g : List Cl} {i : Nat} (hf : f.all Av = true) (hg : g.all Av = true) : (G2 f g i).all Av = true :=
 B0o (List.all_eq_true.mpr fun c hc => List.all_eq_true.mp hf c (List.mem_of_mem_take hc)) hg
def E2 (f g : List Cl) : EL := if (A9 f && A9 g) = false then (2, []) else Fk f g
theorem E2d (c : Cl) : A9 (Rb c).2 = true := Fo (Xu c)
theorem D3t {h : List Cl} {c : Cl} (hr : A9 h = true) : Bw h (Rb c).2 = Dh h c := by
 unfold Bw Dh
 rw [if_neg (by simp [hr, E2d]), Cf (Xu c)]
theorem C0z {f g : List Cl} (h : (I5 f g).1 ≠ 0) : (I5 f g).2 = [] := Qa h
def Zj (f : List Cl) (i : Nat) (h : List Cl) (e : Int) : Prop := (e = 0 ∧ Kg f = D7 Dh h (f.drop i) ∧ A9 h = true) ∨ (e ≠ 0 ∧ Kg f = (e, h))
theorem D3s (f : List Cl) : Zj f 0 [⟨0, 0⟩] 0 := .inl ⟨rfl, rfl, by decide⟩
theorem D3r {f h : List Cl} {i : Nat} (hi : i < f.length) (hv : Zj f i h 0) : Zj f (i + 1) (Bw h (Rb (f.getD i A6)).2).2 (Bw h (Rb (f.getD i A6)).2).1 := by
 rcases hv with ⟨_, h1, h2⟩ | ⟨h1, _⟩
 ·rw [D3t h2]
  rw [Hu A6 hi, D7] at h1
  by_cases h0 : (Dh h (f.getD i A6)).1 = 0
  ·rw [Cf h0] at h1
   refine .inl ⟨h0, h1, ?_⟩
   unfold Dh at h0 ⊢
   rw [Cf (Xu _)] at h0 ⊢
   exact Fo h0
  ·rw [Cg h0] at h1
   refine .inr ⟨h0, ?_⟩
   have : (Dh h (f.getD i A6)).2 = [] := by
    unfold Dh at h0 ⊢
    rw [Cf (Xu _)] at h0 ⊢
    exact C0z h0
   rw [h1, this]
 ·exact absurd rfl h1
theorem D8e {f h : List Cl} {i : Nat} {e : Int} (hv : Zj f i h e) (hi : e = 0 → f.length ≤ i) : Kg f = (e, h) := by
 rcases hv with ⟨h0, h1, _⟩ | ⟨_, h1⟩
 ·rw [h1, List.drop_eq_nil_of_le (hi h0), h0]; rfl
 ·exact h1
theorem C4i {f : List Cl} (h : A9 f = true) : Mk f = Am (Gb f) := by
 unfold Mk
 rw [if_pos h, Zb (Ht h)]
theorem D3b {f : List Cl} (h : A9 f = false) : Mk f = (2, []) := by
 unfold Mk
 rw [if_neg (by simp [h])]
theorem C0x {f : List Cl} (h : (Dl f).1 = 0) : A9 (Dl f).2 = true := by
 unfold Dl at h ⊢
 split at h
 ·rename_i h1
  rw [if_pos h1]
  exact A4d h
 ·cases h
theorem C6a {f : List Cl} (h : (Dl f).1 = 0) : Bh f = Am (Gb (Dl f).2) := by
 unfold Bh
 rw [Cf h, C4i (C0x h)]
theorem C9y {f : List Cl} (h : (Dl f).1 ≠ 0) : Bh f = ((Dl f).1, []) := Cg h
theorem D0s {c : Cl} : (Av c && !M7 c) = single c := by
 unfold single
 cases h : Av c with
 | false => rfl
 | true => rw [U5 h]
def B3 (f g : List Cl) : EL := if (A2 f && A2 g) = false then (2, []) else Am (Gb (Ij f g))
def Em (i : Int) (r : List Cl) (c : Cl) : EL := if C8 c.pos i = true then Bw [Ac c i] r else (0, [Ac c i])
def Dw (i : Int) (r : List Cl) (c : Cl) : EL := if (Em i r c).1 = 0 ∧ C8 c.neg i = true then (if (Dl r).1 = 0 then Bw (Em i r c).2 (Dl r).2 else ((Dl r).1, (Em i r c).2)) else Em i r c
def Bs (i : Int) (r h : List Cl) (c : Cl) : EL := if (Dw i r c).1 = 0 then E2 h (Dw i r c).2 else ((Dw i r c).1, h)
theorem A4j {f g : List Cl} (h : A9 f = true) (h2 : A9 g = true) : Bw f g = I5 f g := by unfold Bw; rw [if_neg (by simp [h, h2])]
theorem A4x {f g : List Cl} (h : A9 f = true) (h2 : A9 g = true) : E2 f g = Fk f g := by unfold E2; rw [if_neg (by simp [h, h2])]
theorem B1e {c : Cl} (i : Int) : A9 [Ac c i] = true := E4v (B1z c i)
theorem D1k {i : Int} {r : List Cl} {c : Cl} (hr : A9 r = true) : Em i r c = E7 i r c ∧ ((E7 i r c).1 = 0 → A9 (E7 i r c).2 = true) := by
 unfold Em E7
 split
 ·rw [A4j (B1e i) hr]
  exact ⟨rfl, fun h => Fo h⟩
 ·exact ⟨rfl, fun _ => B1e i⟩
theorem C3l {i : Int} {r h : List Cl} {c : Cl} (hr : A9 r = true) (hh : A9 h = true) : (Bs i r h c).1 = (Ca i r h c).1 ∧ ((Ca i r h c).1 = 0 → (Bs i r h c).2 = (Ca i r h c).2 ∧ A9 (Ca i r h c).2 = true) ∧ ((Ca i r h c).1 ≠ 0 → (Ca i r h c).2 = []) := by
 obtain ⟨p1, p2⟩ := D1k (i := i) (c := c) hr
 have hn : Dl r = Kg r := by unfold Dl; rw [if_pos hr]
 have q1 : ∀ (x : EL), Dw i r c = x → Bs i r h c = if x.1 = 0 then E2 h x.2 else (x.1, h) := fun x hx => by unfold Bs; rw [hx]
 by_cases a1 : (E7 i r c).1 = 0
 ·by_cases a2 : C8 c.neg i = true
  ·by_cases a3 : (Kg r).1 = 0
   ·have e2 : Dw i r c = I5 (E7 i r c).2 (Kg r).2 := by
     unfold Dw
     rw [p1, hn, if_pos ⟨a1, a2⟩, if_pos a3, A4j (p2 a1) (A4d a3)]
    have e3 : Hn i r c (E7 i r c).2 = I5 (E7 i r c).2 (Kg r).2 := by
     unfold Hn
     rw [if_pos a2, Cf a3]
    rw [q1 _ e2]
    by_cases a4 : (I5 (E7 i r c).2 (Kg r).2).1 = 0
    ·rw [if_pos a4, A4x hh (show A9 (I5 (E7 i r c).2 (Kg r).2).2 = true from Fo a4), L9 rfl a1 e3 a4]
     exact ⟨rfl, fun h0 => ⟨rfl, Fo h0⟩, fun h0 => Qa h0⟩
    ·rw [if_neg a4, Js rfl a1 e3 a4]
     exact ⟨rfl, fun h0 => absurd h0 a4, fun _ => rfl⟩
   ·have e2 : Dw i r c = ((Kg r).1, (E7 i r c).2) := by
     unfold Dw
     rw [p1, hn, if_pos ⟨a1, a2⟩, if_neg a3]
    have e3 : Hn i r c (E7 i r c).2 = ((Kg r).1, []) := by
     unfold Hn
     rw [if_pos a2, Cg a3]
    rw [q1 _ e2, if_neg a3, Js rfl a1 e3 a3]
    exact ⟨rfl, fun h0 => absurd h0 a3, fun _ => rfl⟩
  ·have e2 : Dw i r c = E7 i r c := by
    unfold Dw
    rw [p1, if_neg (fun h => a2 h.2)]
   have e3 : Hn i r c (E7 i r c).2 = (0, (E7 i r c).2) := by
    unfold Hn
    rw [if_neg a2]
   rw [q1 _ e2, if_pos a1, A4x hh (p2 a1), L9 rfl a1 e3 rfl]
   exact ⟨rfl, fun h0 => ⟨rfl, Fo h0⟩, fun h0 => Qa h0⟩
 ·have e2 : Dw i r c = E7 i r c := by
   unfold Dw
   rw [p1, if_neg (fun h => a1 h.1)]
  rw [q1 _ e2, if_neg a1, Xq rfl a1]
  exact ⟨rfl, fun h0 => absurd h0 a1, fun _ => rfl⟩
def Zc (f : List Cl) (i : Int) (r : List Cl) (k : Nat) (h : List Cl) : Prop := Bb f i r = D7 (Ca i r) h (f.drop k) ∧ A9 h = true ∧ A9 r = true
theorem Gx {f r h : List Cl} {i : Int} {k : Nat} (hk : k < f.length) (hv : Zc f i r k h) (h0 : (Bs i r h (f.getD k A6)).1 = 0) : Zc f i r (k + 1) (Bs i r h (f.getD k A6)).2 := by
 obtain ⟨v1, v2, v3⟩ := hv
 obtain ⟨e1, e2, _⟩ := C3l (i := i) (c := f.getD k A6) v3 v2
 rw [e1] at h0
 obtain ⟨e4, e5⟩ := e2 h0
 rw [Hu A6 hk, D7, Cf h0] at v1
 rw [e4]
 exact ⟨v1, e5, v3⟩
theorem Ih {f r h : List Cl} {i : Int} {k : Nat} (hk : k < f.length) (hv : Zc f i r k h) (h0 : (Bs i r h (f.getD k A6)).1 ≠ 0) : Bb f i r = ((Bs i r h (f.getD k A6)).1, []) := by
 obtain ⟨v1, v2, v3⟩ := hv
 obtain ⟨e1, _, _⟩ := C3l (i := i) (c := f.getD k A6) v3 v2
 rw [e1] at h0 ⊢
 rw [v1, Hu A6 hk, D7, Cg h0]
theorem D1j {f r h : List Cl} {i : Int} {k : Nat} (hk : f.length ≤ k) (hv : Zc f i r k h) : Bb f i r = (0, h) := by
 rw [hv.1, List.drop_eq_nil_of_le hk]; rfl
theorem C6u {f r : List Cl} {i : Int} (hf : A9 f = true) (hr : A9 r = true) (hi : F0 i = true) : Zc f i r 0 [] := by
 refine ⟨?_, by decide, hr⟩
 unfold Bb
 rw [if_neg (by simp [hf, hr]), if_neg (by simp [hi])]
 rfl
def Cz (i : Int) (r : List Cl) (c : Cl) : EL := if C8 c.neg i = true then Bh r else if C8 c.pos i = true then Mk r else (0, [A6])
def D1 (i : Int) (r : List Cl) (c : Cl) : EL := if (Cz i r c).1 = 0 then B3 [Ac c i] (Cz i r c).2 else ((Cz i r c).1, [Ac c i])
def Bc (i : Int) (r h : List Cl) (c : Cl) : EL := if (D1 i r c).1 = 0 then Bo h (D1 i r c).2 else ((D1 i r c).1, h)
theorem C6j {c : Cl} {i : Int} (h : Ew c = false) : A2 [Ac c i] = true := Oy (B1e i) fun d hd => by
 rw [List.mem_singleton] at hd
 subst hd
 exact A5r h
theorem B6v {r : List Cl} (h : (Mk r).1 = 0) : A2 (Mk r).2 = true := by
 unfold Mk at h ⊢
 split at h
 ·rename_i h1
  rw [if_pos h1]
  exact Oy (Fo h) fun c hc => by
   have := Kv h hc
   have := (List.mem_filter.mp this).2
   simpa using this
 ·cases h
theorem B6u {r : List Cl} (h : (Bh r).1 = 0) : A2 (Bh r).2 = true := by
 unfold Bh at h ⊢
 obtain ⟨a1, a2, a3⟩ := Eb h
 rw [a3]
 exact B6v a2
theorem C2e {f g : List Cl} : F6 (Ij f g) = f.flatMap fun a => F6 (g.map fun b => Dr a b) := by
 unfold F6 Ij
 rw [List.filter_flatMap]
theorem Qs {f g : List Cl} (h : A2 f = true) (h2 : A2 g = true) : B3 f g = Jz f g := by
 unfold B3 Jz
 rw [if_neg (by simp [h, h2]), Zb (B0o (Ht (Cr h).1) (Ht (Cr h2).1)), C2e]
theorem A4l {f g : List Cl} (h : (Jz f g).1 = 0) : A2 (Jz f g).2 = true := by
 unfold Jz at h ⊢
 exact Oy (Fo h) fun c hc => by
  obtain ⟨a, _, h2⟩ := List.mem_flatMap.mp (Kv h hc)
  have := (List.mem_filter.mp h2).2
  simpa using this
theorem C7y {d : Cl} (h : A2 [d] = true) : Jz [d] [A6] = (0, [d]) := by
 rw [U8]
 have e : Dr d A6 = d := by unfold Dr A6; simp
 have e2 : F6 ([A6].map fun b => Dr d b) = [d] := by
  rw [List.map_cons, List.map_nil, e]
  exact A5t fun c hc => (Cr h).2 c hc
 rw [e2]
 exact Va.mp (Cr h).1
theorem D1w {i : Int} {r : List Cl} {c : Cl} (hcl : Ew c = false) : (D1 i r c).1 = (Cp i r c).1 ∧ ((Cp i r c).1 = 0 → D1 i r c = Cp i r c ∧ A2 (Cp i r c).2 = true) := by
 have ht := C6j (i := i) hcl
 by_cases hp : C8 c.pos i = true
 ·have hn := has_both hcl hp
  have e1 : Cz i r c = Mk r := by unfold Cz; rw [if_neg (by simp [hn]), if_pos hp]
  unfold Cp D1
  rw [if_pos hp, e1]
  by_cases h0 : (Mk r).1 = 0
  ·rw [if_pos h0, Cf h0, Qs ht (B6v h0)]
   exact ⟨rfl, fun h => ⟨rfl, A4l h⟩⟩
  ·rw [if_neg h0, Cg h0]
   exact ⟨rfl, fun h => absurd h h0⟩
 ·by_cases hn : C8 c.neg i = true
  ·have e1 : Cz i r c = Bh r := by unfold Cz; rw [if_pos hn]
   unfold Cp D1
   rw [if_neg hp, if_pos hn, e1]
   by_cases h0 : (Bh r).1 = 0
   ·rw [if_pos h0, Cf h0, Qs ht (B6u h0)]
    exact ⟨rfl, fun h => ⟨rfl, A4l h⟩⟩
   ·rw [if_neg h0, Cg h0]
    exact ⟨rfl, fun h => absurd h h0⟩
  ·have e1 : Cz i r c = (0, [A6]) := by unfold Cz; rw [if_neg hn, if_neg hp]
   unfold Cp D1
   rw [if_neg hp, if_neg hn, e1, if_pos rfl, Qs ht K1, C7y ht]
   exact ⟨rfl, fun _ => ⟨rfl, ht⟩⟩
theorem C1g {f g : List Cl} (h : A2 f = true) (h2 : A2 g = true) : Bo f g = Fk f g := by unfold Bo; rw [if_neg (by simp [h, h2])]
theorem C3o {i : Int} {r h : List Cl} {c : Cl} (hcl : Ew c = false) (hh : A2 h = true) : (Bc i r h c).1 = (Cd i r h c).1 ∧ ((Cd i r h c).1 = 0 → (Bc i r h c).2 = (Cd i r h c).2 ∧ A2 (Cd i r h c).2 = true) ∧ ((Cd i r h c).1 ≠ 0 → (Cd i r h c).2 = []) := by
 obtain ⟨p1, p2⟩ := D1w (i := i) (r := r) hcl
 unfold Bc
 by_cases a1 : (Cp i r c).1 = 0
 ·obtain ⟨p3, p4⟩ := p2 a1
  rw [p3, if_pos a1, Lj rfl a1, ← C1g hh p4]
  exact ⟨rfl, fun h0 => ⟨rfl, (A9k h0).2⟩, fun h0 => C8k h0⟩
 ·rw [if_neg (by rw [p1]; exact a1), Gg rfl a1]
  exact ⟨p1, fun h0 => absurd h0 a1, fun _ => rfl⟩
def Zt (f : List Cl) (i : Int) (r : List Cl) (k : Nat) (h : List Cl) : Prop := B2 f i r = D7 (Cd i r) h (f.drop k) ∧ A2 h = true ∧ A2 f = true
theorem F7 {f r h : List Cl} {i : Int} {k : Nat} (hk : k < f.length) (hv : Zt f i r k h) (h0 : (Bc i r h (f.getD k A6)).1 = 0) : Zt f i r (k + 1) (Bc i r h (f.getD k A6)).2 := by
 obtain ⟨v1, v2, v3⟩ := hv
 obtain ⟨e1, e2, _⟩ := C3o (i := i) (r := r) ((Cr v3).2 _ (Ag (d := A6) hk)) v2
 rw [e1] at h0
 obtain ⟨e4, e5⟩ := e2 h0
 rw [Hu A6 hk, D7, Cf h0] at v1
 rw [e4]
 exact ⟨v1, e5, v3⟩
theorem Gc {f r h : List Cl} {i : Int} {k : Nat} (hk : k < f.length) (hv : Zt f i r k h) (h0 : (Bc i r h (f.getD k A6)).1 ≠ 0) : B2 f i r = ((Bc i r h (f.getD k A6)).1, []) := by
 obtain ⟨v1, v2, v3⟩ := hv
 obtain ⟨e1, _, _⟩ := C3o (i := i) (r := r) ((Cr v3).2 _ (Ag (d := A6) hk)) v2
 rw [e1] at h0 ⊢
 rw [v1, Hu A6 hk, D7, Cg h0]
theorem D1v {f r h : List Cl} {i : Int} {k : Nat} (hk : f.length ≤ k) (hv : Zt f i r k h) : B2 f i r = (0, h) := by
 rw [hv.1, List.drop_eq_nil_of_le hk]; rfl
theorem C6x {f r : List Cl} {i : Int} (hf : A2 f = true) (hr : A9 r = true) (hi : F0 i = true) : Zt f i r 0 [] := by
 refine ⟨?_, by decide, hf⟩
 unfold B2
 rw [if_neg (by simp [hf, hr, hi])]
 rfl
def Mg (i : Int) (l : List Int) (k : Nat) : List Int := (l.take k).map (Qd i) ++ l.drop k
theorem C8v (i : Int) (l : List Int) : Mg i l 0 = l := by simp [Mg]
theorem D5m (i : Int) (l : List Int) : Mg i l l.length = l.map (Qd i) := by simp [Mg]
theorem B8h (i : Int) (l : List Int) (k : Nat) : (Mg i l k).length = l.length := by simp [Mg]; omega
theorem D5l {i : Int} {l : List Int} {k : Nat} (h : k < l.length) : (Mg i l k).getD k 0 = l.getD k 0 := by
 unfold Mg
 rw [List.getD_eq_getElem?_getD, List.getElem?_append_right (by simp; omega), List.length_map, List.length_take, Nat.min_eq_left A3, Nat.sub_self, List.getElem?_drop, Nat.add_zero, List.getD_eq_getElem?_getD]
theorem C8w {i : Int} {l : List Int} {k : Nat} (h : k < l.length) : Mg i l (k + 1) = (Mg i l k).set k (Qd i (l.getD k 0)) := by
 have h1 : ((l.take k).map (Qd i)).length = k := by simp; omega
 unfold Mg
 rw [Af (d := 0) h, List.map_append, Hu (d := 0) h, List.set_append_right _ _ A3, h1, Nat.sub_self]
 simp
theorem C8x {i : Int} {l : List Int} {k : Nat} (h : k < l.length) (h2 : ¬ (0 ≤ i ∧ i < l.getD k 0)) : Mg i l (k + 1) = Mg i l k := by
 unfold Mg
 rw [Af (d := 0) h, List.map_append, Hu (d := 0) h]
 simp only [List.map_cons, List.map_nil, List.append_assoc, List.cons_append, List.nil_append]
 rw [show Qd i (l.getD k 0) = l.getD k 0 from if_neg h2]
theorem B3n {s : Nat} {i : Int} (hi : 0 ≤ i) {k : Nat} : ∀ x, x ∈ Mg i (A4 (Al s i)) k → 0 ≤ x ∧ x < 24 := fun x hx => by
 unfold Mg at hx
 rcases List.mem_append.mp hx with hx | hx
 ·obtain ⟨y, hy, rfl⟩ := List.mem_map.mp hx
  have := C8c y (List.mem_of_mem_take hy)
  unfold Qd
  split <;> omega
 ·exact C8c x (List.mem_of_mem_drop hx)
def Hw (f : List Cl) (j : Int) : List Cl := f.map fun c => ⟨Ev c.pos j, Ev c.neg j⟩
theorem C9d {f : List Cl} {j : Int} {k : Nat} (h : k < f.length) : Hw (f.take (k + 1)) j = Hw (f.take k) j ++ [⟨Ev (f.getD k A6).pos j, Ev (f.getD k A6).neg j⟩] := by
 unfold Hw
 rw [Af (d := A6) h, List.map_append]; rfl
theorem B8i (f : List Cl) (j : Int) (k : Nat) : (Hw (f.take k) j).length = min k f.length := by
 unfold Hw
 rw [List.length_map, List.length_take]
theorem D5o {f : List Cl} {j : Int} {c : Cl} (h : c ∈ Hw f j) : u32 c := A2p h
def Jq (p : Bool) (i : Int) (r : List Cl) (d : Int) (f : List Cl) : EL := if p = true then Cw B2 i r d f else Cw Bb i r d f
def A5p (i : Int) (x : EL) (d : Int) : EL := Ix x fun f => Am (Hw f (i + d))
def H7 (i : Int) (r : List Cl) (b : Bool) : Dt := if b = true then ⟨fun d f => A5p i (Cw Bb i r d f) d, fun d f => A5p i (Cw B2 i r d f) d⟩ else Es i r
def Kb (i : Int) (r : List Cl) (b : Bool) (t : T) (d : Int) : T := match C1 (Az (H7 i r b)) t d with
 | .ok u => u
 | .bad e => J3 e
theorem B2d {i : Int} {r : List Cl} {b : Bool} {t u : T} {d : Int} (h : C1 (Az (H7 i r b)) t d = .ok u) : Kb i r b t d = u := by unfold Kb; rw [h]
theorem M8 {i : Int} {r : List Cl} {b : Bool} {t : T} {d e : Int} (h : C1 (Az (H7 i r b)) t d = .bad e) : Kb i r b t d = J3 e := by unfold Kb; rw [h]
theorem C9c (f : List Cl) (j : Int) : (Hw f j).all Av = true := List.all_eq_true.mpr fun c hc => by
 obtain ⟨e, _, rfl⟩ := List.mem_map.mp hc
 exact D6.mpr ⟨Nu _ _, Nu _ _⟩
theorem Rk {f : List Cl} {j : Int} (h : f.length ≤ 64) : (Am (Hw f j)).1 = 0 := A0z (C9c f j) (by unfold Hw; rw [List.length_map]; exact h)
theorem D5n {f : List Cl} {j : Int} (h : f ≠ []) (h64 : f.length ≤ 64) : (Am (Hw f j)).2 ≠ [] := D4b (by unfold Hw; simpa using h) (Rk h64)
theorem C5h (j : Int) : Am (Hw [] j) = (0, []) := rfl
theorem D6l (i : Int) (r : List Cl) : H7 i r false = Es i r := rfl
theorem B4n {i : Int} {r : List Cl} {d : Int} {f : List Cl} : (H7 i r true).form d f = A5p i (Cw Bb i r d f) d := rfl
theorem X8 {i : Int} {r : List Cl} {d : Int} {f : List Cl} : (H7 i r true).An d f = A5p i (Cw B2 i r d f) d := rfl
theorem Rl {i d : Int} {x : EL} (h : x.1 ≠ 0) : A5p i x d = (x.1, []) := Cg h
theorem Ym {i d : Int} {x : EL} (h : x.1 = 0) (h2 : x.2.length ≤ 64) : A5p i x d = (0, (Am (Hw x.2 (i + d))).2) := by
 unfold A5p
 rw [Cf h]
 exact Prod.ext (Rk h2) rfl
structure B0t (W : Dt) : Prop where
 form : ∀ d f, 0 ≤ d → A9 f = true → (W.form d f).1 = 0 → A9 (W.form d f).2 = true
 An : ∀ d f, 0 ≤ d → A2 f = true → (W.An d f).1 = 0 → A2 (W.An d f).2 = true
 nil : ∀ d, W.form d [] = (0, [])
theorem Jl (i : Int) (r : List Cl) : B0t (Es i r) where
 form := fun d f hd hf h0 => (B5n (P := fun _ => True) (N := fun _ => True) hf (Prod.ext h0 rfl)).1
 An := fun d f hd hf h0 => (B5o hf (Prod.ext h0 rfl)).1
 nil := fun d => D1y (by unfold C8 E5; simp)
theorem A3d {W : Dt} (hW : B0t W) {k n d : Int} {nm : ByteArray} {r : List Cl} (hd : 0 ≤ d) (h : G3 k n nm r) (h0 : (W.row k d r).1 = 0) : G3 k n nm (W.row k d r).2 := by
 have h9 := h
 obtain ⟨h1, h2, h3, h4, h5, h6, h7⟩ := h
 obtain ⟨q1, q2⟩ := W7 h9
 unfold Dt.row at h0 ⊢
 by_cases e : k = 14
 ·rw [if_pos e] at h0 ⊢
  exact ⟨h1, h2, fun h => by omega, fun h => by omega, fun h => by omega, fun _ => hW.An d r hd (h6 e) h0, fun h => by omega⟩
 ·rw [if_neg e] at h0 ⊢
  refine ⟨h1, h2, fun h => ⟨?_, (h3 h).2⟩, fun h => ⟨?_, (h4 h).2⟩, fun h => hW.form d r hd q2 h0, fun h => absurd h e, fun h => ?_⟩
  ·rw [(h3 h).1, hW.nil]
  ·rw [(h4 h).1, hW.nil]
  ·rw [h7 h, hW.nil]
section
variable {W : Dt}
mutual
theorem Kw (hW : B0t W) : ∀ {t u : T} {d : Int}, 0 ≤ d → Dy t → C1 (Az W) t d = .ok u → Dy u
 | .mk k n nm r ks ss, u, d, hd, h, hu => by
  simp only [Dy] at h
  obtain ⟨h1, h2, h3, h4, h5⟩ := h
  rw [H8] at hu
  simp only [T.kind, T.n, T.name, T.r, T.kids, T.sys] at hu
  obtain ⟨o, h9, hu⟩ := Ao.Ab hu
  cases o with
  | inl v => exact absurd h9 Of
  | inr p =>
   obtain ⟨a1, a2⟩ := Xm.mp h9
   obtain ⟨ks', h10, hu⟩ := Ao.Ab hu
   obtain ⟨ss', h11, hu⟩ := Ao.Ab hu
   injection hu with hu
   subst hu
   simp only [Dy]
   have hr := A3d hW hd h1 (by rw [a1])
   rw [a1] at hr
   refine ⟨by rw [a2]; exact hr, by rw [L6 h10]; exact h2, fun h => ?_, Tn hW hd h4 h10, To hW hd h5 h11⟩
   have h12 := Im h11
   rw [h3 h] at h12
   exact List.eq_nil_of_length_eq_zero (Nat.le_zero.mp h12)
theorem Tn (hW : B0t W) {kd : Int} : ∀ {ts : List T} {i : Nat} {d : Int} {us : List T}, 0 ≤ d → Fs ts → Du (Az W) kd i ts d = .ok us → Fs us
 | [], i, d, us, hd, h, hu => by rw [Dj] at hu; injection hu with hu; subst hu; simp only [Fs]
 | t :: ts, i, d, us, hd, h, hu => by
  simp only [Fs] at h
  rw [Db] at hu
  obtain ⟨c', h1, hu⟩ := Ao.Ab hu
  obtain ⟨t', h2, hu⟩ := Ao.Ab hu
  obtain ⟨ts', h3, hu⟩ := Ao.Ab hu
  injection hu with hu
  subst hu
  injection h1 with h1
  subst h1
  have hb := (Kj kd i).2.2.1
  simp only [Fs]
  exact ⟨Kw hW A3 h.1 h2, Tn hW hd h.2 h3⟩
theorem Tm (hW : B0t W) {kd : Int} : ∀ {ts : List T} {d : Int} {us : List T}, 0 ≤ d → Fs ts → D3 (Az W) kd ts d = .ok us → Fs us
 | [], d, us, hd, h, hu => by rw [Di] at hu; injection hu with hu; subst hu; simp only [Fs]
 | t :: ts, d, us, hd, h, hu => by
  simp only [Fs] at h
  rw [Da] at hu
  obtain ⟨c', h1, hu⟩ := Ao.Ab hu
  obtain ⟨t', h2, hu⟩ := Ao.Ab hu
  obtain ⟨ts', h3, hu⟩ := Ao.Ab hu
  injection hu with hu
  subst hu
  injection h1 with h1
  subst h1
  have hb := (Q9 kd).1
  simp only [Fs]
  exact ⟨Kw hW (by dsimp only; omega) h.1 h2, Tm hW hd h.2 h3⟩
theorem To (hW : B0t W) {kd : Int} : ∀ {bs : List Br} {d : Int} {us : List Br}, 0 ≤ d → Mt kd bs → Dv (Az W) kd bs d = .ok us → Mt kd us
 | [], d, us, hd, h, hu => by rw [Dk] at hu; injection hu with hu; subst hu; simp only [Mt]
 | .mk f ks :: bs, d, us, hd, h, hu => by
  simp only [Mt] at h
  obtain ⟨h1, h2, h3, h4⟩ := h
  rw [Dc] at hu
  simp only [Br.An, Br.kids] at hu
  obtain ⟨o, h5, hu⟩ := Ao.Ab hu
  cases o with
  | none => exact To hW hd h4 hu
  | some f' =>
   obtain ⟨e1, _⟩ := Eo.mp h5
   obtain ⟨ks', h6, hu⟩ := Ao.Ab hu
   obtain ⟨bs', h7, hu⟩ := Ao.Ab hu
   injection hu with hu
   subst hu
   simp only [Mt]
   have hf := hW.An d f hd h2 (by rw [e1])
   rw [e1] at hf
   exact ⟨by rw [L5 h6]; exact h1, hf, Tm hW hd h3 h6, To hW hd h4 h7⟩
end
end
theorem C2c {c : Cl} {j : Int} (hj : 0 ≤ j) (h : Ew c = false) : Ew ⟨Ev c.pos j, Ev c.neg j⟩ = false := by
 rw [Uf] at h ⊢
 rintro k ⟨h1, h2⟩
 obtain ⟨a, _, a2, a3⟩ := (Zv hj).mp h1
 obtain ⟨b, _, b2, b3⟩ := (Zv hj).mp h2
 have e : a = b := by omega
 subst e
 exact h a ⟨a2, b2⟩
theorem Rh {i : Int} (hi : 0 ≤ i) : D6b (Kh i) where
 form := fun d f hd hf => by
  have h0 : (Nb i d f).1 = 0 := Rk (j := i + d) (F8 hf)
  exact ⟨h0, Fo h0⟩
 An := fun d f hd hf => by
  have h0 : (Nb i d f).1 = 0 := Rk (j := i + d) (F8 (Cr hf).1)
  refine ⟨h0, Oy (Fo h0) fun c hc => ?_⟩
  obtain ⟨e, he, rfl⟩ := List.mem_map.mp (Kv h0 hc)
  exact C2c A3 ((Cr hf).2 e he)
 nil := fun d => rfl
theorem D5j {i kd : Int} (hi : 0 ≤ i) {d : Int} (hd : 0 ≤ d) : ∀ {ts : List T} {j : Nat}, Fs ts → ∃ us, Du (Az (Kh i)) kd j ts d = .ok us
 | [], j, _ => ⟨[], Dj _ _ _⟩
 | t :: ts, j, hf => by
  simp only [Fs] at hf
  have hb := (Kj kd j).2.2.1
  obtain ⟨u, hu⟩ := Xa (Rh hi) t hf.1 (d := d + (binds kd j).2) A3
  obtain ⟨us, hus⟩ := D5j hi hd (ts := ts) (j := j + 1) hf.2
  exact ⟨u :: us, by rw [Db, Fi]; simp only [Ao.bind]; rw [hu]; simp only; rw [hus]⟩
theorem D5i {i kd : Int} (hi : 0 ≤ i) {d : Int} (hd : 0 ≤ d) : ∀ {ts : List T}, Fs ts → ∃ us, D3 (Az (Kh i)) kd ts d = .ok us
 | [], _ => ⟨[], Di _ _⟩
 | t :: ts, hf => by
  simp only [Fs] at hf
  have hb := (Q9 kd).1
  obtain ⟨u, hu⟩ := Xa (Rh hi) t hf.1 (d := d + more kd) A3
  obtain ⟨us, hus⟩ := D5i hi hd (ts := ts) hf.2
  exact ⟨u :: us, by rw [Da, Fi]; simp only [Ao.bind]; rw [hu]; simp only; rw [hus]⟩
section
variable {i : Int} {r : List Cl}
theorem B1b {k d : Int} {rr : List Cl} : (H7 i r true).row k d rr = A5p i ((Es i r).row k d rr) d := by
 unfold Dt.row
 split
 ·exact X8
 ·exact B4n
theorem D5h {k d : Int} {g : List Cl} : (Kh i).row k d g = Am (Hw g (i + d)) := by
 unfold Dt.row
 split <;> rfl
theorem A5b {k n : Int} {nm : ByteArray} {g : List Cl} (h : G3 k n nm g) : g.length ≤ 64 := F8 (W7 h).2
mutual
theorem D0g (hi : 0 ≤ i) : ∀ {t : T} {d : Int}, 0 ≤ d → Dy t → C1 (Az (H7 i r true)) t d = (C1 (Az (Es i r)) t d).bind fun u => C1 (Az (Kh i)) u d
 | .mk k n nm rr ks ss, d, hd, hf => by
  have hf0 := hf
  simp only [Dy] at hf
  obtain ⟨h1, h2, h3, h4, h5⟩ := hf
  rw [H8, H8 (A := Az (Es i r))]
  simp only [T.kind, T.n, T.name, T.r, T.kids, T.sys]
  by_cases h0 : ((Es i r).row k d rr).1 = 0
  ·have hk := A3d (Jl i r) hd h1 h0
   have e1 : (H7 i r true).row k d rr = (0, (Am (Hw ((Es i r).row k d rr).2 (i + d))).2) := by rw [B1b, Ym h0 (A5b hk)]
   rw [I4 (by rw [e1]), e1, I4 h0]
   simp only [Ao.bind]
   rw [D9m hi hd h4]
   cases hW : Du (Az (Es i r)) k 0 ks d with
   | bad e => rfl
   | ok k1 =>
    simp only [Ao.bind]
    have hfk := Tn (Jl i r) hd h4 hW
    obtain ⟨k2, hk2⟩ := D5j (i := i) (kd := k) (j := 0) hi hd hfk
    rw [hk2]
    simp only
    rw [D0h hi hd h5]
    cases hB : Dv (Az (Es i r)) k ss d with
    | bad e => rfl
    | ok s1 =>
     simp only [Ao.bind]
     conv => rhs; rw [H8]
     simp only [T.kind, T.n, T.name, T.r, T.kids, T.sys]
     have e2 : (Kh i).row k d ((Es i r).row k d rr).2 = (0, (Am (Hw ((Es i r).row k d rr).2 (i + d))).2) := by rw [D5h]; exact Prod.ext (Rk (A5b hk)) rfl
     rw [I4 (by rw [e2]), e2]
     simp only [Ao.bind]
     rw [hk2]
  ·have e1 : ((H7 i r true).row k d rr).1 = ((Es i r).row k d rr).1 := by rw [B1b, Rl h0]
   rw [M5 (by rw [e1]; exact h0), M5 h0, e1]
   rfl
theorem D9m (hi : 0 ≤ i) {kd : Int} : ∀ {ts : List T} {j : Nat} {d : Int}, 0 ≤ d → Fs ts → Du (Az (H7 i r true)) kd j ts d = (Du (Az (Es i r)) kd j ts d).bind fun us => Du (Az (Kh i)) kd j us d
 | [], j, d, hd, hf => by rw [Dj, Dj]; simp only [Ao.bind]; rw [Dj]
 | t :: ts, j, d, hd, hf => by
  simp only [Fs] at hf
  have hb := (Kj kd j).2.2.1
  rw [Db, Db, Fi, Fi]
  simp only [Ao.bind]
  rw [D0g hi A3 hf.1]
  cases hW : C1 (Az (Es i r)) t (d + (binds kd j).2) with
  | bad e => rfl
  | ok u =>
   simp only [Ao.bind]
   obtain ⟨u2, hu2⟩ := Xa (Rh hi) u (Kw (Jl i r) A3 hf.1 hW) (d := d + (binds kd j).2) A3
   rw [hu2]
   simp only
   rw [D9m hi hd hf.2]
   cases hL : Du (Az (Es i r)) kd (j + 1) ts d with
   | bad e => rfl
   | ok us =>
    simp only [Ao.bind]
    conv => rhs; rw [Db, Fi]
    simp only [Ao.bind]
    rw [hu2]
theorem D9l (hi : 0 ≤ i) {kd : Int} : ∀ {ts : List T} {d : Int}, 0 ≤ d → Fs ts → D3 (Az (H7 i r true)) kd ts d = (D3 (Az (Es i r)) kd ts d).bind fun us => D3 (Az (Kh i)) kd us d
 | [], d, hd, hf => by rw [Di, Di]; simp only [Ao.bind]; rw [Di]
 | t :: ts, d, hd, hf => by
  simp only [Fs] at hf
  have hb := (Q9 kd).1
  rw [Da, Da, Fi, Fi]
  simp only [Ao.bind]
  rw [D0g hi A3 hf.1]
  cases hW : C1 (Az (Es i r)) t (d + more kd) with
  | bad e => rfl
  | ok u =>
   simp only [Ao.bind]
   obtain ⟨u2, hu2⟩ := Xa (Rh hi) u (Kw (Jl i r) A3 hf.1 hW) (d := d + more kd) A3
   rw [hu2]
   simp only
   rw [D9l hi hd hf.2]
   cases hL : D3 (Az (Es i r)) kd ts d with
   | bad e => rfl
   | ok us =>
    simp only [Ao.bind]
    conv => rhs; rw [Da, Fi]
    simp only [Ao.bind]
    rw [hu2]
theorem D0h (hi : 0 ≤ i) {kd : Int} : ∀ {bs : List Br} {d : Int}, 0 ≤ d → Mt kd bs → Dv (Az (H7 i r true)) kd bs d = (Dv (Az (Es i r)) kd bs d).bind fun us => Dv (Az (Kh i)) kd us d
 | [], d, hd, hf => by rw [Dk, Dk]; simp only [Ao.bind]; rw [Dk]
 | .mk f ks :: bs, d, hd, hf => by
  simp only [Mt] at hf
  obtain ⟨h1, h2, h3, h4⟩ := hf
  rw [Dc, Dc]
  simp only [Br.An, Br.kids]
  by_cases h0 : ((Es i r).An d f).1 = 0
  ·have hfa := (Jl i r).An d f hd h2 h0
   have h64 := F8 (Cr hfa).1
   have e1 : (H7 i r true).An d f = (0, (Am (Hw ((Es i r).An d f).2 (i + d))).2) := by rw [X8]; exact Ym h0 h64
   by_cases hn : ((Es i r).An d f).2 = []
   ·have e0 : (Es i r).An d f = (0, []) := Prod.ext h0 hn
    have e2 : (H7 i r true).An d f = (0, []) := by rw [e1, hn, C5h]
    rw [Ib.mpr e2, Ib.mpr e0]
    simp only [Ao.bind]
    exact D0h hi hd h4
   ·have hne := D5n (j := i + d) hn h64
    rw [Eo.mpr ⟨e1, hne⟩, Eo.mpr ⟨Prod.ext h0 rfl, hn⟩]
    simp only [Ao.bind]
    rw [D9l hi hd h3]
    cases hS : D3 (Az (Es i r)) kd ks d with
    | bad e => rfl
    | ok k1 =>
     simp only [Ao.bind]
     obtain ⟨k2, hk2⟩ := D5i (i := i) (kd := kd) hi hd (Tm (Jl i r) hd h3 hS)
     rw [hk2]
     simp only
     rw [D0h hi hd h4]
     cases hB : Dv (Az (Es i r)) kd bs d with
     | bad e => rfl
     | ok b1 =>
      simp only [Ao.bind]
      conv => rhs; rw [Dc]
      simp only [Br.An, Br.kids]
      rw [Eo.mpr ⟨show (Kh i).An d _ = (0, (Am (Hw ((Es i r).An d f).2 (i + d))).2) from Prod.ext (Rk h64) rfl, hne⟩]
      simp only [Ao.bind]
      rw [hk2]
  ·have e1 : ((H7 i r true).An d f).1 = ((Es i r).An d f).1 := by rw [X8, show A5p i (Cw B2 i r d f) d = (((Es i r).An d f).1, []) from Rl h0]
   rw [K9 (by rw [e1]; exact h0), K9 h0, e1]
   rfl
end
end
def pE (x : EL) : Prop := 0 ≤ x.1 ∧ x.1 ≤ 10
theorem B6m (l : List Cl) : pE ((0, l) : EL) := ⟨Int.le_refl 0, by show (0 : Int) ≤ 10; omega⟩
theorem A3t (l : List Cl) : pE ((2, l) : EL) := ⟨by show (0 : Int) ≤ 2; omega, by show (2 : Int) ≤ 10; omega⟩
theorem Jj (l : List Cl) : pE (Am l) := by rcases Ha l with h | h | h <;> exact ⟨by omega, by omega⟩
theorem Kl {x : EL} {k : List Cl → EL} (hx : pE x) (hk : ∀ g, pE (k g)) : pE (Ix x k) := by
 unfold Ix
 split
 ·exact ⟨hx.1, hx.2⟩
 ·exact hk _
theorem A1w {g : List Cl → Cl → EL} (hg : ∀ h c, pE (g h c)) : ∀ {l h : List Cl}, pE (D7 g h l)
 | [], h => B6m h
 | c :: cs, h => by rw [D7]; exact Kl (hg h c) fun h' => A1w hg
theorem D7q (f : List Cl) (a b : Int) : pE (Aa f a b) := ⟨Ri, Ub⟩
theorem C4c (f : List Cl) : pE (Kg f) := A1w fun h c => Kl (Jj _) fun o => Jj _
theorem D2t (f : List Cl) : pE (Mk f) := by
 unfold Mk
 split
 ·exact Jj _
 ·exact A3t _
theorem C7m (f : List Cl) : pE (Bh f) := Kl (by
 unfold Dl
 split
 ·exact C4c _
 ·exact A3t _) D2t
theorem W4 (f : List Cl) (i : Int) (r : List Cl) : pE (Bb f i r) := by
 unfold Bb
 split
 ·exact A3t _
 ·split
  ·exact A3t _
  ·refine A1w fun h c => Kl ?_ fun g => Kl ?_ fun g => Jj _
   ·unfold E7
    split
    ·exact Jj _
    ·exact B6m _
   ·unfold Hn
    split
    ·exact Kl (C4c _) fun s => Jj _
    ·exact B6m _
theorem W5 (f : List Cl) (i : Int) (r : List Cl) : pE (B2 f i r) := by
 unfold B2
 split
 ·exact A3t _
 ·refine A1w fun h c => Kl ?_ fun g => Jj _
  unfold Cp
  split
  ·exact Kl (D2t _) fun x => Jj _
  ·split
   ·exact Kl (C7m _) fun x => Jj _
   ·exact B6m _
theorem Zf {P : List Cl → Int → List Cl → EL} (hP : ∀ f i r, pE (P f i r)) {i d : Int} {r f : List Cl} : pE (Cw P i r d f) := by
 unfold Cw
 split
 ·exact B6m _
 ·exact Kl (D7q _ _ _) fun s => hP _ _ _
def D9c (W : Dt) : Prop := ∀ d f, pE (W.form d f) ∧ pE (W.An d f)
theorem B2e (i : Int) (r : List Cl) : D9c (Es i r) := fun d f => ⟨Zf W4, Zf W5⟩
theorem C3t (i : Int) (r : List Cl) (b : Bool) : D9c (H7 i r b) := by
 cases b
 ·exact B2e i r
 ·exact fun d f => ⟨by rw [B4n]; exact Kl (Zf W4) fun f => Jj _, by rw [X8]; exact Kl (Zf W5) fun f => Jj _⟩
theorem D2b {W : Dt} (h : D9c W) (k d : Int) (f : List Cl) : pE (W.row k d f) := by
 unfold Dt.row
 split
 ·exact (h d f).2
 ·exact (h d f).1
theorem A1v {W : Dt} (hW : D9c W) : ∀ (t : T) {d e : Int}, C1 (Az W) t d = .bad e → 0 < e ∧ e ≤ 10 := T.ind fun t ih d e h => by
 rcases Xc h with h1 | ⟨b, _, h1⟩ | ⟨p, hp, h1 | ⟨c', _, h2⟩⟩
 ·have := R8.mp h1
  have h2 := D2b hW t.kind d t.r
  unfold pE at h2
  omega
 ·have := Q6.mp h1
  have h2 := (hW d b.An).2
  unfold pE at h2
  omega
 ·cases h1
 ·exact ih p hp h2
theorem A8h {W : Dt} {t u : T} {d : Int} (h : C1 (Az W) t d = .ok u) : u.kind = t.kind := by
 rcases B4t h with h1 | ⟨p, _, h1, _⟩
 ·exact absurd h1 Of
 ·exact h1.1
theorem Ka {i : Int} {r : List Cl} {b : Bool} {t : T} {d : Int} (hf : Dy t) : (C1 (Az (H7 i r b)) t d = .ok (Kb i r b t d) ∧ 0 ≤ (Kb i r b t d).kind) ∨ ∃ e, 0 < e ∧ e ≤ 10 ∧ C1 (Az (H7 i r b)) t d = .bad e ∧ Kb i r b t d = J3 e := by
 cases h : C1 (Az (H7 i r b)) t d with
 | ok u =>
  rw [B2d h]
  exact .inl ⟨rfl, by rw [A8h h]; exact Li hf⟩
 | bad e => exact .inr ⟨e, (A1v (C3t i r b) t h).1, (A1v (C3t i r b) t h).2, rfl, M8 h⟩
theorem A3g (i : Int) (r : List Cl) (k d : Int) (f : List Cl) : Jq (decide (k = 14)) i r d f = (Es i r).row k d f := by
 unfold Jq Dt.row Es
 by_cases h : k = 14
 ·simp [h]
 ·simp [h]
theorem X9 {i : Int} {r : List Cl} {k d : Int} {f : List Cl} : (H7 i r false).row k d f = Jq (decide (k = 14)) i r d f := (A3g i r k d f).symm
theorem Ty {i : Int} {r : List Cl} {d : Int} {f : List Cl} : (H7 i r false).An d f = Jq true i r d f := rfl
theorem A2i {i : Int} {r : List Cl} {k d : Int} {f : List Cl} : (H7 i r true).row k d f = A5p i (Jq (decide (k = 14)) i r d f) d := by rw [B1b, A3g]
theorem Tx {i : Int} {r : List Cl} {d : Int} {f : List Cl} : (H7 i r true).An d f = A5p i (Jq true i r d f) d := rfl
theorem D1m {i d : Int} {r f : List Cl} {k n : Int} {nm : ByteArray} (hd : 0 ≤ d) (h : G3 k n nm f) (h0 : (Jq (decide (k = 14)) i r d f).1 = 0) : (Jq (decide (k = 14)) i r d f).2.length ≤ 64 := by
 rw [A3g] at h0 ⊢
 exact A5b (A3d (Jl i r) hd h h0)
theorem B9y {i d : Int} {r f : List Cl} (hd : 0 ≤ d) (h : A2 f = true) (h0 : (Jq true i r d f).1 = 0) : A2 (Jq true i r d f).2 = true := (Jl i r).An d f hd h h0
theorem A1u {p : Bool} {i d : Int} {r f : List Cl} : pE (Jq p i r d f) := by
 unfold Jq
 split
 ·exact Zf W5
 ·exact Zf W4
section
variable {i d k n : Int} {nm : ByteArray} {r f : List Cl} {x : EL}
theorem B6o {b : Bool} (h : x = Jq (decide (k = 14)) i r d f) (h0 : x.1 ≠ 0) : (Az (H7 i r b)).own d k n nm f = .bad x.1 := by
 subst h
 cases b
 ·rw [M5 (by rw [X9]; exact h0), X9]
 ·rw [M5 (by rw [A2i, Rl h0]; exact h0), A2i, Rl h0]
theorem D7s (h : x = Jq (decide (k = 14)) i r d f) (h0 : x.1 = 0) : (Az (H7 i r false)).own d k n nm f = .ok (.inr (n, x.2)) := by
 subst h
 rw [I4 (by rw [X9]; exact h0), X9]
theorem D7r (hh : G3 k n nm f) (hd : 0 ≤ d) (h : x = Jq (decide (k = 14)) i r d f) (h0 : x.1 = 0) : (Az (H7 i r true)).own d k n nm f = .ok (.inr (n, (Am (Hw x.2 (i + d))).2)) := by
 subst h
 have e : (H7 i r true).row k d f = (0, (Am (Hw (Jq (decide (k = 14)) i r d f).2 (i + d))).2) := by rw [A2i, Ym h0 (D1m hd hh h0)]
 rw [I4 (by rw [e]), e]
theorem A9u {b : Bool} (h : x = Jq true i r d f) (h0 : x.1 ≠ 0) : (Az (H7 i r b)).An d f = .bad x.1 := by
 subst h
 cases b
 ·rw [K9 (by rw [Ty]; exact h0), Ty]
 ·rw [K9 (by rw [Tx, Rl h0]; exact h0), Tx, Rl h0]
theorem A5j {b : Bool} (h : x = Jq true i r d f) (h0 : x.1 = 0) (hn : x.2.length = 0) : (Az (H7 i r b)).An d f = .ok none := by
 subst h
 have e : Jq true i r d f = (0, []) := Prod.ext h0 (List.eq_nil_of_length_eq_zero hn)
 cases b
 ·exact Ib.mpr (by rw [Ty, e])
 ·exact Ib.mpr (by rw [Tx, e]; exact (Ym rfl (Nat.zero_le _)).trans (by rw [C5h]))
theorem D5d (h : x = Jq true i r d f) (h0 : x.1 = 0) (hn : ¬ x.2.length = 0) : (Az (H7 i r false)).An d f = .ok (some x.2) := by
 subst h
 exact Eo.mpr ⟨by rw [Ty]; exact Prod.ext h0 rfl, fun e => hn (by rw [e]; rfl)⟩
theorem D5c (hf : A2 f = true) (hd : 0 ≤ d) (h : x = Jq true i r d f) (h0 : x.1 = 0) (hn : ¬ x.2.length = 0) : (Az (H7 i r true)).An d f = .ok (some (Am (Hw x.2 (i + d))).2) := by
 subst h
 have h64 := F8 (Cr (B9y hd hf h0)).1
 exact Eo.mpr ⟨by rw [Tx, Ym h0 h64], D5n (fun e => hn (by rw [e]; rfl)) h64⟩
end
def Yg (x : Int × T) : T := if x.1 = 0 then x.2 else J3 x.1
theorem A8m (i : Int) (r : List Cl) (b : Bool) (t : T) (d : Int) : Kb i r b t d = Yg (I7 (C1 (Az (H7 i r b)) t d)) := by
 unfold Kb Yg
 cases h : C1 (Az (H7 i r b)) t d with
 | ok u => simp [I7]
 | bad e =>
  have := T6 t h
  simp [I7, this]
theorem D2a (i : Int) (r : List Cl) (t : T) (d : Int) : Kb i r false t d = Yg (Co (Es i r) t d) := A8m i r false t d
def swapT (i : Int) (r : List Cl) (t : T) : T := if t.kind < 0 then t else Kb i r false t 0
def Kq (r : List Cl) (l : List Int) (t : T) : T := l.foldl (fun u i => swapT i r u) t
theorem B5d {r : List Cl} {l : List Int} {t : T} {k : Nat} (h : k < l.length) : Kq r (l.take (k + 1)) t = swapT (l.getD k 0) r (Kq r (l.take k) t) := by
 unfold Kq
 rw [Af (d := 0) h, List.foldl_append]
 rfl
theorem A0i {r : List Cl} {l : List Int} {t u y : T} {k : Nat} (h : k < l.length) (hu : u = Kq r (l.take k) t) (hy : y = swapT (l.getD k 0) r u) : y = Kq r (l.take (k + 1)) t := by
 rw [hy, hu, B5d h]
def Nq (n : Nat) (t : T) : Prop := (-1000000 ≤ t.kind ∧ t.kind < 0) ∨ (Dy t ∧ size t ≤ n)
theorem C1k {n : Nat} {i : Int} {r : List Cl} {t : T} (h : Nq n t) : Nq n (swapT i r t) := by
 rcases h with h | ⟨h, h2⟩
 ·unfold swapT
  rw [if_pos h.2]
  exact .inl h
 ·unfold swapT
  have hk := Li h
  rw [if_neg A3]
  rcases Ka (i := i) (r := r) (b := false) (d := 0) h with ⟨h3, h4⟩ | ⟨e, h3, h4, h5, h6⟩
  ·rw [D6l] at h3
   exact .inr ⟨Kw (Jl i r) A3 h h3, Nat.le_trans (U0 h3) h2⟩
  ·rw [h6]
   exact .inl ⟨by show -1000000 ≤ -e; omega, Iq h3⟩
theorem Le {n : Nat} {r : List Cl} : ∀ {l : List Int} {t : T}, Nq n t → Nq n (Kq r l t)
 | [], t, h => h
 | i :: l, t, h => Le (l := l) (C1k (i := i) h)
theorem A9m {n : Nat} {t : T} (h : Nq n t) : -1000000 ≤ t.kind := by
 rcases h with h | ⟨h, _⟩
 ·exact h.1
 ·have := Li h
  omega
def T3 (c : Cl) (t : T) : T := Kq [] (A4 c.neg) (Kq [A6] (A4 c.pos) t)
theorem B7t {n : Nat} {c : Cl} {t : T} (h : Nq n t) : Nq n (T3 c t) := Le (Le h)
def Qm (t : T) (c : Cl) : Int := if B5 t ≠ 0 then B5 t else if single c = false then 2 else 0
theorem B9g {t : T} {c : Cl} (h : Qm t c ≠ 0) : B0 t c = (Qm t c, t0) := by
 unfold Qm at h ⊢
 unfold B0
 by_cases h1 : B5 t ≠ 0
 ·rw [if_pos h1, if_pos h1]
 ·rw [if_neg h1] at h ⊢
  rw [if_neg h1]
  by_cases h2 : single c = false
  ·rw [if_pos h2, if_pos h2]
  ·rw [if_neg h2] at h
   exact absurd rfl h
theorem C6g {t : T} {c : Cl} (h : Qm t c = 0) : B5 t = 0 ∧ single c = true := by
 unfold Qm at h
 split at h
 ·rename_i h1; exact absurd h h1
 ·rename_i h1
  split at h
  ·cases h
  ·rename_i h2
   exact ⟨Decidable.not_not.mp h1, by simpa using h2⟩
theorem Z4 {r : List Cl} {e : Int} (he : 0 < e) : ∀ {l : List Int}, Kq r l (J3 e) = J3 e
 | [] => rfl
 | i :: l => by
  show Kq r l (swapT i r (J3 e)) = _
  rw [show swapT i r (J3 e) = J3 e from if_pos (Iq he)]
  exact Z4 he
theorem D0o {i : Int} {r : List Cl} {t : T} (h : Dy t) : swapT i r t = Yg (Co (Es i r) t 0) := by
 have hk := Li h
 unfold swapT
 rw [if_neg A3, D2a]
theorem A7k {W : Dt} {t : T} {d : Int} : (∃ u, C1 (Az W) t d = .ok u ∧ Co W t d = (0, u)) ∨ ∃ e, C1 (Az W) t d = .bad e ∧ Co W t d = (e, t0) := by
 unfold Co
 cases h : C1 (Az W) t d with
 | ok u => exact .inl ⟨u, rfl, rfl⟩
 | bad e => exact .inr ⟨e, rfl, rfl⟩
theorem A2b (u : T) : Yg (0, u) = u := if_pos rfl
theorem A5l {e : Int} {u : T} (h : 0 < e) : Yg (e, u) = J3 e := if_neg (by show ¬ e = 0; omega)
theorem C0g (r : List Cl) (i : Int) (l : List Int) (t : T) : Fq r (i :: l) t = Sl (Co (Es i r) t 0) (Fq r l) := rfl
theorem Z3 {r : List Cl} : ∀ {l : List Int} {t : T}, Dy t → Kq r l t = Yg (Fq r l t) ∧ ((Fq r l t).1 = 0 → Dy (Fq r l t).2) ∧ 0 ≤ (Fq r l t).1
 | [], t, h => ⟨(A2b t).symm, fun _ => h, Int.le_refl 0⟩
 | i :: l, t, h => by
  have h1 : Kq r (i :: l) t = Kq r l (swapT i r t) := rfl
  rw [h1, D0o h, C0g]
  rcases A7k (W := Es i r) (t := t) (d := 0) with ⟨u, h2, h3⟩ | ⟨e, h2, h3⟩
  ·rw [h3, A2b, Jc rfl]
   exact Z3 (Kw (Jl i r) (Int.le_refl 0) h h2)
  ·have h4 := (A1v (B2e i r) t h2).1
   rw [h3, A5l h4, Io (by show e ≠ 0; omega), Z4 h4]
   exact ⟨(A5l h4).symm, fun h5 => by omega, by show 0 ≤ e; omega⟩
theorem Yj {x : Int × T} (h0 : 0 ≤ x.1) (h : x.1 = 0 → Dy x.2) (h2 : x.1 ≠ 0 → x.2 = t0) : Hk (Yg x) = x := by
 obtain ⟨e, u⟩ := x
 simp only at h0 h h2
 by_cases he : e = 0
 ·subst he
  rw [A2b]
  have := Li (h rfl)
  unfold Hk
  rw [if_neg A3]
 ·rw [A5l A3, h2 he]
  unfold Hk
  rw [if_pos (Iq A3)]
  exact Prod.ext (by show - -e = e; omega) rfl
theorem C6b {c : Cl} {t : T} (h : B5 t = 0) (hc : single c = true) : Hk (T3 c t) = B0 t c := by
 have hf := (Lg.mp h).2
 unfold B0 T3
 rw [if_neg (by simp [h]), if_neg (by simp [hc])]
 obtain ⟨a1, a2, a3⟩ := Z3 (r := [A6]) (l := A4 c.pos) hf
 rw [a1]
 by_cases h0 : (Fq [A6] (A4 c.pos) t).1 = 0
 ·rw [Jc h0, show Yg (Fq [A6] (A4 c.pos) t) = (Fq [A6] (A4 c.pos) t).2 from if_pos h0]
  obtain ⟨b1, b2, b3⟩ := Z3 (r := []) (l := A4 c.neg) (a2 h0)
  rw [b1]
  exact Yj b3 b2 (fun h9 => Yc h9)
 ·rw [Io h0, show Yg (Fq [A6] (A4 c.pos) t) = J3 (Fq [A6] (A4 c.pos) t).1 from if_neg h0, Z4 A3]
  have h9 := Yc (g := fun i u => Co (Es i [A6]) u 0) (l := A4 c.pos) (t := t) h0
  exact (Yj (x := ((Fq [A6] (A4 c.pos) t).1, t0)) a3 (fun h8 => absurd h8 h0) (fun _ => rfl)).symm ▸ (by rw [show Yg ((Fq [A6] (A4 c.pos) t).1, t0) = J3 (Fq [A6] (A4 c.pos) t).1 from if_neg h0])
def Mh (i : Int) (r : List Cl) (t : T) : T := if t.kind < 0 then t else if (Aa r i 1).1 ≠ 0 then J3 (Aa r i 1).1 else Kb i (Aa r i 1).2 true t 0
theorem B7u {n : Nat} {i : Int} {r : List Cl} {t : T} (hi : 0 ≤ i) (h : Nq n t) : -1000000 ≤ (Mh i r t).kind := by
 unfold Mh
 split
 ·exact A9m h
 ·rename_i h1
  have hf : Dy t := by rcases h with h | h; omega; exact h.1
  split
  ·have := Ub (l := r) (f := i) (b := 1)
   show -1000000 ≤ - _
   omega
  ·rcases Ka (i := i) (r := (Aa r i 1).2) (b := true) (d := 0) hf with ⟨_, h4⟩ | ⟨e, h3, h4, h5, h6⟩
   ·omega
   ·rw [h6]
    show -1000000 ≤ -e
    omega
theorem D0j {i : Int} {r : List Cl} {t : T} (h : D8 t i r = 0) : Hk (Mh i r t) = B7 t i r := by
 have hw := Vj h
 have hf := (Lg.mp hw.1).2
 have hk := Li hf
 have q1 : B7 t i r = if (Aa r i 1).1 ≠ 0 then ((Aa r i 1).1, t0) else Sl (Co (Es i (Aa r i 1).2) t 0) fun x => Co (Kh i) x 0 := by
  unfold B7
  rw [if_neg (by simp [h])]
 have q2 : Mh i r t = if (Aa r i 1).1 ≠ 0 then J3 (Aa r i 1).1 else Kb i (Aa r i 1).2 true t 0 := by
  unfold Mh
  rw [if_neg A3]
 rw [q1, q2]
 by_cases h0 : (Aa r i 1).1 = 0
 ·rw [if_neg (by simp [h0]), if_neg (by simp [h0])]
  have h1 := D0g (i := i) (r := (Aa r i 1).2) hw.2.1.1 (Int.le_refl 0) hf
  rw [A8m, h1]
  rcases A7k (W := Es i (Aa r i 1).2) (t := t) (d := 0) with ⟨u, h2, h3⟩ | ⟨e, h2, h3⟩
  ·have hfu := Kw (Jl i _) (Int.le_refl 0) hf h2
   rw [h2, h3, Jc rfl]
   simp only [Ao.bind]
   obtain ⟨v, hv⟩ := Xa (Rh hw.2.1.1) u hfu (d := 0) (Int.le_refl 0)
   show Hk (Yg (I7 _)) = I7 _
   rw [hv]
   show Hk (Yg (0, v)) = (0, v)
   rw [A2b]
   have h8 : v.kind = u.kind := A8h hv
   have := Li hfu
   unfold Hk
   rw [if_neg A3]
  ·have h4 := (A1v (B2e i _) t h2).1
   rw [h2, h3, Io (by show e ≠ 0; omega)]
   exact Yj (x := (e, t0)) (by show 0 ≤ e; omega) (fun h9 => by have h9 : e = 0 := h9; omega) (fun _ => rfl)
 ·rw [if_pos h0, if_pos h0]
  have := Ri (l := r) (f := i) (b := 1)
  exact (Yj (x := ((Aa r i 1).1, t0)) this (fun h9 => absurd h9 h0) (fun _ => rfl)).symm ▸ (by rw [show Yg ((Aa r i 1).1, t0) = J3 (Aa r i 1).1 from if_neg h0])
end Go.Hy
namespace Go.Hy
open Go.RowKit Go.Shelf
theorem C6y {F : Fence} {n : Nat} {P : Program} {α : Type} {g : Operand} {ps : Array Tmp} {assign body : Code} {Q : Exit → Act → World → Prop} {a : Act} {w : World}
  (hro : F.round = none) (h1 : 1 ≤ n) {gf : Nat} {lb : Array Value} (hg : a.eval g = .func (.func gf) #[] lb) (hFg : F.fn gf) (eg : ∀ args w, (callFunc gf args).run P w = .ok (.enter gf args) w)
  {encs : α → Array Value} (hps : ∀ x, (encs x).size = ps.size) (I : List α → World → Prop) (Px : List α → α → Prop) (Kp : World → World → Prop)
  (hIp : ∀ (pre : List α) (A : World) (l : Nat) (o o0 : Obj), I pre A → A.heap[l]? = some o0 → o0.isCells = false → w.heap.size ≤ l → I pre (A.putObj l o)) (hIa : ∀ (pre : List α) (A : World) (o : Obj), I pre A → w.heap.size ≤ A.heap.size → I pre (A.alloc o)) (h0 : I [] w)
  (hKt : ∀ {A B C : World}, Kp A B → Kp B C → Kp A C) (hKp : ∀ (A : World) (l : Nat) (o o0 : Obj), A.heap[l]? = some o0 → o0.isCells = false → w.heap.size ≤ l → Kp A (A.putObj l o))
  (xs : List α)
  (hit : ∀ (l : Nat) (J : List α → World → Prop) (W1 : World), (∀ pre W, J pre W → I pre W) →
   (∀ pre A B, J pre A → I pre B → (∀ (k : Nat) (o : Obj), A.heap[k]? = some o → o.isCells = false → B.heap[k]? = some o) → J pre B) →
   (∀ pre x W, J pre W → Px pre x → YieldAt F (n - 1 - 1) P l (encs x) W fun e W' => e = .returned (.bool true) ∧ J (pre ++ [x]) W' ∧ Kp W W') → J [] W1 → (∀ (k : Nat), k < w.heap.size → W1.heap[k]? = w.heap[k]?) →
   CallsIn F (n - 1) P gf (#[.func (.yield l) #[] #[]] ++ lb) W1 fun e W' => (∃ v, e = .returned v) ∧ J xs W')
  (a₁ : α → Act)
  (hassign : ∀ (l : Nat) (x : α) (W : World) (K : Act → World → Prop), K (a₁ x) W →
   assign.wpIn (F.inRound l) (n - 1 - 1) P (Exit.then K (fun _ _ _ => False)) { tmps := (ps.zip (encs x)).foldl (fun t (p, v) => t.setIfInBounds p v) a.tmps, defers := [] } W)
  (hbody : ∀ (l : Nat) (pre : List α) (x : α) (W : World), I pre W → Px pre x →
   body.wpIn (F.inRound l) (n - 1 - 1) P (fun e _ W' => e = .normal ∧ KeepsOthers W W' ∧ Kp W W' ∧ I (pre ++ [x]) W') (a₁ x) W)
  (hdone : ∀ (D : Nat) (W : World), w.heap.size ≤ D → I xs W → W.heap[D]? = some (.deferred (some [])) → Q .normal { a with defers := { target := .collected D, args := #[] } :: a.defers } W) :
  (Code.rangeFunc g ps assign body).wpIn F n P Q a w := by
 refine wpIn_rangeFunc ?_
 intro fn hfn
 rw [hro]
 obtain ⟨rec, hrec⟩ : ∃ rec : LoopState → Option Code → Loop, rec = fun st pe => { state := st, pending := pe, fn, tmps := a.tmps, params := ps, assign, body, defers := w.heap.size } := ⟨_, rfl⟩
 obtain ⟨W1, hW1⟩ : ∃ W1, (w.alloc (.deferred (some []))).alloc (.loop (rec .ready none)) = W1 := ⟨_, rfl⟩
 have hL1 : W1.heap[w.heap.size + 1]? = some (.loop (rec .ready none)) := by
  rw [← hW1]; have := World.alloc_heap_new (w.alloc (.deferred (some []))) (.loop (rec .ready none)); rwa [World.size_alloc] at this
 have hK1 : W1.heap[w.heap.size]? = some (.deferred (some [])) := by
  rw [← hW1]; exact (Below.heap_alloc _ _ _ Ec).trans (World.alloc_heap_new w _)
 have hI1 : I [] W1 := by rw [← hW1]; exact hIa _ _ _ (hIa _ _ _ h0 (Nat.le_refl _)) Ec
 refine ⟨w.heap.size + 1, [{ target := .collected w.heap.size, args := #[] }], W1, { target := .fn (.func gf) lb, args := #[.func (.yield (w.heap.size + 1)) #[] #[]] }, W1, gf,
  #[.func (.yield (w.heap.size + 1)) #[] #[]] ++ lb, W1, ?_, ?_, ?_, ?_, fun _ => h1, ?_⟩
 ·rw [← hW1, hrec]; exact run_enterLoop_outer _ _ _ _ _
 ·simp only [resolve, hg]
  simp [go_sem]
 ·intro f' hf'; simp [Target.leads] at hf'; subst hf'; exact hFg
 ·simp [invoke, go_sem, eg]
 ·refine (hit (w.heap.size + 1) (fun pre W => I pre W ∧ W.heap[w.heap.size + 1]? = some (.loop (rec .ready none)) ∧ W.heap[w.heap.size]? = some (.deferred (some []))) W1
   (fun pre W h => h.1) (fun pre A B hA hB hk => ⟨hB, hk _ _ hA.2.1 rfl, hk _ _ hA.2.2 rfl⟩) ?_ ⟨hI1, hL1, hK1⟩ (fun k hk => by rw [← hW1]; exact (Below.heap_alloc _ _ _ (by simp; omega)).trans (Below.heap_alloc _ _ _ hk))).mono ?_
  ·rintro pre x W ⟨hi, hl, hk⟩ hpx
   have hlt : w.heap.size + 1 < W.heap.size := (Array.getElem?_eq_some_iff.1 hl).1
   have hy := run_yield (P := P) (args := encs x) hl (by rw [hrec]; exact hps x)
   rw [hrec] at hy
   refine ⟨fn, _, assign, body, hy, roundIn_of_wpIn hfn (hassign _ x W _ ⟨_, run_beginRound hl (by rw [hrec]), ?_⟩)⟩
   have hl2 : (W.putObj (w.heap.size + 1) (.loop { rec .ready none with state := .busy })).heap[w.heap.size + 1]? = some (.loop { rec .ready none with state := .busy }) := World.putObj_heap_same hlt
   have hk2 : (W.putObj (w.heap.size + 1) (.loop { rec .ready none with state := .busy })).heap[w.heap.size]? = some (.deferred (some [])) := (World.putObj_heap_other A3).trans hk
   refine wpIn_mono (hbody _ pre x _ (hIp _ _ _ _ _ hi hl rfl A3) hpx) ?_
   rintro e a3 W3 ⟨rfl, hk3, hkp3, hi3⟩
   have hl3 := hk3.same _ _ hl2 rfl
   have hend := run_endRound (P := P) none hl3
   rw [hrec] at hl3 hend
   refine ⟨_, _, hend, rfl, ⟨hIp _ _ _ _ _ hi3 hl3 rfl A3, ?_, ?_⟩, hKt (hKt (hKp _ _ _ _ hl rfl A3) hkp3) (hKp _ _ _ _ hl3 rfl A3)⟩
   ·rw [hrec]; exact World.putObj_heap_same (Array.getElem?_eq_some_iff.1 hl3).1
   ·exact (World.putObj_heap_other A3).trans (hk3.same _ _ hk2 rfl)
  ·rintro e W2 ⟨⟨v, rfl⟩, hi, hl, hk⟩
   exact ⟨none, _, by have := run_endLoop (P := P) hl (by rw [hrec]; simp); rw [hrec] at this; exact this, hdone _ _ (Nat.le_refl _) (hIp _ _ _ _ _ hi hl rfl A3) ((World.putObj_heap_other A3).trans hk)⟩
end Go.Hy
namespace Go.Hy
open Go.Proofs Go.Proofs.Tryz
set_option maxRecDepth 100000
theorem B9w (n : Int) (h0 : 0 ≤ n) (hn : n ≤ 40) : Spec prog 187 #[iv (n)] [] [] (fun _ : Unit => iv (((2 ^ n.toNat : Nat) : Int))) (fun _ => []) (fun _ => []) := by
 refine Cy ntmps187 fun B hB => ?_
 refine C9 ?_; refine Kz ?_; refine Ap (X := Nat) (fun s_ => (s_ : Int) ≤ n) (fun s_ => [(0, iv (n)), (3, iv (((2 ^ s_ : Nat) : Int))), (4, iv ((s_ : Int)))]) (fun s_ G_ => G_) (fun s_ => []) (fun s_ => n.toNat - s_) (0) (by simpa using h0) (by exact C7) ?_ ?_
 ·exact fun w hs => hs
 ·intro i base0 hi0 next0; have hpw : 2 ^ i ≤ 2 ^ 40 := Nat.pow_le_pow_right A3 A3; have hpz : (0 : Int) ≤ ((2 ^ i : Nat) : Int) := Int.natCast_nonneg _; refine B4l ?_; refine O9 ?_; refine B8 (decide ((i : Int) < n)) (fun h7 c7 => ?_) (fun h7 c7 => ?_)
  ·refine J4 ?_; refine De ?_; refine q0 rfl (E6r ?_); refine P5 ?_; refine A1 (fun w hs => ?_) (next0 (i + 1) _ A3 A3 ⟨rfl, (by (conv => lhs; whnf); rw [Nat.pow_succ]; push_cast; rfl), rfl, trivial⟩); exact (hs.l9)
  ·have he : n.toNat = i := by omega
   refine Wx ?_; refine Ax f_ rfl A7 () (by rw [he]) (fun w hs => hs.none)
theorem Um (s : Nat) (i : Int) (hs : s < 4294967296) : Spec prog 116 #[.int .u32 ((s : Nat) : Int), iv (i)] [] [] (fun _ : Unit => .bool ((C8 s i))) (fun _ => []) (fun _ => []) := by
 refine Cy ntmps116 fun B hB => ?_
 refine C9 ?_; refine L3 ?_; refine Aw ([(4, .bool (((decide (0 ≤ i)) && (decide (i < 24))) && (decide (((s / 2 ^ i.toNat % 2 : Nat) : Int) = 1))))]) (fun hK => ?_) (fun base => ?_)
 ·refine De ?_; refine A6j ?_; refine Ek ?_; refine Jr rfl (decide (0 ≤ i)) (fun hg7 g7 => ?_) (fun hg7 g7 => ?_)
  ·refine Sz ?_; refine Ig ?_; refine Jr rfl (decide (i < 24)) (fun hg11 g11 => ?_) (fun hg11 g11 => ?_)
   ·refine Jo ?_; refine qT rfl rfl rfl (B6w ?_); refine D9 ?_; refine qT rfl rfl rfl (A0 call187 (B9w i Dg Dg) (fun x15 => ?_)); refine qT rfl rfl rfl (E2l ?_ (a := s) (b := 2 ^ i.toNat)); refine qT rfl rfl rfl (E2k ?_ (a := s / 2 ^ i.toNat) (b := 2)); refine qT rfl rfl rfl (Xz ?_ (a := ((s / 2 ^ i.toNat % 2 : Nat) : Int)) (b := 1)); refine Gn ?_; exact hK _ ⟨(by first | rfl | ((conv => lhs; whnf); first | (simp_all [Qb]; done) | (simp_all [Qb]; omega))), trivial⟩
   ·refine J6 ?_; refine T1 ?_; exact hK _ ⟨(by first | rfl | ((conv => lhs; whnf); first | (simp_all [Qb]; done) | (simp_all [Qb]; omega))), trivial⟩
  ·refine zq4 ?_; refine J7 ?_; refine J6 ?_; refine Fp ?_; refine K6 ?_; exact hK _ ⟨(by first | rfl | ((conv => lhs; whnf); first | (simp_all [Qb]; done) | (simp_all [Qb]; omega))), trivial⟩
 ·refine Ax f_ rfl A7 () (congrArg Value.bool (by rw [Qb, show decide (((s / 2 ^ i.toNat % 2 : Nat) : Int) = 1) = decide (s / 2 ^ i.toNat % 2 = 1) from decide_eq_decide.mpr A3])) (fun w hs => hs.none)
theorem p24 : (2 ^ (24 : Int).toNat : Nat) = 16777216 := by decide +kernel
theorem C3m (s : Nat) (hs : s < 4294967296) : Spec prog 214 #[.int .u32 ((s : Nat) : Int)] [] [] (fun _ : Unit => .bool ((decide (s < 16777216)))) (fun _ => []) (fun _ => []) := by
 refine Cy ntmps214 fun B hB => ?_
 refine H3 ?_; refine q0 rfl (B6w ?_); refine q0 rfl (A0 call187 (B9w 24 Dg Dg) (fun x5 => ?_)); refine E0t ?_; refine Ci ?_; refine Ax f_ rfl A7 () (congrArg Value.bool (decide_eq_decide.mpr (by rw [p24]; omega))) (fun w hs => hs.none)
theorem D1r (s : Nat) (hs : s < 4294967296) : Spec prog 161 #[.int .u32 ((s : Nat) : Int)] [] [] (fun x : SH => sl x (A4 s).length) (fun x : SH => [IL (A4 s) x]) (fun x : SH => []) := by
 refine Cy ntmps161 fun B hB => ?_
 refine C9 ?_; refine Kz ?_; refine Ap (X := Nat × SH) (fun s_ => s_.1 ≤ 24) (fun s_ => [(0, .int .u32 ((s : Nat) : Int)), (3, sl s_.2 ((C4 s s_.1).length)), (4, iv ((s_.1 : Int)))]) (fun s_ G_ => G_) (fun s_ => [Ar 1 3 s_.2 ((C4 s s_.1).length) (Ds (C4 s s_.1))]) (fun s_ => 24 - s_.1) (0, (none, 0)) A3 (by exact C7) ?_ ?_
 ·exact fun w hs => (hs.Bu 1 3)
 ·intro ⟨i, a⟩ base0 hi0 next0; dsimp only at hi0 next0 ⊢; have hln := Hf s i; refine Gl ?_; refine O9 ?_; refine B8 (decide ((i : Int) < 24)) (fun h6 c6 => ?_) (fun h6 c6 => ?_)
  ·refine Ww ?_; refine q0 rfl (A0 call116 (Um s (i : Int) Dg) (fun x11 => ?_)); refine Lo ?_; refine B8 ((C8 s (i : Int))) (fun h11 c11 => ?_) (fun h11 c11 => ?_)
   ·refine F1 ?_; refine q0 rfl (Cu fun b14 => ?_); refine q0 rfl (D4 (fun a15 => ?_) (a := a) (n' := (C4 s i).length)); refine Ai (fun w hs => ((hs.perm Ah).drop).B5e) ?_; refine P5 ?_; have hnx : C4 s (i + 1) = C4 s i ++ [(i : Int)] := by rw [H9, if_pos]; simp [C8] at c11; exact c11.2
    refine A1 (fun w hs => ?_) (next0 (i + 1, a15) _ A3 (by (try simp only); omega) ⟨rfl, (by (conv => lhs; whnf); simp [sl, hnx]), rfl, trivial⟩); rw [hnx]; simpa using (hs.l9)
   ·refine Dq ?_; have hnx : C4 s (i + 1) = C4 s i := by rw [H9, if_neg]; simp [C8] at c11; simp [c11 A3]
    refine A1 (fun w hs => ?_) (next0 (i + 1, a) _ A3 (by (try simp only); omega) ⟨rfl, (by (conv => lhs; whnf); simp [sl, hnx]), rfl, trivial⟩); rw [hnx]; exact (hs.l9)
  ·refine Wx ?_; have he : i = 24 := by omega
   subst he; refine Ax f_ rfl A7 a rfl (fun w hs => (hs.M4 hB rfl rfl (by unfold reach; omega) (fun c hc => by have := N6 hc; unfold Au; omega)).l8)
theorem C6t (l : List Int) (a_l : SH) (hl : l.length ≤ 64) (hx : ∀ x, x ∈ l → 0 ≤ x ∧ x < 24) : Spec prog 249 #[sl a_l (l.length)] [IL l a_l] [] (fun _ : Unit => .int .u32 (((Hz l) : Nat) : Int)) (fun _ => []) (fun _ => []) := by
 refine Cy ntmps249 fun B hB => ?_
 refine Lf (l := l) (a := a_l) (fun hl1 hA1 hU1 => ?_); refine C9 ?_; refine Kz ?_; refine Ap (X := Nat) (fun s_ => s_ ≤ l.length) (fun s_ => [(0, sl a_l (l.length)), (3, iv (((Xh l s_ : Nat) : Int))), (4, iv ((s_ : Int)))]) (fun s_ G_ => G_) (fun s_ => []) (fun s_ => l.length - s_) (0) A3 (by exact ⟨rfl, (by rw [B9n]; rfl), rfl, trivial⟩) ?_ ?_
 ·exact fun w hs => hs
 ·intro i base0 hi0 next0; have hst := D0w hx i; refine J5 ?_; refine B8 (decide ((i : Int) < (l.length : Int))) (fun h8 c8 => ?_) (fun h8 c8 => ?_)
  ·have hgx := hx _ (Ag (d := 0) (show i < l.length by omega)); have hg2 : 2 ^ (l.getD i 0).toNat ≤ 2 ^ 24 := Nat.pow_le_pow_right A3 A3; have hpz : (0 : Int) ≤ ((2 ^ (l.getD i 0).toNat : Nat) : Int) := Int.natCast_nonneg _; refine J4 ?_; refine F1 ?_; refine Ek ?_; obtain ⟨bk2, o2, hav2⟩ := hA1 A3; refine q0 rfl (Cn ?_ (j := i)); refine q0 rfl (A8z ?_); refine q0 rfl (A0 call187 (B9w (l.getD i 0) Dg Dg) (fun x16 => ?_)); refine A2d ?_; refine Qj ?_; refine A1 (fun w hs => ?_) (next0 (i + 1) _ A3 A3 ⟨rfl, (by (conv => lhs; whnf); rw [B9o A3]; push_cast; rfl), rfl, trivial⟩); exact (hs.l9)
  ·have he : i = l.length := by omega
   subst he; rw [C6q] at hst ⊢; refine E4 ?_; refine Ft ?_; refine q0 rfl (D3m ?_ (a := Hz l)); refine Ci ?_; refine Ax f_ rfl A7 () (by first | rfl | (simp_all; done) | (simp_all; omega)) (fun w hs => hs.none)
theorem B2c (c : Cl) (hc : u32 c) : Spec prog 159 #[Fa c] [] [] (fun _ : Unit => .bool ((Av c))) (fun _ => []) (fun _ => []) := by
 refine Cy ntmps159 fun B hB => ?_
 have hc1 := hc.1; have hc2 := hc.2; refine Bf ?_; refine q0 rfl (Ba fun b1 => ?_); refine Ez ?_; refine Aw ([(2, .bool ((decide (((c).pos) < 16777216)) && (decide (((c).neg) < 16777216))))]) (fun hK => ?_) (fun base => ?_)
 ·refine H5 ?_; refine q0 rfl (A0 call214 (C3m ((c).pos) Dg) (fun x5 => ?_)); refine Ek ?_; refine Jr rfl ((decide (((c).pos) < 16777216))) (fun hg6 g6 => ?_) (fun hg6 g6 => ?_)
  ·refine Lu ?_; refine qT rfl rfl rfl (A0 call214 (C3m ((c).neg) Dg) (fun x9 => ?_)); refine Gn ?_; exact hK _ ⟨(by first | rfl | ((conv => lhs; whnf); first | (simp_all [Av]; done) | (simp_all [Av]; omega))), trivial⟩
  ·refine T1 ?_; exact hK _ ⟨(by first | rfl | ((conv => lhs; whnf); first | (simp_all [Av]; done) | (simp_all [Av]; omega))), trivial⟩
 ·refine Ax f_ rfl A7 () (by first | rfl | (simp_all [Av]; done) | (simp_all [Av]; omega)) (fun w hs => hs.none)
theorem E1s (c : Cl) (d : Cl) (hc : u32 c) (hd : u32 d) : Spec prog 248 #[Fa c, Fa d] [] [] (fun _ : Unit => .bool ((below c d))) (fun _ => []) (fun _ => []) := by
 refine Cy ntmps248 fun B hB => ?_
 have hc1 := hc.1; have hc2 := hc.2; have hd1 := hd.1; have hd2 := hd.2; refine Bf ?_; refine q0 rfl (Ba fun b2 => ?_); refine q0 rfl (Ba fun b3 => ?_); refine Ez ?_; refine Aw ([(4, .bool ((decide ((((c).pos) ||| ((d).pos)) = ((c).pos))) && (decide ((((c).neg) ||| ((d).neg)) = ((c).neg)))))]) (fun hK => ?_) (fun base => ?_)
 ·refine H5 ?_; refine Ln ?_; refine q0 rfl (Oj ?_ (a := ((c).pos)) (b := ((d).pos))); refine Ln ?_; refine q0 rfl (D3k ?_ (a := (((c).pos) ||| ((d).pos))) (b := ((c).pos))); refine Ek ?_; refine Jr rfl (decide ((((c).pos) ||| ((d).pos)) = ((c).pos))) (fun hg13 g13 => ?_) (fun hg13 g13 => ?_)
  ·refine Lu ?_; refine Uw ?_; refine qT rfl rfl rfl (Oj ?_ (a := ((c).neg)) (b := ((d).neg))); refine Uw ?_; refine qT rfl rfl rfl (D3k ?_ (a := (((c).neg) ||| ((d).neg))) (b := ((c).neg))); refine Gn ?_; exact hK _ ⟨(by first | rfl | ((conv => lhs; whnf); first | (simp_all [below]; done) | (simp_all [below]; omega))), trivial⟩
  ·refine J6 ?_; refine Fp ?_; refine K6 ?_; exact hK _ ⟨(by first | rfl | ((conv => lhs; whnf); first | (simp_all [below]; done) | (simp_all [below]; omega))), trivial⟩
 ·refine Ax f_ rfl A7 () (by first | rfl | (simp_all [below]; done) | (simp_all [below]; omega)) (fun w hs => hs.none)
theorem E6b (c : Cl) (d : Cl) (hc : u32 c) (hd : u32 d) : Spec prog 226 #[Fa c, Fa d] [] [] (fun _ : Unit => .bool ((D0 c d))) (fun _ => []) (fun _ => []) := by
 refine Cy ntmps226 fun B hB => ?_
 have hc1 := hc.1; have hc2 := hc.2; have hd1 := hd.1; have hd2 := hd.2; refine Bf ?_; refine q0 rfl (Ba fun b2 => ?_); refine q0 rfl (Ba fun b3 => ?_); refine Ez ?_; refine Aw ([(4, .bool ((decide (((c).pos) < ((d).pos))) || ((decide (((c).pos) = ((d).pos))) && (decide (((c).neg) < ((d).neg))))))]) (fun hK => ?_) (fun base => ?_)
 ·refine H5 ?_; refine Ln ?_; refine q0 rfl (D3e ?_ (a := ((c).pos)) (b := ((d).pos))); refine Ek ?_; refine Jr rfl (decide (((c).pos) < ((d).pos))) (fun hg10 g10 => ?_) (fun hg10 g10 => ?_)
  ·refine Lu ?_; refine Uw ?_; refine qT rfl rfl rfl (D3k ?_ (a := ((c).pos)) (b := ((d).pos))); refine D9 ?_; refine Jr rfl (decide (((c).pos) = ((d).pos))) (fun hg16 g16 => ?_) (fun hg16 g16 => ?_)
   ·refine Lu ?_; refine Uw ?_; refine qT rfl rfl rfl (D3e ?_ (a := ((c).neg)) (b := ((d).neg))); refine Sv ?_; refine K6 ?_; exact hK _ ⟨(by first | rfl | ((conv => lhs; whnf); first | (simp_all [D0]; done) | (simp_all [D0]; omega))), trivial⟩
   ·refine J6 ?_; refine Ui ?_; refine K6 ?_; exact hK _ ⟨(by first | rfl | ((conv => lhs; whnf); first | (simp_all [D0]; done) | (simp_all [D0]; omega))), trivial⟩
  ·refine J2 ?_; refine Fp ?_; refine X5 ?_; refine X5 ?_; refine C9t ?_; refine zq4 ?_; refine Gn ?_; exact hK _ ⟨(by first | rfl | ((conv => lhs; whnf); first | (simp_all [D0]; done) | (simp_all [D0]; omega))), trivial⟩
 ·refine Ax f_ rfl A7 () (by first | rfl | (simp_all [D0]; done) | (simp_all [D0]; omega)) (fun w hs => hs.none)
theorem T8 (c : Cl) (hc : u32 c) : Spec prog 160 #[Fa c] [] [] (fun _ : Unit => .bool ((M7 c))) (fun _ => []) (fun _ => []) := by
 refine Cy ntmps160 fun B hB => ?_
 have hc1 := hc.1; have hc2 := hc.2; refine Bf ?_; refine q0 rfl (Ba fun b1 => ?_); refine Ez ?_; refine Lw ?_; refine Ap (X := Nat) (fun s_ => s_ ≤ 24 ∧ ∀ j, j < s_ → (C8 c.pos (j : Int) && C8 c.neg (j : Int)) = false) (fun s_ => [(1, pz b1), (3, iv ((s_ : Int)))]) (fun s_ G_ => G_) (fun s_ => [Ae b1 (As c) 45]) (fun s_ => 24 - s_) (0) (⟨by omega, fun j hj => by omega⟩) (by exact C7) ?_ ?_
 ·exact fun w hs => hs
 ·intro i base0 ⟨hi, hok⟩ next0; refine Gl ?_; refine O9 ?_; refine B8 (decide ((i : Int) < 24)) (fun h5 c5 => ?_) (fun h5 c5 => ?_)
  ·refine Hm ?_; refine Aw ([(1, pz b1), (3, iv ((i : Int))), (17, .bool ((C8 ((c).pos) (i : Int)) && (C8 ((c).neg) (i : Int))))]) (fun hK => ?_) (fun base => ?_)
   ·refine H5 ?_; refine Ek ?_; refine q0 rfl (A0 call116 (Um ((c).pos) (i : Int) Dg) (fun x11 => ?_)); refine Ek ?_; refine Jr rfl ((C8 ((c).pos) (i : Int))) (fun hg12 g12 => ?_) (fun hg12 g12 => ?_)
    ·refine Lu ?_; refine D9 ?_; refine qT rfl rfl rfl (A0 call116 (Um ((c).neg) (i : Int) Dg) (fun x16 => ?_)); refine Gk ?_; exact hK _ ⟨rfl, rfl, Ey, trivial⟩
    ·refine Fp ?_; refine J1 ?_; exact hK _ ⟨rfl, rfl, Ey, trivial⟩
   ·refine B8 ((C8 ((c).pos) (i : Int)) && (C8 ((c).neg) (i : Int))) (fun h17 c17 => ?_) (fun h17 c17 => ?_)
    ·refine C9 ?_; have hb : (C8 c.pos (i : Int) && C8 c.neg (i : Int)) = true := by simpa using h17
     refine Ax f_ rfl A7 () (by rw [M7, List.any_eq_true.mpr ⟨i, List.mem_range.mpr A3, hb⟩]) (fun w hs => hs.none)
    ·refine Dq ?_; have hb : (C8 c.pos (i : Int) && C8 c.neg (i : Int)) = false := by simpa using h17
     refine A1 (fun w hs => ?_) (next0 (i + 1) _ (⟨by omega, Je hok hb⟩) A3 C7); exact (hs.l9)
  ·refine P7 ?_; refine Ax f_ rfl A7 () (by rw [M7, List.any_eq_false.mpr (fun j hj => by rw [hok j (by have := List.mem_range.mp hj; omega)]; decide)]) (fun w hs => hs.none)
theorem A0v (l : List Cl) (c : Cl) : Cb l c = l.any fun d => !decide (d = c) && below c d := by
 unfold Cb; congr 1; funext d; rw [show (decide (c = d)) = decide (d = c) from decide_eq_decide.mpr eq_comm]
theorem D7e (l : List Cl) (a_l : SH) (c : Cl) (hc : u32 c) : Spec prog 225 #[sl a_l (l.length), Fa c] [CL l a_l] [] (fun _ : Unit => .bool ((!Cb l c))) (fun _ => []) (fun _ => []) := by
 refine Cy ntmps225 fun B hB => ?_
 refine A5 (l := l) (a := a_l) (fun hl1 hA1 hU1 => ?_); have hc1 := hc.1; have hc2 := hc.2; refine Bf ?_; refine q0 rfl (Ba fun b3 => ?_); refine Ez ?_; refine Lw ?_; refine Ap (X := Nat) (fun s_ => s_ ≤ l.length ∧ ∀ j, j < s_ → (!decide (l.getD j A6 = c) && below c (l.getD j A6)) = false) (fun s_ => [(0, sl a_l (l.length)), (3, pz b3), (5, iv ((s_ : Int)))]) (fun s_ G_ => G_) (fun s_ => [Ae b3 (As c) 45]) (fun s_ => l.length - s_) (0) (⟨by omega, fun j hj => by omega⟩) (by exact C7) ?_ ?_
 ·exact fun w hs => hs
 ·intro i base0 ⟨hi, hok⟩ next0; refine J5 ?_; refine B8 (decide ((i : Int) < (l.length : Int))) (fun h9 c9 => ?_) (fun h9 c9 => ?_)
  ·have hu := hU1 _ (Ag (d := A6) (show i < l.length by omega)); have hu1 := hu.1; have hu2 := hu.2; refine Hm ?_; refine Aw ([(0, sl a_l (l.length)), (3, pz b3), (5, iv ((i : Int))), (25, .bool ((!decide ((l.getD i A6) = c)) && (below c (l.getD i A6))))]) (fun hK => ?_) (fun base => ?_)
   ·refine Bm (pn := 1000000) (tn := false) (A := [0, 0, 3, 7, 0, 31, 63, 127, 127, 127, 895, 1919, 4095, 8191]) (l := [0, 1, 2, 3, 4, 5, 6, 7, 8, 9, 10, 11, 12, 13]) (fin := []) Tab.mixed ⟨_, func225⟩ (by rfl) ?_; refine Ie ?_; obtain ⟨bk2, o2, hav2⟩ := hA1 A3; refine n0 rfl (Gi ?_ (j := i)); refine B0v ?_; refine Oa ?_; refine n0 rfl (C2z ?_ (c := (l.getD i A6)) (c' := c)); refine Gr ?_; refine nI rfl rfl rfl I9 (fun hg18 => ?_) (fun hg18 => ?_)
    ·have g18 := sm_ (p := (!decide ((l.getD i A6) = c)) = true) hg18; refine D9i ?_; refine Qk ?_; refine Qk ?_; refine nT rfl rfl rfl (Gi ?_ (j := i)); refine nT rfl rfl rfl (A7n ?_); refine nT rfl rfl rfl (Bg call248 (E1s c (l.getD i A6) Dg Dg) (fun x24 => ?_)); refine B4k ?_; refine Pw ?_; exact hK _ ⟨rfl, rfl, rfl, Ey, trivial⟩
    ·have g18 := sm_ (p := (!decide ((l.getD i A6) = c)) = false) hg18; refine K4 ?_; refine Uk ?_; refine Mo ?_; exact hK _ ⟨rfl, rfl, rfl, Ey, trivial⟩
   ·refine B8 ((!decide ((l.getD i A6) = c)) && (below c (l.getD i A6))) (fun h25 c25 => ?_) (fun h25 c25 => ?_)
    ·refine C9 ?_; have hb : (!decide (l.getD i A6 = c) && below c (l.getD i A6)) = true := by simpa using h25
     refine Ax f_ rfl A7 () (by rw [A0v, A1h (d := A6) (i := i) A3 hb]; rfl) (fun w hs => hs.none)
    ·refine Dq ?_; have hb : (!decide (l.getD i A6 = c) && below c (l.getD i A6)) = false := by simpa using h25
     refine A1 (fun w hs => ?_) (next0 (i + 1) _ (⟨by omega, Je hok hb⟩) A3 C7); exact (hs.l9)
  ·refine P7 ?_; refine Ax f_ rfl A7 () (by rw [A0v, Yp (d := A6) (fun j hj => hok j A3)]; rfl) (fun w hs => hs.none)
theorem B1u (l : List Cl) (a_l : SH) (m : List Cl) (a_m : SH)  : Spec prog 21 #[sl a_l (l.length), sl a_m (m.length)] [CL l a_l, CL m a_m] [] (fun _ : Unit => .bool ((decide (l = m)))) (fun _ => []) (fun _ => []) := by
 refine Cy ntmps21 fun B hB => ?_
 refine A5 (l := l) (a := a_l) (fun hl1 hA1 hU1 => ?_); refine A5 (l := m) (a := a_m) (fun hl2 hA2 hU2 => ?_); refine X4 ?_; refine Mn ?_; refine Ek ?_; refine Mn ?_; refine A6h ?_; refine B8 (decide ((l.length : Int) ≠ (m.length : Int))) (fun h10 c10 => ?_) (fun h10 c10 => ?_)
 ·have hne : ¬ l = m := fun e => by subst e; simp at h10
  refine C9 ?_; refine Ax f_ rfl A7 () (by rw [decide_eq_false hne]) (fun w hs => hs.none)
 ·have hlen : l.length = m.length := by simp at h10; omega
  refine K3 ?_; refine Lw ?_; refine Ap (X := Nat) (fun s_ => s_ ≤ l.length ∧ ∀ j, j < s_ → l.getD j A6 = m.getD j A6) (fun s_ => [(0, sl a_l (l.length)), (1, sl a_m (m.length)), (5, iv ((s_ : Int)))]) (fun s_ G_ => G_) (fun s_ => []) (fun s_ => l.length - s_) (0) (⟨by omega, fun j hj => by omega⟩) (by exact C7) ?_ ?_
  ·exact fun w hs => hs
  ·intro i base0 ⟨hi, hok⟩ next0; refine J5 ?_; refine B8 (decide ((i : Int) < (l.length : Int))) (fun h14 c14 => ?_) (fun h14 c14 => ?_)
   ·refine Hm ?_; refine Bm (pn := 1000000) (tn := false) (A := [0, 0, 3, 7, 0, 0, 48, 112, 255]) (l := [0, 1, 2, 3, 4, 5, 6, 7, 8]) (fin := []) Tab.mixed ⟨_, func21⟩ (by rfl) ?_; refine Ie ?_; obtain ⟨bk3, o3, hav3⟩ := hA1 A3; refine n0 rfl (Gi ?_ (j := i)); refine B0v ?_; refine Ie ?_; obtain ⟨bk4, o4, hav4⟩ := hA2 A3; refine n0 rfl (Gi ?_ (j := i)); refine B0v ?_; refine n0 rfl (C2z ?_ (c := (l.getD i A6)) (c' := (m.getD i A6))); refine Pw ?_; refine B8 (!decide ((l.getD i A6) = (m.getD i A6))) (fun h25 c25 => ?_) (fun h25 c25 => ?_)
    ·refine C9 ?_; refine Ax f_ rfl A7 () (by rw [decide_eq_false (fun e => by subst e; simp at h25)]) (fun w hs => hs.none)
    ·refine Dq ?_; have hb : l.getD i A6 = m.getD i A6 := by simpa using h25
     refine A1 (fun w hs => ?_) (next0 (i + 1) _ (⟨by omega, Je hok hb⟩) A3 C7); exact (hs.l9)
   ·refine P7 ?_; refine Ax f_ rfl A7 () (by rw [decide_eq_true (S1 hlen (fun j hj => hok j A3))]) (fun w hs => hs.none)
theorem Vy (l : List Cl) (a_l : SH)  : Spec prog 193 #[sl a_l (l.length)] [CL l a_l] [] (fun x : SH => .tuple #[sl x (Am l).2.length, iv (Am l).1]) (fun x : SH => [CL (Am l).2 x]) (fun x : SH => []) := by
 refine Cy ntmps193 fun B hB => ?_
 refine A5 (l := l) (a := a_l) (fun hl1 hA1 hU1 => ?_); refine Ei ?_; refine Ni ?_; refine Ap (X := Nat) (fun s_ => s_ ≤ l.length ∧ ∀ j, j < s_ → Av (l.getD j A6) = true) (fun s_ => [(0, sl a_l (l.length)), (4, iv ((s_ : Int)))]) (fun s_ G_ => G_) (fun s_ => []) (fun s_ => l.length - s_) (0) (⟨by omega, fun j hj => by omega⟩) (by exact C7) ?_ ?_
 ·exact fun w hs => hs
 ·intro i base0 ⟨hi, hok⟩ next0; refine J5 ?_; refine B8 (decide ((i : Int) < (l.length : Int))) (fun h11 c11 => ?_) (fun h11 c11 => ?_)
  ·have hu := hU1 _ (Ag (d := A6) (show i < l.length by omega)); have hu1 := hu.1; have hu2 := hu.2; refine Ww ?_; obtain ⟨bk2, o2, hav2⟩ := hA1 A3; refine q0 rfl (Cn ?_ (j := i)); refine Oz ?_; refine q0 rfl (A0 call159 (B2c (l.getD i A6) Dg) (fun x18 => ?_)); refine H4 ?_; refine B8 (!(Av (l.getD i A6))) (fun h19 c19 => ?_) (fun h19 c19 => ?_)
   ·have hlf : Am l = (2, []) := by rw [Am, if_pos (Mi (d := A6) (i := i) A3 (by simpa using h19))]
    refine Ei ?_; refine B1 f_ rfl A7 A7 (none, 0) (by rw [hlf]; rfl) (fun w hs => by rw [hlf]; exact (hs.D2 0).bare.l8)
   ·refine Dq ?_; have hb : Av (l.getD i A6) = true := by simpa using h19
    refine A1 (fun w hs => ?_) (next0 (i + 1) _ (⟨by omega, Je hok hb⟩) A3 C7); exact (hs.l9)
  ·have hall : l.all Av = true := Nv (d := A6) (fun j hj => hok j A3); refine E4 ?_; refine Kz ?_; refine Ap (X := Nat × SH) (fun s_ => s_.1 ≤ l.length) (fun s_ => [(0, sl a_l (l.length)), (5, sl s_.2 (((Ea l s_.1)).length)), (6, iv ((s_.1 : Int)))]) (fun s_ G_ => CL (Ea l s_.1) s_.2 :: G_) (fun s_ => []) (fun s_ => l.length - s_.1) (0, (none, 0)) A3 (by exact ⟨rfl, (by rw [A8k]; rfl), rfl, trivial⟩) ?_ ?_
   ·exact fun w hs => by rw [A8k]; exact hs.D2 0
   ·intro ⟨i, a⟩ base1 hi1 next1; dsimp only at hi1 next1 ⊢; refine A5 (l := (Ea l i)) (a := a) (fun hl3 hA3 hU3 => ?_); have hrl := A3i l i; refine J5 ?_; refine B8 (decide ((i : Int) < (l.length : Int))) (fun h23 c23 => ?_) (fun h23 c23 => ?_)
    ·have hu := hU1 _ (Ag (d := A6) (show i < l.length by omega)); have hu1 := hu.1; have hu2 := hu.2; refine J4 ?_; refine Gl ?_; refine Fb ?_; obtain ⟨bk4, o4, hav4⟩ := hA1 A3; refine q0 rfl (Cn ?_ (j := i)); refine Oz ?_; refine q0 rfl (A0 call225 (D7e l a_l (l.getD i A6) Dg) (fun x31 => ?_)); refine H4 ?_; refine B8 (!(!Cb l (l.getD i A6))) (fun h32 c32 => ?_) (fun h32 c32 => ?_)
     ·refine E4 ?_; refine B8z ?_; have hnx : Ea l (i + 1) = Ea l i := by rw [Z8 A3, if_pos (by simpa using h32)]
      refine A1 (fun w hs => ?_) (next1 (i + 1, a) _ A3 (by (try simp only); omega) ⟨rfl, (by (conv => lhs; whnf); simp [sl, hnx]), rfl, trivial⟩); rw [hnx]; exact (hs.l9)
     ·refine I1 ?_; refine C9 ?_; refine L3 ?_; refine zq8 ?_; refine Ap (X := Nat) (fun s_ => s_ ≤ (Ea l i).length ∧ ∀ j, j < s_ → D0 ((Ea l i).getD j A6) (l.getD i A6) = true) (fun s_ => [(0, sl a_l (l.length)), (5, sl a (((Ea l i)).length)), (6, iv ((i : Int))), (7, iv ((s_ : Int)))]) (fun s_ G_ => G_) (fun s_ => []) (fun s_ => (Ea l i).length - s_) (0) (⟨by omega, fun j hj => by omega⟩) (by exact C7) ?_ ?_
      ·exact fun w hs => hs
      ·intro k base2 ⟨hk, hk2⟩ next2; have hvo : k < (Ea l i).length → u32 ((Ea l i).getD k A6) := fun h => hU1 _ (C3n (Ag h))
       refine J9 ?_; refine Aw ([(0, sl a_l (l.length)), (5, sl a (((Ea l i)).length)), (6, iv ((i : Int))), (7, iv ((k : Int))), (47, .bool ((decide ((k : Int) < (((Ea l i)).length : Int))) && (D0 (((Ea l i)).getD k A6) (l.getD i A6))))]) (fun hK => ?_) (fun base => ?_)
       ·refine Bm (pn := 1000000) (tn := false) (A := [0, 0, 2, 7, 15, 31, 31, 127, 255, 31, 31, 1567, 3615, 8191, 16383]) (l := [0, 1, 2, 3, 4, 5, 6, 7, 8, 9, 10, 11, 12, 13, 14]) (fin := []) Tab.mixed ⟨_, func193⟩ (by rfl) ?_; refine Ie ?_; refine n0 rfl (A7m ?_); refine n0 rfl (E5n ?_); refine Gr ?_; refine nI rfl rfl rfl I9 (fun hg37 => ?_) (fun hg37 => ?_)
        ·have g37 := sm_ (p := (decide ((k : Int) < (((Ea l i)).length : Int))) = true) hg37; refine A2m ?_; refine Qk ?_; obtain ⟨bk5, o5, hav5⟩ := hA3 A3; refine nT rfl rfl rfl (Gi ?_ (j := k)); refine nT rfl rfl rfl (A7n ?_); refine Qk ?_; refine Qk ?_; refine nT rfl rfl rfl (Gi ?_ (j := i)); refine nT rfl rfl rfl (A7n ?_); refine nT rfl rfl rfl (Bg call226 (E6b (((Ea l i)).getD k A6) (l.getD i A6) Dg Dg) (fun x46 => ?_)); refine B4k ?_; refine Pw ?_; exact hK _ ⟨rfl, rfl, rfl, rfl, Ey, trivial⟩
        ·have g37 := sm_ (p := (decide ((k : Int) < (((Ea l i)).length : Int))) = false) hg37; refine K4 ?_; refine K4 ?_; refine Mo ?_; exact hK _ ⟨rfl, rfl, rfl, rfl, Ey, trivial⟩
       ·refine B8 ((decide ((k : Int) < (((Ea l i)).length : Int))) && (D0 (((Ea l i)).getD k A6) (l.getD i A6))) (fun h47 c47 => ?_) (fun h47 c47 => ?_)
        ·refine I1 ?_; refine zq8 ?_; refine B8z ?_; refine B1a ?_; refine A1 (fun w hs => ?_) (next2 (k + 1) _ (⟨by omega, Je hk2 c47.2⟩) A3 C7); exact (hs.l9)
        ·have hlast : k < (Ea l i).length → D0 ((Ea l i).getD k A6) (l.getD i A6) = false := fun hlt => by simpa [hlt] using h47
         refine Nz ?_; refine Aw ([(0, sl a_l (l.length)), (5, sl a (((Ea l i)).length)), (6, iv ((i : Int))), (7, iv ((k : Int))), (64, .bool ((decide ((k : Int) = (((Ea l i)).length : Int))) || (!decide ((((Ea l i)).getD k A6) = (l.getD i A6)))))]) (fun hK => ?_) (fun base => ?_)
         ·refine Bm (pn := 1000000) (tn := false) (A := [0, 0, 2, 7, 15, 31, 31, 127, 255, 31, 31, 1567, 3615, 8191, 16383]) (l := [0, 1, 2, 3, 4, 5, 6, 7, 8, 9, 10, 11, 12, 13, 14]) (fin := []) Tab.mixed ⟨_, func193⟩ (by rfl) ?_; refine Ie ?_; refine n0 rfl (A7m ?_); refine n0 rfl (D9k ?_); refine Gr ?_; refine nI rfl rfl rfl I9 (fun hg54 => ?_) (fun hg54 => ?_)
          ·have g54 := sm_ (p := (decide ((k : Int) = (((Ea l i)).length : Int))) = false) hg54; refine A2m ?_; refine Qk ?_; obtain ⟨bk6, o6, hav6⟩ := hA3 A3; refine nT rfl rfl rfl (Gi ?_ (j := k)); refine nT rfl rfl rfl (A7n ?_); refine Qk ?_; refine Qk ?_; refine nT rfl rfl rfl (Gi ?_ (j := i)); refine nT rfl rfl rfl (A7n ?_); refine nT rfl rfl rfl (C2z ?_ (c := (((Ea l i)).getD k A6)) (c' := (l.getD i A6))); refine Mo ?_; exact hK _ ⟨rfl, rfl, rfl, rfl, Ey, trivial⟩
          ·have g54 := sm_ (p := (decide ((k : Int) = (((Ea l i)).length : Int))) = true) hg54; refine K4 ?_; refine K4 ?_; refine B4k ?_; refine Pw ?_; exact hK _ ⟨rfl, rfl, rfl, rfl, Ey, trivial⟩
         ·refine B8 ((decide ((k : Int) = (((Ea l i)).length : Int))) || (!decide ((((Ea l i)).getD k A6) = (l.getD i A6)))) (fun h64 c64 => ?_) (fun h64 c64 => ?_)
          ·have hcase : ¬ (k < (Ea l i).length ∧ (Ea l i).getD k A6 = l.getD i A6) := by rintro ⟨h1, h2⟩; rcases c64 with h3 | h3; omega; exact h3 h2
           refine A1 (fun w hs => (hs.E0z (l := Ea l i) (a := a) k Ec A3)) ?_; refine A1 (fun w hs => (hs.E4z (l := Ea l i) (a := a) k Ec A3)) ?_; refine By (p := (Ea l i).length ≤ a.2) (fun w hs => hs.E9f Ec) (fun hcap => ?_); have htl : ((Ea l i).take k).length = k := by simp; omega
           have hdl : ((Ea l i).drop k).length = (Ea l i).length - k := by simp
           refine Bm (pn := 1000000) (tn := true) (A := [0, 0, 0, 6, 15, 0, 0, 96, 224, 480, 1023, 0, 0, 6144, 16383, 32767]) (l := [1, 2, 3, 5, 6, 7, 8, 11, 12, 13, 0, 4, 9, 10, 14, 15]) (fin := []) Tab.mixed ⟨_, func193⟩ (by rfl) ?_; refine Ie ?_; refine n0 rfl (C6d ?_ (k := k)); refine Ie ?_; refine n0 rfl (Gi ?_ (j := i)); refine n0 rfl (E9b ?_); refine Ie ?_; refine n0 rfl (C6c ?_ (k := k) (a := a)); refine n0 rfl (E0y fun b65 => ?_); refine A1y [_] [_] (fun _ _ _ hs => hs.Gq (sz := 2) (m := 0) rfl K1) ?_; refine n0 rfl (C3e (fun a69 => ?_) Ec (a := (some ⟨b65, 0, none⟩, 0)) (n' := 0) (b := a) (ls := ((Ea l i).take k)) (hy := (by rw [List.length_take, Nat.min_eq_left A3]; rfl))); refine A1y [_] [_] (fun _ _ _ hs => hs.Hc (l := []) (m := ((Ea l i).take k))) ?_; refine n0 rfl (Nw fun b74 => ?_); refine n0 rfl (E1e (fun a75 => ?_) (a := a69) (n' := 0 + ((Ea l i).take k).length)); refine A1y [_, _] [_] (fun _ _ _ hs => ((hs.perm Ah).drop).O5 (c := (l.getD i A6))) ?_; refine n0 rfl (C3e (fun a79 => ?_) Ec (a := a75) (n' := 0 + ((Ea l i).take k).length + 1) (b := (Wi a 2 k)) (ls := ((Ea l i).drop k)) (hy := (by rw [List.length_drop]; rfl))); refine A1y [_] [_] (fun _ _ _ hs => hs.Hc (l := (([] ++ ((Ea l i).take k)) ++ [(l.getD i A6)])) (m := ((Ea l i).drop k))) ?_; refine P4 ?_; refine Qj ?_; have hnx : Ea l (i + 1) = (Ea l i).take k ++ [l.getD i A6] ++ (Ea l i).drop k := by rw [Z8 A3, if_neg (by simpa using h32), B2x (k := k) A3 hk2 hlast, if_neg hcase]
           have hnl := A3i l (i + 1); have hll : (Ea l (i + 1)).length = 0 + ((Ea l i).take k).length + 1 + ((Ea l i).drop k).length := by rw [hnx]; simp; omega
           refine A1 (fun w hs => ?_) (next1 (i + 1, a79) _ A3 (by (try simp only); omega) ⟨rfl, (by (conv => lhs; whnf); rw [hll]; rfl), rfl, trivial⟩); refine ((hs.Bt (l := Ea l (i + 1)) hB (by rw [hnx]; simp) (by rw [hll]) (by unfold reach at *; omega) (fun c hc => hU1 c (C3n hc))).l9)
          ·have hcase : k < (Ea l i).length ∧ (Ea l i).getD k A6 = l.getD i A6 := by have h9 := h64; simp at h9; exact ⟨by omega, h9.2⟩
           refine Dq ?_; have hnx : Ea l (i + 1) = Ea l i := by rw [Z8 A3, if_neg (by simpa using h32), B2x (k := k) A3 hk2 hlast, if_pos hcase]
           refine A1 (fun w hs => ?_) (next1 (i + 1, a) _ A3 (by (try simp only); omega) ⟨rfl, (by (conv => lhs; whnf); simp [sl, hnx]), rfl, trivial⟩); rw [hnx]; exact (hs.l9)
    ·have he : i = l.length := by omega
     have hrw : Ea l i = Ej l := by rw [he, B5w]
     refine E4 ?_; refine Gl ?_; refine Mn ?_; refine Sy ?_; refine B8 (decide (64 < (((Ea l i)).length : Int))) (fun h82 c82 => ?_) (fun h82 c82 => ?_)
     ·have hlf : Am l = (3, []) := by rw [Am, if_neg (by rw [hall]; decide), if_pos (by rw [← hrw]; omega)]
      refine Ei ?_; refine B1 f_ rfl A7 A7 (none, 0) (by rw [hlf]; rfl) (fun w hs => by rw [hlf]; exact (hs.D2 0).bare.l8)
     ·have hlf : Am l = (0, Ej l) := by rw [Am, if_neg (by rw [hall]; decide), if_neg (by rw [← hrw]; omega)]
      refine I1 ?_; refine E3 ?_; refine B1 f_ rfl A7 A7 a (by rw [hlf, ← hrw]; rfl) (fun w hs => by rw [hlf, ← hrw]; exact hs.bare.l8)
theorem Ic (l : List Cl) (a_l : SH)  : Spec prog 149 #[sl a_l (l.length)] [CL l a_l] [] (fun _ : Unit => .bool ((A9 l))) (fun _ => []) (fun _ => []) := by
 refine Cy ntmps149 fun B hB => ?_
 refine A5 (l := l) (a := a_l) (fun hl1 hA1 hU1 => ?_); refine H3 ?_; refine q0 rfl (A0 call193 (Vy l a_l ) (fun x7 => ?_)); refine Ug ?_; refine L3 ?_; refine Aw ([(2, .bool ((decide (((Am l).1) = 0)) && (decide (((Am l).2) = l))))]) (fun hK => ?_) (fun base => ?_)
 ·refine Wv ?_; refine Jr rfl (decide (((Am l).1) = 0)) (fun hg12 g12 => ?_) (fun hg12 g12 => ?_)
  ·refine Jo ?_; refine D9 ?_; refine qT rfl rfl rfl (A0 call21 (B1u ((Am l).2) x7 l a_l ) (fun x15 => ?_)); refine Gn ?_; exact hK _ ⟨Ey, trivial⟩
  ·refine T1 ?_; exact hK _ ⟨Ey, trivial⟩
 ·refine Ax f_ rfl A7 () (by rw [← S5]) (fun w hs => hs.none)
theorem Kr (l : List Cl) (a_l : SH)  : Spec prog 134 #[sl a_l (l.length)] [CL l a_l] [] (fun _ : Unit => .bool ((A2 l))) (fun _ => []) (fun _ => []) := by
 refine Cy ntmps134 fun B hB => ?_
 refine A5 (l := l) (a := a_l) (fun hl1 hA1 hU1 => ?_); refine X4 ?_; refine q0 rfl (A0 call149 (Ic l a_l ) (fun x5 => ?_)); refine H4 ?_; refine B8 (!(A9 l)) (fun h6 c6 => ?_) (fun h6 c6 => ?_)
 ·refine C9 ?_; refine Ax f_ rfl A7 () (by rw [A2, show A9 l = false by simpa using h6]; rfl) (fun w hs => hs.none)
 ·have hfr : A9 l = true := by simpa using h6
  have hal : l.all Av = true := by unfold A9 at hfr; simp only [Bool.and_eq_true] at hfr; exact hfr.1.1.1
  refine K3 ?_; refine Lw ?_; refine Ap (X := Nat) (fun s_ => s_ ≤ l.length ∧ ∀ j, j < s_ → Ew (l.getD j A6) = false) (fun s_ => [(0, sl a_l (l.length)), (3, iv ((s_ : Int)))]) (fun s_ G_ => G_) (fun s_ => []) (fun s_ => l.length - s_) (0) (⟨by omega, fun j hj => by omega⟩) (by exact C7) ?_ ?_
  ·exact fun w hs => hs
  ·intro i base0 ⟨hi, hok⟩ next0; refine J5 ?_; refine B8 (decide ((i : Int) < (l.length : Int))) (fun h10 c10 => ?_) (fun h10 c10 => ?_)
   ·have hu := hU1 _ (Ag (d := A6) (show i < l.length by omega)); have hu1 := hu.1; have hu2 := hu.2; have hr24 : Av (l.getD i A6) = true := List.all_eq_true.mp hal _ (Ag A3); refine Ww ?_; obtain ⟨bk2, o2, hav2⟩ := hA1 A3; refine q0 rfl (Cn ?_ (j := i)); refine Oz ?_; refine q0 rfl (A0 call160 (T8 (l.getD i A6) Dg) (fun x17 => ?_)); refine Lo ?_; refine B8 ((M7 (l.getD i A6))) (fun h17 c17 => ?_) (fun h17 c17 => ?_)
    ·refine C9 ?_; have hb : Ew (l.getD i A6) = true := by rw [← U5 hr24]; simpa using h17
     refine Ax f_ rfl A7 () (by rw [A2, A1h (d := A6) (i := i) A3 hb]; simp) (fun w hs => hs.none)
    ·refine Dq ?_; have hb : Ew (l.getD i A6) = false := by rw [← U5 hr24]; simpa using h17
     refine A1 (fun w hs => ?_) (next0 (i + 1) _ (⟨by omega, Je hok hb⟩) A3 C7); exact (hs.l9)
   ·refine P7 ?_; refine Ax f_ rfl A7 () (by rw [A2, hfr, Yp (d := A6) (fun j hj => hok j A3)]; rfl) (fun w hs => hs.none)
def Yl (l : List Cl) (i k : Nat) : Bool := (Fm l k).testBit i
theorem C1w (l : List Cl) (i : Nat) : Yl l i 0 = false := by simp [Yl, Fm]
theorem C1x {l : List Cl} {i k : Nat} (hi : i < 24) (h : k < l.length) : Yl l i (k + 1) = ((Yl l i k || C8 (l.getD k A6).pos (i : Int)) || C8 (l.getD k A6).neg (i : Int)) := by
 unfold Yl; rw [A0r h, Nat.testBit_or, Nat.testBit_or]; simp only [C8]; rw [decide_eq_true (show (0 : Int) ≤ (i : Int) by omega), decide_eq_true (show (i : Int) < 24 by omega)]; simp [Bool.or_assoc]
theorem D1u (l : List Cl) (a_l : SH)  : Spec prog 232 #[sl a_l (l.length)] [CL l a_l] [] (fun _ : Unit => .int .u32 (((E5 l) : Nat) : Int)) (fun _ => []) (fun _ => []) := by
 refine Cy ntmps232 fun B hB => ?_
 refine A5 (l := l) (a := a_l) (fun hl1 hA1 hU1 => ?_); refine C9 ?_; refine Kz ?_; refine Ap (X := Nat × SH) (fun s_ => s_.1 ≤ 24) (fun s_ => [(0, sl a_l (l.length)), (3, sl s_.2 ((C4 (Fm l l.length) s_.1).length)), (4, iv ((s_.1 : Int)))]) (fun s_ G_ => G_) (fun s_ => [Ar 1 3 s_.2 ((C4 (Fm l l.length) s_.1).length) (Ds (C4 (Fm l l.length) s_.1))]) (fun s_ => 24 - s_.1) (0, (none, 0)) A3 (by exact C7) ?_ ?_
 ·exact fun w hs => (hs.Bu 1 3)
 ·intro ⟨i, a⟩ base0 hi0 next0; dsimp only at hi0 next0 ⊢; have hln := Hf (Fm l l.length) i; refine Gl ?_; refine O9 ?_; refine B8 (decide ((i : Int) < 24)) (fun h8 c8 => ?_) (fun h8 c8 => ?_)
  ·refine J4 ?_; refine Kz ?_; refine Ap (X := Nat) (fun s_ => s_ ≤ l.length) (fun s_ => [(0, sl a_l (l.length)), (3, sl a ((C4 (Fm l l.length) i).length)), (4, iv ((i : Int))), (5, .bool ((Yl l i s_))), (6, iv ((s_ : Int)))]) (fun s_ G_ => G_) (fun s_ => [Ar 1 3 a ((C4 (Fm l l.length) i).length) (Ds (C4 (Fm l l.length) i))]) (fun s_ => l.length - s_) (0) A3 (by exact ⟨rfl, rfl, rfl, (by rw [C1w]; rfl), rfl, trivial⟩) ?_ ?_
   ·exact fun w hs => hs
   ·intro k base1 hi1 next1; refine J5 ?_; refine B8 (decide ((k : Int) < (l.length : Int))) (fun h14 c14 => ?_) (fun h14 c14 => ?_)
    ·have hu := hU1 _ (Ag (d := A6) (show k < l.length by omega)); have hu1 := hu.1; have hu2 := hu.2; refine J4 ?_; refine Aw ([(0, sl a_l (l.length)), (3, sl a ((C4 (Fm l l.length) i).length)), (4, iv ((i : Int))), (5, .bool (((Yl l i k) || (C8 ((l.getD k A6).pos) (i : Int))) || (C8 ((l.getD k A6).neg) (i : Int)))), (6, iv ((k : Int)))]) (fun hK => ?_) (fun base => ?_)
     ·refine F1 ?_; refine Jr rfl ((Yl l i k)) (fun hg18 g18 => ?_) (fun hg18 g18 => ?_)
      ·refine Jo ?_; refine D9 ?_; obtain ⟨bk2, o2, hav2⟩ := hA1 A3; refine qT rfl rfl rfl (Cn ?_ (j := k)); refine E0q ?_; refine qT rfl rfl rfl (D3h ?_); refine D9 ?_; refine qT rfl rfl rfl (A0 call116 (Um ((l.getD k A6).pos) (i : Int) Dg) (fun x25 => ?_)); refine J7 ?_; refine Jr rfl ((C8 ((l.getD k A6).pos) (i : Int))) (fun hg27 g27 => ?_) (fun hg27 g27 => ?_)
       ·refine Jo ?_; refine D9 ?_; refine qT rfl rfl rfl (Cn ?_ (j := k)); refine E0q ?_; refine qT rfl rfl rfl (D3h ?_); refine D9 ?_; refine qT rfl rfl rfl (A0 call116 (Um ((l.getD k A6).neg) (i : Int) Dg) (fun x34 => ?_)); refine K6 ?_; exact hK _ ⟨rfl, rfl, rfl, Ey, rfl, trivial⟩
       ·refine J6 ?_; refine J2 ?_; refine Gn ?_; exact hK _ ⟨rfl, rfl, rfl, Ey, rfl, trivial⟩
      ·refine J6 ?_; refine Uv ?_; refine J6 ?_; refine Fp ?_; refine Gn ?_; exact hK _ ⟨rfl, rfl, rfl, Ey, rfl, trivial⟩
     ·refine Qj ?_; refine A1 (fun w hs => ?_) (next1 (k + 1) _ A3 A3 ⟨rfl, rfl, rfl, (by (conv => lhs; whnf); rw [C1x A3 A3]), rfl, trivial⟩); exact (hs.l9)
    ·have he : k = l.length := by omega
     refine E4 ?_; refine Ft ?_; refine Lo ?_; refine B8 ((Yl l i k)) (fun h36 c36 => ?_) (fun h36 c36 => ?_)
     ·refine F1 ?_; refine q0 rfl (Cu fun b39 => ?_); refine q0 rfl (D4 (fun a40 => ?_) (a := a) (n' := (C4 (Fm l l.length) i).length)); refine Ai (fun w hs => ((hs.perm Ah).drop).B5e) ?_; refine P5 ?_; have hnx : C4 (Fm l l.length) (i + 1) = C4 (Fm l l.length) i ++ [(i : Int)] := by rw [H9, if_pos (show (Fm l l.length).testBit i = true by rw [← he]; exact h36)]
      refine A1 (fun w hs => ?_) (next0 (i + 1, a40) _ A3 (by (try simp only); omega) ⟨rfl, (by (conv => lhs; whnf); simp [sl, hnx]), rfl, trivial⟩); rw [hnx]; simpa using (hs.l9)
     ·refine Dq ?_; have hnx : C4 (Fm l l.length) (i + 1) = C4 (Fm l l.length) i := by rw [H9, if_neg]; rw [show (Fm l l.length).testBit i = false by rw [← he]; exact h36]; decide
      refine A1 (fun w hs => ?_) (next0 (i + 1, a) _ A3 (by (try simp only); omega) ⟨rfl, (by (conv => lhs; whnf); simp [sl, hnx]), rfl, trivial⟩); rw [hnx]; exact (hs.l9)
  ·have he : i = 24 := by omega
   subst he; refine A1 (fun w hs => (hs.M4 hB rfl rfl (by unfold reach; omega) (fun c hc => by have := N6 hc; unfold Au; omega))) ?_; refine E4 ?_; refine Ft ?_; refine q0 rfl (A0 call249 (C6t (C4 (Fm l l.length) 24) a A3 (fun x hx => by have := N6 hx; omega)) (fun x42 => ?_)); refine Ci ?_; refine Ax f_ rfl A7 () (by rw [Vt, A5k]) (fun w hs => hs.none)
end Go.Hy
namespace Go.Hy
open Go.Proofs Go.Proofs.Tryz
set_option maxRecDepth 100000
attribute [local go_sem] Oper.semAt_some
open Go.RowKit Go.Shelf
set_option maxHeartbeats 1000000
theorem E9v (F : Fence) (n : Nat) (hF : F.fn 209) (hro : F.round = none) (r : Nat) (k idx : Nat) (hk : k < 24) (h0 : ((r : Int) == 0) = false)
  (key : bits BinOp.and IntKind.u32 (r : Int) (-(r : Int) % 4294967296) * 125613361 % 4294967296 / 134217728 = (idx : Int)) (hi : idx < 32) (W : World) (hc : W.cell? ⟨0, idx, none⟩ = some (.int .u8 (k : Int))) :
  CallsIn F n prog 209 #[.int .u32 (r : Int)] W fun e w' => e = .returned (iv (k : Int)) ∧ w' = W := by
 refine callsIn_of_wp func209 rfl hF ?_ hro; simp only [ntmps209, List.size_toArray, List.length_cons, List.length_nil, Nat.reduceAdd, Nat.reduceSub, Array.replicate_succ, Array.replicate_zero, List.push_toArray, List.append_toArray, List.nil_append, List.cons_append]
 gi_wp2_with (simp only [key])
 go_ret
 exact ⟨rfl, rfl⟩
theorem tz32' (F : Fence) (n : Nat) (hF : F.fn 209) (hro : F.round = none) (r : Nat) (h0 : ¬ r = 0) (hr : r < 16777216) (W : World) (hT : TabAt 0 Lib.deBruijn32tab W) :
  CallsIn F n prog 209 #[.int .u32 (r : Int)] W fun e w' => e = .returned (iv (Lib.ctz 32 r : Int)) ∧ w' = W := by
 obtain ⟨hlow, hk⟩ := Lib.lowest_bit 32 r h0 A3; obtain ⟨hi, htab⟩ := Lib.deBruijn32_at _ hk; have hcell := hT _ hi; rw [htab] at hcell; exact E9v F n hF hro r _ _ (A9f h0 hr).1 (by simp; omega) (tz32_key r _ A3 h0 hlow) hi W hcell
theorem in1 (F : Fence) (n : Nat) (h208 : F.fn 208) (h209 : F.fn 209) (hro : F.round = none) (hn : 1 ≤ n) (l g : Nat) (s : Nat) (J : List Int → World → Prop)
  (hY : ∀ pre x W, J pre W → pre.length < 24 → (0 ≤ x ∧ x < 24) → YieldAt F (n - 1) prog l #[iv x] W fun e W' => e = .returned (.bool true) ∧ J (pre ++ [x]) W' ∧ W'.heap[g]? = W.heap[g]?)
  (hT : ∀ pre W, J pre W → TabAt 0 Lib.deBruijn32tab W)
  (hJ : ∀ pre W v, J pre W → J pre (W.setCell ⟨g, 0, none⟩ v))
  (hs : s < 4294967296) (W : World) (hg : Boxed W g 43 (.int .u32 (s : Int))) (h0 : J [] W) :
  CallsIn F n prog 208 #[.func (.yield l) #[] #[], pz g] W fun e W' => (∃ v, e = .returned v) ∧ J (A4 s) W' := by
 refine callsIn_of_wp func208 rfl h208 ?_ hro; simp only [ntmps208, List.size_toArray, List.length_cons, List.length_nil, Nat.reduceAdd, Nat.reduceSub, Array.replicate_succ, Array.replicate_zero, List.push_toArray, List.append_toArray, List.nil_append, List.cons_append]; have hc := hg.cell; have hf := hg.frozen
 gi_wp2
 gi_loopw [] (fun wr => ∃ (pre : List Int) (r : Nat), A4 s = pre ++ A4 r ∧ r < 16777216 ∧ Boxed wr g 43 (.int .u32 (r : Int)) ∧ J pre wr)
  (fun wr => match wr.cell? ⟨g, 0, none⟩ with | some (.int _ v) => v.toNat | _ => 0)
 case atStart =>
  refine ⟨[], s &&& 16777215, by rw [List.nil_append, C8d], by rw [A1i]; exact Nat.mod_lt _ K1, ?_, hJ _ _ _ h0⟩; rw [← bits_and_u32_nat s 16777215 hs K1]; exact hg.set _
 case round =>
  obtain ⟨pre, r, hx, hr, hb, hj⟩ := hrel; have hc2 := hb.cell; have hf2 := hb.frozen; by_cases hr0 : r = 0
  ·subst hr0
   gi_wp2
   go_end0
   exact ⟨⟨_, rfl⟩, by rw [hx, show A4 0 = [] from by decide, List.append_nil]; exact hj⟩
  ·obtain ⟨hk, hlist⟩ := A9f hr0 hr
   have hlen : pre.length < 24 := by
    have h1 := congrArg List.length hx; have h2 : (A4 s).length ≤ 24 := Hf s 24; rw [List.length_append, hlist, List.length_cons] at h1; omega
   obtain ⟨fn, tmps, assign, body, hy, hR⟩ := hY pre (Lib.ctz 32 r : Int) wr hj hlen A3; have hbe : ((r : Int) != 0) = true := by simp; omega
   gi_wp2_with (gi_at_call 209; refine (tz32' F (n - 1) h209 hro r hr0 hr wr (hT _ _ hj)).mono ?_; rintro e w' ⟨rfl, rfl⟩)
   refine hR.mono ?_; rintro e W3 ⟨rfl, hJ3, hg3⟩; have hb3 : Boxed W3 g 43 (.int .u32 (r : Int)) := hg3.trans hb; have hc3 := hb3.cell; have hf3 := hb3.frozen
   gi_wp2
   have e1 : bits BinOp.and IntKind.u32 (r : Int) ((r : Int) - 1) = ((r &&& (r - 1) : Nat) : Int) := by
    rw [show (r : Int) - 1 = ((r - 1 : Nat) : Int) by omega]; exact bits_and_u32_nat r (r - 1) A3 A3
   rw [e1]; have hb4 := hb3.set (.int .u32 ((r &&& (r - 1) : Nat) : Int)); have hlt := E2w hr0
   go_roundw
   case rel => exact ⟨pre ++ [(Lib.ctz 32 r : Int)], r &&& (r - 1), by rw [hx, hlist, List.append_assoc]; rfl, by omega, hb4, hJ _ _ _ hJ3⟩
   case measure =>
    rw [hb4.cell, hc2]; simp only [Int.toNat_natCast]; exact hlt
theorem E7f (F : Fence) (n : Nat) (h : F.fn 156) (hro : F.round = none) (s : Nat) (w : World) :
  CallsIn F n prog 156 #[.int .u32 (s : Int)] w fun e w' => e = .returned (.func (.func 208) #[] #[.pointer (some ⟨w.heap.size, 0, none⟩)]) ∧ w' = w.alloc (.cells #[.int .u32 (s : Int)] 43) := by
 refine callsIn_of_wp func156 rfl h ?_ hro; simp only [ntmps156, List.size_toArray, List.length_cons, List.length_nil, Nat.reduceAdd, Nat.reduceSub, Array.replicate_succ, Array.replicate_zero, List.push_toArray, List.append_toArray, List.nil_append, List.cons_append]
 gi_wp2
 go_ret
 exact ⟨rfl, rfl⟩
theorem D8o : (prog.info? 3).map (fun i => (i.zero, i.size, i.bytes)) = some (some (iv 0), 1, 8) := by kernel_rfl
theorem D8i (F : Fence) (n : Nat) (h81 : F.fn 81) (h156 : F.fn 156) (h208 : F.fn 208) (h209 : F.fn 209) (hro : F.round = none) (hn : 3 ≤ n) (s : Nat) (hs : s < 4294967296) (w : World) (hw : 0 < w.heap.size) (hT : TabAt 0 Lib.deBruijn32tab w) :
  CallsIn F n prog 81 #[.int .u32 (s : Int)] w fun e W' => ∃ v, e = .returned v ∧ W'.ownsRow w.heap.size 3 1 v (A4 s).length ((A4 s).map (Value.int .i64)) ∧ Below w.heap.size w W' := by
 have h1 : 1 ≤ n := by omega
 obtain ⟨i0, hi, hz0, hz1, hz2⟩ := info_parts D8o; refine callsIn_of_wp_marks func81 rfl h81 ?_ hro; simp only [ntmps81, List.size_toArray, List.length_cons, List.length_nil, Nat.reduceAdd, Nat.reduceSub, Array.replicate_succ, Array.replicate_zero, List.push_toArray, List.append_toArray, List.nil_append, List.cons_append]
 gi_wp2_with (gi_at_call 156; refine (E7f F (n - 1) h156 hro _ _).mono ?_; rintro e w' ⟨rfl, rfl⟩)
 obtain ⟨w2, hw2⟩ : ∃ w2, (w.alloc (.cells #[.slice none 0 0] 117)).alloc (.cells #[.int .u32 (s : Int)] 43) = w2 := ⟨_, rfl⟩; have bO : Boxed w2 w.heap.size 117 (.slice none 0 0) := by rw [← hw2]; exact (Boxed.new w 117 (.slice none 0 0)).alloc _
 have bS : Boxed w2 (w.heap.size + 1) 43 (.int .u32 (s : Int)) := by rw [← hw2]; have := Boxed.new (w.alloc (.cells #[.slice none 0 0] 117)) 43 (.int .u32 (s : Int)); rwa [World.size_alloc] at this
 have hsz2 : w2.heap.size = w.heap.size + 2 := by rw [← hw2]; simp
 have hB2 : Below w.heap.size w w2 := by rw [← hw2]; exact ((Below.refl _ w).alloc (Nat.le_refl _) _).alloc Ec _
 have hrw : ∀ {A B : World}, B.heap[w.heap.size + 1]? = A.heap[w.heap.size + 1]? → ∀ u, Boxed A (w.heap.size + 1) 43 u → Boxed B (w.heap.size + 1) 43 u := fun h u hu => h.trans hu
 simp only [World.size_alloc, hw2]
 refine C6y hro h1 (gf := 208) (lb := #[.pointer (some ⟨w.heap.size + 1, 0, none⟩)]) rfl h208 (enters_of func208 (by kernel_rfl) rfl) (encs := fun x : Int => #[iv x]) (fun _ => rfl)
  (fun pre W => (∃ v, Boxed W w.heap.size 117 v ∧ W.ownsRow w.heap.size 3 1 v pre.length (pre.map (Value.int .i64))) ∧ (∃ u, Boxed W (w.heap.size + 1) 43 u) ∧ Below w.heap.size w W)
  (fun pre x => pre.length < 24 ∧ (0 ≤ x ∧ x < 24)) (fun W W' => W'.heap[w.heap.size + 1]? = W.heap[w.heap.size + 1]?)
  ?ip ?ia ⟨⟨_, bO, World.ownsRow_nil _ _ _ _⟩, ⟨_, bS⟩, hB2⟩ (fun h k => k.trans h) ?kp (A4 s) ?it
  (fun x => { tmps := #[.int .u32 (s : Int), undef, .slice none 0 0, .pointer (some ⟨w.heap.size, 0, none⟩), iv x, .int .u32 (s : Int), .func (.func 208) #[] #[.pointer (some ⟨w.heap.size + 1, 0, none⟩)], iv x, undef, undef, undef, undef, undef], defers := [] }) ?assign ?body ?done
 case ip =>
  rintro pre A l o o0 ⟨⟨v, hv, hr⟩, ⟨u, hu⟩, hB⟩ hl hc hle; refine ⟨⟨v, (World.putObj_heap_other A3).trans hv, ownsRow_putObj hr o hl hc⟩, ⟨u, (World.putObj_heap_other A3).trans hu⟩, hB.trans ⟨rfl, rfl, rfl, by simp, fun k hk => World.putObj_heap_other A3⟩⟩
 case ia =>
  rintro pre A o ⟨⟨v, hv, hr⟩, ⟨u, hu⟩, hB⟩ hle; exact ⟨⟨v, hv.alloc o, hr.kept (World.grownBy_alloc A o none) (by rcases hr.2 with ⟨rfl, _⟩ | ⟨g, cap, cur, rfl, _⟩; exact .inl rfl; exact .inr (by simp [Value.ownBlock]))⟩, ⟨u, hu.alloc o⟩, hB.alloc A3 o⟩
 case kp =>
  intro A l o o0 hl hc hle; exact World.putObj_heap_other A3
 case it =>
  intro l J W1 hJI hJk hY h0 hk1; refine in1 F (n - 1) h208 h209 hro A3 l (w.heap.size + 1) s J (fun pre x W hj hl hx => hY pre x W hj ⟨hl, hx⟩) (fun pre W hj => ?_) (fun pre W v hj => ?_) hs W1 ?_ h0
  ·intro i hi; exact ((hJI _ _ hj).2.2.cell (p := ⟨0, i, none⟩) hw).trans (hT i hi)
  ·obtain ⟨⟨v0, hv0, hr⟩, ⟨u, hu⟩, hB⟩ := hJI _ _ hj; refine hJk pre W _ hj ⟨⟨v0, hv0.other A3 v, hr.kept (grownBy_setCell' W (w.heap.size + 1) v) (.inr (hu.not_row K1 hr).symm)⟩, ⟨_, hu.set v⟩, hB.setCell (p := ⟨w.heap.size + 1, 0, none⟩) Ec v⟩ (fun k o hk ho => (KeepsOthers.setCell W _ v).same k o hk ho)
  ·exact (hk1 _ A3).trans bS
 case assign =>
  intro l x W K hK
  gi_wp2
  exact hK
 case body =>
  rintro l pre x W ⟨⟨v, hv, hrow⟩, ⟨u, hu⟩, hB⟩ ⟨hlt, hx⟩; have hc := hv.cell
  gi_wp2_with (gi_at_builtin; refine wpListIn_append_own _ rfl _ _ 117 rfl w.heap.size 3 i0 (iv 0) 1 8 Tryz.underlying117 hi hz0 hz1 hz2 rfl K1 _ _ _ rfl (hrow.alloc _) ⟨W.heap.size, 0, none⟩ 1 1 [iv x] rfl rfl (cell_one_new _ _ _) (by simp [Value.oneCell']) (by unfold maxLen; omega) A3 (by have := hB.size; simp; omega) ?_; intro v' w1 hown' hgrow _; obtain ⟨g', cap', rfl⟩ := ownsRow_succ hown'; obtain ⟨hv1, hv2, hr2, hk2, hb2⟩ := hv.appended K1 hrow hB.size (Nat.le_refl _) hown' hgrow; have hc1 := hv1.cell; have hf1 := hv1.frozen)
  have hu1 := ((hu.alloc (.cells #[iv x] 3)).kept hgrow (hu.not_row K1 hrow)).other (B' := w.heap.size) A3 (.slice (some ⟨g', 0, none⟩) (pre.length + 1) cap'); exact ⟨hu1.trans hu.symm, ⟨_, hv2, by simpa using hr2⟩, ⟨u, hu1⟩, hB.trans hb2⟩
 case done =>
  rintro D W hD ⟨⟨v, hv, hrow⟩, _, hB⟩ hK; have hc := hv.cell
  gi_wp2
  refine ⟨by simp, .inl ⟨_, _, rfl, run_takeDeferred hK, ?_⟩⟩; exact ⟨_, results_tmp rfl _ _ _, v, rfl, ownsRow_putObj hrow _ hK rfl, hB.trans ⟨rfl, rfl, rfl, by simp, fun k hk => World.putObj_heap_other A3⟩⟩
abbrev Un : Fact := At 0 0 (Lib.deBruijn32tab.map fun (v : Nat) => Value.int .u8 (v : Int))
theorem E1a {ok : Nat → Prop} {w : World} (h : Un.f ok w) (hk : ∀ b, ok b → b < w.heap.size) : TabAt 0 Lib.deBruijn32tab w ∧ 0 < w.heap.size := by
 refine ⟨fun j hj => ?_, hk _ h.1⟩; have h1 := h.2 j (.int .u8 (Lib.deBruijn32tab.getD j 0 : Nat)) (by rw [List.getElem?_map, List.getD_eq_getElem?_getD, List.getElem?_eq_getElem hj]; rfl)
 rwa [Nat.zero_add] at h1
theorem C8a (s : Nat) (hs : s < 4294967296) : Spec prog 81 #[.int .u32 (s : Int)] [Un] [] (fun x : SH => sl x (A4 s).length) (fun _ => []) (fun x => [Ar 1 3 x (A4 s).length (Ds (A4 s))]) := fun ok w hok hst => by
 obtain ⟨hT, hw⟩ := E1a (hst.facts Un List.mem_cons_self) (fun b hb => hb.2.1); refine (callsIn_wide.mp (D8i Fence.wide 3 trivial trivial trivial trivial rfl (Nat.le_refl _) s hs w hw hT)).mono fun e w' hh => ?_
 obtain ⟨v, rfl, hrow, hB⟩ := hh; obtain ⟨a, rfl⟩ := C4d hrow
 have hrow0 : w'.ownsRow 0 3 1 (sl a (A4 s).length) (A4 s).length (Ds (A4 s)) := by
  have h1 : w'.ownsRow 0 3 1 (sl a (A4 s).length) (A4 s).length ((A4 s).map (Value.int .i64)) := ⟨hrow.1, hrow.2.imp id (fun ⟨g, cap, cur, q1, q2, q3⟩ => ⟨g, cap, cur, q1, Nat.zero_le _, q3⟩)⟩
  rwa [show (A4 s).map (Value.int .i64) = Ds (A4 s) from by induction (A4 s) with | nil => rfl | cons y ys ih => (simp only [List.map_cons, Ds, List.flatMap_cons, Me, List.singleton_append] at ih ⊢; rw [ih])] at h1
 refine ⟨a, rfl, ⟨hB.os, hB.tape, hB.output, hB.size, fun b hb _ => hB.block b hb⟩, fun _ hF => (by cases hF), ?_, ?_, List.pairwise_singleton _ _⟩
 ·intro m hm w2 hw2; rw [List.mem_singleton] at hm; subst hm; exact A3e hrow0 (fun b hb => hw2 b hb)
 ·intro m hm b hb; rw [List.mem_singleton] at hm; subst hm; have := hrow.lt b hb; exact ⟨this.2, .inr this.1⟩
theorem Zm (s : Nat) (hs : s < 4294967296) : Spec prog 81 #[.int .u32 (s : Int)] [Un] [] (fun x : SH => sl x (A4 s).length) (fun x => [IL (A4 s) x]) (fun _ => []) := fun ok w hok hst => (C8a s hs ok w hok hst).mono fun e w' hh => by
 obtain ⟨x, he, h⟩ := hh; have hl : (A4 s).length ≤ 24 := Hf s 24; exact ⟨x, he, h.M4 trivial rfl rfl (by unfold reach; omega) (fun c hc => by have := N6 hc; unfold Au; omega)⟩
end Go.Hy
namespace Go.Hy
open Go.Proofs Go.Proofs.Tryz
set_option maxRecDepth 100000
theorem Jn (i : Int) : Spec prog 176 #[iv i] [] [] (fun _ : Unit => .bool (decide (0 ≤ i) && decide (i < 24))) (fun _ => []) (fun _ => []) := by
 refine Cy ntmps176 fun B hB => ?_
 refine H3 ?_; refine A6j ?_; refine Ek ?_; refine qI rfl rfl rfl I9 (fun hg5 => Cx ?_) (fun hg5 => ?_)
 ·refine B9e ?_; refine Gn ?_; refine Ax f_ rfl A7 () (by first | (simp_all; done) | (simp_all; omega)) (fun w hs => hs.none)
 ·refine zq4 ?_; refine K6 ?_; refine Ax f_ rfl A7 () (by first | (simp_all; done) | (simp_all; omega)) (fun w hs => hs.none)
theorem Tg (s : Nat) (hs : s < 4294967296) : Spec prog 87 #[.int .u32 (s : Int)] [] [] (fun _ : Unit => .bool (decide (s < 16777216))) (fun _ => []) (fun _ => []) := by
 refine Cy ntmps87 fun B hB => ?_
 refine H3 ?_; refine q0 rfl (Tf ?_ (b := 16777215)); refine q0 rfl (Xz ?_ (b := 0)); refine Ci ?_; refine Ax f_ rfl A7 () (by rw [B8w hs]) (fun w hs => hs.none)
theorem Ys (s : Nat) (hs : s < 4294967296) : Spec prog 175 #[.int .u32 (s : Int), iv (-1)] [] [] (fun _ : Unit => .int .u32 ((s &&& 16777215 : Nat) : Int)) (fun _ => []) (fun _ => []) := by
 refine Cy ntmps175 fun B hB => ?_
 refine H3 ?_; refine q0 rfl (Kf ?_ (b := 16777215)); refine Ci ?_; refine Gl ?_; refine q0 rfl (A0 call176 (Jn (-1)) (fun x8 => ?_)); refine H4 ?_; refine A8 (fun h9 => ?_) (fun h9 => ?_)
 ·refine O2 ?_; refine Ax f_ rfl A7 () rfl (fun w hs => hs.none)
 ·exact absurd h9 K1
theorem We : D6d := by
 intro l a; refine Cy ntmps97 fun B hB => ?_
 refine A5 (l := l) (a := a) (fun hl1 hA1 hU1 => ?_); refine C9 ?_; refine Pu ?_; refine Eu (X := Nat) (fun i => i ≤ l.length) (fun i => [(3, .int .u32 (Fm l i : Int)), (6, sl a l.length), (7, iv (l.length : Int)), (8, iv (i : Int))]) (fun i => [CL l a]) (fun i => []) (fun i => l.length - i) (0) (Nat.zero_le _) (by exact C7) ?_ ?_
 ·exact fun w hs => hs.l8
 ·intro i base0 hi next0; refine Fg ?_; refine A8 (fun h9 => ?_) (fun h9 => ?_)
  ·have hlt : i < l.length := by have := of_decide_eq_true h9; omega
   obtain ⟨bk, o, hav⟩ := hA1 A3; have hu := hU1 _ (Ag (d := A6) hlt); have hup := A8u hU1 i; have hor : (l.getD i A6).pos ||| (l.getD i A6).neg < 4294967296 := Nat.or_lt_two_pow (n := 32) hu.1 hu.2; refine J8 ?_; refine Pr ?_; refine Oz ?_; refine q0 rfl (Bk fun b5 => ?_); refine En ?_; refine De ?_; refine Ln ?_; refine Ln ?_; refine q0 rfl (Oj ?_ (a := (l.getD i A6).pos) (b := (l.getD i A6).neg) (ha := hu.1) (hb := hu.2)); refine q0 rfl (Oj ?_ (a := Fm l i) (b := (l.getD i A6).pos ||| (l.getD i A6).neg)); refine P3 ?_; refine A1 (fun w hs => ?_) (next0 (i + 1) _ hlt A3 ⟨by rw [A0r hlt]; rfl, rfl, rfl, rfl, trivial⟩); exact (hs.l8).bare
  ·have hge : i = l.length := by have := of_decide_eq_false h9; omega
   refine E4 ?_; refine Ft ?_; refine q0 rfl (A0 call175 (Ys (Fm l i) (A8u hU1 i)) (fun x21 => ?_)); refine Ci ?_; refine Ax f_ rfl A7 () (by rw [A5k, ← hge]) (fun w hs => hs.none)
theorem N8 (c : Cl) (hc : u32 c) : Spec prog 33 #[.agg (As c).toArray] [] [] (fun _ : Unit => .bool (Av c)) (fun _ => []) (fun _ => []) := by
 refine Cy ntmps33 fun B hB => ?_
 refine Bf ?_; refine q0 rfl (Ba fun b1 => ?_); refine Ci ?_; refine Lr ?_; refine q0 rfl (A0 call87 (Tg c.pos hc.1) (fun x5 => ?_)); refine Ek ?_; refine qI rfl rfl rfl I9 (fun hg6 => Zh ?_) (fun hg6 => ?_)
 ·refine Vi ?_; refine qT rfl rfl rfl (A0 call87 (Tg c.neg hc.2) (fun x9 => ?_)); refine Gn ?_; refine Ax f_ rfl A7 () (by first | (simp_all [Av]; done) | (simp_all [Av]; intros; omega)) (fun w hs => hs.none)
 ·refine T1 ?_; refine Ax f_ rfl A7 () (by first | (simp_all [Av]; done) | (simp_all [Av]; intros; omega)) (fun w hs => hs.none)
theorem Wk (c : Cl) (hc : u32 c) : Spec prog 34 #[.agg (As c).toArray] [] [] (fun _ : Unit => .bool (Ew c)) (fun _ => []) (fun _ => []) := by
 refine Cy ntmps34 fun B hB => ?_
 refine Bf ?_; refine q0 rfl (Ba fun b1 => ?_); refine Ci ?_; refine Lr ?_; refine Ln ?_; refine q0 rfl (Kf ?_ (a := c.pos) (b := c.neg) (ha := hc.1) (hb := hc.2)); refine q0 rfl (A8x ?_ (b := 0)); refine Ci ?_; refine Ax f_ rfl A7 () (by simp only [Ew]; congr 1; apply decide_eq_decide.mpr; omega) (fun w hs => hs.none)
theorem Zl (c d : Cl) (hc : u32 c) (hd : u32 d) : Spec prog 93 #[.agg (As c).toArray, .agg (As d).toArray] [] [] (fun _ : Unit => .agg (As (Dr c d)).toArray) (fun _ => []) (fun _ => []) := by
 refine Cy ntmps93 fun B hB => ?_
 refine Bf ?_; refine q0 rfl (Ba fun b2 => ?_); refine q0 rfl (Ba fun b3 => ?_); refine q0 rfl (Bk fun b4 => ?_); refine Lo ?_; refine Lr ?_; refine Ln ?_; refine q0 rfl (Oj ?_ (a := c.pos) (b := d.pos) (ha := hc.1) (hb := hd.1)); refine Ln ?_; refine Ln ?_; refine q0 rfl (Oj ?_ (a := c.neg) (b := d.neg) (ha := hc.2) (hb := hd.2)); refine q0 rfl (B6 (cs := As (Dr c d)) ?_); refine En ?_; refine Ks f_ rfl () rfl Dp rfl rfl rfl rfl (fun w hs => hs.none)
theorem C2j (c d : Cl) (hc : u32 c) (hd : u32 d) : Spec prog 169 #[.agg (As c).toArray, .agg (As d).toArray] [] [] (fun _ : Unit => .bool (below c d)) (fun _ => []) (fun _ => []) := by
 refine Cy ntmps169 fun B hB => ?_
 refine Bf ?_; refine q0 rfl (Ba fun b2 => ?_); refine q0 rfl (Ba fun b3 => ?_); refine Ez ?_; refine Bm (pn := 1000000) (tn := false) (A := [0, 0, 3, 0, 15, 31]) (l := [0, 1, 3, 2, 4, 5]) (fin := []) Tab.mixed ⟨_, func169⟩ (by rfl) ?_; refine Oa ?_; refine Oa ?_; refine Oa ?_; refine n0 rfl (Bg call93 (Zl c d hc hd) (fun x7 => ?_)); refine n0 rfl (E5r ?_ (c := Dr c d) (c' := c)); refine P4 ?_; refine Ax f_ rfl A7 () (by rw [C2l]) (fun w hs => hs.none)
end Go.Hy
namespace Go.Hy
open Go.Proofs Go.Proofs.Tryz
set_option maxRecDepth 100000
open Go.Shelf Go.RowKit Go.Lib Go.Sort
theorem D8n (a : Int) (W : World) : Calls prog 247 #[.int .u32 a] W fun e w' => e = .returned (.bool false) ∧ w' = W := by
 go_enter func247, ntmps247
 go_wp2
 go_ret
 exact ⟨by simp, rfl⟩
theorem C9e (a b : Int) (W : World) : Calls prog 223 #[.int .u32 a, .int .u32 b] W fun e w' => e = .returned (iv (compareInt a b)) ∧ w' = W := by
 go_enter func223, ntmps223
 go_wp2_with (go_at_call 247; refine (D8n _ _).mono ?_; rintro e w' ⟨rfl, rfl⟩)
 all_goals (go_ret; refine ⟨?_, rfl⟩; unfold Lib.compareInt; (repeat' split) <;> first | rfl | (exfalso; omega))
def B8j (c d : Cl) : Int := if c.pos = d.pos then compareInt c.neg d.neg else compareInt c.pos d.pos
set_option maxHeartbeats 1000000 in
theorem E9e (c d : Cl) (W : World) : Calls prog 171 #[.agg #[.int .u32 c.pos, .int .u32 c.neg], .agg #[.int .u32 d.pos, .int .u32 d.neg]] W fun e w' => e = .returned (iv (B8j c d)) ∧ ∃ q os', w' = grow (W.drewN q) os' := by
 have hcon := fun a b W' => C9e a b W'
 have e1 : B8j c d = if (c.pos : Int) = d.pos then compareInt c.neg d.neg else compareInt c.pos d.pos := by unfold B8j; simp only [Int.ofNat_inj]
 generalize hr : B8j c d = r at e1 ⊢
 go_enter func171, ntmps171
 go_wp2_with (go_at_call 223; refine (hcon _ _ _).mono ?_; rintro e w' ⟨rfl, rfl⟩)
 all_goals (go_ret; refine ⟨?_, 0, _, by rw [alloc_eq_grow, alloc_eq_grow, grow_grow]; rfl⟩)
 all_goals (rw [e1]; simp_all)
instance : Inhabited Cl := ⟨A6⟩
theorem B3r (c d : Cl) : ltOf B8j c d = D0 c d := by
 unfold ltOf B8j D0 compareInt; by_cases h : c.pos = d.pos
 ·simp only [h, if_true]; by_cases h2 : c.neg < d.neg
  ·rw [if_pos A3]; simp [h2]
  ·rw [if_neg A3]; split <;> simp [h2]
 ·simp only [h, if_false]; by_cases h2 : c.pos < d.pos
  ·rw [if_pos A3]; simp [h2]
  ·rw [if_neg A3, if_pos A3]; simp [h2]
theorem D8u : SWO (ltOf B8j) where
 irrefl x := by rw [B3r]; simp [D0]
 trans x y z h1 h2 := by
  rw [B3r] at *; simp only [D0, Bool.or_eq_true, Bool.and_eq_true, decide_eq_true_eq] at *; omega
 ntrans x y z h1 h2 := by
  rw [B3r] at *; simp only [D0, Bool.or_eq_false_iff, Bool.and_eq_false_iff, decide_eq_false_iff_not] at *; omega
theorem Yd (d : Array Cl) : (flatK As 2 d).toList = Ad d.toList := by
 apply List.ext_getElem?; intro t; have hl : (Ad d.toList).length = d.size * 2 := by rw [Pn G6]; simp
 by_cases ht : t < d.size * 2
 ·have h1 : (flatK As 2 d).toList[t]? = some (As d[t / 2]!)[t % 2]! := by
   have hs : t < (flatK As 2 d).size := by rw [size_flatK]; exact ht
   rw [Array.getElem?_toList, Array.getElem?_eq_getElem hs]; have := get_flatK As 2 d t ht; rw [getElem!_pos _ t hs] at this; rw [this]
  rw [h1]; have hd : t / 2 < d.toList.length := by simp; omega
  have e : d.toList.getD (t / 2) A6 = d[t / 2]! := by
   have : t / 2 < d.size := by simpa using hd
   rw [getElem!_pos d (t / 2) this, List.getD_eq_getElem?_getD, List.getElem?_eq_getElem hd]; simp
  have h2 : (As (d.toList.getD (t / 2) A6))[t % 2]? = some (As d[t / 2]!)[t % 2]! := by
   rw [e]; have : t % 2 < (As d[t / 2]!).length := by rw [G6]; omega
   rw [List.getElem?_eq_getElem this, getElem!_pos (As d[t / 2]!) (t % 2) this]
  have := A2a G6 A6 d.toList (t / 2) (t % 2) _ hd h2; rw [show t / 2 * 2 + t % 2 = t by omega] at this; exact this.symm
 ·rw [List.getElem?_eq_none (by simp; omega), List.getElem?_eq_none A3]
theorem C7b (d : Array Cl) (l : List Cl) (rest : List Value) (hs : d.size = l.length) : putCells id 0 (flatK As 2 d) (Ad l ++ rest).toArray = (Ad d.toList ++ rest).toArray := by
 apply Array.ext_getElem?; intro t; have hl : (Ad l).length = d.size * 2 := by rw [Pn G6, hs]
 have hl2 : (Ad d.toList).length = d.size * 2 := by rw [Pn G6]; simp
 simp only [putCells, Array.getElem?_mapIdx, List.getElem?_toArray, size_flatK, Nat.zero_add, Nat.zero_le, true_and, Nat.sub_zero, id]; by_cases ht : t < d.size * 2
 ·rw [List.getElem?_append_left A3, List.getElem?_append_left A3]
  have h1 : (Ad d.toList)[t]? = some (flatK As 2 d)[t]! := by
   rw [← Yd, Array.getElem?_toList]; have hsz : t < (flatK As 2 d).size := by rw [size_flatK]; exact ht
   rw [Array.getElem?_eq_getElem hsz, getElem!_pos _ t hsz]
  rw [h1]; obtain ⟨v, hv⟩ : ∃ v, (Ad l)[t]? = some v := ⟨_, List.getElem?_eq_getElem A3⟩; rw [hv, Option.map_some, if_pos ht]
 ·rw [List.getElem?_append_right A3, List.getElem?_append_right A3, hl, hl2]; cases rest[t - d.size * 2]? with
  | none => rfl
  | some v => rw [Option.map_some, if_neg ht]
theorem C6m (l : List Cl) (g cap : Nat) (rest : List Value) (hn : l.length < 4611686018427387904) :
  Spec prog 170 #[.slice (some ⟨g, 0, none⟩) l.length cap, .func (.func 171) #[] #[]] [] [Ae g (Ad l ++ rest) 45] (fun _ : {l' : List Cl // l'.Perm l ∧ l'.Pairwise fun a b => D0 b a = false} => .tuple #[]) (fun _ => []) (fun x => [Ae g (Ad x.1 ++ rest) 45]) := by
 intro ok w hok hs; have hg : w.heap[g]? = some (.cells (Ad l ++ rest).toArray 45 (0, 0)) := hs.res _ List.mem_cons_self w (fun _ _ => rfl); have hlt : g < w.heap.size := (Array.getElem?_eq_some_iff.mp hg).1; have hu : prog.underlying 45 = some (.struct (TyF.fC prog)) := TyF.uC
 have aE : ∀ w, (isAgg (Tryz.Z5.t 24)).run prog w = .ok true w := fun w => by
  show (isAgg 45).run prog w = _; simp [isAgg, run_underlying hu]
 have zE : ∀ w, (Go.sizeOf (Tryz.Z5.t 24)).run prog w = .ok 2 w := fun w => Gw (P := prog) (t := 45) rfl w
 have hH : HoldsK As 2 w g 0 l.toArray := by
  intro j hj; rw [size_flatK] at hj; have e : (flatK As 2 l.toArray).toList = Ad l := by rw [Yd]
  have hsz : j < (flatK As 2 l.toArray).size := by rw [size_flatK]; exact hj
  have h1 : (Ad l)[j]? = some (flatK As 2 l.toArray)[j]! := by
   rw [← e, Array.getElem?_toList, Array.getElem?_eq_getElem hsz, getElem!_pos _ j hsz]
  refine ⟨?_, by simp [World.frozen?, hg]⟩; have hlen : j < (Ad l).length := (List.getElem?_eq_some_iff.mp h1).1; simp only [World.cell?, hg, Nat.zero_add, Option.isSome_none, Bool.false_eq_true, if_false, List.getElem?_toArray, id]; rw [List.getElem?_append_left hlen]; exact h1
 have hc := AnyQ.slices_SortFunc (P := prog) Tryz.D9r 2 aE zE As G6 (fun x v hv => by
   simp only [As, List.mem_cons, List.not_mem_nil, or_false] at hv; rcases hv with rfl | rfl <;> rfl) B8j D8u 171 #[] g 0 cap l.toArray w call171
  (fun m os dk hsz x y => E9e x y _) hH hlt (by simpa using hn)
 have hc2 : Calls prog 170 #[.slice (some ⟨g, 0, none⟩) l.length cap, .func (.func 171) #[] #[]] w _ := hc; refine hc2.mono ?_; rintro e w' ⟨he, d', n, os, hp, hsd, hw⟩; have hsize : d'.size = l.length := by simpa using hp.1
 have hperm : d'.toList.Perm l := by
  have := hp.2.2; have e1 : d'.extract 0 l.toArray.size = d' := by rw [show l.toArray.size = d'.size by simp [hsize]]; simp
  have e2 : l.toArray.extract 0 l.toArray.size = l.toArray := by simp
  rw [e1, e2] at this; exact this
 have hsorted : d'.toList.Pairwise fun a b => D0 b a = false := by
  rw [List.pairwise_iff_getElem]; intro i j hi hj hij; have hi' : i < d'.size := by simpa using hi
  have hj' : j < d'.size := by simpa using hj
  have := hsd i j (Nat.zero_le _) hij (by simp; omega); rw [B3r, getElem!_pos d' j hj', getElem!_pos d' i hi'] at this; simpa using this
 have hg' : w'.heap[g]? = some (.cells (Ad d'.toList ++ rest).toArray 45 (0, 0)) := by
  rw [hw]; show ((mapBlock (Go.Sort.ahead w n) g (putCells id 0 (flatK As 2 d'))).heap ++ os)[g]? = _; rw [Array.getElem?_append_left (by simp [mapBlock, Go.Sort.ahead]; exact hlt)]; simp only [mapBlock, Go.Sort.ahead, Array.getElem?_modify, if_true, hg, Option.map_some, onCells]; rw [C7b d' l rest hsize]
 have hold : ∀ b, b < w.heap.size → b ≠ g → w'.heap[b]? = w.heap[b]? := by
  intro b hb hne; rw [hw]; show ((mapBlock (Go.Sort.ahead w n) g (putCells id 0 (flatK As 2 d'))).heap ++ os)[b]? = _; rw [Array.getElem?_append_left (by simp [mapBlock, Go.Sort.ahead]; exact hb)]; simp only [mapBlock, Go.Sort.ahead, Array.getElem?_modify, if_neg (Ne.symm hne)]
 have hsz' : w.heap.size ≤ w'.heap.size := by rw [hw]; simp [sortWorldK, putRowK, Go.Sort.ahead]
 refine ⟨⟨d'.toList, hperm, hsorted⟩, he, ?_⟩; have h0 : St ⟨ok, C0 [Ae g (Ad l ++ rest) 45], w⟩ [] ([Ae g (Ad l ++ rest) 45]) w := hs
 refine h0.Fv (m' := Ae g (Ad d'.toList ++ rest) 45) ⟨by rw [hw]; rfl, by rw [hw]; rfl, by rw [hw]; rfl, hsz', fun b hb hn => hold b hb hn⟩ (fun w2 hw2 => by
  show w2.heap[g]? = _; rw [hw2 g rfl]; exact hg') (fun b hb => ?_)
 have hb : b = g := hb; subst hb; exact ⟨by omega, .inl rfl⟩
end Go.Hy
namespace Go.Hy
open Go.Proofs Go.Proofs.Tryz
set_option maxRecDepth 100000
theorem C3x {M : List Bq} : M.Perm (M ++ []) := by rw [List.append_nil]
theorem C1h (l : List Cl) (a : SH) (c : FuncId) (cap : List Value) (FΓ : List Fact) (M : List Bq) (g : Cl → Bool) (hc : ∀ (args : Array Value) (w : World), (callFunc c args).run prog w = .ok (.enter c args) w) (hcl : ∀ x, x ∈ l → Spec prog c (Fa x :: cap).toArray FΓ M (fun _ : Unit => .bool (g x)) (fun _ => []) (fun _ => M)) : Spec prog 220 #[sl a l.length, .func (.func c) #[] cap.toArray] (CL l a :: FΓ) M (fun _ : Unit => iv (C1i g l)) (fun _ => []) (fun _ => M) := by
 refine Cy ntmps220 fun B hB => ?_
 refine A5 (l := l) (a := a) (fun hl1 hA1 hU1 => ?_); refine Pu ?_; refine Eu (X := Nat) (fun i => i ≤ l.length ∧ ∀ j, j < i → g (l.getD j A6) = false) (fun i => [(0, sl a l.length), (1, .func (.func c) #[] cap.toArray), (7, iv (l.length : Int)), (8, iv (i : Int))]) (fun i => CL l a :: FΓ) (fun i => M) (fun i => l.length - i) (0) (⟨Nat.zero_le _, fun j hj => by omega⟩) (by exact C7) ?_ ?_
 ·exact fun w hs => hs
 ·intro i base0 ⟨hi, hok⟩ next0; refine Fg ?_; refine A8 (fun h9 => ?_) (fun h9 => ?_)
  ·have hlt : i < l.length := by have := of_decide_eq_true h9; omega
   obtain ⟨bk, o, hav⟩ := hA1 A3; refine J4 ?_; refine O2 ?_; refine Ft ?_; refine Fb ?_; refine Pr ?_; refine Oz ?_; refine q0 rfl (Fy hc (hcl _ (Ag hlt)) (cap := cap) (fun x16 => ?_) (hm := C3x)); refine Lo ?_; refine A8 (fun h16 => ?_) (fun h16 => ?_)
   ·refine O2 ?_; refine Ax f_ rfl A7 () (by rw [D8p hlt h16 hok]) (fun w hs => (hs.l8).Bx)
   ·refine It ?_; refine A1 (fun w hs => ?_) (next0 (i + 1) _ ⟨hlt, fun j hj => (by rcases Nat.lt_succ_iff_lt_or_eq.mp hj with h | h; exact hok j h; subst h; exact h16)⟩ A3 C7); exact (hs.l9).Bx
  ·have hge : i = l.length := by have := of_decide_eq_false h9; omega
   refine P7 ?_; refine Ax f_ rfl A7 () (by rw [C8m (by rw [← hge]; exact hok)]) (fun w hs => hs.l8)
theorem Ve (l : List Cl) (a : SH) (c : FuncId) (cap : List Value) (FΓ : List Fact) (M : List Bq) (g : Cl → Bool) (hc : ∀ (args : Array Value) (w : World), (callFunc c args).run prog w = .ok (.enter c args) w) (hcl : ∀ x, x ∈ l → Spec prog c (Fa x :: cap).toArray FΓ M (fun _ : Unit => .bool (g x)) (fun _ => []) (fun _ => M)) : Spec prog 166 #[sl a l.length, .func (.func c) #[] cap.toArray] (CL l a :: FΓ) M (fun _ : Unit => .bool (l.any g)) (fun _ => []) (fun _ => M) := by
 refine Cy ntmps166 fun B hB => ?_
 refine H3 ?_; refine Ek ?_; refine q0 rfl (A0 call220 (C1h l a c cap FΓ M g hc hcl) (fun x7 => ?_) (hm := C3x)); refine A6j ?_; refine Ci ?_; refine Ax f_ rfl A7 () (by rw [B7q]) (fun w hs => (hs.l8).Bx)
theorem B2u (c d : Cl) (hc : u32 c) (hd : u32 d) (b : Nat) : Spec prog 168 #[Fa d, pz b] [] [Ae b (As c) 45] (fun _ : Unit => .bool (!decide (c = d) && below c d)) (fun _ => []) (fun _ => [Ae b (As c) 45]) := by
 refine Cy ntmps168 fun B hB => ?_
 refine Bf ?_; refine q0 rfl (Ba fun b2 => ?_); refine Uz ?_; refine I8 ?_; refine q0 rfl (E6q ?_ (c := c) (c' := d)); refine Ek ?_; refine qI rfl rfl rfl I9 (fun hg7 => Td ?_) (fun hg7 => ?_)
 ·refine qT rfl rfl rfl (Td ?_); refine qT rfl rfl rfl (A0 call169 (C2j c d hc hd) (fun x10 => ?_)); refine Gn ?_; refine Ax f_ rfl A7 () (by simp_all) (fun w hs => (hs.l8).drop)
 ·refine T1 ?_; refine Ax f_ rfl A7 () (by simp_all) (fun w hs => (hs.l8).drop)
theorem B7k (l : List Cl) (a : SH) (c : Cl) (hc : u32 c) (b : Nat) : Spec prog 167 #[Fa c, pz b] [CL l a] [Ae b [sl a l.length] 25] (fun _ : Unit => .bool (Cb l c)) (fun _ => []) (fun _ => [Ae b [sl a l.length] 25]) := by
 refine Cy ntmps167 fun B hB => ?_
 refine A5 (l := l) (a := a) (fun hl1 hA1 hU1 => ?_); refine Bf ?_; refine q0 rfl (Ba fun b2 => ?_); refine Ci ?_; refine X0 ?_; refine Su ?_; refine q0 rfl (A0 call166 (Ve l a 168 [pz b2] [] [Ae b2 (As c) 45] (fun d => !decide (c = d) && below c d) call168 (fun d hd => B2u c d hc (hU1 d hd) b2)) (fun x6 => ?_)); refine Ci ?_; refine Ax f_ rfl A7 () rfl (fun w hs => (hs.l8).drop)
end Go.Hy
