/- Contracts of this program's functions and the laws that they need. -/
import Derived.RangeFuncNested
import Derived.RangeFuncBound
import Derived.RangeFuncCalls
import Derived.RangeFuncLeaves
import Derived.RangeFuncBox
import Derived.Shelf.Abstract
import Derived.Shelf.RegionOpen
import Derived.WalkKit
import Derived.OwnWalkIn
import Derived.TacticsInMore
import Derived.LoopNIn
import Derived.LoopIn
import Derived.Tactics2
import Derived.Shelf.SlSortCmp.NoneTotal
import Derived.Test.YtibignmpjeemeaaGreatDoorP7
set_option linter.unusedVariables false
set_option linter.unusedSimpArgs false
set_option linter.unusedSectionVars false
namespace Go.Hy
section
variable {P : Program} [Tab P] {f : FuncId} {fn : Func} {B : C6} {n : Fz} {K : List Item} {σ : Nat → Value} {Γ : List Fact} {Ms : List B4} {X : Type} {val : X → Value} {N : X → List Fact} {Ms1 : X → List B4}
theorem A5m {r t T : Nat} {r2 r3 : Tmp} {b s bt : Nat} {zv v2 v3 : Value} {lay : List (Nat × Nat)} {cs : List Value} (hf : P.funcs[f]? = some fn) (hr : fn.results = #[.cell r t, .tmp r2, .tmp r3]) (x : X) (hb : σ r = .pointer (some ⟨b, 0, none⟩)) (hm : A8 b cs T ∈ Ms) (hl : Tab.lay P t = some lay) (hi : Tab.inf P t = some (s, bt, zv)) (hcs : cs.length = s) (h2 : σ r2 = v2) (h3 : σ r3 = v3) (hv : Value.tuple #[.agg cs.toArray, v2, v3] = val x) (hs : ∀ w, St B Γ Ms w → St B (N x) (Ms1 x) w) (hD : n.defs = [] := by rfl) (hK : okK n.kind := by first | exact .inl rfl | exact .inr rfl) : Es P f (Ends B val N Ms1) B n (.code .ret :: K) σ Γ Ms :=
 go_ret hf (fun a w ha h => by
  have h1 := ha.get r
  rw [hb] at h1
  have h3' := ha.get r2
  rw [h2] at h3'
  have h5 := ha.get r3
  rw [h3] at h5
  have h4 := D5 (P := P) (bk := b) (off := 0) (w := w) hl hi hcs (fun j v hj => by rw [Nat.zero_add]; exact Kn h hm j v hj)
  have h1' : (a.tmps[r]?.getD undef) = .pointer (some ⟨b, 0, none⟩) := by simpa [Array.getD_eq_getD_getElem?] using h1
  have h3'' : (a.tmps[r2]?.getD undef) = v2 := by simpa [Array.getD_eq_getD_getElem?] using h3'
  have h5' : (a.tmps[r3]?.getD undef) = v3 := by simpa [Array.getD_eq_getD_getElem?] using h5
  simp [results, hr, asAddr, h1', h4, h3'', h5', ← hv]) (fun w h => ⟨x, rfl, hs w h⟩) hD hK
end
def Nq (e e2 : Int) : Int := if e = 0 then e2 else e
def kpT (e : Int) (t : T) : T := if e = 0 then t else t0
def kpS (e : Int) (s : SH) : SH := if e = 0 then s else (none, 0)
theorem U5 (e : Int) : Nq 0 e = e := if_pos rfl
theorem A6k {e : Int} {t : T} (h : e = 0) : kpT e t = t := if_pos h
theorem Wz {e : Int} {t : T} (h : e ≠ 0) : kpT e t = t0 := if_neg h
theorem Oo {e : Int} {t : SH} (h : e = 0) : kpS e t = t := if_pos h
theorem L9 {e : Int} {t : SH} (h : e ≠ 0) : kpS e t = (none, 0) := if_neg h
theorem St.kp {B : C6} {Γ : List Fact} {Ms : List B4} {w : World} (e : Int) {t : T} {a b c : SH} (hs : St B Γ Ms w) (h : RT t a b c ∈ Γ) : St B (RT (kpT e t) (kpS e a) (kpS e b) (kpS e c) :: Γ) Ms w := by
 by_cases he : e = 0
 ·rw [A6k he, Oo he, Oo he, Oo he]
  exact hs.less (by
   intro F hF
   rcases List.mem_cons.mp hF with rfl | hF
   ·exact h
   ·exact hF)
 ·rw [Wz he, L9 he, L9 he, L9 he]
  exact hs.J2
theorem A5o {t u : T} {n : Int} (h : (Av t n u).1 ≠ 0) : (Av t n u).2 = t0 := by
 unfold Av at h ⊢
 split
 ·rfl
 ·rename_i h1
  rw [if_neg h1] at h
  split
  ·rfl
  ·rename_i h2
   rw [if_neg h2] at h
   split
   ·rfl
   ·rename_i h3
    rw [if_neg h3] at h
    split
    ·rfl
    ·rename_i h4
     rw [if_neg h4] at h
     cases h5 : Bj (Bt (Uo n) u) t (0, 0) with
     | ok x =>
      rw [h5] at h
      simp only at h ⊢
      split
      ·rfl
      ·rename_i h6
       rw [if_neg h6] at h
       exact absurd rfl h
     | bad e => rfl
theorem B3a {W : Ds} {t : T} {d : Int} (h : (Cg W t d).1 ≠ 0) : (Cg W t d).2 = t0 := by
 rcases Us (W := W) (t := t) (d := d) with ⟨u, _, h2⟩ | ⟨e, _, h2⟩
 ·rw [h2] at h; exact absurd rfl h
 ·rw [h2]
theorem A1f {t : T} {i : Int} {r : List Cl} (h : (Ak t i r).1 ≠ 0) : (Ak t i r).2 = t0 := by
 unfold Ak at h ⊢
 split
 ·rfl
 ·rename_i h1
  rw [if_neg h1] at h
  split
  ·rfl
  ·rename_i h2
   rw [if_neg h2] at h
   by_cases h3 : (Cg (Pd i (Ae r i 1).2) t 0).1 = 0
   ·rw [T9 h3] at h ⊢
    exact B3a h
   ·rw [Qn h3]
theorem B0x {x : Int × T} (h : x.1 ≠ 0 → x.2 = t0) : kpT x.1 x.2 = x.2 := by
 by_cases h0 : x.1 = 0
 ·exact A6k h0
 ·rw [Wz h0, h h0]
def Nl : Option (Int × T) → T
 | none => t0
 | some x => x.2
def Gj : Option (Int × T) → Int
 | none => 0
 | some x => x.1
abbrev Cx (s : Option (Int × T)) : Bool := s.isSome
theorem E0 {t : T} (h : F5 t) {k : Int} {n : Nat} (hk : t.kind = k) (hn : D3 k = (n : Int)) : t.kids.length = n := by
 have := (G8.mp h).2.1
 rw [hk, hn] at this
 omega
theorem R0 {t : T} {i : Nat} (h : F5 t) (hi : i < t.kids.length) : F5 (t.kids.getD i t0) := by
 obtain ⟨p, hp, e⟩ := Ex (Ad (d := t0) hi)
 exact e ▸ Jx h hp
theorem A3p (r : List Cl) : Je r = 0 ∨ Je r = 1 ∨ Je r = -1 := by
 unfold Je
 split
 ·exact .inl rfl
 ·split
  ·exact .inr (.inl rfl)
  ·exact .inr (.inr rfl)
def Ph (e : Int) (t : T) : Int × Bool × T := if e ≠ 0 then (e, false, t0) else if A7 t ≠ 0 then (A7 t, false, t0) else (0, true, t)
theorem A8o {t : T} (h : A7 t = 0) (h0 : ¬ Dj t.sys < 0) : (Dj t.sys).toNat < t.sys.length ∧ 0 < (F9 t).length := by
 have hf := G8.mp (Cj.mp h).2
 have hlt : (Dj t.sys).toNat < t.sys.length := Xf A1
 have hm := Ad (d := B1) hlt
 have hlen := (Nt.mp hf.2.2.2.2 _ hm).1
 have hp : De t.kind ≠ 0 := fun h9 => by
  have := hf.2.2.1 h9
  rw [this] at hlt
  exact absurd hlt Cs
 have h1 : 1 ≤ De t.kind := by
  unfold De at hp ⊢
  split
  ·omega
  ·split
   ·omega
   ·rename_i h2 h3; rw [if_neg h2, if_neg h3] at hp; exact absurd rfl hp
 exact ⟨hlt, by unfold F9; omega⟩
section
variable {tn : Bool} {pn : Nat} {P : Program} [Tab P] {f : FuncId} {R : Ending → World → Prop} {B : C6} {n : Fz} {K : List Item} {ops : Array Oper} {fin l : List Nat} {σ : Nat → Value} {Γ : List Fact} {Ms : List B4} {i : Nat} {dst : Option Tmp} {ty : TypeId} {x y z : Operand}
theorem B8c {t e : TypeId} {sz bt : Nat} {zv : Value} {cs cs2 cs3 : List Value} (hu : Tab.und P t = some (.slice e)) (hi : Tab.inf P e = some (sz, bt, zv)) (hle : 3 * sz ≤ 16777216) (hx : (ev σ x).cells = cs.toArray) (hy : (ev σ y).cells = cs2.toArray) (hz : (ev σ z).cells = cs3.toArray) (hl : cs.length = sz) (hl2 : cs2.length = sz) (hl3 : cs3.length = sz) :
  N6 P σ (.buildSlice t 3 #[(0, x), (1, y), (2, z)]) ty (fun b => .slice (some ⟨b, 0, Option.none⟩) 3 3) (cs ++ cs2 ++ cs3) e := by
 refine Zv (pv := [(0, ev σ x), (1, ev σ y), (2, ev σ z)]) hu hi hle rfl ?_
 have := Va (sz := sz) [ev σ x, ev σ y, ev σ z] 0 ((List.range (3 * sz)).map (zv.cells[· % zv.cells.size]!)).toArray Cs (fun v hv => by
  simp only [List.mem_cons, List.not_mem_nil, or_false] at hv
  rcases hv with rfl | rfl | rfl
  ·rw [hx]; simpa using hl
  ·rw [hy]; simpa using hl2
  ·rw [hz]; simpa using hl3)
 simpa [hx, hy, hz, List.append_assoc] using this
theorem D2s {t e : TypeId} {sz bt : Nat} {zv : Value} {cs cs2 cs3 : List Value} (k_ : ∀ b, Dw P f R B n K ops l (Af σ dst ((fun b => .slice (some ⟨b, 0, none⟩) 3 3) b)) Γ (A8 b (cs ++ cs2 ++ cs3) e :: Ms)) (hu : Tab.und P t = some (.slice e) := by rfl) (hi : Tab.inf P e = some (sz, bt, zv) := by rfl) (hle : 3 * sz ≤ 16777216 := by decide) (hx : (ev σ x).cells = cs.toArray := by rfl) (hy : (ev σ y).cells = cs2.toArray := by rfl) (hz : (ev σ z).cells = cs3.toArray := by rfl) (hl : cs.length = sz := by rfl) (hl2 : cs2.length = sz := by rfl) (hl3 : cs3.length = sz := by rfl) (hd : Aa n dst = true := by rfl) : Ep P f R B n K ops l (Cb dst (.buildSlice t 3 #[(0, x), (1, y), (2, z)]) ty) σ Γ Ms := Ls (B8c hu hi hle hx hy hz hl hl2 hl3) hd k_
theorem C1q {t e : TypeId} {sz bt : Nat} {zv : Value} {cs cs2 cs3 : List Value} (F : Nat → List Fact) (hF : ∀ b M w, St B Γ (A8 b (cs ++ cs2 ++ cs3) e :: M) w → St B (F b ++ Γ) M w) (k_ : ∀ b, NV tn pn P f R B n K ops fin l (Af σ dst ((fun b => .slice (some ⟨b, 0, none⟩) 3 3) b)) (F b ++ Γ) Ms) (hu : Tab.und P t = some (.slice e) := by rfl) (hi : Tab.inf P e = some (sz, bt, zv) := by rfl) (hle : 3 * sz ≤ 16777216 := by decide) (hx : (ev σ x).cells = cs.toArray := by rfl) (hy : (ev σ y).cells = cs2.toArray := by rfl) (hz : (ev σ z).cells = cs3.toArray := by rfl) (hl : cs.length = sz := by rfl) (hl2 : cs2.length = sz := by rfl) (hl3 : cs3.length = sz := by rfl) (hd : Aa n dst = true := by rfl) (hq : Nat.beq pn 1000001 = true := by rfl) : Jk tn pn P f R B n K ops fin i l dst (.buildSlice t 3 #[(0, x), (1, y), (2, z)]) ty σ Γ Ms := V4 F (B8c hu hi hle hx hy hz hl hl2 hl3) rfl rfl hF hd hq k_
theorem St.C4m {w : World} {b : Nat} {e : TypeId} {cs : List Value} {t u v : T} {vr vk vs ur uk us wr wk ws : SH} (hs : St B Γ (A8 b cs e :: Ms) w) {hBp : Prop} (hB : hBp) (hR : RT t vr vk vs ∈ Γ) (hR2 : RT u ur uk us ∈ Γ) (hR3 : RT v wr wk ws ∈ Γ) (hc : cs = tc t vr vk vs ++ tc u ur uk us ++ tc v wr wk ws) : St B (TL [t, u, v] (some ⟨b, 0, Option.none⟩, 3) :: Γ) Ms w := by
 have h1 := ((hs.Ig (sz := 6) (m := 3) (by rw [hc]; rfl) F2).Zs).Ul (ps := []) (t := t) (vr := vr) (vk := vk) (vs := vs) List.mem_cons_self (List.mem_cons_of_mem _ hR)
 have h2 := h1.Ul (ps := [(t, vr, vk, vs)]) (t := u) (vr := ur) (vk := uk) (vs := us) List.mem_cons_self (by simp [hR2])
 have h3 := h2.Ul (ps := [(t, vr, vk, vs), (u, ur, uk, us)]) (t := v) (vr := wr) (vk := wk) (vs := ws) List.mem_cons_self (by simp [hR3])
 exact (h3.Lt (ps := [(t, vr, vk, vs), (u, ur, uk, us), (v, wr, wk, ws)]) hB List.mem_cons_self (by rw [hc]; simp [Bz, Hk]) rfl rfl F2).less sx_
theorem St.B7a {w : World} (k : Int) (r : List Cl) (ks : List T) (vr vk : SH) (hs : St B Γ Ms w) (h1 : Aj k) (h4 : CL r vr ∈ Γ) (h5 : TL ks vk ∈ Γ) : St B (RT (Cf k r ks) vr vk Bh :: Γ) Ms w :=
 ((hs.B7b 0).B9s h1 (by unfold Aj; omega) (nm := ⟨#[]⟩) (n := 0) (by exact Nat.zero_le _) (r := r) (ks := ks) (ss := []) (vr := vr) (vk := vk) (vs := Bh) (by simp [h4]) (by simp [h5]) Cs).less (by simp +contextual [Cf])
end
theorem C5v {r : List Cl} (h : r.length = 0) : Je r = 0 := if_pos h
theorem C9j {r : List Cl} (h : r.length = 1) (h2 : r.getD 0 B5 = (⟨0, 0⟩ : Cl)) : Je r = 1 := by
 match r, h with
 | [c], _ =>
  have h2 : c = B5 := h2
  subst h2
  rfl
theorem C9k {r : List Cl} (h : r.length ≠ 0) (h2 : r.length ≠ 1 ∨ r.getD 0 B5 ≠ (⟨0, 0⟩ : Cl)) : Je r = -1 := by
 unfold Je
 rw [if_neg h, if_neg]
 rintro rfl
 rcases h2 with h2 | h2
 ·exact h2 rfl
 ·exact h2 rfl
theorem Ni {t : T} (h1 : ¬ (t.kind = 6 ∧ (kd t 0).kind = 5)) (h2 : ¬ ((t.kind = 9 ∨ t.kind = 10) ∧ (kd t 0).kind = 8)) (h3 : t.kind ≠ 13 ∧ t.kind ≠ 21 ∧ t.kind ≠ 26 ∧ t.kind ≠ 22 ∧ t.kind ≠ 27 ∧ t.kind ≠ 28 ∧ t.kind ≠ 14) (h4 : ¬ (t.kind = 18 ∧ (kd t 0).kind = 17) ∨ (Bk t).isSome = true) : Az t = Bk t := by
 unfold Az
 rw [if_neg h1, if_neg h2, if_neg A1, if_neg A1, if_neg A1, if_neg A1, if_neg A1, if_neg A1]
 cases h : Bk t with
 | some x => rfl
 | none =>
  simp only
  rw [if_neg]
  rcases h4 with h4 | h4
  ·exact h4
  ·rw [h] at h4; cases h4
theorem Yd (t : T) : Gj (Eb t) = 0 := by unfold Eb; (repeat' split) <;> rfl
theorem A9y (t : T) : Gj (Dx t) = 0 := by unfold Dx; (repeat' split) <;> rfl
theorem B9l (t : T) : Gj (Gp t) = 0 := by unfold Gp; (repeat' split) <;> rfl
theorem C0m {s : Option (Int × T)} (h : Cx s = true) : Ph (Gj s) (Nl s) = Qc s := by
 cases s with
 | none => cases h
 | some x => rfl
theorem A6n (t : T) (i : Nat) : size (kd t i) ≤ size t := by
 by_cases h : i < t.kids.length
 ·exact Nat.le_of_lt (Ev (t := t) (i := i) h)
 ·have e : kd t i = t0 := by unfold kd; rw [List.getD_eq_getElem?_getD, List.getElem?_eq_none A1]; rfl
  rw [e]
  have h1 : size t0 = 1 := by decide +kernel
  have := size_pos' t
  omega
theorem C7j (t : T) : size ((F9 t).getD 0 t0) ≤ size t := by
 have h1 : size t0 = 1 := by decide +kernel
 have hp := size_pos' t
 by_cases h : (Dj t.sys).toNat < t.sys.length
 ·by_cases h2 : 0 < (F9 t).length
  ·have := Ik (t := t) h (k := 0) (by unfold F9 at h2; omega)
   unfold F9
   omega
  ·rw [List.getD_eq_getElem?_getD, List.getElem?_eq_none A1]
   show size t0 ≤ _
   omega
 ·have e : F9 t = [] := by
   unfold F9
   rw [List.getD_eq_getElem?_getD, List.getElem?_eq_none A1]
   rfl
  rw [e]
  show size t0 ≤ _
  omega
theorem C4j (k : Int) (r : List Cl) (a : T) : size (Cf k r [a]) = 1 + size a := by rw [Dd]; show 1 + Ci [a] + Ew [] = _; simp [Ci, Ew]
theorem B0l (k : Int) (r : List Cl) (a b : T) : size (Cf k r [a, b]) = 1 + size a + size b := by rw [Dd]; show 1 + Ci [a, b] + Ew [] = _; simp [Ci, Ew]; omega
theorem B0k (k : Int) (r : List Cl) (a b c : T) : size (Cf k r [a, b, c]) = 1 + size a + size b + size c := by rw [Dd]; show 1 + Ci [a, b, c] + Ew [] = _; simp [Ci, Ew]; omega
theorem C4k (k : Int) (r : List Cl) : size (Cf k r []) = 1 := by rw [Dd]; show 1 + Ci [] + Ew [] = _; simp [Ci, Ew]
theorem X8 {W : Ds} {t : T} {d : Int} : size (Cg W t d).2 ≤ size t := Zq
theorem take_size (t : T) (i : Int) (r : List Cl) : size (Ak t i r).2 ≤ size t := by
 have h1 : size t0 = 1 := by decide +kernel
 have hp := size_pos' t
 unfold Ak
 split
 ·show size t0 ≤ _; omega
 ·split
  ·show size t0 ≤ _; omega
  ·unfold Xh
   split
   ·show size t0 ≤ _; omega
   ·exact Nat.le_trans X8 X8
theorem Xk {t : T} {y : Int × T} (h : Az t = some y) : size y.2 ≤ 20000 + 10 * size t := by
 have hp := size_pos' t
 have k := fun i => A6n t i
 have kk := fun i j => Nat.le_trans (A6n (kd t i) j) (A6n t i)
 have ht := C7j t
 unfold Az at h
 (repeat' split at h)
 ·injection h with h; subst h; have := A9k (kd (kd t 0) 0) (kd t 1) 0; omega
 ·injection h with h; subst h; have := kk 0 (t.kind - 9).toNat; show size (kd (kd t 0) _) ≤ _; omega
 ·unfold H0 at h
  (repeat' split at h)
  ·injection h with h; subst h; have := k (1 + (Je t.r).toNat); show size (kd t _) ≤ _; omega
  ·injection h with h; subst h; have h1 := take_size (kd (kd t 0) 0) 0 t.r; have := kk 0 0; omega
  ·cases h
 ·unfold Eb at h
  (repeat' split at h)
  ·cases h
  all_goals (injection h with h; subst h; show size (Cf _ _ _) ≤ _; rw [C4k]; omega)
 ·unfold Dx at h
  (repeat' split at h)
  ·injection h with h; subst h; have := k 1; show size (kd t _) ≤ _; omega
  ·injection h with h; subst h; show size (Cf _ _ _) ≤ _; rw [B0k]; have := k 1; have := k 2; omega
  ·cases h
 ·unfold Gp at h
  (repeat' split at h)
  ·injection h with h; subst h; have := k 1; show size (kd t _) ≤ _; omega
  ·injection h with h; subst h; have := k 2; show size (kd t _) ≤ _; omega
  ·injection h with h; subst h; show size (Cf _ _ _) ≤ _; rw [B0k, B0l]; have := k 1; have := k 2; have := k 3; have := kk 4 0; omega
  ·cases h
 ·injection h with h; subst h; have := k 0; show size (kd t _) ≤ _; omega
 ·injection h with h; subst h; have := k 1; show size (kd t _) ≤ _; omega
 ·cases h
 ·rename_i x hx
  injection h with h; subst h
  unfold Bk at hx
  (repeat' split at hx)
  ·cases hx
  ·injection hx with hx; subst hx; have h1 := take_size ((F9 t).getD 0 t0) 0 [B5]; omega
  ·injection hx with hx; subst hx; show size (Cf _ _ _) ≤ _; rw [B0l, C4j]; have := k 0; omega
  ·injection hx with hx; subst hx; show size ((F9 t).getD 0 t0) ≤ _; omega
  ·cases hx
 ·injection h with h; subst h; have := kk 0 0; show size (kd (kd t 0) 0) ≤ _; omega
 ·cases h
theorem Spec.C7r {P : Program} {k : FuncId} {args : Array Value} {pre : List Fact} (y : Tys) {u : T} (g : Value → Value) (h : Spec P k args pre [] (fun x : {h : HT // h.er = u ∧ Kf u} => g (.agg (tc u x.1.vr x.1.vk x.1.vs).toArray)) (fun _ => []) (fun x => [Cn (F3 y x.1)])) :
  Spec P k args pre [] (fun x : SH × SH × SH => g (.agg (tc u x.1 x.2.1 x.2.2).toArray)) (fun x => [RT u x.1 x.2.1 x.2.2]) (fun _ => []) := fun ok w hk hs => (h ok w hk hs).mono fun e w' hh => by
 obtain ⟨x, he, hs'⟩ := hh
 have h1 : St ⟨ok, B9 [], w⟩ [] (F3 y x.1 ++ []) w' := hs'.unpack
 have h2 := St.J8 y trivial x.1 (by rw [x.2.1]; exact x.2.2) h1
 rw [x.2.1] at h2
 exact ⟨(x.1.vr, x.1.vk, x.1.vs), he, h2⟩
theorem C1d (k i : Int) : ((binds k i).1 = 0 ∨ (binds k i).1 = 1) ∧ ((binds k i).2 = 0 ∨ (binds k i).2 = 1) ∧ ¬ ((binds k i).1 = 1 ∧ (binds k i).2 = 1) := by
 unfold binds
 (repeat' split) <;> simp
theorem Vv {t : T} {v d : Int} (h : Fe t v d = 0) : 0 ≤ v ∧ 0 ≤ d ∧ d ≤ 24 := by
 unfold Fe at h
 split at h
 ·cases h
 ·rename_i h1
  simp only [Bool.or_eq_true, decide_eq_true_eq, not_or] at h1
  omega
def Vg (S : Nat → Prop) (c : Cl) : Prop := ∀ j, (c.pos ||| c.neg).testBit j = true → S j
def D8 (S : Nat → Prop) (f : List Cl) : Prop := ∀ c, c ∈ f → Vg S c
variable {S : Nat → Prop}
theorem Hl : D8 S [] := fun c hc => by cases hc
theorem C6h : Vg S B5 := fun j hj => by simp [B5] at hj
theorem A2h : D8 S [B5] := fun c hc => by rw [List.mem_singleton] at hc; subst hc; exact C6h
theorem J9 {c : Cl} (h : Vg S c) : D8 S [c] := fun d hd => by rw [List.mem_singleton] at hd; subst hd; exact h
theorem A2j {f g : List Cl} (h : D8 S f) (h2 : D8 S g) : D8 S (f ++ g) := fun c hc => by
 rcases List.mem_append.mp hc with hc | hc
 ·exact h c hc
 ·exact h2 c hc
theorem H8 {l : List Cl} (h : D8 S l) : D8 S (Bm l).2 := by
 by_cases h0 : (Bm l).1 = 0
 ·exact fun c hc => h c (On h0 hc)
 ·rw [Sb h0]; exact Hl
theorem A4d {a b : Cl} (h : Vg S a) (h2 : Vg S b) : Vg S (Dk a b) := fun j hj => by
 unfold Dk at hj
 simp only [Nat.testBit_or, Bool.or_eq_true] at hj
 rcases hj with (hj | hj) | (hj | hj)
 ·exact h j (by rw [Nat.testBit_or, hj]; rfl)
 ·exact h2 j (by rw [Nat.testBit_or, hj]; rfl)
 ·exact h j (by rw [Nat.testBit_or, hj, Bool.or_true])
 ·exact h2 j (by rw [Nat.testBit_or, hj, Bool.or_true])
theorem A9c {f g : List Cl} (h : D8 S f) (h2 : D8 S g) : D8 S (Mn f g) := fun c hc => by
 obtain ⟨a, ha, hc⟩ := List.mem_flatMap.mp hc
 obtain ⟨b, hb, rfl⟩ := List.mem_map.mp hc
 exact A4d (h a ha) (h2 b hb)
theorem Pu {f g : List Cl} (h : D8 S f) (h2 : D8 S g) : D8 S (Jd f g).2 := H8 (A9c h h2)
theorem B3o {f : List Cl} (h : D8 S f) : D8 S (Ez f) := fun c hc => h c (List.mem_filter.mp hc).1
theorem B3m {c : Cl} (h : Vg S c) : D8 S (A0s c) := fun d hd => by
 unfold A0s at hd
 rcases List.mem_append.mp hd with hd | hd
 ·obtain ⟨i, hi, rfl⟩ := List.mem_map.mp hd
  have h1 := Qx.mp hi
  intro j hj
  simp only [Nat.zero_or] at hj
  obtain ⟨_, e⟩ := Uk.mp hj
  have : j = i.toNat := by omega
  subst this
  exact h _ (by rw [Nat.testBit_or, h1.2.2]; rfl)
 ·obtain ⟨i, hi, rfl⟩ := List.mem_map.mp hd
  have h1 := Qx.mp hi
  intro j hj
  simp only [Nat.or_zero] at hj
  obtain ⟨_, e⟩ := Uk.mp hj
  have : j = i.toNat := by omega
  subst this
  exact h _ (by rw [Nat.testBit_or, h1.2.2, Bool.or_true])
theorem Gi {x : EL} {k : List Cl → EL} (hx : D8 S x.2) (hk : ∀ g, D8 S g → D8 S (k g).2) : D8 S (Hq x k).2 := by
 unfold Hq
 split
 ·exact Hl
 ·exact hk _ hx
theorem O5 {g : List Cl → Cl → EL} : ∀ {l h : List Cl}, (∀ c, c ∈ l → ∀ h, D8 S h → D8 S (g h c).2) → D8 S h → D8 S (Cu g h l).2
 | [], h, _, hh => hh
 | c :: l, h, hg, hh => by
  rw [Cu]
  exact Gi (hg c List.mem_cons_self h hh) fun h' hh' => O5 (fun d hd => hg d (List.mem_cons_of_mem _ hd)) hh'
theorem Xv {f : List Cl} (h : D8 S f) : D8 S (Pf f).2 := O5 (fun c hc g hg => Gi (H8 (B3m (h c hc))) fun o ho => Pu hg ho) A2h
theorem A2i {f : List Cl} (h : D8 S f) : D8 S (Wx f).2 := by
 unfold Wx
 split
 ·exact H8 (B3o h)
 ·exact Hl
theorem B3n {f : List Cl} (h : D8 S f) : D8 S (S7 f).2 := by
 unfold S7
 split
 ·exact Xv h
 ·exact Hl
theorem A5l {f : List Cl} (h : D8 S f) : D8 S (Gx f).2 := Gi (B3n h) fun g hg => A2i hg
theorem Vu {f g : List Cl} (h : D8 S f) (h2 : D8 S g) : D8 S (Kh f g).2 := H8 fun c hc => by
 obtain ⟨a, ha, hc⟩ := List.mem_flatMap.mp hc
 obtain ⟨b, hb, rfl⟩ := List.mem_map.mp (List.mem_filter.mp hc).1
 exact A4d (h a ha) (h2 b hb)
theorem A0p {f r : List Cl} {i : Int} (hf : ∀ c, c ∈ f → Vg S (C1 c i)) (hr : D8 S r) : D8 S (Bn f i r).2 := by
 unfold Bn
 split
 ·exact Hl
 ·split
  ·exact Hl
  ·refine O5 (fun c hc h hh => ?_) Hl
   unfold C2
   refine Gi ?_ fun g hg => Gi ?_ fun g2 hg2 => ?_
   ·unfold Gw
    split
    ·exact Pu (J9 (hf c hc)) hr
    ·exact J9 (hf c hc)
   ·unfold Ja
    split
    ·exact Gi (Xv hr) fun s hs => Pu hg hs
    ·exact hg
   ·exact H8 (A2j hh hg2)
theorem A0q {f r : List Cl} {i : Int} (hf : ∀ c, c ∈ f → Vg S (C1 c i)) (hr : D8 S r) : D8 S (Bb f i r).2 := by
 unfold Bb
 split
 ·exact Hl
 ·refine O5 (fun c hc h hh => ?_) Hl
  unfold Cc
  refine Gi ?_ fun g hg => H8 (A2j hh hg)
  unfold Cv
  split
  ·exact Gi (A2i hr) fun x hx => Vu (J9 (hf c hc)) hx
  ·split
   ·exact Gi (A5l hr) fun x hx => Vu (J9 (hf c hc)) hx
   ·exact J9 (hf c hc)
theorem Ij {f : List Cl} {d : Int} (h0 : 0 ≤ d) (hf : f.all Bw = true) : within f d = true ↔ D8 (fun j => (j : Int) < d) f := by
 rw [within_iff h0]
 constructor
 ·intro h c hc j hj
  refine Decidable.byContradiction fun hn => ?_
  have h24 : j < 24 := by
   obtain ⟨r1, r2⟩ := Hm (List.all_eq_true.mp hf c hc)
   rw [Nat.testBit_or, Bool.or_eq_true] at hj
   rcases hj with hj | hj
   ·exact r1 j hj
   ·exact r2 j hj
  have h1 := h j A1
  rw [Lh.mpr ⟨h24, c, hc, hj⟩] at h1
  cases h1
 ·intro h i hi
  cases hx : (G9 f).testBit i with
  | false => rfl
  | true =>
   obtain ⟨_, c, hc, hj⟩ := Lh.mp hx
   have : (i : Int) < d := h c hc i hj
   omega
theorem C1z {c : Cl} {i : Int} {d : Int} (h : Vg (fun j => (j : Int) < d) c) : Vg (fun j => (j : Int) < d ∧ (j : Int) ≠ i) (C1 c i) := fun j hj => by
 unfold C1 at hj
 rw [Nat.testBit_or, Bool.or_eq_true] at hj
 rcases hj with hj | hj
 ·obtain ⟨_, h2, h3⟩ := J3.mp hj
  exact ⟨h j (by rw [Nat.testBit_or, h2]; rfl), h3⟩
 ·obtain ⟨_, h2, h3⟩ := J3.mp hj
  exact ⟨h j (by rw [Nat.testBit_or, h2, Bool.or_true]), h3⟩
theorem A8d {W : Ds} {E E' : Int} (hE : E' ≤ E) (hE0 : 0 ≤ E')
  (hform : ∀ δ f, 0 ≤ δ → Aq f = true → within f (E + δ) = true → (W.form δ f).1 = 0 → within (W.form δ f).2 (E' + δ) = true)
  (hface : ∀ δ f, 0 ≤ δ → B3 f = true → within f (E + δ) = true → (W.Ah δ f).1 = 0 → within (W.Ah δ f).2 (E' + δ) = true) :
  ∀ (t u : T) (δ v : Int), 0 ≤ δ → F5 t → Bj (Bo W) t δ = .ok u → Df t v (E + δ) → Df u v (E' + δ) := T.ind fun t ih u δ v h0 hf hu hm => by
 obtain ⟨⟨m1, m2, m3⟩, m4, m5⟩ := Hb.mp hm
 have hfi := G8.mp hf
 rcases T5 hu with h | ⟨p, h1, ⟨e1, e2, e3, e4⟩, h3, h4⟩
 ·exact absurd h L0
 ·obtain ⟨o1, o2⟩ := O4.mp h1
  have hrow : within p.2 (E' + δ) = true := by
   unfold Ds.row at o1
   split at o1
   ·rename_i hk
    have := hface δ t.r h0 ((Sd hfi.1).1 hk) m3 (by rw [o1])
    rwa [o1] at this
   ·have := hform δ t.r h0 (Sd hfi.1).2 m3 (by rw [o1])
    rwa [o1] at this
  refine Hb.mpr ⟨⟨by omega, fun hk => ?_, by rw [e4]; exact hrow⟩, fun b' hb' => ?_, fun q hq => ?_⟩
  ·rw [e2, o2]; exact m2 (e1 ▸ hk)
  ·obtain ⟨b, hb2, h6⟩ := h4 b' hb'
   obtain ⟨q1, _⟩ := Ib.mp h6
   have := hface δ b.Ah h0 (Nt.mp hfi.2.2.2.2 b hb2).2.1 (m4 b hb2) (by rw [q1])
   rwa [q1] at this
  ·obtain ⟨q', hq', e, c', h6, h7⟩ := h3 q hq
   have h8 : c' = δ + q'.2.2 := by rw [Xr] at h6; injection h6 with h6; exact h6.symm
   have h9 := Kd hq'
   subst h8
   have hm5 := m5 q' hq'
   have hff := Jx hf hq'
   have := ih q' hq' q.1 _ _ A1 hff h7 (by rw [show E + (δ + q'.2.2) = E + δ + q'.2.2 by omega]; exact hm5)
   rw [e] at this
   rwa [show E' + δ + q.2.2 = E' + (δ + q.2.2) by omega]
theorem W6 {l : List Cl} {f b d : Int} (hl : Aq l = true) (h0 : 0 ≤ f) (hb : 0 ≤ b) (hd : 0 ≤ d) (hw : within l d = true) (h : (Ae l f b).1 = 0) : within (Ae l f b).2 (d + b) = true := by
 have hr : Be b l f = .ok (Ae l f b).2 := by rw [A5k hl h0 hb, if_pos h]
 rw [within_iff A1]
 intro i hi
 cases hx : (G9 (Ae l f b).2).testBit i with
 | false => rfl
 | true =>
  obtain ⟨j, _, h2, h3⟩ := Tl h0 hr hx
  have := (within_iff hd).mp hw j A1
  rw [h2] at this
  cases this
theorem Xy {i δ E : Int} {r f : List Cl} (hi : 0 ≤ i) (hδ : 0 ≤ δ) (hE : 0 ≤ E) (hr : Aq r = true) (hrw : within r E = true) :
  (Aq f = true → within f (E + δ) = true → (Cp Bn i r δ f).1 = 0 → within (Cp Bn i r δ f).2 (E + δ) = true) ∧ (B3 f = true → within f (E + δ) = true → (Cp Bb i r δ f).1 = 0 → within (Cp Bb i r δ f).2 (E + δ) = true) := by
 have hs : (Ae r 0 δ).1 = 0 → D8 (fun j => (j : Int) < E + δ) (Ae r 0 δ).2 := fun h =>
  (Ij A1 (Ie (Wg h))).mp (W6 hr A1 hδ hE hrw h)
 have hc : ∀ {c : Cl}, Vg (fun j => (j : Int) < E + δ) c → Vg (fun j => (j : Int) < E + δ) (C1 c (i + δ)) := fun h j hj => (C1z h j hj).1
 constructor
 ·intro hf hw h0
  have hfin := (Ij A1 (Ie hf)).mp hw
  unfold Cp at h0 ⊢
  split
  ·exact hw
  ·rename_i h1
   rw [if_neg h1] at h0
   obtain ⟨h2, h3, e⟩ := Cy h0
   rw [e]
   exact (Ij A1 (Ie (Z1 h3))).mpr (A0p (fun c hc2 => hc (hfin c hc2)) (hs h2))
 ·intro hf hw h0
  have hfin := (Ij A1 (Ie (Jy hf).1)).mp hw
  unfold Cp at h0 ⊢
  split
  ·exact hw
  ·rename_i h1
   rw [if_neg h1] at h0
   obtain ⟨h2, h3, e⟩ := Cy h0
   rw [e]
   exact (Ij A1 (Ie (Jy (Ps h3).2.2.2.1).1)).mpr (A0q (fun c hc2 => hc (hfin c hc2)) (hs h2))
theorem Wi {i δ E : Int} {f : List Cl} (hi : 0 ≤ i ∧ i ≤ E) (hδ : 0 ≤ δ) (hf : f.all Bw = true) (hw : within f (E + 1 + δ) = true) (h : (I8 i δ f).1 = 0) : within (I8 i δ f).2 (E + δ) = true := by
 have hfin := (Ij A1 hf).mp hw
 have hr : (I8 i δ f).2.all Bw = true := Ie (Qz h)
 refine (Ij A1 hr).mpr ?_
 unfold I8 at h ⊢
 refine H8 fun c hc => ?_
 obtain ⟨e, he, rfl⟩ := List.mem_map.mp hc
 intro k hk
 rw [Nat.testBit_or, Bool.or_eq_true] at hk
 have key : ∀ {s : Nat}, (Fx s (i + δ)).testBit k = true → (∀ j, s.testBit j = true → (j : Int) < E + 1 + δ) → (k : Int) < E + δ := fun {s} h1 h2 => by
  obtain ⟨j, _, h3, h4⟩ := (C0o A1).mp h1
  have := h2 j h3
  omega
 rcases hk with hk | hk
 ·exact key hk fun j hj => hfin e he j (by rw [Nat.testBit_or, hj]; rfl)
 ·exact key hk fun j hj => hfin e he j (by rw [Nat.testBit_or, hj, Bool.or_true])
theorem A8q {b : T} {r : List Cl} {v D : Int} (hb : Df b v (D + 1)) (hr : within r D = true) (hD : 0 ≤ D) (h : (Ak b 0 r).1 = 0) : Df (Ak b 0 r).2 v D := by
 unfold Ak at h ⊢
 split at h
 ·rename_i h1; exact absurd h h1
 rename_i h1
 rw [if_neg h1]
 split at h
 ·rename_i h2; exact absurd h h2
 rename_i h2
 rw [if_neg h2]
 obtain ⟨w1, w2, w3⟩ := X6 (Decidable.not_not.mp h1)
 have hf := (Cj.mp w1).2
 have h2 : (Ae r 0 1).1 = 0 := Decidable.not_not.mp h2
 have hsr := Wg h2
 have hsw := W6 w3 A1 A1 hD hr h2
 rcases Us (W := Pd 0 (Ae r 0 1).2) (t := b) (d := 0) with ⟨u, a1, a2⟩ | ⟨e, a1, a2⟩
 ·rw [a2, T9 rfl] at h ⊢
  have hmu : Df u v (D + 1 + 0) := A8d (E := D + 1) (E' := D + 1) (Int.le_refl _) A1 (fun δ f h0 hf hw ht => (Xy A1 h0 A1 hsr hsw).1 hf hw ht) (fun δ f h0 hf hw ht => (Xy A1 h0 A1 hsr hsw).2 hf hw ht) b u 0 v A1 hf a1 (by rw [Int.add_zero]; exact hb)
  have hfu := Sc (C5c 0 _) A1 hf a1
  rcases Us (W := P8 0) (t := u) (d := 0) with ⟨x, b1, b2⟩ | ⟨e, b1, b2⟩
  ·rw [b2]
   have := A8d (W := P8 0) (E := D + 1) (E' := D) A1 hD (fun δ f h0 hf hw ht => Wi ⟨by omega, hD⟩ h0 (Ie hf) hw ht) (fun δ f h0 hf hw ht => Wi ⟨by omega, hD⟩ h0 (Ie (Jy hf).1) hw ht) u x 0 v A1 hfu b1 hmu
   rwa [Int.add_zero] at this
  ·rw [b2] at h; exact absurd h (Ka u b1)
 ·rw [a2] at h
  rw [Qn (Ka b a1)] at h
  exact absurd h (Ka b a1)
def mxP (l : List (Part × Nat)) : Nat := l.foldl (fun a p => max a (p.1.2.2.toNat + p.2)) 0
def Nx : T → Nat := pf fun _ l => mxP l
theorem D0r : ∀ {l : List (Part × Nat)} {a m : Nat}, l.foldl (fun a p => max a (p.1.2.2.toNat + p.2)) a ≤ m ↔ a ≤ m ∧ ∀ p, p ∈ l → p.1.2.2.toNat + p.2 ≤ m
 | [], a, m => ⟨fun h => ⟨h, fun p hp => by cases hp⟩, fun h => h.1⟩
 | q :: l, a, m => by
  rw [List.foldl_cons, D0r]
  constructor
  ·rintro ⟨h1, h2⟩
   refine ⟨by omega, fun p hp => ?_⟩
   rcases List.mem_cons.mp hp with rfl | hp
   ·omega
   ·exact h2 p hp
  ·rintro ⟨h1, h2⟩
   have := h2 q List.mem_cons_self
   exact ⟨by omega, fun p hp => h2 p (List.mem_cons_of_mem _ hp)⟩
theorem A7j {t : T} {m : Nat} : Nx t ≤ m ↔ ∀ p, p ∈ parts t → p.2.2.toNat + Nx p.1 ≤ m := by
 rw [Nx, A9m]
 show mxP _ ≤ m ↔ _
 unfold mxP
 rw [D0r]
 constructor
 ·rintro ⟨_, h⟩ p hp
  exact h (p, Nx p.1) (List.mem_map.mpr ⟨p, hp, rfl⟩)
 ·intro h
  refine ⟨Nat.zero_le _, fun q hq => ?_⟩
  obtain ⟨p, hp, rfl⟩ := List.mem_map.mp hq
  exact h p hp
theorem R9 {t : T} {p : Part} (hp : p ∈ parts t) : p.2.2.toNat + Nx p.1 ≤ Nx t := A7j.mp (Nat.le_refl _) p hp
theorem C1g {C : Type} {A : Tr C} (hno : ∀ c k n nm r u, A.own c k n nm r ≠ .ok (.inl u)) : ∀ (t u : T) (c : C), Bj A t c = .ok u → Nx u ≤ Nx t := T.ind fun t ih u c h => by
 rcases T5 h with h1 | ⟨p, _, _, h3, _⟩
 ·exact absurd h1 (hno _ _ _ _ _ _)
 ·refine A7j.mpr fun q hq => ?_
  obtain ⟨q', hq', e, c', _, h5⟩ := h3 q hq
  have := ih q' hq' q.1 c' h5
  have h6 := R9 hq'
  rw [e] at h6
  omega
theorem B9x {a b : Int} {t u : T} {c : Int × Int} (h : Bj (B7 a b) t c = .ok u) : Nx u ≤ Nx t := C1g (fun c k n nm r u => L6) t u c h
theorem B4k {b : Int} (hb0 : 0 ≤ b) : ∀ (t u : T) (c : Int × Int) (v d : Int), 0 ≤ c.2 → 0 ≤ d → Bj (B7 0 b) t c = .ok u → Df t v d → d + b + Nx t ≤ 24 → Df u v (d + b) := T.ind fun t ih u c v d h0 hd hu hm hb => by
 obtain ⟨⟨m1, m2, m3⟩, m4, m5⟩ := Hb.mp hm
 have hw : ∀ {l g : List Cl}, Be b l c.2 = .ok g → within l d = true → within g (d + b) = true := fun {l g} hg hl => by
  rw [within_iff A1]
  intro i hi
  cases hx : (G9 g).testBit i with
  | false => rfl
  | true =>
   obtain ⟨j, _, h2, h3⟩ := Tl h0 hg hx
   have := (within_iff hd).mp hl j A1
   rw [h2] at this
   cases this
 rcases T5 hu with h | ⟨p, h1, ⟨e1, e2, e3, e4⟩, h3, h4⟩
 ·exact absurd h L6
 ·obtain ⟨o1, o2, o3⟩ := W7 h1
  refine Hb.mpr ⟨⟨by omega, fun hk => ?_, by rw [e4]; exact hw o1 m3⟩, fun b' hb' => ?_, fun q hq => ?_⟩
  ·rw [e2, o3, B4m]; exact m2 (e1 ▸ hk)
  ·obtain ⟨b9, hb2, h6⟩ := h4 b' hb'
   exact hw (A6h h6) (m4 b9 hb2)
  ·obtain ⟨q', hq', e, c', h6, h7⟩ := h3 q hq
   have h8 := B0s h6
   have h9 := Kd hq'
   have h10 := R9 hq'
   subst h8
   have := ih q' hq' q.1 _ _ _ (by dsimp only; omega) A1 h7 (m5 q' hq') A1
   rw [e] at this
   rwa [show d + b + q.2.2 = d + q.2.2 + b by omega]
theorem C6l {u : T} {k j v d : Int} (h : (C8 u k j).1 = 0) (hk : 0 ≤ k) (hj : 0 ≤ j) (hd : 0 ≤ d) (hm : Df u v d) (hb : d + j + Nx u ≤ 24) : Df (C8 u k j).2 (v + k) (d + j) := by
 obtain ⟨h1, h2, h3, h4⟩ := Uj h
 obtain ⟨y, h5, h6⟩ := Ac.A2 (x := Bj (B7 k 0) u (0, 0)) h4
 have hy := V7 hk h5 hm
 have hby := B9x h5
 exact B4k hj y _ (0, 0) (v + k) d (Int.le_refl 0) hd h6 hy A1
theorem C4u {n v d : Int} (hd : d ≤ 24) (hn : n < v) : Df (.mk 1 n ⟨#[]⟩ [] [] []) v d := by
 simp only [Df, S9, Sa]
 exact ⟨⟨hd, fun _ => hn, H6 d⟩, trivial, trivial⟩
theorem C2w {u : T} {v d : Int} (hv : 0 ≤ v) (hd : 0 ≤ d) (hu : Df u v d) : ∀ (b x : T) (k j : Int), 0 ≤ k → 0 ≤ j → F5 b → Bj (Bt 0 u) b (k, j) = .ok x → Df b (v + 1 + k) (d + j) → d + j + Nx b + Nx u ≤ 24 → Df x (v + k) (d + j) := T.ind fun b ih x k j hk hj hf hx hm hb => by
 obtain ⟨⟨m1, m2, m3⟩, m4, m5⟩ := Hb.mp hm
 by_cases hkd : b.kind = 1
 ·have hn := m2 hkd
  rcases C2v hf hkd hx with ⟨_, h1, rfl⟩ | ⟨h0, rfl⟩
  ·exact C6l h1 hk hj hd hu A1
  ·have hn0 := (Qa hf hkd).2
   simp only at h0 ⊢
   refine C4u m1 ?_
   split <;> omega
 ·rcases T5 hx with h | ⟨p, h1, ⟨e1, e2, e3, e4⟩, h3, h4⟩
  ·exact absurd h (C7y hkd)
  ·rw [Kb hkd] at h1
   injection h1 with h1
   injection h1 with h1
   subst h1
   refine Hb.mpr ⟨⟨m1, fun hh => absurd (e1 ▸ hh) hkd, by rw [e4]; exact m3⟩, fun b' hb' => ?_, fun q hq => ?_⟩
   ·obtain ⟨b9, hb2, h6⟩ := h4 b' hb'
    injection h6 with h6
    injection h6 with h6
    rw [← h6]
    exact m4 b9 hb2
   ·obtain ⟨q', hq', e, c', h6, h7⟩ := h3 q hq
    rw [Lv] at h6
    injection h6 with h6
    subst h6
    have h9 := Kd hq'
    have h10 := R9 hq'
    have := ih q' hq' q.1 _ _ A1 A1 (Jx hf hq') h7 (by rw [show v + 1 + (k + q'.2.1) = v + 1 + k + q'.2.1 by omega, show d + (j + q'.2.2) = d + j + q'.2.2 by omega]; exact m5 q' hq') A1
    rw [e] at this
    rwa [show v + k + q.2.1 = v + (k + q.2.1) by omega, show d + j + q.2.2 = d + (j + q.2.2) by omega]
mutual
def Er : T → Int
 | .mk k n nm r ks ss => El k 0 ks + Fq ss
def El (k : Int) : Nat → List T → Int
 | _, [] => 0
 | i, t :: ts => (binds k i).2 + Er t + El k (i + 1) ts
def Fy : List T → Int
 | [] => 0
 | t :: ts => 1 + Er t + Fy ts
def Fq : List Br → Int
 | [] => 0
 | .mk f ks :: bs => Fy ks + Fq bs
end
theorem Nu (t : T) : Er t = El t.kind 0 t.kids + Fq t.sys := by obtain ⟨k, n, nm, r, ks, ss⟩ := t; rfl
theorem Kl : ∀ t : T, 0 ≤ Er t := T.ind' fun t ihk ihs => by
 have hL : ∀ (ts : List T) (i : Nat), (∀ u, u ∈ ts → 0 ≤ Er u) → 0 ≤ El t.kind i ts := by
  intro ts
  induction ts with
  | nil => intro i _; rw [El]; exact Int.le_refl 0
  | cons a ts ih =>
   intro i h
   have h1 := h a List.mem_cons_self
   have h2 := ih (i + 1) fun u hu => h u (List.mem_cons_of_mem _ hu)
   have h3 := (Gd t.kind (i : Int)).2.2.1
   rw [El]; omega
 have hS : ∀ (ts : List T), (∀ u, u ∈ ts → 0 ≤ Er u) → 0 ≤ Fy ts := by
  intro ts
  induction ts with
  | nil => intro _; rw [Fy]; exact Int.le_refl 0
  | cons a ts ih =>
   intro h
   have h1 := h a List.mem_cons_self
   have h2 := ih fun u hu => h u (List.mem_cons_of_mem _ hu)
   rw [Fy]; omega
 have hB : ∀ (bs : List Br), (∀ b, b ∈ bs → ∀ u, u ∈ b.kids → 0 ≤ Er u) → 0 ≤ Fq bs := by
  intro bs
  induction bs with
  | nil => intro _; rw [Fq]; exact Int.le_refl 0
  | cons b bs ih =>
   intro h
   obtain ⟨f, ks⟩ := b
   have h1 := hS ks (h _ List.mem_cons_self)
   have h2 := ih fun u hu => h u (List.mem_cons_of_mem _ hu)
   rw [Fq]; omega
 have h1 := hL t.kids 0 fun u hu => ihk u hu
 have h2 := hB t.sys fun b hb u hu => ihs b hb u hu
 rw [Nu]; omega
theorem Lj {k : Int} : ∀ {ts : List T} {i : Nat}, 0 ≤ El k i ts
 | [], i => by rw [El]; exact Int.le_refl 0
 | a :: ts, i => by
  have h1 := Kl a
  have h2 := Lj (k := k) (ts := ts) (i := i + 1)
  have h3 := (Gd k (i : Int)).2.2.1
  rw [El]; omega
theorem Li : ∀ {ts : List T}, 0 ≤ Fy ts
 | [] => by rw [Fy]; exact Int.le_refl 0
 | a :: ts => by
  have h1 := Kl a
  have h2 := Li (ts := ts)
  rw [Fy]; omega
theorem Jz : ∀ {bs : List Br}, 0 ≤ Fq bs
 | [] => by rw [Fq]; exact Int.le_refl 0
 | .mk f ks :: bs => by
  have h1 := Li (ts := ks)
  have h2 := Jz (bs := bs)
  rw [Fq]; omega
theorem B1t {k : Int} : ∀ {ts : List T} {i j : Nat}, j < ts.length → (binds k ((i + j : Nat) : Int)).2 + Er (ts.getD j t0) ≤ El k i ts
 | [], i, j, h => absurd h Cs
 | a :: ts, i, 0, h => by
  have h2 := Lj (k := k) (ts := ts) (i := i + 1)
  rw [List.getD_cons_zero, El, Nat.add_zero]; omega
 | a :: ts, i, j + 1, h => by
  have h1 := Kl a
  have h3 := (Gd k (i : Int)).2.2.1
  have := B1t (k := k) (ts := ts) (i := i + 1) (j := j) (by simpa using h)
  rw [List.getD_cons_succ, El, show i + (j + 1) = i + 1 + j by omega]; omega
theorem B1r : ∀ {ts : List T} {j : Nat}, j < ts.length → 1 + Er (ts.getD j t0) ≤ Fy ts
 | [], j, h => absurd h Cs
 | a :: ts, 0, h => by
  have h2 := Li (ts := ts)
  rw [List.getD_cons_zero, Fy]; omega
 | a :: ts, j + 1, h => by
  have h1 := Kl a
  have := B1r (ts := ts) (j := j) (by simpa using h)
  rw [List.getD_cons_succ, Fy]; omega
theorem B1v : ∀ {bs : List Br} {s : Nat}, s < bs.length → Fy (bs.getD s B1).kids ≤ Fq bs
 | [], s, h => absurd h Cs
 | .mk f ks :: bs, 0, h => by
  have h2 := Jz (bs := bs)
  rw [List.getD_cons_zero, Fq]
  show Fy ks ≤ _
  omega
 | .mk f ks :: bs, s + 1, h => by
  have h1 := Li (ts := ks)
  have := B1v (bs := bs) (s := s) (by simpa using h)
  rw [List.getD_cons_succ, Fq]; omega
theorem A4g : ∀ t : T, (Nx t : Int) ≤ Er t := T.ind fun t ih => by
 have h0 := Kl t
 have key : Nx t ≤ (Er t).toNat := A7j.mpr fun p hp => by
  have h1 := ih p hp
  have h2 : p.2.2 + Er p.1 ≤ Er t := by
   rw [Nu t]
   rcases Lz hp with ⟨i, hi, rfl⟩ | ⟨s, k, hs, hk, rfl⟩
   ·have := B1t (k := t.kind) (i := 0) hi
    have h3 := Jz (bs := t.sys)
    rw [Nat.zero_add] at this
    show (binds t.kind (i : Int)).2 + Er (t.kids.getD i t0) ≤ El t.kind 0 t.kids + Fq t.sys
    omega
   ·have h3 := Lj (k := t.kind) (ts := t.kids) (i := 0)
    have h4 := B1v hs
    have h5 := B1r hk
    have h6 := (Tz t.kind).2
    show more t.kind + Er ((t.sys.getD s B1).kids.getD k t0) ≤ El t.kind 0 t.kids + Fq t.sys
    omega
  have h3 := Kd hp
  omega
 omega
theorem B4q {t : T} {v d : Int} {i : Nat} (hf : A7 t = 0) (hm : Df t v d) (hi : (i : Int) < D3 t.kind) : Df (kd t i) (v + (binds t.kind (i : Int)).1) (d + (binds t.kind (i : Int)).2) := by
 have hl := (G8.mp (Cj.mp hf).2).2.1
 exact (Hb.mp hm).2.2 _ (List.mem_of_getElem? (Hn t i A1))
theorem Ej {t : T} {v d : Int} {i : Nat} (hf : A7 t = 0) (hm : Df t v d) (hi : (i : Int) < D3 t.kind) (hb : binds t.kind (i : Int) = (0, 0)) : Df (kd t i) v d := by
 have := B4q hf hm hi
 rw [hb] at this
 simpa using this
theorem C8v {k v d : Int} {r : List Cl} {a : T} (hk : k ≠ 1) (hr : within r d = true) (hd : d ≤ 24) (b0 : binds k 0 = (0, 0)) (ha : Df a v d) : Df (Cf k r [a]) v d := by
 unfold Cf
 simp only [Df, S9, Sa]
 refine ⟨⟨hd, fun h => absurd h hk, hr⟩, ⟨?_, trivial⟩, trivial⟩
 rw [show binds k ((0 : Nat) : Int) = (0, 0) from b0]; simpa using ha
theorem B7f {k v d : Int} {r : List Cl} {a b : T} (hk : k ≠ 1) (hr : within r d = true) (hd : d ≤ 24) (b0 : binds k 0 = (0, 0)) (b1 : binds k 1 = (0, 0)) (ha : Df a v d) (hb : Df b v d) : Df (Cf k r [a, b]) v d := by
 unfold Cf
 simp only [Df, S9, Sa]
 refine ⟨⟨hd, fun h => absurd h hk, hr⟩, ⟨?_, ?_, trivial⟩, trivial⟩
 ·rw [show binds k ((0 : Nat) : Int) = (0, 0) from b0]; simpa using ha
 ·rw [show binds k ((0 + 1 : Nat) : Int) = (0, 0) from b1]; simpa using hb
theorem B7e {k v d : Int} {r : List Cl} {a b c : T} (hk : k ≠ 1) (hr : within r d = true) (hd : d ≤ 24) (b0 : binds k 0 = (0, 0)) (b1 : binds k 1 = (0, 0)) (b2 : binds k 2 = (0, 0)) (ha : Df a v d) (hb : Df b v d) (hc : Df c v d) : Df (Cf k r [a, b, c]) v d := by
 unfold Cf
 simp only [Df, S9, Sa]
 refine ⟨⟨hd, fun h => absurd h hk, hr⟩, ⟨?_, ?_, ?_, trivial⟩, trivial⟩
 ·rw [show binds k ((0 : Nat) : Int) = (0, 0) from b0]; simpa using ha
 ·rw [show binds k ((0 + 1 : Nat) : Int) = (0, 0) from b1]; simpa using hb
 ·rw [show binds k ((0 + 1 + 1 : Nat) : Int) = (0, 0) from b2]; simpa using hc
theorem A6e {k v d : Int} (hk : k ≠ 1) (hd : d ≤ 24) : Df (Cf k [] []) v d := by
 unfold Cf
 simp only [Df, S9, Sa]
 exact ⟨⟨hd, fun h => absurd h hk, H6 d⟩, trivial, trivial⟩
theorem C0t {k : Int} {x y : T} {i : Nat} : Er x + Er y ≤ El k i [x, y] := by
 have b0 := (Gd k (i : Int)).2.2.1
 have b1 := (Gd k ((i + 1 : Nat) : Int)).2.2.1
 rw [El, El, El]
 omega
theorem C2e {t : T} {v d : Int} {a : T} (hf : A7 t = 0) (hm : Df t v d) (hv : 0 ≤ v) (hd : 0 ≤ d) (hdeep : d + Er t ≤ 24) (hs : Az t = some (0, a)) : Df a v d := by
 have hm0 := Hb.mp hm
 obtain ⟨⟨m1, m2, m3⟩, m4, m5⟩ := hm0
 have hfi := G8.mp (Cj.mp hf).2
 have tot : ∀ h0 : ¬ Dj t.sys < 0, Df ((F9 t).getD 0 t0) v (d + more t.kind) := fun h0 => by
  have hlt : (Dj t.sys).toNat < t.sys.length := Xf A1
  have hlen := (Nt.mp hfi.2.2.2.2 _ (Ad (d := B1) hlt)).1
  have hp : De t.kind ≠ 0 := fun h9 => by
   have := hfi.2.2.1 h9
   rw [this] at hlt
   simp at hlt
  have h1 : 1 ≤ De t.kind := by
   unfold De at hp ⊢
   split
   ·omega
   ·split
    ·omega
    ·rename_i h2 h3; rw [if_neg h2, if_neg h3] at hp; exact absurd rfl hp
  have := m5 _ (List.mem_of_getElem? (Io t (Dj t.sys).toNat 0 hlt A1))
  dsimp only at this
  rw [Int.add_zero] at this
  exact this
 have inj : ∀ {x y : Int × T}, some x = some y → x = y := fun h => by injection h
 have inj2 : ∀ {x : T}, some ((0 : Int), x) = some (0, a) → x = a := fun h => by injection h with h; injection h
 unfold Az at hs
 split at hs
 ·rename_i h1
  have hx := inj hs
  have f0 : A7 (kd t 0) = 0 := Lg hf (by rw [h1.1]; decide)
  have l0 : Df (kd t 0) v d := Ej hf hm (by rw [h1.1]; decide) (by rw [h1.1]; decide)
  have l1 : Df (kd t 1) v d := Ej hf hm (by rw [h1.1]; decide) (by rw [h1.1]; decide)
  have fb : A7 (kd (kd t 0) 0) = 0 := Lg f0 (by rw [h1.2]; decide)
  have lb := B4q (i := 0) f0 l0 (by rw [h1.2]; decide)
  rw [h1.2, show binds 5 ((0 : Nat) : Int) = (1, 0) by decide] at lb
  have h0 : (Av (kd (kd t 0) 0) 0 (kd t 1)).1 = 0 := by rw [hx]
  have ha : (Av (kd (kd t 0) 0) 0 (kd t 1)).2 = a := by rw [hx]
  obtain ⟨_, _, _, _, h5⟩ := Tp h0
  rw [show Uo 0 = 0 from if_neg F2, ha] at h5
  have hkids : (2 : Int) = (t.kids.length : Int) := by rw [← hfi.2.1, h1.1]; decide
  have hsum : (Nx (kd (kd t 0) 0) : Int) + Nx (kd t 1) ≤ Er t := by
   have e1 : Nx (kd (kd t 0) 0) ≤ Nx (kd t 0) := by
    have hlk := (G8.mp (Cj.mp f0).2).2.1
    rw [h1.2, show D3 5 = 1 by decide] at hlk
    have := R9 (t := kd t 0) (List.mem_of_getElem? (Hn (kd t 0) 0 A1))
    exact Nat.le_trans (Nat.le_add_left _ _) this
   have e2 := A4g (kd t 0)
   have e3 := A4g (kd t 1)
   have e4 : Er (kd t 0) + Er (kd t 1) ≤ Er t := by
    have hB := Jz (bs := t.sys)
    obtain ⟨x, y, hk⟩ : ∃ x y, t.kids = [x, y] := by
     match h9 : t.kids, hkids with
     | [x, y], _ => exact ⟨x, y, rfl⟩
    rw [Nu t, show kd t 0 = x by unfold kd; rw [hk]; rfl, show kd t 1 = y by unfold kd; rw [hk]; rfl, hk]
    have h9 := C0t (k := t.kind) (x := x) (y := y) (i := 0)
    omega
   omega
  have := C2w hv hd l1 _ a 0 0 (Int.le_refl 0) (Int.le_refl 0) (Cj.mp fb).2 h5 (by simpa using lb) A1
  simpa using this
 split at hs
 ·rename_i _ h1
  have hx := inj hs
  have e := congrArg Prod.snd hx
  simp only at e
  have hk2 : D3 t.kind = 1 ∧ binds t.kind ((0 : Nat) : Int) = (0, 0) := by rcases h1.1 with e | e <;> (rw [e]; decide)
  have f0 : A7 (kd t 0) = 0 := Lg hf (by rw [hk2.1]; decide)
  have l0 : Df (kd t 0) v d := Ej hf hm (by rw [hk2.1]; decide) hk2.2
  rw [← e]
  rcases h1.1 with q | q
  ·rw [q]
   exact Ej f0 l0 (by rw [h1.2]; decide) (by rw [h1.2]; decide)
  ·rw [q]
   exact Ej f0 l0 (by rw [h1.2]; decide) (by rw [h1.2]; decide)
 split at hs
 ·rename_i _ _ h1
  unfold H0 at hs
  split at hs
  ·have e := congrArg Prod.snd (inj hs)
   simp only at e
   rw [← e]
   have hi : (Je t.r).toNat = 0 ∨ (Je t.r).toNat = 1 := by
    unfold Je
    split
    ·exact .inl rfl
    ·split
     ·exact .inr rfl
     ·exact .inl rfl
   rcases hi with q | q <;> (rw [q]; exact Ej hf hm (by rw [h1]; decide) (by rw [h1]; decide))
  ·split at hs
   ·rename_i h2
    have hx := inj hs
    have f0 : A7 (kd t 0) = 0 := Lg hf (by rw [h1]; decide)
    have l0 : Df (kd t 0) v d := Ej hf hm (by rw [h1]; decide) (by rw [h1]; decide)
    have lb := B4q (i := 0) f0 l0 (by rw [h2]; decide)
    rw [h2, show binds 12 ((0 : Nat) : Int) = (0, 1) by decide] at lb
    have h0 : (Ak (kd (kd t 0) 0) 0 t.r).1 = 0 := by rw [hx]
    have ha : (Ak (kd (kd t 0) 0) 0 t.r).2 = a := by rw [hx]
    rw [← ha]
    exact A8q (by simpa using lb) m3 hd h0
   ·cases hs
 split at hs
 ·unfold Eb at hs
  split at hs
  ·cases hs
  ·split at hs
   ·rw [← inj2 hs]; exact A6e F2 m1
   ·split at hs
    ·rw [← inj2 hs]; exact A6e F2 m1
    ·rw [← inj2 hs]; exact A6e F2 m1
 split at hs
 ·rename_i _ _ _ _ h1
  have k1 : Df (kd t 1) v d := Ej hf hm (by rw [h1]; decide) (by rw [h1]; decide)
  unfold Dx at hs
  split at hs
  ·rw [← inj2 hs]; exact k1
  ·split at hs
   ·rw [← inj2 hs]
    have k2 : Df (kd t 2) v d := Ej hf hm (by rw [h1]; decide) (by rw [h1]; decide)
    have k3 : Df (kd t 3) v d := Ej hf hm (by rw [h1]; decide) (by rw [h1]; decide)
    exact B7e F2 (Hb.mp k3).1.2.2 m1 F2 F2 F2 k2 k1 k1
   ·cases hs
 split at hs
 ·rename_i _ _ _ _ _ h1
  have k1 : Df (kd t 1) v d := Ej hf hm (by rw [h1]; decide) (by rw [h1]; decide)
  have k2 : Df (kd t 2) v d := Ej hf hm (by rw [h1]; decide) (by rw [h1]; decide)
  unfold Gp at hs
  split at hs
  ·rw [← inj2 hs]; exact k1
  ·split at hs
   ·rw [← inj2 hs]; exact k2
   ·split at hs
    ·rename_i h4
     rw [← inj2 hs]
     have k3 : Df (kd t 3) v d := Ej hf hm (by rw [h1]; decide) (by rw [h1]; decide)
     have k4 : Df (kd t 4) v d := Ej hf hm (by rw [h1]; decide) (by rw [h1]; decide)
     have f4 : A7 (kd t 4) = 0 := Lg hf (by rw [h1]; decide)
     have k40 : Df (kd (kd t 4) 0) v d := Ej f4 k4 (by rw [h4]; decide) (by rw [h4]; decide)
     exact B7e F2 (Hb.mp k4).1.2.2 m1 F2 F2 F2 (B7f F2 (H6 d) m1 F2 F2 k3 k40) k1 k2
    ·cases hs
 split at hs
 ·rename_i _ _ _ _ _ _ h1
  rw [← inj2 hs]
  exact Ej hf hm (by rw [h1]; decide) (by rw [h1]; decide)
 split at hs
 ·rename_i _ _ _ _ _ _ _ h1
  split at hs
  ·rw [← inj2 hs]
   exact Ej hf hm (by rw [h1]; decide) (by rw [h1]; decide)
  ·cases hs
 split at hs
 ·rename_i x hx
  have hs2 := inj hs
  subst hs2
  unfold Bk at hx
  split at hx
  ·cases hx
  ·rename_i h0
   have ht := tot h0
   split at hx
   ·rename_i h1
    have hx := inj hx
    have q0 : (Ak ((F9 t).getD 0 t0) 0 [B5]).1 = 0 := by rw [hx]
    have qa : (Ak ((F9 t).getD 0 t0) 0 [B5]).2 = a := by rw [hx]
    rw [← qa]
    rw [h1, show more 15 = 1 by decide] at ht
    exact A8q ht ((Ij hd (Ie F2)).mpr A2h) hd q0
   ·rename_i h15
    have hmo : more t.kind = 0 := if_neg h15
    rw [hmo, Int.add_zero] at ht
    split at hx
    ·rename_i h1
     rw [← inj2 hx]
     have k0 : Df (kd t 0) v d := Ej hf hm (by rw [h1]; decide) (by rw [h1]; decide)
     exact B7f F2 (H6 d) m1 F2 F2 (C8v F2 (H6 d) m1 F2 ht) k0
    ·split at hx
     ·rw [← inj2 hx]; exact ht
     ·cases hx
 ·split at hs
  ·rename_i h1
   rw [← inj2 hs]
   have f0 : A7 (kd t 0) = 0 := Lg hf (by rw [h1.1]; decide)
   have k0 : Df (kd t 0) v d := Ej hf hm (by rw [h1.1]; decide) (by rw [h1.1]; decide)
   exact Ej f0 k0 (by rw [h1.2]; decide) (by rw [h1.2]; decide)
  ·cases hs
def C6w (v w : Int) : Prop := (v ≤ 9223372036854775807 ∧ w = v) ∨ (9223372036854775807 < v ∧ w < 0 ∧ Aj w)
theorem B8f {v : Int} (h : v ≤ 9223372036854775807) : C6w v v := .inl ⟨h, rfl⟩
theorem C6v {v w p : Int} (h0 : 0 ≤ v) (h : C6w v w) (hp : 0 ≤ p ∧ p ≤ 1) : C6w (v + p) (IntKind.i64.wrap (w + if w < 0 then 0 else p)) := by
 rcases h with ⟨h1, rfl⟩ | ⟨h1, h2, h3⟩
 ·rw [if_neg A1]
  by_cases hq : w + p ≤ 9223372036854775807
  ·rw [A4s (by unfold Aj; omega)]
   exact .inl ⟨hq, rfl⟩
  ·have e : w + p = 9223372036854775808 := by omega
   have e2 : IntKind.i64.wrap 9223372036854775808 = -9223372036854775808 := by rw [IntKind.wrap_i64]; decide
   rw [e, e2]
   exact .inr ⟨by omega, by omega, by unfold Aj; omega⟩
 ·rw [if_pos h2, Int.add_zero, A4s h3]
  exact .inr ⟨by omega, h2, h3⟩
theorem C8h {t : T} {v w d : Int} (h : C6w v w) (h0 : 0 ≤ v) (hn : Aj t.n) : I3 t w d = I3 t v d := by
 rcases h with ⟨_, rfl⟩ | ⟨h1, h2, _⟩
 ·rfl
 ·unfold Aj at hn
  unfold I3
  rw [decide_eq_true h2, decide_eq_true (show t.n < v by omega), Bool.true_or, Bool.or_true]
theorem C8p {t : T} {p : Part} (h : Kf t) (hp : p ∈ parts t) : Kf p.1 := by
 obtain ⟨k, n, nm, r, ks, ss⟩ := t
 simp only [Kf] at h
 obtain ⟨_, _, _, _, _, _, hL, hB⟩ := h
 have l1 : ∀ {ts : List T}, okL ts → ∀ u, u ∈ ts → Kf u := fun {ts} => by
  induction ts with
  | nil => intro _ u hu; cases hu
  | cons a ts ih =>
   intro h u hu
   simp only [okL] at h
   rcases List.mem_cons.mp hu with rfl | hu
   ·exact h.1
   ·exact ih h.2 u hu
 have l2 : ∀ {bs : List Br}, okB bs → ∀ b, b ∈ bs → okL b.kids := fun {bs} => by
  induction bs with
  | nil => intro _ u hu; cases hu
  | cons a bs ih =>
   intro h b hb
   obtain ⟨f, ks2⟩ := a
   simp only [okB] at h
   rcases List.mem_cons.mp hb with rfl | hb
   ·exact h.2.2.1
   ·exact ih h.2.2.2 b hb
 rcases Lz hp with ⟨i, hi, rfl⟩ | ⟨s, j, hs, hj, rfl⟩
 ·exact l1 hL _ (Ad hi)
 ·exact l1 (l2 hB _ (Ad hs)) _ (Ad hj)
theorem D6y {t : T} (h : Kf t) : Aj t.n := by
 obtain ⟨k, n, nm, r, ks, ss⟩ := t
 simp only [Kf] at h
 exact h.2.1
theorem B7h : ∀ (t : T) (v w d : Int), Kf t → 0 ≤ v → C6w v w → (Mh t w d true = true ↔ F5 t ∧ Df t v d) := T.ind fun t ih v w d hok h0 hw => by
 rw [A7o, C8h hw h0 (D6y hok), C3q h0, Hb, Sf]
 have hown : I3 t (-1) 24 = true ↔ ∀ d' : Int, 24 ≤ d' → I3 t (-1) d' = true := by
  constructor
  ·intro h d' hd'
   obtain ⟨k, n, nm, r, ks, ss⟩ := t
   exact (Nk hd').mpr ((Nk A1).mp h)
  ·intro h; exact h 24 A1
 have key : ∀ p, p ∈ parts t → (Mh p.1 (IntKind.i64.wrap (w + if w < 0 then 0 else p.2.1)) (d + p.2.2) true = true ↔ F5 p.1 ∧ Df p.1 (v + p.2.1) (d + p.2.2)) := fun p hp => by
  have h1 := Kd hp
  exact ih p hp _ _ _ (C8p hok hp) A1 (C6v h0 hw ⟨h1.1, h1.2.1⟩)
 rw [hown]
 unfold B7p
 constructor
 ·rintro ⟨h1, ⟨h2, h3, h4, h5⟩, h6⟩
  exact ⟨⟨h2, fun p hp => ((key p hp).mp (h6 p hp)).1⟩, ⟨by simp at h1; omega, h3, h4⟩, h5, fun p hp => ((key p hp).mp (h6 p hp)).2⟩
 ·rintro ⟨⟨h2, h6⟩, ⟨h1, h3, h4⟩, h5, h7⟩
  exact ⟨by simp; omega, ⟨h2, h3, h4, h5⟩, fun p hp => (key p hp).mpr ⟨h6 p hp, h7 p hp⟩⟩
theorem A2l {t : T} {v d : Int} (hv : 0 ≤ v ∧ v ≤ 9223372036854775807) (hok : Kf t) : Fe t v d = 0 ↔ 0 ≤ d ∧ d ≤ 24 ∧ sized t = 0 ∧ F5 t ∧ Df t v d := by
 rw [Xw]
 constructor
 ·rintro ⟨_, h2, h3, h4, h5⟩
  exact ⟨h2, h3, h4, (B7h t v v d hok hv.1 (B8f hv.2)).mp h5⟩
 ·rintro ⟨h2, h3, h4, h5⟩
  exact ⟨hv.1, h2, h3, h4, (B7h t v v d hok hv.1 (B8f hv.2)).mpr h5⟩
theorem A7g {t : T} {v d : Int} (hr : Fe t v d = 0) (hv : Aj v) (hok : Kf t) (hoa : Kf (Cq t).2.2) : ((Cq t).2.1 = false → (Cq t).2.2 = t0) ∧ ((Cq t).1 ≠ 0 → (Cq t).2.1 = false) ∧ ((Cq t).2.1 = true → (Cq t).1 = 0 ∧ (Fe (Cq t).2.2 v d = 0 ∨ Fe (Cq t).2.2 v d = 100 ∧ 24 < d + Er t)) := by
 obtain ⟨v0, d0, d1⟩ := Vv hr
 have hv2 : 0 ≤ v ∧ v ≤ 9223372036854775807 := ⟨v0, by unfold Aj at hv; omega⟩
 have hf := A6q hr
 obtain ⟨_, _, _, hfi, hm⟩ := (A2l hv2 hok).mp hr
 rw [Tc hf] at hoa ⊢
 refine ⟨B5b, fun h => ?_, fun h => ?_⟩
 ·cases hq : (Qc (Az t)).2.1 with
  | false => rfl
  | true =>
   obtain ⟨u, _, _, e⟩ := Zc hq
   rw [e] at h
   exact absurd rfl h
 ·obtain ⟨u, h1, h2, e⟩ := Zc h
  rw [e] at hoa ⊢
  refine ⟨rfl, ?_⟩
  by_cases hdeep : d + Er t ≤ 24
  ·left
   obtain ⟨s1, s2⟩ := Cj.mp h2
   exact (A2l hv2 hoa).mpr ⟨d0, d1, s1, s2, C2e hf hm v0 d0 hdeep h1⟩
  ·have hsz := (Cj.mp h2).1
   unfold Fe
   rw [if_neg (by simp; omega), if_neg (by simp [hsz])]
   split
   ·exact .inl rfl
   ·exact .inr ⟨rfl, by omega⟩
theorem Zh {k : Int} {t : T} : ∀ {ts : List T} {i : Nat}, El k i (ts ++ [t]) = El k i ts + ((binds k ((i + ts.length : Nat) : Int)).2 + Er t)
 | [], i => by simp [El]
 | u :: ts, i => by
  rw [List.cons_append, El, El, Zh, List.length_cons, show i + 1 + ts.length = i + (ts.length + 1) by omega]
  omega
theorem Zg {t : T} : ∀ {ts : List T}, Fy (ts ++ [t]) = Fy ts + (1 + Er t)
 | [] => by simp [Fy]
 | u :: ts => by
  rw [List.cons_append, Fy, Fy, Zg]
  omega
theorem Sj {b : Br} : ∀ {bs : List Br}, Fq (bs ++ [b]) = Fq bs + Fy b.kids
 | [] => by obtain ⟨f, ks⟩ := b; simp [Fq, Br.kids]
 | .mk f ks :: bs => by
  rw [List.cons_append, Fq, Fq, Sj]
  omega
mutual
theorem Mc : ∀ t : T, Er t + 1 ≤ size t
 | .mk k n nm r ks ss => by
  have h1 := B1s (k := k) ks 0
  have h2 := B1u ss
  have h3 : size (.mk k n nm r ks ss) = 1 + Ci ks + Ew ss := Dd _
  rw [h3]
  show El k 0 ks + Fq ss + 1 ≤ _
  omega
theorem B1s {k : Int} : ∀ (ts : List T) (i : Nat), El k i ts ≤ Ci ts
 | [], i => by simp [El, Ci]
 | t :: ts, i => by
  have h1 := Mc t
  have h2 := B1s (k := k) ts (i + 1)
  have h3 := C1d k i
  rw [El, show Ci (t :: ts) = size t + Ci ts from rfl]
  omega
theorem B1q : ∀ (ts : List T), Fy ts ≤ Ci ts
 | [] => by simp [Fy, Ci]
 | t :: ts => by
  have h1 := Mc t
  have h2 := B1q ts
  rw [Fy, show Ci (t :: ts) = size t + Ci ts from rfl]
  omega
theorem B1u : ∀ (bs : List Br), Fq bs ≤ Ew bs
 | [] => by simp [Fq, Ew]
 | .mk f ks :: bs => by
  have h1 := B1q ks
  have h2 := B1u bs
  rw [Fq, show Ew (.mk f ks :: bs) = Ci ks + Ew bs from rfl]
  omega
end
theorem A7d {k : Int} (ts : List T) (i j : Nat) : El k i (ts.take j) ≤ El k i ts := by
 induction ts generalizing i j with
 | nil => simp
 | cons t ts ih =>
  cases j with
  | zero => rw [List.take_zero]; exact Lj
  | succ j => rw [List.take_succ_cons, El, El]; have := ih (i + 1) j; omega
theorem A7c (ts : List T) (j : Nat) : Fy (ts.take j) ≤ Fy ts := by
 induction ts generalizing j with
 | nil => simp
 | cons t ts ih =>
  cases j with
  | zero => rw [List.take_zero]; exact Li
  | succ j => rw [List.take_succ_cons, Fy, Fy]; have := ih j; omega
theorem A7e (bs : List Br) (j : Nat) : Fq (bs.take j) ≤ Fq bs := by
 induction bs generalizing j with
 | nil => simp
 | cons b bs ih =>
  obtain ⟨f, ks⟩ := b
  cases j with
  | zero => rw [List.take_zero]; exact Jz
  | succ j => rw [List.take_succ_cons, Fq, Fq]; have := ih j; omega
def dpA (t : T) (i : Nat) : Int := El t.kind 0 (t.kids.take i)
def dpB (t : T) (s : Nat) : Int := El t.kind 0 t.kids + Fq (t.sys.take s)
def dpC (t : T) (s k : Nat) : Int := dpB t s + Fy ((t.sys.getD s B1).kids.take k)
theorem C6b (t : T) : dpA t 0 = 0 := by simp [dpA, El]
theorem B1o {t : T} {i : Nat} (h : i < t.kids.length) : dpA t (i + 1) = dpA t i + ((binds t.kind (i : Int)).2 + Er (t.kids.getD i t0)) := by
 unfold dpA
 rw [Ab (d := t0) h, Zh, List.length_take, Nat.min_eq_left A1, Nat.zero_add]
theorem C6a (t : T) : dpB t 0 = dpA t t.kids.length := by
 unfold dpB dpA
 rw [List.take_length, List.take_zero, show Fq [] = 0 from rfl]; omega
theorem C9n (t : T) : dpB t t.sys.length = Er t := by unfold dpB; rw [List.take_length, Nu]
theorem C5x (t : T) (s : Nat) : dpC t s 0 = dpB t s := by
 unfold dpC
 rw [List.take_zero, show Fy [] = 0 from rfl]; omega
theorem B1n {t : T} {s k : Nat} (h : k < (t.sys.getD s B1).kids.length) : dpC t s (k + 1) = dpC t s k + (1 + Er ((t.sys.getD s B1).kids.getD k t0)) := by
 unfold dpC
 rw [Ab (d := t0) h, Zg]; omega
theorem C9m {t : T} {s : Nat} (h : s < t.sys.length) : dpC t s (t.sys.getD s B1).kids.length = dpB t (s + 1) := by
 unfold dpC dpB
 rw [List.take_length, Ab (d := B1) h, Sj]; omega
theorem C6c (t : T) (i : Nat) : 0 ≤ dpA t i ∧ dpA t i ≤ size t := by
 have h1 := Lj (k := t.kind) (ts := t.kids.take i) (i := 0)
 have h2 := A7d (k := t.kind) t.kids 0 i
 have h3 := Mc t
 have h4 := Nu t
 have h5 := Jz (bs := t.sys)
 unfold dpA
 omega
theorem C5y {t : T} {s : Nat} (hs : s < t.sys.length) (k : Nat) : 0 ≤ dpC t s k ∧ dpC t s k ≤ size t := by
 have h1 := Lj (k := t.kind) (ts := t.kids) (i := 0)
 have h2 := Jz (bs := t.sys.take s)
 have h3 := Li (ts := (t.sys.getD s B1).kids.take k)
 have h4 := A7c (t.sys.getD s B1).kids k
 have h5 := Sj (b := t.sys.getD s B1) (bs := t.sys.take s)
 rw [← Ab (d := B1) hs] at h5
 have h6 := A7e t.sys (s + 1)
 have h7 := Mc t
 have h8 := Nu t
 unfold dpC dpB
 omega
theorem B3f (t : T) : size (Cq t).2.2 ≤ 20000 + 10 * size t := by
 have hp := size_pos' t
 have h1 : size t0 = 1 := by decide +kernel
 by_cases hf : A7 t = 0
 ·rw [Tc hf]
  cases hs : Az t with
  | none => show size t0 ≤ _; omega
  | some y =>
   have := Xk hs
   simp only [Qc]
   split
   ·show size t0 ≤ _; omega
   ·split
    ·show size t0 ≤ _; omega
    ·exact this
 ·rw [A1x hf]
  show size t0 ≤ _; omega
def Sl : T := .mk 20 0 ⟨#[]⟩ [] [] []
def paE : T := .mk 13 0 ⟨#[]⟩ [⟨0, 2⟩] [.mk 12 0 ⟨#[]⟩ [] [lpE [⟨1, 0⟩]] [], Sl, Sl] []
theorem C5u : Cq (aE (lE (vE 0)) uE) = (0, true, uE) := by decide +kernel
theorem C5t : Cq paE = (0, true, lpE [⟨0, 2⟩]) := by decide +kernel
theorem C5s : Cq uE = (0, false, t0) := by decide +kernel
theorem Z9 : size (aE (lE (vE 0)) uE) = 4 ∧ size paE = 5 ∧ size uE = 1 := by decide +kernel
end Go.Hy
namespace Go.Hy
open Go.RowKit Go.Shelf
theorem B9a {F : Fence} {n : Nat} {P : Program} {α : Type} {g : Operand} {ps : Array Tmp} {assign body : Code} {Q : Exit → Act → World → Prop} {a : Act} {w : World}
  (hro : F.round = none) (h1 : 1 ≤ n) {gf : Nat} {lb : Array Value} (hg : a.eval g = .func (.func gf) #[] lb) (hFg : F.fn gf) (eg : ∀ args w, (callFunc gf args).run P w = .ok (.enter gf args) w)
  {encs : α → Array Value} (hps : ∀ x, (encs x).size = ps.size) (I : List α → World → Prop) (Px : List α → α → Prop) (Kp : World → World → Prop)
  (hIp : ∀ (pre : List α) (A : World) (l : Nat) (o o0 : Obj), I pre A → A.heap[l]? = some o0 → o0.isCells = false → w.heap.size ≤ l → I pre (A.putObj l o)) (hIa : ∀ (pre : List α) (A : World) (o : Obj), I pre A → w.heap.size ≤ A.heap.size → I pre (A.alloc o)) (h0 : I [] w)
  (hKt : ∀ {A B C : World}, Kp A B → Kp B C → Kp A C) (hKp : ∀ (A : World) (l : Nat) (o o0 : Obj), A.heap[l]? = some o0 → o0.isCells = false → w.heap.size ≤ l → Kp A (A.putObj l o))
  (xs : List α)
  (hit : ∀ (l : Nat) (J : List α → World → Prop) (W1 : World), (∀ pre W, J pre W → I pre W) →
   (∀ pre A B, J pre A → I pre B → (∀ (k : Nat) (o : Obj), A.heap[k]? = some o → o.isCells = false → B.heap[k]? = some o) → J pre B) →
   (∀ pre x W, J pre W → Px pre x → YieldAt F (n - 1 - 1) P l (encs x) W fun e W' => e = .returned (.bool true) ∧ J (pre ++ [x]) W' ∧ Kp W W') → J [] W1 → (∀ (k : Nat), k < w.heap.size → W1.heap[k]? = w.heap[k]?) →
   CallsIn F (n - 1) P gf (#[.func (.yield l) #[] #[]] ++ lb) W1 fun e W' => (∃ v, e = .returned v) ∧ J xs W')
  (a₁ : α → Act)
  (hassign : ∀ (l : Nat) (x : α) (W : World) (K : Act → World → Prop), K (a₁ x) W →
   assign.wpIn (F.inRound l) (n - 1 - 1) P (Exit.then K (fun _ _ _ => False)) { tmps := (ps.zip (encs x)).foldl (fun t (p, v) => t.setIfInBounds p v) a.tmps, defers := [] } W)
  (hbody : ∀ (l : Nat) (pre : List α) (x : α) (W : World), I pre W → Px pre x →
   body.wpIn (F.inRound l) (n - 1 - 1) P (fun e _ W' => e = .normal ∧ KeepsOthers W W' ∧ Kp W W' ∧ I (pre ++ [x]) W') (a₁ x) W)
  (hdone : ∀ (D : Nat) (W : World), w.heap.size ≤ D → I xs W → W.heap[D]? = some (.deferred (some [])) → Q .normal { a with defers := { target := .collected D, args := #[] } :: a.defers } W) :
  (Code.rangeFunc g ps assign body).wpIn F n P Q a w := by
 refine wpIn_rangeFunc ?_
 intro fn hfn
 rw [hro]
 obtain ⟨rec, hrec⟩ : ∃ rec : LoopState → Option Code → Loop, rec = fun st pe => { state := st, pending := pe, fn, tmps := a.tmps, params := ps, assign, body, defers := w.heap.size } := ⟨_, rfl⟩
 obtain ⟨W1, hW1⟩ : ∃ W1, (w.alloc (.deferred (some []))).alloc (.loop (rec .ready none)) = W1 := ⟨_, rfl⟩
 have hL1 : W1.heap[w.heap.size + 1]? = some (.loop (rec .ready none)) := by
  rw [← hW1]; have := World.alloc_heap_new (w.alloc (.deferred (some []))) (.loop (rec .ready none)); rwa [World.size_alloc] at this
 have hK1 : W1.heap[w.heap.size]? = some (.deferred (some [])) := by
  rw [← hW1]; exact (Below.heap_alloc _ _ _ Cs).trans (World.alloc_heap_new w _)
 have hI1 : I [] W1 := by rw [← hW1]; exact hIa _ _ _ (hIa _ _ _ h0 (Nat.le_refl _)) Cs
 refine ⟨w.heap.size + 1, [{ target := .collected w.heap.size, args := #[] }], W1, { target := .fn (.func gf) lb, args := #[.func (.yield (w.heap.size + 1)) #[] #[]] }, W1, gf,
  #[.func (.yield (w.heap.size + 1)) #[] #[]] ++ lb, W1, ?_, ?_, ?_, ?_, fun _ => h1, ?_⟩
 ·rw [← hW1, hrec]; exact run_enterLoop_outer _ _ _ _ _
 ·simp only [resolve, hg]
  simp [go_sem]
 ·intro f' hf'; simp [Target.leads] at hf'; subst hf'; exact hFg
 ·simp [invoke, go_sem, eg]
 ·refine (hit (w.heap.size + 1) (fun pre W => I pre W ∧ W.heap[w.heap.size + 1]? = some (.loop (rec .ready none)) ∧ W.heap[w.heap.size]? = some (.deferred (some []))) W1
   (fun pre W h => h.1) (fun pre A B hA hB hk => ⟨hB, hk _ _ hA.2.1 rfl, hk _ _ hA.2.2 rfl⟩) ?_ ⟨hI1, hL1, hK1⟩ (fun k hk => by rw [← hW1]; exact (Below.heap_alloc _ _ _ (by simp; omega)).trans (Below.heap_alloc _ _ _ hk))).mono ?_
  ·rintro pre x W ⟨hi, hl, hk⟩ hpx
   have hlt : w.heap.size + 1 < W.heap.size := (Array.getElem?_eq_some_iff.1 hl).1
   have hy := run_yield (P := P) (args := encs x) hl (by rw [hrec]; exact hps x)
   rw [hrec] at hy
   refine ⟨fn, _, assign, body, hy, roundIn_of_wpIn hfn (hassign _ x W _ ⟨_, run_beginRound hl (by rw [hrec]), ?_⟩)⟩
   have hl2 : (W.putObj (w.heap.size + 1) (.loop { rec .ready none with state := .busy })).heap[w.heap.size + 1]? = some (.loop { rec .ready none with state := .busy }) := World.putObj_heap_same hlt
   have hk2 : (W.putObj (w.heap.size + 1) (.loop { rec .ready none with state := .busy })).heap[w.heap.size]? = some (.deferred (some [])) := (World.putObj_heap_other A1).trans hk
   refine wpIn_mono (hbody _ pre x _ (hIp _ _ _ _ _ hi hl rfl A1) hpx) ?_
   rintro e a3 W3 ⟨rfl, hk3, hkp3, hi3⟩
   have hl3 := hk3.same _ _ hl2 rfl
   have hend := run_endRound (P := P) none hl3
   rw [hrec] at hl3 hend
   refine ⟨_, _, hend, rfl, ⟨hIp _ _ _ _ _ hi3 hl3 rfl A1, ?_, ?_⟩, hKt (hKt (hKp _ _ _ _ hl rfl A1) hkp3) (hKp _ _ _ _ hl3 rfl A1)⟩
   ·rw [hrec]; exact World.putObj_heap_same (Array.getElem?_eq_some_iff.1 hl3).1
   ·exact (World.putObj_heap_other A1).trans (hk3.same _ _ hk2 rfl)
  ·rintro e W2 ⟨⟨v, rfl⟩, hi, hl, hk⟩
   exact ⟨none, _, by have := run_endLoop (P := P) hl (by rw [hrec]; simp); rw [hrec] at this; exact this, hdone _ _ (Nat.le_refl _) (hIp _ _ _ _ _ hi hl rfl A1) ((World.putObj_heap_other A1).trans hk)⟩
end Go.Hy
namespace Go.Hy
open Go.Proofs Go.Proofs.Tryz
set_option maxRecDepth 100000
theorem B3l (l : List Cl) (a_l : SH) (m : List Cl) (a_m : SH)  : Spec prog 31 #[sl a_l (l.length), sl a_m (m.length)] [CL l a_l, CL m a_m] [] (fun _ : Unit => .bool ((decide (l = m)))) (fun _ => []) (fun _ => []) := by
 refine Dp ntmps31 fun B hB => ?_
 refine A4 (l := l) (a := a_l) (fun hl1 hA1 hU1 => ?_); refine A4 (l := m) (a := a_m) (fun hl2 hA2 hU2 => ?_); refine Vl ?_; refine Ks ?_; refine E8 ?_; refine Ks ?_; refine Wq ?_; refine C3 (decide ((l.length : Int) ≠ (m.length : Int))) (fun h10 c10 => ?_) (fun h10 c10 => ?_)
 ·have hne : ¬ l = m := fun e => by subst e; simp at h10
  refine Co ?_; refine Ap f_ rfl A9 () (by rw [decide_eq_false hne]) (fun w hs => hs.none)
 ·have hlen : l.length = m.length := by simp at h10; omega
  refine Iz ?_; refine Co ?_; refine Hi ?_; refine Bf (X := Nat) (fun s_ => s_ ≤ l.length ∧ ∀ j, j < s_ → l.getD j B5 = m.getD j B5) (fun s_ => [(0, sl a_l (l.length)), (1, sl a_m (m.length)), (5, iv ((s_ : Int)))]) (fun s_ G_ => G_) (fun s_ => []) (fun s_ => l.length - s_) (0) (⟨by omega, fun j hj => by omega⟩) (by exact Fi) ?_ ?_
  ·exact fun w hs => hs
  ·intro i base0 ⟨hi, hok⟩ next0; refine Hh ?_; refine E8 ?_; refine Ks ?_; refine Su ?_; refine Ii ?_; refine C3 (decide ((i : Int) < (l.length : Int))) (fun h14 c14 => ?_) (fun h14 c14 => ?_)
   ·refine I0 ?_; refine B6 (pn := 1000000) (tn := false) (A := [0, 0, 3, 7, 0, 0, 48, 112, 255]) (l := [0, 1, 2, 3, 4, 5, 6, 7, 8]) (fin := []) Tab.mixed ⟨_, func31⟩ (by rfl) ?_; refine Hz ?_; obtain ⟨bk3, o3, hav3⟩ := hA1 A1; refine n0 rfl (Fj ?_ (j := i)); refine n0 rfl (B5x ?_); refine Hz ?_; obtain ⟨bk4, o4, hav4⟩ := hA2 A1; refine n0 rfl (Fj ?_ (j := i)); refine n0 rfl (B5x ?_); refine n0 rfl (D0f ?_ (c := (l.getD i B5)) (c' := (m.getD i B5))); refine Mt ?_; refine C3 (!decide ((l.getD i B5) = (m.getD i B5))) (fun h25 c25 => ?_) (fun h25 c25 => ?_)
    ·refine Co ?_; refine Ap f_ rfl A9 () (by rw [decide_eq_false (fun e => by subst e; simp at h25)]) (fun w hs => hs.none)
    ·refine I2 ?_; refine Ef ?_; refine P1 ?_; have hb : l.getD i B5 = m.getD i B5 := by simpa using h25
     refine A3 (fun w hs => ?_) (next0 (i + 1) _ (⟨by omega, C2d hok hb⟩) A1 Fi); exact (hs.l9)
   ·refine E9 ?_; refine Co ?_; refine Ap f_ rfl A9 () (by rw [decide_eq_true (Oj hlen (fun j hj => hok j A1))]) (fun w hs => hs.none)
end Go.Hy
namespace Go.Hy
open Go.Proofs Go.Proofs.Tryz
set_option maxRecDepth 100000
attribute [local go_sem] Oper.semAt_some
open Go.RowKit Go.Shelf
set_option maxHeartbeats 1000000
theorem D9p (F : Fence) (n : Nat) (hF : F.fn 258) (hro : F.round = none) (r : Nat) (k idx : Nat) (hk : k < 24) (h0 : ((r : Int) == 0) = false)
  (key : bits BinOp.and IntKind.u32 (r : Int) (-(r : Int) % 4294967296) * 125613361 % 4294967296 / 134217728 = (idx : Int)) (hi : idx < 32) (W : World) (hc : W.cell? ⟨0, idx, none⟩ = some (.int .u8 (k : Int))) :
  CallsIn F n prog 258 #[.int .u32 (r : Int)] W fun e w' => e = .returned (iv (k : Int)) ∧ w' = W := by
 refine callsIn_of_wp func258 rfl hF ?_ hro; simp only [ntmps258, List.size_toArray, List.length_cons, List.length_nil, Nat.reduceAdd, Nat.reduceSub, Array.replicate_succ, Array.replicate_zero, List.push_toArray, List.append_toArray, List.nil_append, List.cons_append]
 gi_wp2_with (simp only [key])
 go_ret
 exact ⟨rfl, rfl⟩
theorem tz32' (F : Fence) (n : Nat) (hF : F.fn 258) (hro : F.round = none) (r : Nat) (h0 : ¬ r = 0) (hr : r < 16777216) (W : World) (hT : TabAt 0 Lib.deBruijn32tab W) :
  CallsIn F n prog 258 #[.int .u32 (r : Int)] W fun e w' => e = .returned (iv (Lib.ctz 32 r : Int)) ∧ w' = W := by
 obtain ⟨hlow, hk⟩ := Lib.lowest_bit 32 r h0 A1; obtain ⟨hi, htab⟩ := Lib.deBruijn32_at _ hk; have hcell := hT _ hi; rw [htab] at hcell; exact D9p F n hF hro r _ _ (A3h h0 hr).1 (by simp; omega) (tz32_key r _ A1 h0 hlow) hi W hcell
theorem in1 (F : Fence) (n : Nat) (h208 : F.fn 257) (h209 : F.fn 258) (hro : F.round = none) (hn : 1 ≤ n) (l g : Nat) (s : Nat) (J : List Int → World → Prop)
  (hY : ∀ pre x W, J pre W → pre.length < 24 → (0 ≤ x ∧ x < 24) → YieldAt F (n - 1) prog l #[iv x] W fun e W' => e = .returned (.bool true) ∧ J (pre ++ [x]) W' ∧ W'.heap[g]? = W.heap[g]?)
  (hT : ∀ pre W, J pre W → TabAt 0 Lib.deBruijn32tab W)
  (hJ : ∀ pre W v, J pre W → J pre (W.setCell ⟨g, 0, none⟩ v))
  (hs : s < 4294967296) (W : World) (hg : Boxed W g 89 (.int .u32 (s : Int))) (h0 : J [] W) :
  CallsIn F n prog 257 #[.func (.yield l) #[] #[], pz g] W fun e W' => (∃ v, e = .returned v) ∧ J (Bd s) W' := by
 refine callsIn_of_wp func257 rfl h208 ?_ hro; simp only [ntmps257, List.size_toArray, List.length_cons, List.length_nil, Nat.reduceAdd, Nat.reduceSub, Array.replicate_succ, Array.replicate_zero, List.push_toArray, List.append_toArray, List.nil_append, List.cons_append]; have hc := hg.cell; have hf := hg.frozen
 gi_wp2
 gi_loopw [] (fun wr => ∃ (pre : List Int) (r : Nat), Bd s = pre ++ Bd r ∧ r < 16777216 ∧ Boxed wr g 89 (.int .u32 (r : Int)) ∧ J pre wr)
  (fun wr => match wr.cell? ⟨g, 0, none⟩ with | some (.int _ v) => v.toNat | _ => 0)
 case atStart =>
  refine ⟨[], s &&& 16777215, by rw [List.nil_append, B9w], by rw [B2n]; exact Nat.mod_lt _ F2, ?_, hJ _ _ _ h0⟩; rw [← bits_and_u32_nat s 16777215 hs F2]; exact hg.set _
 case round =>
  obtain ⟨pre, r, hx, hr, hb, hj⟩ := hrel; have hc2 := hb.cell; have hf2 := hb.frozen; by_cases hr0 : r = 0
  ·subst hr0
   gi_wp2
   go_end0
   exact ⟨⟨_, rfl⟩, by rw [hx, show Bd 0 = [] from by decide, List.append_nil]; exact hj⟩
  ·obtain ⟨hk, hlist⟩ := A3h hr0 hr
   have hlen : pre.length < 24 := by
    have h1 := congrArg List.length hx; have h2 : (Bd s).length ≤ 24 := Jw s 24; rw [List.length_append, hlist, List.length_cons] at h1; omega
   obtain ⟨fn, tmps, assign, body, hy, hR⟩ := hY pre (Lib.ctz 32 r : Int) wr hj hlen A1; have hbe : ((r : Int) != 0) = true := by simp; omega
   gi_wp2_with (gi_at_call 258; refine (tz32' F (n - 1) h209 hro r hr0 hr wr (hT _ _ hj)).mono ?_; rintro e w' ⟨rfl, rfl⟩)
   refine hR.mono ?_; rintro e W3 ⟨rfl, hJ3, hg3⟩; have hb3 : Boxed W3 g 89 (.int .u32 (r : Int)) := hg3.trans hb; have hc3 := hb3.cell; have hf3 := hb3.frozen
   gi_wp2
   have e1 : bits BinOp.and IntKind.u32 (r : Int) ((r : Int) - 1) = ((r &&& (r - 1) : Nat) : Int) := by
    rw [show (r : Int) - 1 = ((r - 1 : Nat) : Int) by omega]; exact bits_and_u32_nat r (r - 1) A1 A1
   rw [e1]; have hb4 := hb3.set (.int .u32 ((r &&& (r - 1) : Nat) : Int)); have hlt := D3g hr0
   go_roundw
   case rel => exact ⟨pre ++ [(Lib.ctz 32 r : Int)], r &&& (r - 1), by rw [hx, hlist, List.append_assoc]; rfl, by omega, hb4, hJ _ _ _ hJ3⟩
   case measure =>
    rw [hb4.cell, hc2]; simp only [Int.toNat_natCast]; exact hlt
theorem D7n (F : Fence) (n : Nat) (h : F.fn 206) (hro : F.round = none) (s : Nat) (w : World) :
  CallsIn F n prog 206 #[.int .u32 (s : Int)] w fun e w' => e = .returned (.func (.func 257) #[] #[.pointer (some ⟨w.heap.size, 0, none⟩)]) ∧ w' = w.alloc (.cells #[.int .u32 (s : Int)] 89) := by
 refine callsIn_of_wp func206 rfl h ?_ hro; simp only [ntmps206, List.size_toArray, List.length_cons, List.length_nil, Nat.reduceAdd, Nat.reduceSub, Array.replicate_succ, Array.replicate_zero, List.push_toArray, List.append_toArray, List.nil_append, List.cons_append]
 gi_wp2
 go_ret
 exact ⟨rfl, rfl⟩
theorem C9b : (prog.info? 3).map (fun i => (i.zero, i.size, i.bytes)) = some (some (iv 0), 1, 8) := by kernel_rfl
theorem C8x (F : Fence) (n : Nat) (h81 : F.fn 123) (h156 : F.fn 206) (h208 : F.fn 257) (h209 : F.fn 258) (hro : F.round = none) (hn : 3 ≤ n) (s : Nat) (hs : s < 4294967296) (w : World) (hw : 0 < w.heap.size) (hT : TabAt 0 Lib.deBruijn32tab w) :
  CallsIn F n prog 123 #[.int .u32 (s : Int)] w fun e W' => ∃ v, e = .returned v ∧ W'.ownsRow w.heap.size 3 1 v (Bd s).length ((Bd s).map (Value.int .i64)) ∧ Below w.heap.size w W' := by
 have h1 : 1 ≤ n := by omega
 obtain ⟨i0, hi, hz0, hz1, hz2⟩ := info_parts C9b; refine callsIn_of_wp_marks func123 rfl h81 ?_ hro; simp only [ntmps123, List.size_toArray, List.length_cons, List.length_nil, Nat.reduceAdd, Nat.reduceSub, Array.replicate_succ, Array.replicate_zero, List.push_toArray, List.append_toArray, List.nil_append, List.cons_append]
 gi_wp2_with (gi_at_call 206; refine (D7n F (n - 1) h156 hro _ _).mono ?_; rintro e w' ⟨rfl, rfl⟩)
 obtain ⟨w2, hw2⟩ : ∃ w2, (w.alloc (.cells #[.slice none 0 0] 140)).alloc (.cells #[.int .u32 (s : Int)] 89) = w2 := ⟨_, rfl⟩; have bO : Boxed w2 w.heap.size 140 (.slice none 0 0) := by rw [← hw2]; exact (Boxed.new w 140 (.slice none 0 0)).alloc _
 have bS : Boxed w2 (w.heap.size + 1) 89 (.int .u32 (s : Int)) := by rw [← hw2]; have := Boxed.new (w.alloc (.cells #[.slice none 0 0] 140)) 89 (.int .u32 (s : Int)); rwa [World.size_alloc] at this
 have hsz2 : w2.heap.size = w.heap.size + 2 := by rw [← hw2]; simp
 have hB2 : Below w.heap.size w w2 := by rw [← hw2]; exact ((Below.refl _ w).alloc (Nat.le_refl _) _).alloc Cs _
 have hrw : ∀ {A B : World}, B.heap[w.heap.size + 1]? = A.heap[w.heap.size + 1]? → ∀ u, Boxed A (w.heap.size + 1) 89 u → Boxed B (w.heap.size + 1) 89 u := fun h u hu => h.trans hu
 simp only [World.size_alloc, hw2]
 refine B9a hro h1 (gf := 257) (lb := #[.pointer (some ⟨w.heap.size + 1, 0, none⟩)]) rfl h208 (enters_of func257 (by kernel_rfl) rfl) (encs := fun x : Int => #[iv x]) (fun _ => rfl)
  (fun pre W => (∃ v, Boxed W w.heap.size 140 v ∧ W.ownsRow w.heap.size 3 1 v pre.length (pre.map (Value.int .i64))) ∧ (∃ u, Boxed W (w.heap.size + 1) 89 u) ∧ Below w.heap.size w W)
  (fun pre x => pre.length < 24 ∧ (0 ≤ x ∧ x < 24)) (fun W W' => W'.heap[w.heap.size + 1]? = W.heap[w.heap.size + 1]?)
  ?ip ?ia ⟨⟨_, bO, World.ownsRow_nil _ _ _ _⟩, ⟨_, bS⟩, hB2⟩ (fun h k => k.trans h) ?kp (Bd s) ?it
  (fun x => { tmps := #[.int .u32 (s : Int), undef, .slice none 0 0, .pointer (some ⟨w.heap.size, 0, none⟩), iv x, .int .u32 (s : Int), .func (.func 257) #[] #[.pointer (some ⟨w.heap.size + 1, 0, none⟩)], iv x, undef, undef, undef, undef, undef], defers := [] }) ?assign ?body ?done
 case ip =>
  rintro pre A l o o0 ⟨⟨v, hv, hr⟩, ⟨u, hu⟩, hB⟩ hl hc hle; refine ⟨⟨v, (World.putObj_heap_other A1).trans hv, ownsRow_putObj hr o hl hc⟩, ⟨u, (World.putObj_heap_other A1).trans hu⟩, hB.trans ⟨rfl, rfl, rfl, by simp, fun k hk => World.putObj_heap_other A1⟩⟩
 case ia =>
  rintro pre A o ⟨⟨v, hv, hr⟩, ⟨u, hu⟩, hB⟩ hle; exact ⟨⟨v, hv.alloc o, hr.kept (World.grownBy_alloc A o none) (by rcases hr.2 with ⟨rfl, _⟩ | ⟨g, cap, cur, rfl, _⟩; exact .inl rfl; exact .inr (by simp [Value.ownBlock]))⟩, ⟨u, hu.alloc o⟩, hB.alloc A1 o⟩
 case kp =>
  intro A l o o0 hl hc hle; exact World.putObj_heap_other A1
 case it =>
  intro l J W1 hJI hJk hY h0 hk1; refine in1 F (n - 1) h208 h209 hro A1 l (w.heap.size + 1) s J (fun pre x W hj hl hx => hY pre x W hj ⟨hl, hx⟩) (fun pre W hj => ?_) (fun pre W v hj => ?_) hs W1 ?_ h0
  ·intro i hi; exact ((hJI _ _ hj).2.2.cell (p := ⟨0, i, none⟩) hw).trans (hT i hi)
  ·obtain ⟨⟨v0, hv0, hr⟩, ⟨u, hu⟩, hB⟩ := hJI _ _ hj; refine hJk pre W _ hj ⟨⟨v0, hv0.other A1 v, hr.kept (grownBy_setCell' W (w.heap.size + 1) v) (.inr (hu.not_row F2 hr).symm)⟩, ⟨_, hu.set v⟩, hB.setCell (p := ⟨w.heap.size + 1, 0, none⟩) Cs v⟩ (fun k o hk ho => (KeepsOthers.setCell W _ v).same k o hk ho)
  ·exact (hk1 _ A1).trans bS
 case assign =>
  intro l x W K hK
  gi_wp2
  exact hK
 case body =>
  rintro l pre x W ⟨⟨v, hv, hrow⟩, ⟨u, hu⟩, hB⟩ ⟨hlt, hx⟩; have hc := hv.cell
  gi_wp2_with (gi_at_builtin; refine wpListIn_append_own _ rfl _ _ 140 rfl w.heap.size 3 i0 (iv 0) 1 8 Tryz.underlying140 hi hz0 hz1 hz2 rfl F2 _ _ _ rfl (hrow.alloc _) ⟨W.heap.size, 0, none⟩ 1 1 [iv x] rfl rfl (cell_one_new _ _ _) (by simp [Value.oneCell']) (by unfold maxLen; omega) A1 (by have := hB.size; simp; omega) ?_; intro v' w1 hown' hgrow _; obtain ⟨g', cap', rfl⟩ := ownsRow_succ hown'; obtain ⟨hv1, hv2, hr2, hk2, hb2⟩ := hv.appended F2 hrow hB.size (Nat.le_refl _) hown' hgrow; have hc1 := hv1.cell; have hf1 := hv1.frozen)
  have hu1 := ((hu.alloc (.cells #[iv x] 3)).kept hgrow (hu.not_row F2 hrow)).other (B' := w.heap.size) A1 (.slice (some ⟨g', 0, none⟩) (pre.length + 1) cap'); exact ⟨hu1.trans hu.symm, ⟨_, hv2, by simpa using hr2⟩, ⟨u, hu1⟩, hB.trans hb2⟩
 case done =>
  rintro D W hD ⟨⟨v, hv, hrow⟩, _, hB⟩ hK; have hc := hv.cell
  gi_wp2
  refine ⟨by simp, .inl ⟨_, _, rfl, run_takeDeferred hK, ?_⟩⟩; exact ⟨_, results_tmp rfl _ _ _, v, rfl, ownsRow_putObj hrow _ hK rfl, hB.trans ⟨rfl, rfl, rfl, by simp, fun k hk => World.putObj_heap_other A1⟩⟩
abbrev Qk : Fact := At 0 0 (Lib.deBruijn32tab.map fun (v : Nat) => Value.int .u8 (v : Int))
theorem D1t {ok : Nat → Prop} {w : World} (h : Qk.f ok w) (hk : ∀ b, ok b → b < w.heap.size) : TabAt 0 Lib.deBruijn32tab w ∧ 0 < w.heap.size := by
 refine ⟨fun j hj => ?_, hk _ h.1⟩; have h1 := h.2 j (.int .u8 (Lib.deBruijn32tab.getD j 0 : Nat)) (by rw [List.getElem?_map, List.getD_eq_getElem?_getD, List.getElem?_eq_getElem hj]; rfl)
 rwa [Nat.zero_add] at h1
theorem B9u (s : Nat) (hs : s < 4294967296) : Spec prog 123 #[.int .u32 (s : Int)] [Qk] [] (fun x : SH => sl x (Bd s).length) (fun _ => []) (fun x => [Al 1 3 x (Bd s).length (R1 (Bd s))]) := fun ok w hok hst => by
 obtain ⟨hT, hw⟩ := D1t (hst.facts Qk List.mem_cons_self) (fun b hb => hb.2.1); refine (callsIn_wide.mp (C8x Fence.wide 3 trivial trivial trivial trivial rfl (Nat.le_refl _) s hs w hw hT)).mono fun e w' hh => ?_
 obtain ⟨v, rfl, hrow, hB⟩ := hh; obtain ⟨a, rfl⟩ := B6p hrow
 have hrow0 : w'.ownsRow 0 3 1 (sl a (Bd s).length) (Bd s).length (R1 (Bd s)) := by
  have h1 : w'.ownsRow 0 3 1 (sl a (Bd s).length) (Bd s).length ((Bd s).map (Value.int .i64)) := ⟨hrow.1, hrow.2.imp id (fun ⟨g, cap, cur, q1, q2, q3⟩ => ⟨g, cap, cur, q1, Nat.zero_le _, q3⟩)⟩
  rwa [show (Bd s).map (Value.int .i64) = R1 (Bd s) from by induction (Bd s) with | nil => rfl | cons y ys ih => (simp only [List.map_cons, R1, List.flatMap_cons, Q6, List.singleton_append] at ih ⊢; rw [ih])] at h1
 refine ⟨a, rfl, ⟨hB.os, hB.tape, hB.output, hB.size, fun b hb _ => hB.block b hb⟩, fun _ hF => (by cases hF), ?_, ?_, List.pairwise_singleton _ _⟩
 ·intro m hm w2 hw2; rw [List.mem_singleton] at hm; subst hm; exact Xt hrow0 (fun b hb => hw2 b hb)
 ·intro m hm b hb; rw [List.mem_singleton] at hm; subst hm; have := hrow.lt b hb; exact ⟨this.2, .inr this.1⟩
theorem A3f (s : Nat) (hs : s < 4294967296) : Spec prog 123 #[.int .u32 (s : Int)] [Qk] [] (fun x : SH => sl x (Bd s).length) (fun x => [IL (Bd s) x]) (fun _ => []) := fun ok w hok hst => (B9u s hs ok w hok hst).mono fun e w' hh => by
 obtain ⟨x, he, h⟩ := hh; have hl : (Bd s).length ≤ 24 := Jw s 24; exact ⟨x, he, h.A8t trivial rfl rfl (by unfold reach; omega) (fun c hc => by have := A3g hc; unfold Aj; omega)⟩
end Go.Hy
namespace Go.Hy
open Go.Proofs Go.Proofs.Tryz
set_option maxRecDepth 100000
theorem He (i : Int) : Spec prog 195 #[iv i] [] [] (fun _ : Unit => .bool (decide (0 ≤ i) && decide (i < 24))) (fun _ => []) (fun _ => []) := by
 refine Dp ntmps195 fun B hB => ?_
 refine I1 ?_; refine B2x ?_; refine E8 ?_; refine qI rfl rfl rfl Lp (fun hg5 => Ff ?_) (fun hg5 => ?_)
 ·refine B8m ?_; refine Gy ?_; refine Ap f_ rfl A9 () (by first | (simp_all; done) | (simp_all; omega)) (fun w hs => hs.none)
 ·refine Un ?_; refine Gn ?_; refine Ap f_ rfl A9 () (by first | (simp_all; done) | (simp_all; omega)) (fun w hs => hs.none)
theorem Q0 (s : Nat) (hs : s < 4294967296) : Spec prog 249 #[.int .u32 (s : Int)] [] [] (fun _ : Unit => .bool (decide (s < 16777216))) (fun _ => []) (fun _ => []) := by
 refine Dp ntmps249 fun B hB => ?_
 refine I1 ?_; refine q0 rfl (Pz ?_ (b := 16777215)); refine q0 rfl (W5 ?_ (b := 0)); refine By ?_; refine Ap f_ rfl A9 () (by rw [B2l hs]) (fun w hs => hs.none)
theorem Uq (s : Nat) (hs : s < 4294967296) : Spec prog 112 #[.int .u32 (s : Int), iv (-1)] [] [] (fun _ : Unit => .int .u32 ((s &&& 16777215 : Nat) : Int)) (fun _ => []) (fun _ => []) := by
 refine Dp ntmps112 fun B hB => ?_
 refine I1 ?_; refine q0 rfl (I5 ?_ (b := 16777215)); refine By ?_; refine Hh ?_; refine q0 rfl (A0 call195 (He (-1)) (fun x8 => ?_)); refine Jo ?_; refine A5 (fun h9 => ?_) (fun h9 => ?_)
 ·refine Jn ?_; refine Ap f_ rfl A9 () rfl (fun w hs => hs.none)
 ·exact absurd h9 F2
theorem Sg : C7a := by
 intro l a; refine Dp ntmps64 fun B hB => ?_
 refine A4 (l := l) (a := a) (fun hl1 hA1 hU1 => ?_); refine Co ?_; refine Oz ?_; refine Fm (X := Nat) (fun i => i ≤ l.length) (fun i => [(3, .int .u32 (Oa l i : Int)), (6, sl a l.length), (7, iv (l.length : Int)), (8, iv (i : Int))]) (fun i => [CL l a]) (fun i => []) (fun i => l.length - i) (0) (Nat.zero_le _) (by exact Fi) ?_ ?_
 ·exact fun w hs => hs.l8
 ·intro i base0 hi next0; refine G1 ?_; refine A5 (fun h9 => ?_) (fun h9 => ?_)
  ·have hlt : i < l.length := by have := of_decide_eq_true h9; omega
   obtain ⟨bk, o, hav⟩ := hA1 A1; have hu := hU1 _ (Ad (d := B5) hlt); have hup := A2x hU1 i; have hor : (l.getD i B5).pos ||| (l.getD i B5).neg < 4294967296 := Nat.or_lt_two_pow (n := 32) hu.1 hu.2; refine J1 ?_; refine Ss ?_; refine Sr ?_; refine q0 rfl (B2 fun b5 => ?_); refine Dv ?_; refine Ef ?_; refine Lk ?_; refine Lk ?_; refine q0 rfl (Oe ?_ (a := (l.getD i B5).pos) (b := (l.getD i B5).neg) (ha := hu.1) (hb := hu.2)); refine q0 rfl (Oe ?_ (a := Oa l i) (b := (l.getD i B5).pos ||| (l.getD i B5).neg)); refine Jl ?_; refine A3 (fun w hs => ?_) (next0 (i + 1) _ hlt A1 ⟨by rw [A9x hlt]; rfl, rfl, rfl, rfl, trivial⟩); exact (hs.l8).bare
  ·have hge : i = l.length := by have := of_decide_eq_false h9; omega
   refine E9 ?_; refine Em ?_; refine q0 rfl (A0 call112 (Uq (Oa l i) (A2x hU1 i)) (fun x21 => ?_)); refine By ?_; refine Ap f_ rfl A9 () (by rw [B1k, ← hge]) (fun w hs => hs.none)
theorem Nw (c : Cl) (hc : u32 c) : Spec prog 196 #[.agg (Ai c).toArray] [] [] (fun _ : Unit => .bool (Bw c)) (fun _ => []) (fun _ => []) := by
 refine Dp ntmps196 fun B hB => ?_
 refine Ar ?_; refine q0 rfl (B0 fun b1 => ?_); refine By ?_; refine H2 ?_; refine q0 rfl (A0 call249 (Q0 c.pos hc.1) (fun x5 => ?_)); refine E8 ?_; refine qI rfl rfl rfl Lp (fun hg6 => Of ?_) (fun hg6 => ?_)
 ·refine J0 ?_; refine qT rfl rfl rfl (A0 call249 (Q0 c.neg hc.2) (fun x9 => ?_)); refine Gy ?_; refine Ap f_ rfl A9 () (by first | (simp_all [Bw]; done) | (simp_all [Bw]; intros; omega)) (fun w hs => hs.none)
 ·refine Hw ?_; refine Gn ?_; refine Ap f_ rfl A9 () (by first | (simp_all [Bw]; done) | (simp_all [Bw]; intros; omega)) (fun w hs => hs.none)
theorem Zl (c : Cl) (hc : u32 c) : Spec prog 248 #[.agg (Ai c).toArray] [] [] (fun _ : Unit => .bool (Hp c)) (fun _ => []) (fun _ => []) := by
 refine Dp ntmps248 fun B hB => ?_
 refine Ar ?_; refine q0 rfl (B0 fun b1 => ?_); refine By ?_; refine H2 ?_; refine Lk ?_; refine q0 rfl (I5 ?_ (a := c.pos) (b := c.neg) (ha := hc.1) (hb := hc.2)); refine q0 rfl (B0f ?_ (b := 0)); refine By ?_; refine Ap f_ rfl A9 () (by simp only [Hp]; congr 1; apply decide_eq_decide.mpr; omega) (fun w hs => hs.none)
theorem V5 (c d : Cl) (hc : u32 c) (hd : u32 d) : Spec prog 251 #[.agg (Ai c).toArray, .agg (Ai d).toArray] [] [] (fun _ : Unit => .agg (Ai (Dk c d)).toArray) (fun _ => []) (fun _ => []) := by
 refine Dp ntmps251 fun B hB => ?_
 refine Ar ?_; refine q0 rfl (B0 fun b2 => ?_); refine q0 rfl (B0 fun b3 => ?_); refine q0 rfl (B2 fun b4 => ?_); refine Ii ?_; refine H2 ?_; refine Lk ?_; refine q0 rfl (Oe ?_ (a := c.pos) (b := d.pos) (ha := hc.1) (hb := hd.1)); refine Lk ?_; refine Lk ?_; refine q0 rfl (Oe ?_ (a := c.neg) (b := d.neg) (ha := hc.2) (hb := hd.2)); refine q0 rfl (Ay (cs := Ai (Dk c d)) ?_); refine Dv ?_; refine O7 f_ rfl () rfl E7 rfl rfl rfl rfl (fun w hs => hs.none)
theorem B5n (c d : Cl) (hc : u32 c) (hd : u32 d) : Spec prog 200 #[.agg (Ai c).toArray, .agg (Ai d).toArray] [] [] (fun _ : Unit => .bool (below c d)) (fun _ => []) (fun _ => []) := by
 refine Dp ntmps200 fun B hB => ?_
 refine Ar ?_; refine q0 rfl (B0 fun b2 => ?_); refine q0 rfl (B0 fun b3 => ?_); refine Iv ?_; refine B6 (pn := 1000000) (tn := false) (A := [0, 0, 3, 0, 15, 31]) (l := [0, 1, 3, 2, 4, 5]) (fin := []) Tab.mixed ⟨_, func200⟩ (by rfl) ?_; refine Mg ?_; refine Mg ?_; refine Mg ?_; refine n0 rfl (B8 call251 (V5 c d hc hd) (fun x7 => ?_)); refine n0 rfl (D6i ?_ (c := Dk c d) (c' := c)); refine A0f ?_; refine Mt ?_; refine Ap f_ rfl A9 () (by rw [B5p]) (fun w hs => hs.none)
end Go.Hy
namespace Go.Hy
open Go.Proofs Go.Proofs.Tryz
set_option maxRecDepth 100000
open Go.Shelf Go.RowKit Go.Lib Go.Sort
theorem C9a (a : Int) (W : World) : Calls prog 291 #[.int .u32 a] W fun e w' => e = .returned (.bool false) ∧ w' = W := by
 go_enter func291, ntmps291
 go_wp2
 go_ret
 exact ⟨by simp, rfl⟩
theorem C0u (a b : Int) (W : World) : Calls prog 254 #[.int .u32 a, .int .u32 b] W fun e w' => e = .returned (iv (compareInt a b)) ∧ w' = W := by
 go_enter func254, ntmps254
 go_wp2_with (go_at_call 291; refine (C9a _ _).mono ?_; rintro e w' ⟨rfl, rfl⟩)
 all_goals (go_ret; refine ⟨?_, rfl⟩; unfold Lib.compareInt; (repeat' split) <;> first | rfl | (exfalso; omega))
def B2b (c d : Cl) : Int := if c.pos = d.pos then compareInt c.neg d.neg else compareInt c.pos d.pos
set_option maxHeartbeats 1000000 in
theorem D9e (c d : Cl) (W : World) : Calls prog 202 #[.agg #[.int .u32 c.pos, .int .u32 c.neg], .agg #[.int .u32 d.pos, .int .u32 d.neg]] W fun e w' => e = .returned (iv (B2b c d)) ∧ ∃ q os', w' = grow (W.drewN q) os' := by
 have hcon := fun a b W' => C0u a b W'
 have e1 : B2b c d = if (c.pos : Int) = d.pos then compareInt c.neg d.neg else compareInt c.pos d.pos := by unfold B2b; simp only [Int.ofNat_inj]
 generalize hr : B2b c d = r at e1 ⊢
 go_enter func202, ntmps202
 go_wp2_with (go_at_call 254; refine (hcon _ _ _).mono ?_; rintro e w' ⟨rfl, rfl⟩)
 all_goals (go_ret; refine ⟨?_, 0, _, by rw [alloc_eq_grow, alloc_eq_grow, grow_grow]; rfl⟩)
 all_goals (rw [e1]; simp_all)
instance : Inhabited Cl := ⟨B5⟩
theorem A7f (c d : Cl) : ltOf B2b c d = D9 c d := by
 unfold ltOf B2b D9 compareInt; by_cases h : c.pos = d.pos
 ·simp only [h, if_true]; by_cases h2 : c.neg < d.neg
  ·rw [if_pos A1]; simp [h2]
  ·rw [if_neg A1]; split <;> simp [h2]
 ·simp only [h, if_false]; by_cases h2 : c.pos < d.pos
  ·rw [if_pos A1]; simp [h2]
  ·rw [if_neg A1, if_pos A1]; simp [h2]
theorem C9o : SWO (ltOf B2b) where
 irrefl x := by rw [A7f]; simp [D9]
 trans x y z h1 h2 := by
  rw [A7f] at *; simp only [D9, Bool.or_eq_true, Bool.and_eq_true, decide_eq_true_eq] at *; omega
 ntrans x y z h1 h2 := by
  rw [A7f] at *; simp only [D9, Bool.or_eq_false_iff, Bool.and_eq_false_iff, decide_eq_false_iff_not] at *; omega
theorem Ub (d : Array Cl) : (flatK Ai 2 d).toList = A6 d.toList := by
 apply List.ext_getElem?; intro t; have hl : (A6 d.toList).length = d.size * 2 := by rw [Ma Ee]; simp
 by_cases ht : t < d.size * 2
 ·have h1 : (flatK Ai 2 d).toList[t]? = some (Ai d[t / 2]!)[t % 2]! := by
   have hs : t < (flatK Ai 2 d).size := by rw [size_flatK]; exact ht
   rw [Array.getElem?_toList, Array.getElem?_eq_getElem hs]; have := get_flatK Ai 2 d t ht; rw [getElem!_pos _ t hs] at this; rw [this]
  rw [h1]; have hd : t / 2 < d.toList.length := by simp; omega
  have e : d.toList.getD (t / 2) B5 = d[t / 2]! := by
   have : t / 2 < d.size := by simpa using hd
   rw [getElem!_pos d (t / 2) this, List.getD_eq_getElem?_getD, List.getElem?_eq_getElem hd]; simp
  have h2 : (Ai (d.toList.getD (t / 2) B5))[t % 2]? = some (Ai d[t / 2]!)[t % 2]! := by
   rw [e]; have : t % 2 < (Ai d[t / 2]!).length := by rw [Ee]; omega
   rw [List.getElem?_eq_getElem this, getElem!_pos (Ai d[t / 2]!) (t % 2) this]
  have := A6r Ee B5 d.toList (t / 2) (t % 2) _ hd h2; rw [show t / 2 * 2 + t % 2 = t by omega] at this; exact this.symm
 ·rw [List.getElem?_eq_none (by simp; omega), List.getElem?_eq_none A1]
theorem B9b (d : Array Cl) (l : List Cl) (rest : List Value) (hs : d.size = l.length) : putCells id 0 (flatK Ai 2 d) (A6 l ++ rest).toArray = (A6 d.toList ++ rest).toArray := by
 apply Array.ext_getElem?; intro t; have hl : (A6 l).length = d.size * 2 := by rw [Ma Ee, hs]
 have hl2 : (A6 d.toList).length = d.size * 2 := by rw [Ma Ee]; simp
 simp only [putCells, Array.getElem?_mapIdx, List.getElem?_toArray, size_flatK, Nat.zero_add, Nat.zero_le, true_and, Nat.sub_zero, id]; by_cases ht : t < d.size * 2
 ·rw [List.getElem?_append_left A1, List.getElem?_append_left A1]
  have h1 : (A6 d.toList)[t]? = some (flatK Ai 2 d)[t]! := by
   rw [← Ub, Array.getElem?_toList]; have hsz : t < (flatK Ai 2 d).size := by rw [size_flatK]; exact ht
   rw [Array.getElem?_eq_getElem hsz, getElem!_pos _ t hsz]
  rw [h1]; obtain ⟨v, hv⟩ : ∃ v, (A6 l)[t]? = some v := ⟨_, List.getElem?_eq_getElem A1⟩; rw [hv, Option.map_some, if_pos ht]
 ·rw [List.getElem?_append_right A1, List.getElem?_append_right A1, hl, hl2]; cases rest[t - d.size * 2]? with
  | none => rfl
  | some v => rw [Option.map_some, if_neg ht]
theorem B8v (l : List Cl) (g cap : Nat) (rest : List Value) (hn : l.length < 4611686018427387904) :
  Spec prog 201 #[.slice (some ⟨g, 0, none⟩) l.length cap, .func (.func 202) #[] #[]] [] [A8 g (A6 l ++ rest) 107] (fun _ : {l' : List Cl // l'.Perm l ∧ l'.Pairwise fun a b => D9 b a = false} => .tuple #[]) (fun _ => []) (fun x => [A8 g (A6 x.1 ++ rest) 107]) := by
 intro ok w hok hs; have hg : w.heap[g]? = some (.cells (A6 l ++ rest).toArray 107 (0, 0)) := hs.res _ List.mem_cons_self w (fun _ _ => rfl); have hlt : g < w.heap.size := (Array.getElem?_eq_some_iff.mp hg).1; have hu : prog.underlying 107 = some (.struct (TyF.fC prog)) := TyF.uC
 have aE : ∀ w, (isAgg (Tryz.Uz.t 24)).run prog w = .ok true w := fun w => by
  show (isAgg 107).run prog w = _; simp [isAgg, run_underlying hu]
 have zE : ∀ w, (Go.sizeOf (Tryz.Uz.t 24)).run prog w = .ok 2 w := fun w => Il (P := prog) (t := 107) rfl w
 have hH : HoldsK Ai 2 w g 0 l.toArray := by
  intro j hj; rw [size_flatK] at hj; have e : (flatK Ai 2 l.toArray).toList = A6 l := by rw [Ub]
  have hsz : j < (flatK Ai 2 l.toArray).size := by rw [size_flatK]; exact hj
  have h1 : (A6 l)[j]? = some (flatK Ai 2 l.toArray)[j]! := by
   rw [← e, Array.getElem?_toList, Array.getElem?_eq_getElem hsz, getElem!_pos _ j hsz]
  refine ⟨?_, by simp [World.frozen?, hg]⟩; have hlen : j < (A6 l).length := (List.getElem?_eq_some_iff.mp h1).1; simp only [World.cell?, hg, Nat.zero_add, Option.isSome_none, Bool.false_eq_true, if_false, List.getElem?_toArray, id]; rw [List.getElem?_append_left hlen]; exact h1
 have hc := AnyQ.slices_SortFunc (P := prog) Tryz.D0j 2 aE zE Ai Ee (fun x v hv => by
   simp only [Ai, List.mem_cons, List.not_mem_nil, or_false] at hv; rcases hv with rfl | rfl <;> rfl) B2b C9o 202 #[] g 0 cap l.toArray w call202
  (fun m os dk hsz x y => D9e x y _) hH hlt (by simpa using hn)
 have hc2 : Calls prog 201 #[.slice (some ⟨g, 0, none⟩) l.length cap, .func (.func 202) #[] #[]] w _ := hc; refine hc2.mono ?_; rintro e w' ⟨he, d', n, os, hp, hsd, hw⟩; have hsize : d'.size = l.length := by simpa using hp.1
 have hperm : d'.toList.Perm l := by
  have := hp.2.2; have e1 : d'.extract 0 l.toArray.size = d' := by rw [show l.toArray.size = d'.size by simp [hsize]]; simp
  have e2 : l.toArray.extract 0 l.toArray.size = l.toArray := by simp
  rw [e1, e2] at this; exact this
 have hsorted : d'.toList.Pairwise fun a b => D9 b a = false := by
  rw [List.pairwise_iff_getElem]; intro i j hi hj hij; have hi' : i < d'.size := by simpa using hi
  have hj' : j < d'.size := by simpa using hj
  have := hsd i j (Nat.zero_le _) hij (by simp; omega); rw [A7f, getElem!_pos d' j hj', getElem!_pos d' i hi'] at this; simpa using this
 have hg' : w'.heap[g]? = some (.cells (A6 d'.toList ++ rest).toArray 107 (0, 0)) := by
  rw [hw]; show ((mapBlock (Go.Sort.ahead w n) g (putCells id 0 (flatK Ai 2 d'))).heap ++ os)[g]? = _; rw [Array.getElem?_append_left (by simp [mapBlock, Go.Sort.ahead]; exact hlt)]; simp only [mapBlock, Go.Sort.ahead, Array.getElem?_modify, if_true, hg, Option.map_some, onCells]; rw [B9b d' l rest hsize]
 have hold : ∀ b, b < w.heap.size → b ≠ g → w'.heap[b]? = w.heap[b]? := by
  intro b hb hne; rw [hw]; show ((mapBlock (Go.Sort.ahead w n) g (putCells id 0 (flatK Ai 2 d'))).heap ++ os)[b]? = _; rw [Array.getElem?_append_left (by simp [mapBlock, Go.Sort.ahead]; exact hb)]; simp only [mapBlock, Go.Sort.ahead, Array.getElem?_modify, if_neg (Ne.symm hne)]
 have hsz' : w.heap.size ≤ w'.heap.size := by rw [hw]; simp [sortWorldK, putRowK, Go.Sort.ahead]
 refine ⟨⟨d'.toList, hperm, hsorted⟩, he, ?_⟩; have h0 : St ⟨ok, B9 [A8 g (A6 l ++ rest) 107], w⟩ [] ([A8 g (A6 l ++ rest) 107]) w := hs
 refine h0.E5 (m' := A8 g (A6 d'.toList ++ rest) 107) ⟨by rw [hw]; rfl, by rw [hw]; rfl, by rw [hw]; rfl, hsz', fun b hb hn => hold b hb hn⟩ (fun w2 hw2 => by
  show w2.heap[g]? = _; rw [hw2 g rfl]; exact hg') (fun b hb => ?_)
 have hb : b = g := hb; subst hb; exact ⟨by omega, .inl rfl⟩
end Go.Hy
namespace Go.Hy
open Go.Proofs Go.Proofs.Tryz
set_option maxRecDepth 100000
theorem B6k {M : List B4} : M.Perm (M ++ []) := by rw [List.append_nil]
theorem B4r (l : List Cl) (a : SH) (c : FuncId) (cap : List Value) (FΓ : List Fact) (M : List B4) (g : Cl → Bool) (hc : ∀ (args : Array Value) (w : World), (callFunc c args).run prog w = .ok (.enter c args) w) (hcl : ∀ x, x ∈ l → Spec prog c (H3 x :: cap).toArray FΓ M (fun _ : Unit => .bool (g x)) (fun _ => []) (fun _ => M)) : Spec prog 250 #[sl a l.length, .func (.func c) #[] cap.toArray] (CL l a :: FΓ) M (fun _ : Unit => iv (B4s g l)) (fun _ => []) (fun _ => M) := by
 refine Dp ntmps250 fun B hB => ?_
 refine A4 (l := l) (a := a) (fun hl1 hA1 hU1 => ?_); refine Oz ?_; refine Fm (X := Nat) (fun i => i ≤ l.length ∧ ∀ j, j < i → g (l.getD j B5) = false) (fun i => [(0, sl a l.length), (1, .func (.func c) #[] cap.toArray), (7, iv (l.length : Int)), (8, iv (i : Int))]) (fun i => CL l a :: FΓ) (fun i => M) (fun i => l.length - i) (0) (⟨Nat.zero_le _, fun j hj => by omega⟩) (by exact Fi) ?_ ?_
 ·exact fun w hs => hs
 ·intro i base0 ⟨hi, hok⟩ next0; refine G1 ?_; refine A5 (fun h9 => ?_) (fun h9 => ?_)
  ·have hlt : i < l.length := by have := of_decide_eq_true h9; omega
   obtain ⟨bk, o, hav⟩ := hA1 A1; refine A4p ?_; refine Jn ?_; refine Em ?_; refine Jp ?_; refine Ss ?_; refine Sr ?_; refine q0 rfl (Eh hc (hcl _ (Ad hlt)) (cap := cap) (fun x16 => ?_) (hm := B6k)); refine Ii ?_; refine A5 (fun h16 => ?_) (fun h16 => ?_)
   ·refine Jn ?_; refine Ap f_ rfl A9 () (by rw [C9c hlt h16 hok]) (fun w hs => (hs.l8).Am)
   ·refine H5 ?_; refine A3 (fun w hs => ?_) (next0 (i + 1) _ ⟨hlt, fun j hj => (by rcases Nat.lt_succ_iff_lt_or_eq.mp hj with h | h; exact hok j h; subst h; exact h16)⟩ A1 Fi); exact (hs.l9).Am
  ·have hge : i = l.length := by have := of_decide_eq_false h9; omega
   refine E9 ?_; refine Co ?_; refine Ap f_ rfl A9 () (by rw [C0e (by rw [← hge]; exact hok)]) (fun w hs => hs.l8)
theorem Rt (l : List Cl) (a : SH) (c : FuncId) (cap : List Value) (FΓ : List Fact) (M : List B4) (g : Cl → Bool) (hc : ∀ (args : Array Value) (w : World), (callFunc c args).run prog w = .ok (.enter c args) w) (hcl : ∀ x, x ∈ l → Spec prog c (H3 x :: cap).toArray FΓ M (fun _ : Unit => .bool (g x)) (fun _ => []) (fun _ => M)) : Spec prog 198 #[sl a l.length, .func (.func c) #[] cap.toArray] (CL l a :: FΓ) M (fun _ : Unit => .bool (l.any g)) (fun _ => []) (fun _ => M) := by
 refine Dp ntmps198 fun B hB => ?_
 refine I1 ?_; refine E8 ?_; refine q0 rfl (A0 call250 (B4r l a c cap FΓ M g hc hcl) (fun x7 => ?_) (hm := B6k)); refine B2x ?_; refine By ?_; refine Ap f_ rfl A9 () (by rw [B1b]) (fun w hs => (hs.l8).Am)
theorem A6j (c d : Cl) (hc : u32 c) (hd : u32 d) (b : Nat) : Spec prog 199 #[H3 d, pz b] [] [A8 b (Ai c) 107] (fun _ : Unit => .bool (!decide (c = d) && below c d)) (fun _ => []) (fun _ => [A8 b (Ai c) 107]) := by
 refine Dp ntmps199 fun B hB => ?_
 refine Ar ?_; refine q0 rfl (B0 fun b2 => ?_); refine By ?_; refine G0 ?_; refine Iw ?_; refine q0 rfl (D7c ?_ (c := c) (c' := d)); refine E8 ?_; refine qI rfl rfl rfl Lp (fun hg7 => Ro ?_) (fun hg7 => ?_)
 ·refine qT rfl rfl rfl (Ro ?_); refine qT rfl rfl rfl (A0 call200 (B5n c d hc hd) (fun x10 => ?_)); refine Gy ?_; refine Ap f_ rfl A9 () (by simp_all) (fun w hs => (hs.l8).drop)
 ·refine Hw ?_; refine Gn ?_; refine Ap f_ rfl A9 () (by simp_all) (fun w hs => (hs.l8).drop)
theorem B0v (l : List Cl) (a : SH) (c : Cl) (hc : u32 c) (b : Nat) : Spec prog 197 #[H3 c, pz b] [CL l a] [A8 b [sl a l.length] 22] (fun _ : Unit => .bool (Cm l c)) (fun _ => []) (fun _ => [A8 b [sl a l.length] 22]) := by
 refine Dp ntmps197 fun B hB => ?_
 refine A4 (l := l) (a := a) (fun hl1 hA1 hU1 => ?_); refine Ar ?_; refine q0 rfl (B0 fun b2 => ?_); refine By ?_; refine Pm ?_; refine Pc ?_; refine q0 rfl (A0 call198 (Rt l a 199 [pz b2] [] [A8 b2 (Ai c) 107] (fun d => !decide (c = d) && below c d) call199 (fun d hd => A6j c d hc (hU1 d hd) b2)) (fun x6 => ?_)); refine By ?_; refine Ap f_ rfl A9 () rfl (fun w hs => (hs.l8).drop)
theorem Wm (l : List Cl) (c : Cl) : A6 (l ++ [c]) = A6 l ++ Ai c := by simp [A6]
theorem A5a (l : List Cl) (a : SH) (n : Nat) (hn : n = l.length) (hb : n * 8 ≤ reach) :
  Spec prog 201 #[sl a n, .func (.func 202) #[] #[]] [] [Al 2 107 a n (A6 l)] (fun _ : {l' : List Cl // A7s l l'} => .tuple #[]) (fun _ => []) (fun x => [Al 2 107 a n (A6 x.1)]) := by
 subst hn; intro ok w hok hs; have hown : w.ownsRow 0 107 2 (sl a l.length) l.length (A6 l) := hs.res _ List.mem_cons_self w (fun _ _ => rfl); rcases hown.2 with ⟨h1, h2⟩ | ⟨g, cap, cur, h1, h2, h3, h4, h5, h6, h7⟩
 ·have hl : l = [] := List.eq_nil_of_length_eq_zero h2; subst hl; have hc := AnyF.slices_SortFunc_none (P := prog) Tryz.D0j a.1 a.2 (.func (.func 202) #[] #[]) w; have hc2 : Calls prog 201 #[sl a 0, .func (.func 202) #[] #[]] w _ := hc; refine hc2.mono ?_; rintro e w' ⟨he, hw⟩; subst hw; exact ⟨⟨[], List.Perm.refl _, List.Pairwise.nil⟩, he, hs⟩
 ·obtain ⟨ao, ac⟩ := a; have e1 : ao = some ⟨g, 0, none⟩ := by injection h1
  have e2 : ac = cap := by injection h1
  subst e1; subst e2
  have hfl : cur.toList = A6 l ++ cur.toList.drop (l.length * 2) := by
   have := List.take_append_drop (l.length * 2) cur.toList; rw [h7] at this; exact this.symm
  have hbox : St ⟨ok, B9 [Al 2 107 (some ⟨g, 0, none⟩, ac) l.length (A6 l)], w⟩ [] [A8 g (A6 l ++ cur.toList.drop (l.length * 2)) 107] w := by
   refine hs.E5 (m' := A8 g (A6 l ++ cur.toList.drop (l.length * 2)) 107) (Sq.refl _ _) (fun w2 hw2 => ?_) (fun b hb => ?_)
   ·show w2.heap[g]? = _; rw [hw2 g rfl, ← hfl, Array.toArray_toList]; exact h3
   ·have hb : b = g := hb; subst hb; exact ⟨(Array.getElem?_eq_some_iff.mp h3).1, .inl rfl⟩
  have hdom : ∀ b, B9 [Al 2 107 (some ⟨g, 0, none⟩, ac) l.length (A6 l)] b ↔ B9 [A8 g (A6 l ++ cur.toList.drop (l.length * 2)) 107] b := by
   intro b; rw [Fp, Fp]
   have : (Al 2 107 (some ⟨g, 0, none⟩, ac) l.length (A6 l)).dom b ↔ b = g := by
    show (sl (some ⟨g, 0, none⟩, ac) l.length).ownBlock = some b ↔ b = g; simp only [sl, Value.ownBlock, Option.some.injEq]; exact eq_comm
   rw [this]; rfl
  have hd2 : B9 [Al 2 107 (some ⟨g, 0, none⟩, ac) l.length (A6 l)] = B9 [A8 g (A6 l ++ cur.toList.drop (l.length * 2)) 107] := funext fun b => propext (hdom b)
  rw [hd2] at hbox; refine (B8v l g ac (cur.toList.drop (l.length * 2)) (by unfold reach at hb; omega) ok w (fun b hb => ⟨(hok b hb).1, by rw [← hd2]; exact (hok b hb).2⟩) hbox).mono ?_; rintro e w' ⟨x, he, hs'⟩; refine ⟨⟨x.1, x.2.1, x.2.2⟩, he, ?_⟩; rw [hd2]; have hlen : x.1.length = l.length := x.2.1.length_eq; have hg : w'.heap[g]? = some (.cells (A6 x.1 ++ cur.toList.drop (l.length * 2)).toArray 107 (0, 0)) := hs'.res _ List.mem_cons_self w' (fun _ _ => rfl); have hfl2 : (A6 x.1).length = l.length * 2 := by rw [Ma Ee, hlen]
  refine hs'.E5 (m' := Al 2 107 (some ⟨g, 0, none⟩, ac) l.length (A6 x.1)) (Sq.refl _ _) (fun w2 hw2 => ⟨hfl2, .inr ⟨g, ac, (A6 x.1 ++ cur.toList.drop (l.length * 2)).toArray, rfl, Nat.zero_le _, ?_, h4, h5, ?_, ?_⟩⟩) (fun b hb => ?_)
  ·rw [hw2 g rfl]; exact hg
  ·have h8 : cur.toList.length = ac * 2 := by simpa using h6
   simp only [List.size_toArray, List.length_append, List.length_drop, hfl2, h8]; omega
  ·rw [← hfl2, List.take_left]
  ·have hb : (sl (some ⟨g, 0, none⟩, ac) l.length).ownBlock = some b := hb; simp only [sl, Value.ownBlock, Option.some.injEq] at hb; subst hb; exact ⟨(Array.getElem?_eq_some_iff.mp hg).1, .inl rfl⟩
theorem A3j (l : List Cl) (a : SH) : Spec prog 110 #[sl a l.length] [CL l a] [] (fun x : {x : SH × Int × List Cl // I9 l x.2} => .tuple #[sl x.1.1 x.1.2.2.length, iv x.1.2.1]) (fun _ => []) (fun x => [Al 2 107 x.1.1 x.1.2.2.length (A6 x.1.2.2)]) := by
 refine Dp ntmps110 fun B hB => ?_
 refine A4 (l := l) (a := a) (fun hl1 hA1 hU1 => ?_); refine H4 ?_; refine Ar ?_; refine q0 rfl (B9o fun b12 => ?_); refine By ?_; refine Ar ?_; refine q0 rfl (B2 fun b5 => ?_); refine Ii ?_; refine Hh ?_; refine Up ?_; refine Fm (X := Nat × SH) (fun s => s.1 ≤ l.length ∧ ∀ j, j < s.1 → Bw (l.getD j B5) = true) (fun s => [(4, .map (some b12)), (5, pz b5), (13, sl a l.length), (14, iv (l.length : Int)), (15, iv (s.1 : Int))]) (fun s => [CL l a]) (fun s => [Yq b12 (once (l.take s.1)), A8 b5 [sl s.2 (once (l.take s.1)).length] 22, Al 2 107 s.2 (once (l.take s.1)).length (A6 (once (l.take s.1)))]) (fun s => l.length - s.1) ((0, (none, 0))) (⟨Nat.zero_le _, fun j hj => absurd hj (Nat.not_lt_zero _)⟩) (by exact Fi) ?_ ?_
 ·exact fun w hs => ((hs.l8).Bp 2 107).perm (Bc.trans ((List.Perm.swap _ _ _).cons _))
 ·intro ⟨i, aO⟩ base0 ⟨hi, hok⟩ next0; dsimp only at hi hok next0 ⊢; refine G1 ?_; refine A5 (fun h16 => ?_) (fun h16 => ?_)
  ·have hlt : i < l.length := by have := of_decide_eq_true h16; omega
   obtain ⟨bk, o, hav⟩ := hA1 A1; have hu := hU1 _ (Ad (d := B5) hlt); have hol := A0t l i; refine J1 ?_; refine Ss ?_; refine Sr ?_; refine q0 rfl (B2 fun b7 => ?_); refine K8 ?_; refine G0 ?_; refine q0 rfl (A0 call196 (Nw (l.getD i B5) hu) (fun x20 => ?_)); refine Jo ?_; refine A5 (fun h21 => ?_) (fun h21 => ?_)
   ·have hr : Bw (l.getD i B5) = false := by simpa using h21
    refine H4 ?_; refine C0 f_ rfl A9 A9 ⟨((none, 0), 2, []), by (unfold I9; rw [C9w hlt hr]; rfl)⟩ rfl (fun w hs => (hs.l7).bare.Bp 2 107)
   ·have hr : Bw (l.getD i B5) = true := by simpa using h21
    refine N7 ?_; refine Iw ?_; refine q0 rfl (B9p ?_); refine Jo ?_; refine A5 (fun h25 => ?_) (fun h25 => ?_)
    ·have hnin : l.getD i B5 ∉ once (l.take i) := by simpa using h25
     refine Nc ?_; refine q0 rfl (C3x ?_); refine Ii ?_; refine Pg ?_; refine zq9 ?_; refine Iw ?_; refine q0 rfl (Fg fun b30 => ?_); refine q0 rfl (Gk (fun a31 => ?_)  ); refine Dv ?_; refine Rv ?_; have hst := Py hlt; rw [if_neg hnin] at hst; have hlen' : (once (l.take (i + 1))).length = (once (l.take i)).length + 1 := by rw [hst]; simp
     refine A3 (fun w hs => ?_) (next0 (i + 1, a31) _ ⟨hlt, fun j hj => (by rcases Nat.lt_succ_iff_lt_or_eq.mp hj with h | h; exact hok j h; subst h; exact hr)⟩ (by simp only; omega) Fi); dsimp only; rw [hlen', hst, Wm]; exact ((hs.l8).perm Fv).Am (A := [_, _, _])
    ·refine H5 ?_; have hin : l.getD i B5 ∈ once (l.take i) := by simpa using h25
     have hst := Py hlt; rw [if_pos hin] at hst; refine A3 (fun w hs => ?_) (next0 (i + 1, aO) _ ⟨hlt, fun j hj => (by rcases Nat.lt_succ_iff_lt_or_eq.mp hj with h | h; exact hok j h; subst h; exact hr)⟩ (by simp only; omega) Fi); dsimp only; rw [hst]; exact (hs.l8).drop
  ·have hge : i = l.length := by have := of_decide_eq_false h16; omega
   have hall : l.all Bw = true := D5u (by rw [← hge]; exact hok); subst hge; rw [List.take_length]; have hUo : ∀ c, c ∈ once l → u32 c := fun c hc => hU1 c ((Nn c l).mp hc)
   have hol := Tv l; refine A3 (fun w hs => ((hs.perm Bc).Bx hB rfl rfl A1 hUo)) ?_; refine E9 ?_; refine Ar ?_; refine Pc ?_; refine By ?_; refine Pn ?_; refine Pm ?_; refine Up ?_; refine Fm (X := Nat × SH) (fun s => s.1 ≤ (once l).length) (fun s => [(8, .func (.func 197) #[] [pz b5].toArray), (9, sl s.2 (G5 l s.1).length), (34, sl aO (once l).length), (35, iv ((once l).length : Int)), (36, iv (s.1 : Int))]) (fun s => [CL (once l) aO]) (fun s => [A8 b5 [sl aO (once l).length] 22, Al 2 107 s.2 (G5 l s.1).length (A6 (G5 l s.1))]) (fun s => (once l).length - s.1) ((0, (none, 0))) (Nat.zero_le _) (by exact Fi) ?_ ?_
   ·exact fun w hs => (((hs.l9).Bp 2 107).perm Bc).Am (A := [_, _])
   ·intro ⟨i, aK⟩ base1 hi next1; dsimp only at hi next1 ⊢; refine G1 ?_; refine A5 (fun h37 => ?_) (fun h37 => ?_)
    ·have hlt : i < (once l).length := by have := of_decide_eq_true h37; omega
     refine A4 (l := once l) (a := aO) (fun _ hA2 _ => ?_); obtain ⟨bk, o, hav⟩ := hA2 A1; have hu := hUo _ (Ad (d := B5) hlt); have hkl := A6l l i; refine J1 ?_; refine Ss ?_; refine Sr ?_; refine q0 rfl (B2 fun b11 => ?_); refine Dv ?_; refine Nc ?_; refine q0 rfl (Eh call197 (B0v (once l) aO ((once l).getD i B5) hu b5) (cap := [pz b5]) (fun x42 => ?_)); refine Jo ?_; refine A5 (fun h43 => ?_) (fun h43 => ?_)
     ·refine Rg ?_; refine q0 rfl (Fg fun b46 => ?_); refine q0 rfl (Gk (fun a47 => ?_)  ); refine Jl ?_; have hnd : Cm (once l) ((once l).getD i B5) = false := by simpa using h43
      have hst := Rr hlt; rw [hnd, if_neg F2] at hst; have hlen' : (G5 l (i + 1)).length = (G5 l i).length + 1 := by rw [hst]; simp
      refine A3 (fun w hs => ?_) (next1 (i + 1, a47) _ hlt (by simp only; omega) ⟨rfl, by rw [hlen']; rfl, rfl, rfl, rfl, trivial⟩); dsimp only; rw [hlen', hst, Wm]; exact ((hs.l8).perm Bc).Am (A := [_, _])
     ·refine H5 ?_; have hnd : Cm (once l) ((once l).getD i B5) = true := by simpa using h43
      have hst := Rr hlt; rw [hnd, if_pos rfl] at hst; refine A3 (fun w hs => ?_) (next1 (i + 1, aK) _ hlt (by simp only; omega) ⟨rfl, by rw [hst]; rfl, rfl, rfl, rfl, trivial⟩); dsimp only; rw [hst]; exact (hs.l8).Am (A := [_, _])
    ·have hge2 : i = (once l).length := by have := of_decide_eq_false h37; omega
     subst hge2; rw [A6m]; refine E9 ?_; refine Hh ?_; refine Ks ?_; refine A7y ?_; refine Ii ?_; refine A5 (fun h51 => ?_) (fun h51 => ?_)
     ·have h64 : 64 < (kept l).length := by have := of_decide_eq_true h51; omega
      refine H4 ?_; refine C0 f_ rfl A9 A9 ⟨((none, 0), 3, []), by (unfold I9; rw [hall, if_neg F2, if_pos h64])⟩ rfl (fun w hs => (hs.l7).bare.Bp 2 107)
     ·have h64 : ¬ 64 < (kept l).length := by have := of_decide_eq_false h51; omega
      refine N7 ?_; refine q0 rfl (A0 call201 (A5a (kept l) aK (kept l).length rfl (by unfold reach; omega)) (fun x53 => ?_)); refine Ii ?_; refine Hu ?_; have hpl : x53.1.length = (kept l).length := x53.2.1.length_eq; refine C0 f_ rfl A9 A9 ⟨(aK, 0, x53.1), by (unfold I9; rw [hall, if_neg F2, if_neg h64]; exact ⟨rfl, x53.2⟩)⟩ (by rw [hpl]; rfl) (fun w hs => ?_); have h := (hs.l7).Am (A := [_]); rw [← hpl] at h; exact h
theorem B4o (l : List Cl) (a : SH) : Spec prog 110 #[sl a l.length] [CL l a] [] (fun x : {x : SH × Int × List Cl // I9 l x.2} => .tuple #[sl x.1.1 x.1.2.2.length, iv x.1.2.1]) (fun x => [CL x.1.2.2 x.1.1]) (fun _ => []) := fun ok w hok hs => (A3j l a ok w hok hs).mono fun e w' h => by
 obtain ⟨x, he, hs'⟩ := h; have hu := (hs.facts _ List.mem_cons_self).2
 have hx : x.1.2.2.length ≤ 64 ∧ ∀ c, c ∈ x.1.2.2 → u32 c := by
  have h := x.2; unfold I9 at h; split at h
  ·rw [h]; exact ⟨Nat.zero_le _, fun c hc => by cases hc⟩
  ·split at h
   ·rw [h]; exact ⟨Nat.zero_le _, fun c hc => by cases hc⟩
   ·rename_i h64; exact ⟨by rw [h.2.1.length_eq]; omega, fun c hc => hu c (C5b (h.2.1.mem_iff.mp hc))⟩
 exact ⟨x, he, (hs'.Bx trivial rfl rfl (by unfold reach; omega) hx.2).l8⟩
theorem B4y (l m : List Cl) (a b : SH) : Spec prog 111 #[sl a l.length, sl b m.length] [CL l a, CL m b] [] (fun _ : Unit => .bool (decide (l = m))) (fun _ => []) (fun _ => []) := by
 refine Dp ntmps111 fun B hB => ?_
 refine A4 (l := l) (a := a) (fun hl1 hA1 hU1 => ?_); refine A4 (l := m) (a := b) (fun hl2 hA2 hU2 => ?_); refine Vl ?_; refine Ks ?_; refine E8 ?_; refine Ks ?_; refine Wq ?_; refine A5 (fun h10 => ?_) (fun h10 => ?_)
 ·have hne : ¬ l = m := fun e => by subst e; simp at h10
  refine Co ?_; refine Ap f_ rfl A9 () (by rw [decide_eq_false hne]) (fun w hs => hs.none)
 ·have hlen : l.length = m.length := by simp at h10; omega
  refine Ko ?_; refine Hh ?_; refine Up ?_; refine Fm (X := Nat) (fun i => i ≤ l.length ∧ ∀ j, j < i → l.getD j B5 = m.getD j B5) (fun i => [(0, sl a l.length), (1, sl b m.length), (12, iv (l.length : Int)), (13, iv (i : Int))]) (fun i => [CL l a, CL m b]) (fun i => []) (fun i => l.length - i) (0) (⟨Nat.zero_le _, fun j hj => by omega⟩) (by exact Fi) ?_ ?_
  ·exact fun w hs => hs.l9
  ·intro i base0 ⟨hi, hok⟩ next0; refine G1 ?_; refine A5 (fun h14 => ?_) (fun h14 => ?_)
   ·have hlt : i < l.length := by have := of_decide_eq_true h14; omega
    have hlt2 : i < m.length := by omega
    obtain ⟨bk, o, hav⟩ := hA1 A1; obtain ⟨bk2, o2, hav2⟩ := hA2 A1; refine A4p ?_; refine Em ?_; refine Iv ?_; refine B6 (pn := 1000000) (tn := false) (A := [0, 0, 3, 7, 0, 0, 48, 112, 255]) (l := [0, 1, 2, 3, 4, 5, 6, 7, 8]) (fin := []) Tab.mixed ⟨_, func111⟩ (by rfl) ?_; refine Hz ?_; refine n0 rfl (Fj ?_); refine n0 rfl (B5x ?_); refine Hz ?_; refine n0 rfl (Fj ?_); refine n0 rfl (B5x ?_); refine n0 rfl (D0f ?_); refine Mt ?_; refine A5 (fun h24 => ?_) (fun h24 => ?_)
    ·refine Co ?_; refine Ap f_ rfl A9 () (by rw [decide_eq_false (fun e => by subst e; simp at h24)]) (fun w hs => hs.none)
    ·refine H5 ?_; have hb : l.getD i B5 = m.getD i B5 := by simpa using h24
     refine A3 (fun w hs => ?_) (next0 (i + 1) _ ⟨hlt, fun j hj => (by rcases Nat.lt_succ_iff_lt_or_eq.mp hj with h | h; exact hok j h; subst h; exact hb)⟩ A1 Fi); exact hs
   ·have hge : i = l.length := by have := of_decide_eq_false h14; omega
    refine E9 ?_; refine Co ?_; refine Ap f_ rfl A9 () (by rw [decide_eq_true (Oj hlen (by rw [← hge]; exact hok))]) (fun w hs => hs.none)
theorem G6 : C6z := by
 intro l a; refine Dp ntmps63 fun B hB => ?_
 refine C7 (p := True) (fun _ _ => trivial) (fun _ => ?_); refine I1 ?_; refine q0 rfl (A0 call110 (B4o l a) (fun x7 => ?_)); refine Md ?_; refine Em ?_; refine Sy ?_; refine qI rfl rfl rfl Lp (fun hg12 => Ff ?_) (fun hg12 => ?_)
 ·refine Hx ?_; refine qT rfl rfl rfl (A0 call111 (B4y x7.1.2.2 l x7.1.1 a) (fun x15 => ?_)); refine Gy ?_; have hlr := Q4 x7.2; refine Ap f_ rfl A9 () (by rw [← hlr]; simp_all) (fun w hs => hs.none)
 ·refine Hw ?_; refine Gn ?_; have hlr := Q4 x7.2; refine Ap f_ rfl A9 () (by rw [← hlr]; simp_all) (fun w hs => hs.none)
theorem Qb : A4o := by
 intro l a; refine Dp ntmps193 fun B hB => ?_
 refine A4 (l := l) (a := a) (fun hl1 hA1 hU1 => ?_); refine I1 ?_; refine q0 rfl (A0 call63 (G6 l a) (fun x4 => ?_)); refine E8 ?_; refine qI rfl rfl rfl Lp (fun hg5 => Ff ?_) (fun hg5 => ?_)
 ·refine qT rfl rfl rfl (A0 call198 (Rt l a 248 [] [] [] Hp call248 (fun x hx => Zl x (hU1 x hx))) (fun x7 => ?_)); refine A0g ?_; refine Gy ?_; refine Ap f_ rfl A9 () (by simp_all [B3]) (fun w hs => hs.none)
 ·refine Hw ?_; refine Gn ?_; refine Ap f_ rfl A9 () (by simp_all [B3]) (fun w hs => hs.none)
theorem Is : B5t := ⟨G6, Qb, Sg⟩
theorem D5p {q i : Nat} (h : q < 16777216) : q / 2 ^ (i + 1) * 2 ^ i < 16777216 := by
 have h1 : q / 2 ^ (i + 1) * 2 ^ i ≤ q / 2 ^ i * 2 ^ i := Nat.mul_le_mul_right _ (Nat.div_le_div_left (Nat.pow_le_pow_right A1 A1) (Nat.pow_pos A1)); have h2 := Nat.div_mul_le_self q (2 ^ i); omega
theorem A2o {m : Nat} (h : m ≤ 24) : 2 ^ m ≤ 16777216 := Nat.pow_le_pow_right (n := 2) (j := 24) A1 h
theorem A7i (i : Int) (h0 : 0 ≤ i) : Spec prog 239 #[iv (i)] [] [] (fun _ : Unit => .int .u32 (((2 ^ (min i.toNat 24) - 1) : Nat) : Int)) (fun _ => []) (fun _ => []) := by
 refine Dp ntmps239 fun B hB => ?_
 have hp := A2o (m := min i.toNat 24) A1; have hpos : 0 < 2 ^ (min i.toNat 24) := Nat.pow_pos A1; refine I1 ?_; refine q0 rfl (D0n ?_); refine q0 rfl (Kg ?_ (m := min i.toNat 24) (ha := by split <;> omega)); refine q0 rfl (B4d ?_ (a := 1) (m := min i.toNat 24) (hm := by omega) (hb := by omega)); refine q0 rfl (D2q ?_ (a := 1 * 2 ^ (min i.toNat 24)) (b := 1) (h := by omega) (ha := by omega)); refine q0 rfl (B0g ?_ (a := 1 * 2 ^ (min i.toNat 24) - 1) (ha := by omega)); refine By ?_; refine Ap f_ rfl A9 () (by rw [Nat.one_mul]) (fun w hs => hs.none)
theorem A3v (s : Nat) (i : Int) (hs : s < 4294967296) (hi : Aj i) : Spec prog 171 #[.int .u32 ((s : Nat) : Int), iv (i)] [] [] (fun _ : Unit => .int .u32 (((Fx s i) : Nat) : Int)) (fun _ => []) (fun _ => []) := by
 refine Dp ntmps171 fun B hB => ?_
 have hs24 := Hg s; refine I1 ?_; refine q0 rfl (I5 ?_ (a := s) (b := 16777215)); refine By ?_; refine Hh ?_; refine q0 rfl (A0 call195 (He i ) (fun x8 => ?_)); refine Jo ?_; refine C3 (!(decide (0 ≤ i) && decide (i < 24))) (fun h9 c9 => ?_) (fun h9 c9 => ?_)
 ·refine Jn ?_; refine Ap f_ rfl A9 () (by rw [Fx, if_neg (by simp at h9; omega)]) (fun w hs => hs.none)
 ·have hp := A2o (m := min i.toNat 24) A1; have hpos : 0 < 2 ^ (min i.toNat 24) := Nat.pow_pos A1; have hmn : min i.toNat 24 = i.toNat := by omega
  have hlt32 : (s &&& 16777215) / 2 ^ (i.toNat + 1) * 2 ^ i.toNat < 16777216 := D5p (i := i.toNat) hs24; refine N9 ?_; refine q0 rfl (A0 call239 (A7i i Ji) (fun x13 => ?_)); refine q0 rfl (I5 ?_ (a := s &&& 16777215) (b := 2 ^ (min i.toNat 24) - 1) (ha := by omega) (hb := by omega)); refine Jp ?_; refine N8 ?_; refine q0 rfl (Kg ?_ (m := i.toNat + 1) (ha := by omega)); refine q0 rfl (Yi ?_ (a := s &&& 16777215) (m := i.toNat + 1)); refine E8 ?_; refine q0 rfl (Kg ?_ (m := i.toNat) (ha := by omega)); refine q0 rfl (Yj ?_ (a := (s &&& 16777215) / 2 ^ (min (i.toNat + 1) 32)) (m := i.toNat)); refine q0 rfl (Oe ?_ (ha := by exact Nat.lt_of_le_of_lt Nat.and_le_left A1) (hb := by exact Nat.mod_lt _ A1)); refine By ?_; refine Ap f_ rfl A9 () (by rw [Fx, if_pos A1, hmn, show min (i.toNat + 1) 32 = i.toNat + 1 by omega, show min i.toNat 32 = i.toNat by omega, Nat.mod_eq_of_lt A1]) (fun w hs => hs.none)
theorem Rp (s : Nat) (f : Int) (b : Int) (hs : s < 4294967296) (hi : Aj f) (hib : Aj b) : Spec prog 238 #[.int .u32 ((s : Nat) : Int), iv (f), iv (b)] [] [] (fun _ : Unit => .tuple #[.int .u32 (((As s f b).2 : Nat) : Int), iv ((As s f b).1)]) (fun _ => []) (fun _ => []) := by
 refine Dp ntmps238 fun B hB => ?_
 have hs24 := Hg s; have hp := A2o (m := min f.toNat 24) A1; have hpos : 0 < 2 ^ (min f.toNat 24) := Nat.pow_pos A1; have hhi : Bg (s &&& 16777215) (2 ^ (min f.toNat 24) - 1) < 16777216 := A4j hs24; have hlo : (s &&& 16777215) &&& (2 ^ (min f.toNat 24) - 1) < 16777216 := Nat.lt_of_le_of_lt Nat.and_le_left hs24; refine H4 ?_; refine Lm ?_; refine Bu ([(0, .int .u32 ((s : Nat) : Int)), (1, iv (f)), (2, iv (b)), (15, .bool ((decide (f < 0)) || (decide (b < 0))))]) (fun hK => ?_) (fun base => ?_)
 ·refine Ef ?_; refine Su ?_; refine E8 ?_; refine qi_ rfl (decide (f < 0)) (fun hg12 g12 => ?_) (fun hg12 g12 => ?_)
  ·refine X2 ?_; refine B8m ?_; refine Jm ?_; exact hK _ ⟨rfl, rfl, rfl, P9, trivial⟩
  ·refine Un ?_; refine Gm ?_; exact hK _ ⟨rfl, rfl, rfl, P9, trivial⟩
 ·refine C3 ((decide (f < 0)) || (decide (b < 0))) (fun h15 c15 => ?_) (fun h15 c15 => ?_)
  ·have hg : As s f b = (2, 0) := by rw [As, if_pos A1]
   refine H4 ?_; refine C0 f_ rfl A9 A9 () (by first | (rw [hg]; done) | (rw [hg]; rfl)) (fun w hs => hs.none)
  ·have hfb : 0 ≤ f ∧ 0 ≤ b := by omega
   refine N7 ?_; refine q0 rfl (I5 ?_ (a := s) (b := 16777215)); refine By ?_; refine Em ?_; refine E8 ?_; refine q0 rfl (A0 call239 (A7i f Ji) (fun x20 => ?_)); refine q0 rfl (I5 ?_ (a := s &&& 16777215) (b := 2 ^ (min f.toNat 24) - 1) (ha := by omega) (hb := by omega)); refine By ?_; refine Em ?_; refine E8 ?_; refine q0 rfl (A0 call239 (A7i f Ji) (fun x24 => ?_)); refine q0 rfl (Pz ?_ (a := (s &&& 16777215)) (b := (2 ^ (min f.toNat 24) - 1))); refine q0 rfl (C4c ?_ (a := Bg (s &&& 16777215) (2 ^ (min f.toNat 24) - 1))); refine By ?_; refine Hh ?_; refine q0 rfl (W5 ?_ (a := ((Bg (s &&& 16777215) (2 ^ (min f.toNat 24) - 1) : Nat) : Int)) (b := 0)); refine Ii ?_; refine C3 (decide (((Bg (s &&& 16777215) (2 ^ (min f.toNat 24) - 1) : Nat) : Int) = 0)) (fun h28 c28 => ?_) (fun h28 c28 => ?_)
   ·have hz : Bg (s &&& 16777215) (2 ^ (min f.toNat 24) - 1) = 0 := by omega
    have hg : As s f b = (0, (s &&& 16777215) &&& (2 ^ (min f.toNat 24) - 1)) := by rw [As, if_neg A1, if_pos hz]
    refine Hu ?_; refine C0 f_ rfl A9 A9 () (by first | (rw [hg]; done) | (rw [hg]; rfl)) (fun w hs => hs.none)
   ·have hz : ¬ Bg (s &&& 16777215) (2 ^ (min f.toNat 24) - 1) = 0 := by omega
    refine Iz ?_; refine Ia ?_; refine Bu ([(2, iv (b)), (8, .int .u32 ((((s &&& 16777215) &&& (2 ^ (min f.toNat 24) - 1)) : Nat) : Int)), (9, .int .u64 (((Bg (s &&& 16777215) (2 ^ (min f.toNat 24) - 1) : Nat) : Int))), (38, .bool ((decide (24 ≤ b)) || (decide (16777215 < ((Bg (s &&& 16777215) (2 ^ (min f.toNat 24) - 1) * 2 ^ b.toNat : Nat) : Int)))))]) (fun hK => ?_) (fun base => ?_)
    ·refine Ef ?_; refine B2x ?_; refine E8 ?_; refine qi_ rfl (decide (24 ≤ b)) (fun hg32 g32 => ?_) (fun hg32 g32 => ?_)
     ·refine X2 ?_; refine Hx ?_; refine qT rfl rfl rfl (Kg ?_ (m := b.toNat) (ha := by omega)); refine qT rfl rfl rfl (B4d ?_ (a := Bg (s &&& 16777215) (2 ^ (min f.toNat 24) - 1)) (m := b.toNat) (hm := by omega) (hb := by have := A2o (m := b.toNat) A1; have h9 := Nat.mul_le_mul (Nat.le_of_lt hhi) this; omega)); refine qT rfl rfl rfl (Ym ?_ (a := ((Bg (s &&& 16777215) (2 ^ (min f.toNat 24) - 1) * 2 ^ b.toNat : Nat) : Int)) (b := 16777215)); refine Jm ?_; exact hK _ ⟨rfl, rfl, rfl, P9, trivial⟩
     ·refine Ln ?_; refine Gm ?_; exact hK _ ⟨rfl, rfl, rfl, P9, trivial⟩
    ·refine C3 ((decide (24 ≤ b)) || (decide (16777215 < ((Bg (s &&& 16777215) (2 ^ (min f.toNat 24) - 1) * 2 ^ b.toNat : Nat) : Int)))) (fun h38 c38 => ?_) (fun h38 c38 => ?_)
     ·have hg : As s f b = (10, 0) := by rw [As, if_neg A1, if_neg hz, if_pos A1]
      refine H4 ?_; refine C0 f_ rfl A9 A9 () (by first | (rw [hg]; done) | (rw [hg]; rfl)) (fun w hs => hs.none)
     ·have hbig : ¬ (24 ≤ b ∨ 16777215 < Bg (s &&& 16777215) (2 ^ (min f.toNat 24) - 1) * 2 ^ b.toNat) := by omega
      have hg : As s f b = (0, ((s &&& 16777215) &&& (2 ^ (min f.toNat 24) - 1)) ||| (Bg (s &&& 16777215) (2 ^ (min f.toNat 24) - 1) * 2 ^ b.toNat)) := by rw [As, if_neg A1, if_neg hz, if_neg hbig]
      refine N7 ?_; refine Jp ?_; refine q0 rfl (Kg ?_ (m := b.toNat) (ha := by omega)); refine q0 rfl (B4d ?_ (a := Bg (s &&& 16777215) (2 ^ (min f.toNat 24) - 1)) (m := b.toNat) (hm := by omega) (hb := by omega)); refine q0 rfl (B0g ?_ (a := Bg (s &&& 16777215) (2 ^ (min f.toNat 24) - 1) * 2 ^ b.toNat) (ha := by omega)); refine q0 rfl (Oe ?_ (a := (s &&& 16777215) &&& (2 ^ (min f.toNat 24) - 1)) (b := Bg (s &&& 16777215) (2 ^ (min f.toNat 24) - 1) * 2 ^ b.toNat) (ha := by omega) (hb := by omega)); refine Jj ?_; refine C0 f_ rfl A9 A9 () (by first | (rw [hg]; done) | (rw [hg]; rfl)) (fun w hs => hs.none)
theorem B2c (c : Cl) (f : Int) (b : Int) (hc : u32 c) (hi : Aj f) (hib : Aj b) : Spec prog 169 #[H3 c, iv (f), iv (b)] [] [] (fun _ : Unit => .tuple #[H3 ((Bi c f b).2), iv ((Bi c f b).1)]) (fun _ => []) (fun _ => []) := by
 refine Dp ntmps169 fun B hB => ?_
 have hcp := hc.1; have hcn := hc.2; have hp1 := Mo c.pos f b; have hp2 := Mo c.neg f b; refine Ar ?_; refine q0 rfl (B0 fun b3 => ?_); refine q0 rfl (B2 fun b6 => ?_); refine Iv ?_; refine G0 ?_; refine q0 rfl (A0 call196 (Nw c Ji) (fun x12 => ?_)); refine Jo ?_; refine C3 (!(Bw c)) (fun h13 c13 => ?_) (fun h13 c13 => ?_)
 ·have hg : Bi c f b = (2, B5) := by rw [Bi, if_pos (by simpa using h13)]
  refine Ar ?_; refine q0 rfl (Ay (cs := [.int .u32 ((((⟨0, 0⟩ : Cl)).pos : Nat) : Int), .int .u32 ((((⟨0, 0⟩ : Cl)).neg : Nat) : Int)]) ?_); refine Fa ?_; refine Ca f_ rfl () rfl mf_ rfl rfl rfl rfl (by rw [hg]; rfl) (fun w hs => hs.none)
 ·have hr : ¬ Bw c = false := by simpa using h13
  refine Ko ?_; refine H2 ?_; refine Jp ?_; refine q0 rfl (A0 call238 (Rp ((c).pos) f b Ji Ji Ji) (fun x20 => ?_)); refine K7 ?_; refine C3 (decide (((As ((c).pos) f b).1) ≠ 0)) (fun h24 c24 => ?_) (fun h24 c24 => ?_)
  ·have hg : Bi c f b = ((As c.pos f b).1, B5) := by rw [Bi, if_neg hr, if_pos (by simpa using h24)]
   refine Ar ?_; refine q0 rfl (Ay (cs := [.int .u32 ((((⟨0, 0⟩ : Cl)).pos : Nat) : Int), .int .u32 ((((⟨0, 0⟩ : Cl)).neg : Nat) : Int)]) ?_); refine E8 ?_; refine Fa ?_; refine Ca f_ rfl () rfl mf_ rfl rfl rfl rfl (by rw [hg]; rfl) (fun w hs => hs.none)
  ·have hr2 : ¬ (As c.pos f b).1 ≠ 0 := by simpa using h24
   refine Ko ?_; refine H2 ?_; refine Jp ?_; refine q0 rfl (A0 call238 (Rp ((c).neg) f b Ji Ji Ji) (fun x32 => ?_)); refine K7 ?_; refine C3 (decide (((As ((c).neg) f b).1) ≠ 0)) (fun h36 c36 => ?_) (fun h36 c36 => ?_)
   ·have hg : Bi c f b = ((As c.neg f b).1, B5) := by rw [Bi, if_neg hr, if_neg hr2, if_pos (by simpa using h36)]
    refine Ar ?_; refine q0 rfl (Ay (cs := [.int .u32 ((((⟨0, 0⟩ : Cl)).pos : Nat) : Int), .int .u32 ((((⟨0, 0⟩ : Cl)).neg : Nat) : Int)]) ?_); refine E8 ?_; refine Fa ?_; refine Ca f_ rfl () rfl mf_ rfl rfl rfl rfl (by rw [hg]; rfl) (fun w hs => hs.none)
   ·have hg : Bi c f b = (0, ⟨(As c.pos f b).2, (As c.neg f b).2⟩) := by rw [Bi, if_neg hr, if_neg hr2, if_neg (by simpa using h36)]
    refine N9 ?_; refine q0 rfl (Ay (cs := [.int .u32 ((((⟨(As ((c).pos) f b).2, (As ((c).neg) f b).2⟩ : Cl)).pos : Nat) : Int), .int .u32 ((((⟨(As ((c).pos) f b).2, (As ((c).neg) f b).2⟩ : Cl)).neg : Nat) : Int)]) ?_); refine Fa ?_; refine Ca f_ rfl () rfl mf_ rfl rfl rfl rfl (by rw [hg]; rfl) (fun w hs => hs.none)
theorem Se (l : List CP) (a_l : SH)  : Spec prog 166 #[sl a_l (l.length)] [CCF l a_l] [] (fun _ : Unit => iv ((if l.all (fun p => Aq p.1) then 0 else 2))) (fun _ => []) (fun _ => []) := by
 refine Dp ntmps166 fun B hB => ?_
 refine Oz ?_; refine Bf (X := Nat) (fun s_ => s_ ≤ l.length ∧ ∀ j, j < s_ → Aq (l.getD j cp0).1 = true) (fun s_ => [(5, sl a_l (l.length)), (6, iv ((l.length : Int))), (7, iv ((s_ : Int)))]) (fun s_ G_ => G_) (fun s_ => []) (fun s_ => l.length - s_) (0) (⟨Nat.zero_le _, fun j hj => absurd hj (Nat.not_lt_zero _)⟩) (by exact Fi) ?_ ?_
 ·exact fun w hs => hs
 ·intro i base0 ⟨hi, hok⟩ next0; refine G1 ?_; refine C3 (decide ((i : Int) < (l.length : Int))) (fun h8 c8 => ?_) (fun h8 c8 => ?_)
  ·refine I0 ?_; refine B4u (l := l) (a := a_l) (bt := 24) (F := R3) (E := cpE) (d := cp0) E7 (fun hl1 hA1 => ?_); refine C9i (l := l) (a := a_l) (bt := 24) (F := R3) (E := cpE) (d := cp0) E7 i A1 ?_; refine Pg ?_; obtain ⟨bk2, o2, hav2⟩ := hA1 A1; refine q0 rfl (Cd ?_ (j := i)); refine q0 rfl (D2u ?_); refine By ?_; refine Em ?_; refine q0 rfl (A0 call63 (G6 (((l).getD i cp0).1) (((l).getD i cp0).2) ) (fun x12 => ?_)); refine Jo ?_; refine C3 (!(Aq (((l).getD i cp0).1))) (fun h13 c13 => ?_) (fun h13 c13 => ?_)
   ·refine Co ?_; refine Ap f_ rfl A9 () (by rw [if_neg (by rw [Um (d := cp0) (i := i) A1 (by simpa using h13)]; decide)]) (fun w hs => hs.none)
   ·refine H5 ?_; refine A3 (fun w hs => ?_) (next0 (i + 1) _ (⟨by omega, fun j hj => by rcases Nat.lt_succ_iff_lt_or_eq.mp hj with h | h; exact hok j h; subst h; simpa using h13⟩) A1 Fi); exact (hs.l9)
  ·refine E9 ?_; refine Co ?_; refine Ap f_ rfl A9 () (by rw [if_pos (Wp (d := cp0) (fun j hj => hok j A1))]) (fun w hs => hs.none)
theorem Z7   : Spec prog 118 #[] [] [] (fun _ : Unit => sl (none, 0) 0) (fun _ => []) (fun _ => []) := by
 refine Dp ntmps118 fun B hB => ?_
 refine Co ?_; refine Co ?_; refine Ap f_ rfl A9 () (by first | rfl | (simp_all; done) | (simp_all; omega)) (fun w hs => hs.none)
theorem Z2 (l : List Cl) (a : SH) (c : Cl) (g4 : Nat) (f : Int) (g5 : Nat) (b : Int) (hc : u32 c) (hi : Aj f) (hib : Aj b) (hl : l.length * 8 ≤ reach) : Spec prog 168 #[sl a (l.length), H3 c, pz g4, pz g5] [At g4 0 [iv (f)], At g5 0 [iv (b)]] [Al 2 107 a (l.length) (A6 l)] (fun x : SH => .tuple #[sl x (l.length + 1), iv (Bi c f b).1]) (fun x : SH => []) (fun x : SH => [Al 2 107 x (l.length + 1) (A6 (l ++ [(Bi c f b).2]))]) := by
 refine Dp ntmps168 fun B hB => ?_
 have hu9 := Sk c f b; refine Ar ?_; refine q0 rfl (B0 fun b5 => ?_); refine Jj ?_; refine G0 ?_; refine Nz ?_; refine Nz ?_; refine q0 rfl (A0 call169 (B2c c f b Ji Ji Ji) (fun x14 => ?_)); refine Oy ?_; refine q0 rfl (B2 fun b8 => ?_); refine Fa ?_; refine Nc ?_; refine q0 rfl (Fg fun b19 => ?_); refine q0 rfl (Gk (fun a20 => ?_) (a := a) (n' := l.length)); refine Au (fun w hs => ((hs.perm Ag).drop).Xn (c := ((Bi c f b).2))) ?_; refine E8 ?_; refine Jj ?_; refine C0 f_ rfl A9 A9 a20 rfl (fun w hs => ((hs.l8).Am (A := [_])))
set_option maxHeartbeats 4000000 in
theorem A1c (l : List Cl) (a_l : SH) (f b : Int) (g4 g5 : Nat) (hi : Aj f) (hib : Aj b) : Spec prog 167 #[sl a_l (l.length), sl (none, 0) (0), .func (.func 168) #[] [pz g4, pz g5].toArray] [CL l a_l, At g4 0 [iv f], At g5 0 [iv b]] [Al 2 107 (none, 0) (0) (A6 ([]))] (fun x : SH => .tuple #[sl x (Fw (fun c => Bi c f b) l).2.length, iv (Fw (fun c => Bi c f b) l).1]) (fun x : SH => []) (fun x : SH => [Al 2 107 x (Fw (fun c => Bi c f b) l).2.length (A6 (Fw (fun c => Bi c f b) l).2)]) := by
 rw [show (#[sl a_l (l.length), sl (none, 0) (0), .func (.func 168) #[] [pz g4, pz g5].toArray] : Array Value) = ([sl a_l (l.length), sl (none, 0) (0), .func (.func 168) #[] [pz g4, pz g5].toArray] : List Value).toArray from rfl]; refine Mk func167 ntmps167 rfl lb_ fun B hB => ?_
 refine A4 (l := l) (a := a_l) (fun hl1 hA1 hU1 => ?_); refine H4 ?_; refine Hh ?_; refine Up ?_; refine Bf (X := Nat × SH) (fun s_ => s_.1 ≤ l.length ∧ ∀ j, j < s_.1 → (Bi (l.getD j B5) f b).1 = 0) (fun s_ => [(1, sl s_.2 (s_.1)), (2, .func (.func 168) #[] [pz g4, pz g5].toArray), (13, sl a_l (l.length)), (14, iv ((l.length : Int))), (15, iv ((s_.1 : Int)))]) (fun s_ G_ => G_) (fun s_ => [Al 2 107 s_.2 (s_.1) (A6 ((l.take s_.1).map fun c => (Bi c f b).2))]) (fun s_ => l.length - s_.1) (0, (none, 0)) (⟨Nat.zero_le _, fun j hj => absurd hj (Nat.not_lt_zero _)⟩) (by exact Fi) ?_ ?_
 ·exact fun w hs => hs
 ·intro ⟨i, a⟩ base0 ⟨hi9, hok⟩ next0; dsimp only at  hi9  hok  next0 ⊢; refine G1 ?_; refine C3 (decide ((i : Int) < (l.length : Int))) (fun h16 c16 => ?_) (fun h16 c16 => ?_)
  ·have hlt9 : ((l.take i).map fun c => (Bi c f b).2).length = i := by rw [List.length_map, List.length_take]; omega
   refine J1 ?_; obtain ⟨bk2, o2, hav2⟩ := hA1 A1; refine q0 rfl (Cd ?_ (j := i)); refine Sr ?_; refine q0 rfl (B2 fun b9 => ?_); refine Dv ?_; refine Em ?_; refine E8 ?_; refine Iw ?_; refine q0 rfl (Eh call168 ((by have h := Z2 ((l.take i).map fun c => (Bi c f b).2) a (l.getD i B5) g4 f g5 b (hU1 _ (Ad A1)) hi hib (by rw [hlt9]; unfold reach at *; omega); rw [hlt9] at h; exact h)) (cap := [pz g4, pz g5]) (fun x23 => ?_)); refine K7 ?_; refine C3 (decide (((Bi (l.getD i B5) f b).1) ≠ 0)) (fun h27 c27 => ?_) (fun h27 c27 => ?_)
   ·refine I1 ?_; refine E8 ?_; refine Jj ?_; have hg : (Fw (fun c => Bi c f b) l) = ((Bi (l.getD i B5) f b).1, []) := C0k A1 hok (by simpa using h27); refine C0 f_ rfl A9 A9 (none, 0) (by rw [hg]; rfl) (fun w hs => by rw [hg]; exact ((hs.l7).bare.Bp 2 107))
   ·refine Ko ?_; refine Ef ?_; refine Jl ?_; have hst : (l.take (i + 1)).map (fun c => (Bi c f b).2) = (l.take i).map (fun c => (Bi c f b).2) ++ [(Bi (l.getD i B5) f b).2] := by rw [Ab (d := B5) A1, List.map_append]; rfl
    refine A3 (fun w hs => ?_) (next0 (i + 1, x23) _ (⟨by omega, fun j hj => by rcases Nat.lt_succ_iff_lt_or_eq.mp hj with h | h; exact hok j h; subst h; simpa using h27⟩) A1 Fi); rw [hst]; exact ((hs.l9).Am (A := [_]))
  ·refine E9 ?_; refine Hu ?_; have he : i = l.length := by omega
   have hg : (Fw (fun c => Bi c f b) l) = (0, l.map fun c => (Bi c f b).2) := B1f (fun j hj => hok j A1); refine C0 f_ rfl A9 A9 a (by rw [hg, List.length_map, ← he]; rfl) (fun w hs => by rw [hg]; have h := (hs.l7); rw [he, List.take_length] at h; dsimp only; rw [List.length_map]; exact h)
theorem Ki (l : List Cl) (a : SH) : Spec prog 110 #[sl a l.length] [CL l a] [] (fun x : SH => .tuple #[sl x (Bm l).2.length, iv (Bm l).1]) (fun _ => []) (fun x => [Al 2 107 x (Bm l).2.length (A6 (Bm l).2)]) := fun ok w hok hs => (A3j l a ok w hok hs).mono fun e w' h => by
 obtain ⟨x, he, hs'⟩ := h; have hx := Yz x.2; exact ⟨x.1.1, by rw [he]; show Ending.returned (.tuple #[sl x.1.1 x.1.2.2.length, iv x.1.2.1]) = Ending.returned (.tuple #[sl x.1.1 (Bm l).2.length, iv (Bm l).1]); rw [hx], by rw [← hx]; exact hs'⟩
theorem K3 (l : List Cl) (a_l : SH) (f : Int) (b : Int) (hi : Aj f) (hib : Aj b) : Spec prog 89 #[sl a_l (l.length), iv (f), iv (b)] [CL l a_l] [] (fun x : SH => .tuple #[sl x (Ae l f b).2.length, iv (Ae l f b).1]) (fun x : SH => []) (fun x : SH => [Al 2 107 x (Ae l f b).2.length (A6 (Ae l f b).2)]) := by
 refine Dp ntmps89 fun B hB => ?_
 refine A4 (l := l) (a := a_l) (fun hl1 hA1 hU1 => ?_); refine Ar ?_; refine q0 rfl (B0 fun b4 => ?_); refine q0 rfl (B0 fun b5 => ?_); refine Jj ?_; refine Hh ?_; refine q0 rfl (Fg fun b12 => ?_); refine Au (fun w hs => ((((hs.perm Bc).perm Bc).perm Bc).D0s hB mf_)) ?_; refine q0 rfl (A0 call166 (Se [(l, a_l)] (some ⟨b12, 0, none⟩, 1)) (fun x13 => ?_)); refine P0 ?_; refine C3 (decide ((if [(l, a_l)].all (fun p => Aq p.1) then (0 : Int) else 2) ≠ 0)) (fun h15 c15 => ?_) (fun h15 c15 => ?_)
 ·have hg : Ae l f b = (2, []) := by rw [Ae, if_pos (by simpa using h15)]
  have h9 : (if [(l, a_l)].all (fun p => Aq p.1) then (0 : Int) else 2) = 2 := by simpa using h15
  refine Hu ?_; refine C0 f_ rfl A9 A9 (none, 0) (by rw [hg]; (conv => lhs; whnf; rw [h9]); rfl) (fun w hs => by rw [hg]; exact ((hs.l7).bare.Bp 2 107))
 ·have hr : ¬ Aq l = false := by simpa using h15
  refine Iz ?_; refine M7 (Ms' := [A8 b5 [iv (b)] 3, A8 b4 [iv (f)] 3]) (by rfl) ?_; refine A3 (fun w hs => ((hs.perm Ag).Ct hB)) ?_; refine A3 (fun w hs => (hs.Ct hB)) ?_; refine A3 (fun w hs => hs.Bp 2 107) ?_; refine Ef ?_; refine q0 rfl (A0 call118 (Z7 ) (fun x19 => ?_)); refine Pc ?_; refine q0 rfl (A0 call167 (A1c l a_l f b b4 b5 hi hib) (fun x21 => ?_)); refine K7 ?_; refine C3 (decide (((Fw (fun c => Bi c f b) l).1) ≠ 0)) (fun h25 c25 => ?_) (fun h25 c25 => ?_)
  ·have hg : Ae l f b = ((Fw (fun c => Bi c f b) l).1, []) := by rw [Ae, if_neg hr, if_pos (by simpa using h25)]
   refine Hu ?_; refine C0 f_ rfl A9 A9 (none, 0) (by rw [hg]; rfl) (fun w hs => by rw [hg]; exact ((hs.l7).bare.Bp 2 107))
  ·have hg : Ae l f b = Bm (Fw (fun c => Bi c f b) l).2 := by rw [Ae, if_neg hr, if_neg (by simpa using h25)]
   refine Iz ?_; refine A3 (fun w hs => (hs.Bx hB rfl rfl (by have := C0j (g := fun c => Bi c f b) (l := l); omega) (A3m (fun c => Sk c f b)))) ?_; refine Ef ?_; refine q0 rfl (A0 call110 (Ki (Fw (fun c => Bi c f b) l).2 x21) (fun x28 => ?_)); refine Me ?_; refine C0 f_ rfl A9 A9 x28 (by rw [hg]; rfl) (fun w hs => by rw [hg]; exact (hs.l8))
theorem B9m (s : Nat) (hs : s < 4294967296) : Spec prog 194 #[.int .u32 ((s : Nat) : Int)] [] [] (fun _ : Unit => iv (((P4 s : Nat) : Int))) (fun _ => []) (fun _ => []) := by
 refine Dp ntmps194 fun B hB => ?_
 have p1 := (Y0 (s / 2 ^ min 24 32) (by simp; omega)).2; have p2 := (Y0 (s / 2 ^ min 16 32 &&& 255) (A7n _)).2; have p3 := (Y0 (s / 2 ^ min 8 32 &&& 255) (A7n _)).2; have p4 := (Y0 (s &&& 255) (A7n _)).2; refine Pn ?_; refine B6 (pn := 1000000) (tn := false) (A := [0, 1, 3, 0, 8, 24, 56, 127, 0, 256, 768, 1792, 4095, 0, 8192, 24576, 65535, 131071, 262143]) (l := [0, 1, 2, 3, 4, 5, 6, 7, 8, 9, 10, 11, 12, 13, 14, 15, 16, 17, 18]) (fin := []) Tab.mixed ⟨_, func194⟩ (by decide +kernel) ?_; refine Et ?_; refine n0 rfl (Xa ?_); refine n0 rfl (Ww ?_ (j := s / 2 ^ min 24 32) (hj := by simp; omega)); refine Et ?_; refine n0 rfl (Xa ?_); refine n0 rfl (Xb ?_ (a := s / 2 ^ min 16 32) (b := 255) (ha := by simp; omega) (hb := by omega)); refine n0 rfl (Ww ?_ (j := s / 2 ^ min 16 32 &&& 255)); refine n0 rfl (A4w ?_ (a := pop8 (s / 2 ^ min 24 32)) (b := pop8 (s / 2 ^ min 16 32 &&& 255)) (h := by omega)); refine Et ?_; refine n0 rfl (Xa ?_); refine n0 rfl (Xb ?_ (a := s / 2 ^ min 8 32) (b := 255) (ha := by simp; omega) (hb := by omega)); refine n0 rfl (Ww ?_ (j := s / 2 ^ min 8 32 &&& 255)); refine n0 rfl (A4w ?_ (a := pop8 (s / 2 ^ min 24 32) + pop8 (s / 2 ^ min 16 32 &&& 255)) (b := pop8 (s / 2 ^ min 8 32 &&& 255)) (h := by omega)); refine Et ?_; refine n0 rfl (Xb ?_ (a := s) (b := 255) (ha := by omega) (hb := by omega)); refine n0 rfl (Ww ?_ (j := s &&& 255)); refine n0 rfl (A4w ?_ (a := pop8 (s / 2 ^ min 24 32) + pop8 (s / 2 ^ min 16 32 &&& 255) + pop8 (s / 2 ^ min 8 32 &&& 255)) (b := pop8 (s &&& 255)) (h := by omega)); refine n0 rfl (C1v ?_ (a := pop8 (s / 2 ^ min 24 32) + pop8 (s / 2 ^ min 16 32 &&& 255) + pop8 (s / 2 ^ min 8 32 &&& 255) + pop8 (s &&& 255)) (ha := by omega)); refine A0f ?_; refine Mt ?_; refine Ap f_ rfl A9 () rfl (fun w hs => hs.none)
theorem M6 (s : Nat) (hs : s < 4294967296) : Spec prog 108 #[.int .u32 ((s : Nat) : Int)] [] [] (fun _ : Unit => iv (((P4 (s &&& 16777215) : Nat) : Int))) (fun _ => []) (fun _ => []) := by
 refine Dp ntmps108 fun B hB => ?_
 have h24 := Hg s; refine I1 ?_; refine q0 rfl (I5 ?_ (a := s) (b := 16777215)); refine q0 rfl (A0 call194 (B9m (s &&& 16777215) A1) (fun x5 => ?_)); refine By ?_; refine Ap f_ rfl A9 () (by first | rfl | (simp_all; done) | (simp_all; omega)) (fun w hs => hs.none)
theorem Lb (s : Nat) (i : Int) (hs : s < 4294967296) (hi : Aj i) : Spec prog 109 #[.int .u32 ((s : Nat) : Int), iv (i)] [] [] (fun _ : Unit => .int .u32 (((A8c s i) : Nat) : Int)) (fun _ => []) (fun _ => []) := by
 refine Dp ntmps109 fun B hB => ?_
 have hs24 := Hg s; refine I1 ?_; refine q0 rfl (I5 ?_ (a := s) (b := 16777215)); refine By ?_; refine Hh ?_; refine q0 rfl (A0 call195 (He i ) (fun x8 => ?_)); refine Jo ?_; refine C3 (!(decide (0 ≤ i) && decide (i < 24))) (fun h9 c9 => ?_) (fun h9 c9 => ?_)
 ·refine Jn ?_; refine Ap f_ rfl A9 () (by rw [A8c, if_neg (by simp at h9; omega)]) (fun w hs => hs.none)
 ·have hp := A2o (m := i.toNat) A1; refine N9 ?_; refine q0 rfl (Kg ?_ (m := i.toNat) (ha := by omega)); refine q0 rfl (Yj ?_ (a := 1) (m := i.toNat)); refine q0 rfl (Oe ?_ (a := s &&& 16777215) (b := 1 * 2 ^ (min i.toNat 32) % 4294967296) (ha := by omega) (hb := by exact Nat.mod_lt _ A1)); refine By ?_; refine Ap f_ rfl A9 () (by rw [A8c, if_pos A1, show min i.toNat 32 = i.toNat by omega, Nat.one_mul, Nat.mod_eq_of_lt A1]) (fun w hs => hs.none)
theorem Ky (s : Nat) (i : Int) (hs : s < 4294967296) (hi : Aj i) : Spec prog 112 #[.int .u32 ((s : Nat) : Int), iv (i)] [] [] (fun _ : Unit => .int .u32 (((Dm s i) : Nat) : Int)) (fun _ => []) (fun _ => []) := by
 refine Dp ntmps112 fun B hB => ?_
 have hs24 := Hg s; refine I1 ?_; refine q0 rfl (I5 ?_ (a := s) (b := 16777215)); refine By ?_; refine Hh ?_; refine q0 rfl (A0 call195 (He i ) (fun x8 => ?_)); refine Jo ?_; refine C3 (!(decide (0 ≤ i) && decide (i < 24))) (fun h9 c9 => ?_) (fun h9 c9 => ?_)
 ·refine Jn ?_; refine Ap f_ rfl A9 () (by rw [Dm, if_neg (by simp at h9; omega)]) (fun w hs => hs.none)
 ·have hp := A2o (m := i.toNat) A1; refine N9 ?_; refine q0 rfl (Kg ?_ (m := i.toNat) (ha := by omega)); refine q0 rfl (Yj ?_ (a := 1) (m := i.toNat)); refine q0 rfl (Pz ?_ (a := s &&& 16777215) (b := 1 * 2 ^ (min i.toNat 32) % 4294967296)); refine By ?_; refine Ap f_ rfl A9 () (by rw [Dm, if_pos A1, show min i.toNat 32 = i.toNat by omega, Nat.one_mul, Nat.mod_eq_of_lt A1]) (fun w hs => hs.none)
theorem Ic (s : Nat) (i : Int) (hs : s < 4294967296) (hi : Aj i) : Spec prog 158 #[.int .u32 ((s : Nat) : Int), iv (i)] [] [] (fun _ : Unit => .bool ((Ft s i))) (fun _ => []) (fun _ => []) := by
 refine Dp ntmps158 fun B hB => ?_
 refine Pn ?_; refine Bu ([(4, .bool ((decide (0 ≤ i) && decide (i < 24)) && (decide (((s / 2 ^ (min i.toNat 32) &&& 1 : Nat) : Int) = 1))))]) (fun hK => ?_) (fun base => ?_)
 ·refine Ef ?_; refine q0 rfl (A0 call195 (He i ) (fun x6 => ?_)); refine E8 ?_; refine qi_ rfl ((decide (0 ≤ i) && decide (i < 24))) (fun hg7 g7 => ?_) (fun hg7 g7 => ?_)
  ·refine X2 ?_; refine Hx ?_; refine qT rfl rfl rfl (Kg ?_ (m := i.toNat) (ha := by omega)); refine qT rfl rfl rfl (Yi ?_ (a := s) (m := i.toNat)); refine qT rfl rfl rfl (I5 ?_ (a := s / 2 ^ (min i.toNat 32)) (b := 1) (ha := by exact Nat.lt_of_le_of_lt (Nat.div_le_self _ _) hs) (hb := by omega)); refine qT rfl rfl rfl (W5 ?_ (a := ((s / 2 ^ (min i.toNat 32) &&& 1 : Nat) : Int)) (b := 1)); refine Gy ?_; exact hK _ ⟨P9, trivial⟩
  ·refine Ln ?_; refine Un ?_; refine Gn ?_; exact hK _ ⟨P9, trivial⟩
 ·refine Ap f_ rfl A9 () (by rw [C5h]) (fun w hs => hs.none)
theorem A7a (i : Int) (hi : Aj i) : Spec prog 155 #[iv (i)] [] [] (fun _ : Unit => .bool ((Fc i))) (fun _ => []) (fun _ => []) := by
 refine Dp ntmps155 fun B hB => ?_
 have hbl := Mr i; refine I1 ?_; refine q0 rfl (A0 call109 ((by have h := Lb 0 i A1 hi; rw [Jq] at h; exact h)) (fun x4 => ?_)); refine q0 rfl (A0 call108 (M6 (Fu i) A1) (fun x5 => ?_)); refine q0 rfl (W5 ?_ (a := ((P4 (Fu i &&& 16777215) : Nat) : Int)) (b := 1)); refine By ?_; refine Ap f_ rfl A9 () (by rw [B6h]) (fun w hs => hs.none)
theorem A6v (i : Int) (hi : Aj i) : Spec prog 235 #[iv (i)] [] [] (fun _ : Unit => .bool ((Fc i))) (fun _ => []) (fun _ => []) := by
 refine Dp ntmps235 fun B hB => ?_
 have hbl := Mr i; refine I1 ?_; refine q0 rfl (A0 call109 ((by have h := Lb 0 i A1 hi; rw [Jq] at h; exact h)) (fun x4 => ?_)); refine q0 rfl (A0 call108 (M6 (Fu i) A1) (fun x5 => ?_)); refine q0 rfl (W5 ?_ (a := ((P4 (Fu i &&& 16777215) : Nat) : Int)) (b := 1)); refine By ?_; refine Ap f_ rfl A9 () (by rw [B6h]) (fun w hs => hs.none)
theorem D6x   : Spec prog 124 #[] [] [] (fun x : SH => sl x 1) (fun x : SH => []) (fun x : SH => [Al 2 107 x 1 (A6 [B5])]) := by
 refine Dp ntmps124 fun B hB => ?_
 refine Co ?_; refine Ar ?_; refine q0 rfl (Ay (cs := [.int .u32 ((((⟨0, 0⟩ : Cl)).pos : Nat) : Int), .int .u32 ((((⟨0, 0⟩ : Cl)).neg : Nat) : Int)]) ?_); refine q0 rfl (Fg fun b2 => ?_); refine By ?_; refine Ap f_ rfl A9 (some ⟨b2, 0, none⟩, 1) rfl (fun w hs => (((hs.l7)).Ig (sz := 2) (m := 1) rfl F2))
theorem E0n (i : Int) (hi : Aj i) : Spec prog 61 #[iv (i)] [] [] (fun x : SH => .tuple #[sl x (Wu i).2.length, iv (Wu i).1]) (fun x : SH => []) (fun x : SH => [Al 2 107 x (Wu i).2.length (A6 (Wu i).2)]) := by
 refine Dp ntmps61 fun B hB => ?_
 have hbl := Mr i; refine H4 ?_; refine Hh ?_; refine q0 rfl (A0 call109 ((by have h := Lb 0 i A1 hi; rw [Jq] at h; exact h)) (fun x5 => ?_)); refine q0 rfl (A0 call108 (M6 (Fu i) A1) (fun x6 => ?_)); refine q0 rfl (W5 ?_ (a := ((P4 (Fu i &&& 16777215) : Nat) : Int)) (b := 0)); refine Ii ?_; refine C3 (decide (((P4 (Fu i &&& 16777215) : Nat) : Int) = 0)) (fun h7 c7 => ?_) (fun h7 c7 => ?_)
 ·have hg : Wu i = (2, []) := by rw [Wu, if_neg (by rw [A9h] at h7; simp at h7; simp [h7])]
  refine H4 ?_; refine C0 f_ rfl A9 A9 (none, 0) (by rw [hg]; rfl) (fun w hs => by rw [hg]; exact ((hs.l7).bare.Bp 2 107))
 ·have hg : Wu i = (0, [⟨Fu i, 0⟩]) := by rw [Wu, if_pos (by rw [A9h] at h7; simpa using h7)]
  refine N7 ?_; refine q0 rfl (A0 call109 ((by have h := Lb 0 i A1 hi; rw [Jq] at h; exact h)) (fun x9 => ?_)); refine q0 rfl (Ay (cs := [.int .u32 ((((⟨(Fu i), 0⟩ : Cl)).pos : Nat) : Int), .int .u32 ((((⟨(Fu i), 0⟩ : Cl)).neg : Nat) : Int)]) ?_); refine q0 rfl (Fg fun b11 => ?_); refine Jj ?_; refine C0 f_ rfl A9 A9 (some ⟨b11, 0, none⟩, 1) (by rw [hg]; rfl) (fun w hs => by rw [hg]; exact (((hs.l7)).Ig (sz := 2) (m := 1) rfl F2))
end Go.Hy
