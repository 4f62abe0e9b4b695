/- Contracts of this program's functions and the laws that they need. -/
import Derived.Lib.TrailingZeros
import Derived.LaidMore
import Derived.OpenShut
import Derived.Stop.Joined
import Derived.MakeChecks
import Derived.Shelf.Spec.TrailingZeros
import Derived.RangeFuncNested
import Derived.RangeFuncBound
import Derived.RangeFuncCalls
import Derived.RangeFuncLeaves
import Derived.RangeFuncBox
import Derived.Shelf.Abstract
import Derived.Shelf.RegionOpen
import Derived.WalkKit
import Derived.OwnWalkIn
import Derived.TacticsInMore
import Derived.LoopNIn
import Derived.LoopIn
import Derived.Test.YtibignmpjeemeaaGreatDoorP6
set_option linter.unusedVariables false
set_option linter.unusedSimpArgs false
set_option linter.unusedSectionVars false
namespace Go.Hy
theorem V9 {t : T} (h : Ee t) (hk : t.kind = 1) : t = .mk 1 t.n ⟨#[]⟩ [] [] [] ∧ 0 ≤ t.n := by
 obtain ⟨h1, h2, h3, h4, h5⟩ := L4.mp h
 obtain ⟨_, a2, a3, _⟩ := h1
 have hn : t.name = ⟨#[]⟩ := Vj.mp (beq_iff_eq.mpr (a2 (by rw [hk]; decide)))
 have hr := (a3 hk).1
 have hks : t.kids = [] := by
  rw [hk, show D1 1 = 0 by decide] at h2
  exact List.eq_nil_of_length_eq_zero A3
 have hss := h3 (by rw [hk]; decide)
 refine ⟨?_, (a3 hk).2⟩
 obtain ⟨k, n, nm, r, ks, ss⟩ := t
 simp only [T.kind, T.n, T.name, T.r, T.kids, T.sys] at *
 subst hk hn hr hks hss
 rfl
def Fi : List T → Nat
 | [] => 0
 | t :: ts => size t + Fi ts
def Jw : List Br → Nat
 | [] => 0
 | b :: bs => Fi b.kids + Jw bs
theorem foldl_add {α : Type} (f : α → Nat) : ∀ (l : List α) (a : Nat), l.foldl (fun a p => a + f p) a = a + l.foldl (fun a p => a + f p) 0
 | [], a => rfl
 | x :: l, a => by rw [List.foldl_cons, List.foldl_cons, foldl_add f l (a + f x), foldl_add f l (0 + f x)]; omega
theorem J6 (t : T) : size t = 1 + Fi t.kids + Jw t.sys := by
 have hk : ∀ (k : Int) (ts : List T) (i : Nat), (Cv k i ts).foldl (fun a p => a + size p.1) 0 = Fi ts := by
  intro k ts
  induction ts with
  | nil => intro i; rfl
  | cons t ts ih => intro i; rw [Cv, List.foldl_cons, foldl_add, ih, Fi]; simp only; omega
 have hm : ∀ (ts : List T) (b : Int × Int), (ts.map fun k => ((k, b.1, b.2) : Part)).foldl (fun a p => a + size p.1) 0 = Fi ts := by
  intro ts b
  induction ts with
  | nil => rfl
  | cons t ts ih => rw [List.map_cons, List.foldl_cons, foldl_add, ih, Fi]; simp only; omega
 have hs : ∀ (k : Int) (bs : List Br), (Cq k bs).foldl (fun a p => a + size p.1) 0 = Jw bs := by
  intro k bs
  induction bs with
  | nil => rfl
  | cons b bs ih => rw [Cq, List.foldl_append, foldl_add, ih, hm b.kids (0, more k), Jw]
 rw [size_eq, parts, List.foldl_append, foldl_add, hs, foldl_add, hk]
section
variable {t u : T} {n : Int}
end
theorem Lt {s : Nat} {f b : Int} (h : (Ah s f b).1 = 0) (i : Nat) : (Ah s f b).2.testBit i = true ↔ ∃ j, j < 24 ∧ s.testBit j = true ∧ (((j : Int) < f ∧ i = j) ∨ (f ≤ (j : Int) ∧ (i : Int) = j + b)) := by
 obtain ⟨h0, h1, h2⟩ := Qj h i
 constructor
 ·intro hi
  obtain ⟨j, h3, h4, h5⟩ := Wf h i hi
  exact ⟨j, h3, h4, by omega⟩
 ·rintro ⟨j, h3, h4, h5⟩
  rw [h2, Bool.or_eq_true, Bool.and_eq_true, Bool.and_eq_true, decide_eq_true_eq, decide_eq_true_eq, F6, F6, Bool.and_eq_true, Bool.and_eq_true, decide_eq_true_eq, decide_eq_true_eq]
  rcases h5 with ⟨h5, rfl⟩ | ⟨h5, h6⟩
  ·exact .inl ⟨by omega, h3, h4⟩
  ·refine .inr ⟨by omega, ?_⟩
   rw [show i - b.toNat = j by omega]
   exact ⟨h3, h4⟩
theorem Xn {s : Nat} {f b : Int} (hs : s < 16777216) (h0 : 0 ≤ f) (hb : 0 ≤ b) (h : b = 0 ∨ 24 ≤ f) : Ah s f b = (0, s) := by
 have hs24 : s &&& 16777215 = s := by rw [Vs]; exact Nat.mod_eq_of_lt hs
 have h1 : (Ah s f b).1 = 0 := by
  unfold Ah
  rw [if_neg A3]
  split
  ·rfl
  ·rename_i h2
   rw [if_neg]
   rintro (h3 | h3)
   ·rcases h with h | h
    ·omega
    ·refine h2 ?_
     refine Nat.eq_of_testBit_eq fun i => ?_
     rw [G0, Jd, Nat.zero_testBit, F6, show min f.toNat 24 = 24 by omega]
     by_cases hi : i < 24 <;> simp [hi]
   ·rcases h with h | h
    ·subst h
     have := Yd (q := s &&& 16777215) (m := 2 ^ min f.toNat 24 - 1) (Jh s)
     simp at h3
     omega
    ·refine h2 ?_
     refine Nat.eq_of_testBit_eq fun i => ?_
     rw [G0, Jd, Nat.zero_testBit, F6, show min f.toNat 24 = 24 by omega]
     by_cases hi : i < 24 <;> simp [hi]
 refine Prod.ext h1 ?_
 refine Nat.eq_of_testBit_eq fun i => ?_
 rw [Bool.eq_iff_iff, Lt h1]
 have hlt : ∀ j, s.testBit j = true → j < 24 := fun j hj => by
  refine Nat.lt_of_not_le fun hge => ?_
  rw [Nat.testBit_lt_two_pow (Nat.lt_of_lt_of_le hs (Nat.pow_le_pow_right (n := 2) (i := 24) A3 hge))] at hj
  cases hj
 constructor
 ·rintro ⟨j, h2, h3, h4⟩
  rw [show i = j by omega]; exact h3
 ·intro h2
  exact ⟨i, hlt i h2, h2, by have := hlt i h2; omega⟩
theorem Zy {l : List Cl} (h : Ab l = true) : (∀ c, c ∈ l → Ap c = true) ∧ apart l = true := by
 unfold Ab at h
 simp only [Bool.and_eq_true, List.all_eq_true] at h
 exact ⟨h.1.1.1, h.1.2⟩
theorem Fk {c : Cl} : Ap c = true ↔ c.pos < 16777216 ∧ c.neg < 16777216 := by unfold Ap; rw [Bool.and_eq_true, decide_eq_true_eq, decide_eq_true_eq]
section
variable {CA CB CC CD : Type} {A : Tr CA} {B : Tr CB} {C : Tr CC} {D : Tr CD} (R : CA → CB → CC → CD → Prop)
variable {R}
end
theorem J5 : ∀ {l m : List Int}, (l.Pairwise fun a b => a < b) → (m.Pairwise fun a b => a < b) → (∀ x, x ∈ l ↔ x ∈ m) → l = m
 | [], [], _, _, _ => rfl
 | [], b :: m, _, _, h => by have := (h b).mpr List.mem_cons_self; cases this
 | a :: l, [], _, _, h => by have := (h a).mp List.mem_cons_self; cases this
 | a :: l, b :: m, hl, hm, h => by
  obtain ⟨l1, l2⟩ := List.pairwise_cons.mp hl
  obtain ⟨m1, m2⟩ := List.pairwise_cons.mp hm
  have hab : a = b := by
   rcases List.mem_cons.mp ((h a).mp List.mem_cons_self) with h1 | h1
   ·exact h1
   ·rcases List.mem_cons.mp ((h b).mpr List.mem_cons_self) with h2 | h2
    ·exact h2.symm
    ·have := l1 b h2; have := m1 a h1; omega
  subst hab
  have : l = m := J5 l2 m2 fun x => by
   constructor
   ·intro hx
    rcases List.mem_cons.mp ((h x).mp (List.mem_cons_of_mem _ hx)) with h1 | h1
    ·subst h1; have := l1 x hx; omega
    ·exact h1
   ·intro hx
    rcases List.mem_cons.mp ((h x).mpr (List.mem_cons_of_mem _ hx)) with h1 | h1
    ·subst h1; have := m1 x hx; omega
    ·exact h1
  rw [this]
def shI (f b x : Int) : Int := if x < f then x else x + b
theorem Xo {s : Nat} {f b : Int} (h0 : 0 ≤ f) (hb : 0 ≤ b) (h : ∀ x, x ∈ Aj s → x < f ∨ x + b < 24) : Ah s f b = (0, U4 ((Aj s).map (shI f b))) := by
 have h1 : (Ah s f b).1 = 0 := by
  unfold Ah
  rw [if_neg A3]
  split
  ·rfl
  ·rename_i h2
   rw [if_neg]
   have hbits : ∀ i, (Ax (s &&& 16777215) (2 ^ (min f.toNat 24) - 1)).testBit i = true → (i : Int) + b < 24 := fun i hi => by
    rw [G0, Jd, F6] at hi
    simp only [Bool.and_eq_true, decide_eq_true_eq, Bool.not_eq_true', decide_eq_false_iff_not] at hi
    have hm : (i : Int) ∈ Aj s := Dx.mpr ⟨by omega, by omega, by simpa using hi.1.2.2⟩
    rcases h _ hm with h3 | h3 <;> omega
   obtain ⟨i, hi⟩ : ∃ i, (Ax (s &&& 16777215) (2 ^ (min f.toNat 24) - 1)).testBit i = true := by
    refine Classical.byContradiction fun hn => h2 (Nat.eq_of_testBit_eq fun i => ?_)
    rw [Nat.zero_testBit]
    cases hh : (Ax (s &&& 16777215) (2 ^ (min f.toNat 24) - 1)).testBit i with
    | false => rfl
    | true => exact absurd ⟨i, hh⟩ hn
   have hb24 := hbits i hi
   have hlt : Ax (s &&& 16777215) (2 ^ (min f.toNat 24) - 1) < 2 ^ (24 - b.toNat) := Nat.lt_pow_two_of_testBit _ fun j hj => by
    cases hh : (Ax (s &&& 16777215) (2 ^ (min f.toNat 24) - 1)).testBit j with
    | false => rfl
    | true => have := hbits j hh; omega
   rintro (h3 | h3)
   ·omega
   ·have h4 : Ax (s &&& 16777215) (2 ^ (min f.toNat 24) - 1) * 2 ^ b.toNat < 2 ^ (24 - b.toNat) * 2 ^ b.toNat := Nat.mul_lt_mul_of_pos_right hlt (Nat.pow_pos A3)
    rw [← Nat.pow_add, show 24 - b.toNat + b.toNat = 24 by omega] at h4
    have h5 : (2 : Nat) ^ 24 = 16777216 := by decide
    omega
 refine Prod.ext h1 ?_
 have hlt := Hw s f b
 have e1 : (Ah s f b).2 = U4 (Aj (Ah s f b).2) := by rw [A5f, Vs]; exact (Nat.mod_eq_of_lt hlt).symm
 rw [e1]
 show U4 _ = U4 _
 congr 1
 refine J5 (Ke _ _) ?_ fun x => ?_
 ·rw [List.pairwise_map]
  refine (Ke s 24).imp fun {a c} hac => ?_
  unfold shI
  split <;> split <;> omega
 ·rw [List.mem_map]
  constructor
  ·intro hx
   obtain ⟨x0, x1, x2⟩ := Dx.mp hx
   obtain ⟨j, h2, h3, h4⟩ := (Lt h1 x.toNat).mp x2
   refine ⟨(j : Int), Dx.mpr ⟨by omega, by omega, by simpa using h3⟩, ?_⟩
   unfold shI
   split <;> omega
  ·rintro ⟨y, hy, rfl⟩
   obtain ⟨y0, y1, y2⟩ := Dx.mp hy
   have hsh : 0 ≤ shI f b y ∧ shI f b y < 24 := by
    unfold shI
    rcases h y hy with h2 | h2 <;> split <;> omega
   refine Dx.mpr ⟨hsh.1, hsh.2, (Lt h1 _).mpr ⟨y.toNat, by omega, y2, ?_⟩⟩
   unfold shI at hsh ⊢
   split <;> omega
theorem Lw (s : Nat) : (Aj s).Pairwise fun a b => a < b := by
 unfold Aj Eu
 rw [List.pairwise_map]
 refine List.Pairwise.filter _ ?_
 exact List.pairwise_lt_range.imp fun h => by omega
theorem B2h (s : Nat) : Aj (s &&& 16777215) = Aj s := by
 refine J5 (Lw _) (Lw _) fun x => ?_
 rw [Dx, Dx, F6]
 constructor
 ·rintro ⟨h1, h2, h3⟩
  rw [Bool.and_eq_true] at h3
  exact ⟨h1, h2, h3.2⟩
 ·rintro ⟨h1, h2, h3⟩
  exact ⟨h1, h2, by rw [h3, decide_eq_true A3]; rfl⟩
theorem B2e {r : Nat} (h0 : ¬ r = 0) (h : r < 4294967296) : ∃ m, r = 2 ^ Lib.ctz 32 r * (2 * m + 1) ∧ Lib.ctz 32 r < 32 := by
 obtain ⟨m, h1, h2⟩ := Lib.ctzFrom_spec 32 r A3 h
 have e : Lib.ctz 32 r = Lib.ctzFrom 32 r := by unfold Lib.ctz; rw [if_neg h0]
 rw [e]
 exact ⟨m, h1, h2⟩
theorem C1c {r k m i : Nat} (h : r = 2 ^ k * (2 * m + 1)) : (r &&& (r - 1)).testBit i = (r.testBit i && decide (i ≠ k)) ∧ r.testBit k = true ∧ (i < k → r.testBit i = false) := by
 have hp : 0 < 2 ^ k := Nat.pow_pos I4
 have e1 : r = 2 ^ (k + 1) * m + 2 ^ k := by rw [h, Nat.pow_succ, Nat.mul_add, Nat.mul_assoc]; simp
 have e2 : r - 1 = 2 ^ (k + 1) * m + (2 ^ k - 1) := by omega
 have hb1 : 2 ^ k < 2 ^ (k + 1) := by rw [Nat.pow_succ]; omega
 have hb2 : 2 ^ k - 1 < 2 ^ (k + 1) := by omega
 have t1 : ∀ j, r.testBit j = if j < k + 1 then (2 ^ k).testBit j else m.testBit (j - (k + 1)) := fun j => by rw [e1]; exact Nat.testBit_two_pow_mul_add m hb1 j
 have t2 : ∀ j, (r - 1).testBit j = if j < k + 1 then (2 ^ k - 1).testBit j else m.testBit (j - (k + 1)) := fun j => by rw [e2]; exact Nat.testBit_two_pow_mul_add m hb2 j
 refine ⟨?_, by rw [t1, if_pos A3, Nat.testBit_two_pow_self], fun hi => by rw [t1, if_pos A3, Nat.testBit_two_pow_of_ne A3]⟩
 rw [Nat.testBit_and, t1, t2]
 by_cases hi : i < k + 1
 ·rw [if_pos hi, if_pos hi, Nat.testBit_two_pow, Nat.testBit_two_pow_sub_one]
  by_cases hk : k = i
  ·subst hk; simp
  ·simp [hk]
 ·rw [if_neg hi, if_neg hi]
  have : i ≠ k := by omega
  simp [this]
theorem Xq {r : Nat} (h0 : ¬ r = 0) (h : r < 16777216) : Lib.ctz 32 r < 24 ∧ Aj r = (Lib.ctz 32 r : Int) :: Aj (r &&& (r - 1)) := by
 obtain ⟨m, h1, h2⟩ := B2e h0 A3
 have hb := fun i => C1c (i := i) h1
 have hk : Lib.ctz 32 r < 24 := Decidable.byContradiction fun hn => by
  have h3 := Nat.ge_two_pow_of_testBit (hb 0).2.1
  have h4 : 2 ^ 24 ≤ 2 ^ Lib.ctz 32 r := Nat.pow_le_pow_right I4 A3
  omega
 refine ⟨hk, J5 (Lw _) (List.pairwise_cons.mpr ⟨fun x hx => ?_, Lw _⟩) fun x => ?_⟩
 ·obtain ⟨x0, x1, x2⟩ := Dx.mp hx
  rw [(hb x.toNat).1, Bool.and_eq_true, decide_eq_true_eq] at x2
  have : ¬ x.toNat < Lib.ctz 32 r := fun hlt => by have := (hb x.toNat).2.2 hlt; rw [x2.1] at this; cases this
  omega
 ·rw [List.mem_cons, Dx, Dx, (hb x.toNat).1, Bool.and_eq_true, decide_eq_true_eq]
  constructor
  ·rintro ⟨x0, x1, x2⟩
   by_cases hx : x = (Lib.ctz 32 r : Int)
   ·exact .inl hx
   ·exact .inr ⟨x0, x1, x2, by omega⟩
  ·rintro (rfl | ⟨x0, x1, x2, _⟩)
   ·exact ⟨by omega, by omega, by rw [Int.toNat_natCast]; exact (hb 0).2.1⟩
   ·exact ⟨x0, x1, x2⟩
theorem C5o {r : Nat} (h0 : ¬ r = 0) : r &&& (r - 1) < r := Nat.lt_of_le_of_lt Nat.and_le_right A3
def C4p : ByteArray := ⟨#[0, 1, 1, 2, 1, 2, 2, 3, 1, 2, 2, 3, 2, 3, 3, 4, 1, 2, 2, 3, 2, 3, 3, 4, 2, 3, 3, 4, 3, 4, 4, 5, 1, 2, 2, 3, 2, 3, 3, 4, 2, 3, 3, 4, 3, 4, 4, 5, 2, 3, 3, 4, 3, 4, 4, 5, 3, 4, 4, 5, 4, 5, 5, 6, 1, 2, 2, 3, 2, 3, 3, 4, 2, 3, 3, 4, 3, 4, 4, 5, 2, 3, 3, 4, 3, 4, 4, 5, 3, 4, 4, 5, 4, 5, 5, 6, 2, 3, 3, 4, 3, 4, 4, 5, 3, 4, 4, 5, 4, 5, 5, 6, 3, 4, 4, 5, 4, 5, 5, 6, 4, 5, 5, 6, 5, 6, 6, 7, 1, 2, 2, 3, 2, 3, 3, 4, 2, 3, 3, 4, 3, 4, 4, 5, 2, 3, 3, 4, 3, 4, 4, 5, 3, 4, 4, 5, 4, 5, 5, 6, 2, 3, 3, 4, 3, 4, 4, 5, 3, 4, 4, 5, 4, 5, 5, 6, 3, 4, 4, 5, 4, 5, 5, 6, 4, 5, 5, 6, 5, 6, 6, 7, 2, 3, 3, 4, 3, 4, 4, 5, 3, 4, 4, 5, 4, 5, 5, 6, 3, 4, 4, 5, 4, 5, 5, 6, 4, 5, 5, 6, 5, 6, 6, 7, 3, 4, 4, 5, 4, 5, 5, 6, 4, 5, 5, 6, 5, 6, 6, 7, 4, 5, 5, 6, 5, 6, 6, 7, 5, 6, 6, 7, 6, 7, 7, 8]⟩
def pop8 (j : Nat) : Nat := j % 2 + j / 2 % 2 + j / 4 % 2 + j / 8 % 2 + j / 16 % 2 + j / 32 % 2 + j / 64 % 2 + j / 128 % 2
theorem U9 : ∀ j, j < 256 → C4p[j]? = some (UInt8.ofNat (pop8 j)) ∧ pop8 j ≤ 8 := by decide +kernel
def Qb (s : Nat) : Nat := pop8 (s / 16777216) + pop8 (s / 65536 &&& 255) + pop8 (s / 256 &&& 255) + pop8 (s &&& 255)
theorem B1j : ∀ k, k < 24 → Qb (2 ^ k) = 1 := by decide +kernel
theorem A5p : Qb 0 = 0 := by decide
theorem A0i (s : Nat) : s &&& 255 < 256 := Nat.lt_of_le_of_lt Nat.and_le_right I4
section
variable {tn : Bool} {pn : Nat} {P : Program} [Tab P] {f : FuncId} {R : Ending → World → Prop} {B : Bv} {n : Fz} {K : List Item} {ops : Array Oper} {i : Nat} {l fin : List Nat} {σ : Nat → Value} {Γ : List Fact} {Ms Ms2 : List Aw}
variable {dst : Option Tmp} {op : Op} {ty : TypeId} {pos : String} {after : Array Edge} {v : Value} {x y z : Operand}
theorem A1q {t : TypeId} {s : ByteArray} {j : Nat} (hu : Tab.und P t = some .string) (hx : ev σ x = .string s) (hs : s = C4p) (hy : ev σ y = .int .u32 (j : Int)) (hj : j < 256) : C6 P σ (.index t x y) ty (.int .u8 (pop8 j : Nat)) := fun w => by
 subst hs
 have h := (U9 j hj)
 have e : ((UInt8.ofNat (pop8 j)).toNat : Int) = (pop8 j : Nat) := by
  rw [UInt8.toNat_ofNat']
  have := h.2
  omega
 simp [C2, execOp, hx, hy, Instr.index, asIntOf, Cr hu, h.1]
 have := h.2
 omega
theorem B5v {t t' : TypeId} {a b : Nat} (hx : ev σ x = .int .u8 (a : Nat)) (hy : ev σ y = .int .u8 (b : Nat)) (h : a + b < 256) : C6 P σ (.binOp .add t x y t') ty (.int .u8 ((a + b : Nat) : Int)) :=
 Co hx hy (fun w => Bk w) (fun w => by
  have e : IntKind.u8.wrap ((a : Int) + (b : Int)) = ((a + b : Nat) : Int) := by simp [IntKind.wrap, IntKind.signed, IntKind.bits]; omega
  show Result.ok (Value.int .u8 (IntKind.u8.wrap ((a : Int) + (b : Int)))) w = _
  rw [e])
theorem B1n {s d : TypeId} {ds : TypeDesc} {a : Nat} (hs : Tab.und P s = some ds) (hd : Tab.und P d = some (.int .i64)) (hx : ev σ x = .int .u8 (a : Nat)) (ha : a < 256) : C6 P σ (.convert s d x) ty (.int .i64 (a : Int)) := by
 have h := J8 hs hd hx (ty := ty)
 rwa [show IntKind.i64.wrap (a : Int) = (a : Int) by rw [IntKind.wrap_i64]; omega] at h
theorem Tf {t : TypeId} {s : ByteArray} {j : Nat} (k_ : NV tn pn P f R B n K ops fin l (Ag σ dst (.int .u8 (pop8 j : Nat))) Γ Ms) (hx : ev σ x = .string s := by exact A7) (hy : ev σ y = .int .u32 (j : Int) := by exact A7) (hs : s = C4p := by rfl) (hu : Tab.und P t = some .string := by rfl) (hj : j < 256 := by first | omega | exact A0i _) (hd : A9 n dst = true := by rfl) : Ib tn pn P f R B n K ops fin i l dst (.index t x y) ty σ Γ Ms := Cu (A1q hu hx hs hy hj) hd k_
theorem Ym {t t' : TypeId} {a b : Nat} (k_ : NV tn pn P f R B n K ops fin l (Ag σ dst (.int .u8 ((a + b : Nat) : Int))) Γ Ms) (hx : ev σ x = .int .u8 (a : Nat) := by exact A7) (hy : ev σ y = .int .u8 (b : Nat) := by exact A7) (h : a + b < 256 := by omega) (hd : A9 n dst = true := by rfl) : Ib tn pn P f R B n K ops fin i l dst (.binOp .add t x y t') ty σ Γ Ms := Cu (B5v hx hy h) hd k_
theorem B4f {s d : TypeId} {ds : TypeDesc} {a : Nat} (k_ : NV tn pn P f R B n K ops fin l (Ag σ dst (.int .i64 (a : Int))) Γ Ms) (hx : ev σ x = .int .u8 (a : Nat) := by exact A7) (hs : Tab.und P s = some ds := by rfl) (hd' : Tab.und P d = some (.int .i64) := by rfl) (ha : a < 256 := by omega) (hd : A9 n dst = true := by rfl) : Ib tn pn P f R B n K ops fin i l dst (.convert s d x) ty σ Γ Ms := Cu (B1n hs hd' hx ha) hd k_
end
theorem V0 {l : List Cl} (h : (Ay l).1 ≠ 0) : (Ay l).2 = [] := by
 unfold Ay at h ⊢
 split
 ·rfl
 ·rename_i h1
  rw [if_neg h1] at h
  split
  ·rfl
  ·rename_i h2
   rw [if_neg h2] at h
   exact absurd rfl h
theorem Wi {l : List Cl} {f b : Int} (hl : Ab l = true) (h0 : 0 ≤ f) (hb : 0 ≤ b) (h : b = 0 ∨ 24 ≤ f) : A8 l f b = (0, l) := by
 obtain ⟨hr, _⟩ := Zy hl
 have key : ∀ c, c ∈ l → B6 c f b = (0, c) := fun c hc => by
  obtain ⟨h2, h3⟩ := Fk.mp (hr c hc)
  unfold B6
  rw [if_neg (by rw [hr c hc]; simp), Xn h2 h0 hb h, Xn h3 h0 hb h]
  simp
 have hf : Dy (fun c => B6 c f b) l = (0, l) := by
  unfold Dy
  rw [List.find?_eq_none.mpr (fun c hc => by show ¬ decide ((B6 c f b).1 ≠ 0) = true; rw [key c hc]; simp)]
  simp only
  congr 1
  conv => rhs; rw [← List.map_id l]
  exact List.map_congr_left (fun c hc => by rw [key c hc]; rfl)
 unfold A8
 rw [if_neg (by rw [hl]; simp), hf, if_neg D4]
 have := Qo l
 rw [hl, Bool.and_eq_true, decide_eq_true_eq, decide_eq_true_eq] at this
 exact Prod.ext this.1 this.2
theorem Yz {l : List Cl} {f b : Int} (hl : Ab l = true) (h0 : 0 ≤ f) (hb : 0 ≤ b) : Bl b l f = if (A8 l f b).1 = 0 then .ok (A8 l f b).2 else .bad (A8 l f b).1 := by
 unfold Bl
 by_cases h : b = 0 ∨ 24 ≤ f
 ·rw [if_pos h, Wi hl h0 hb h]; rfl
 ·rw [if_neg h]
theorem B8c {l : List Cl} {f b : Int} : 0 ≤ (A8 l f b).1 := by
 have hl : ∀ m : List Cl, 0 ≤ (Ay m).1 := fun m => by rcases Fw m with h | h | h <;> omega
 unfold A8
 split
 ·exact (show (0 : Int) ≤ 2 by omega)
 ·split
  ·unfold Dy
   split
   ·rename_i c _
    rcases A7c c f b with h | h | h <;> (simp only; omega)
   ·exact Int.le_refl 0
  ·exact hl _
theorem Si {l : List Cl} {f b e : Int} (h : Bl b l f = .bad e) : 0 < e := by
 unfold Bl at h
 split at h
 ·cases h
 ·split at h
  ·cases h
  ·rename_i h2
   injection h with h
   have := B8c (l := l) (f := f) (b := b)
   omega
theorem Qn {vb db : Int} : ∀ (t : T) {c : Int × Int} {e : Int}, Cj (Bu vb db) t c = .bad e → 0 < e := T.ind fun t ih c e h => by
 rcases A1a h with h1 | ⟨b, _, h1⟩ | ⟨p, hp, h1 | ⟨c', _, h2⟩⟩
 ·rw [Nf] at h1
  rcases Bb h1 with h2 | ⟨g, _, h2⟩
  ·exact Si h2
  ·split at h2
   ·injection h2 with h2; omega
   ·cases h2
 ·rw [Wg] at h1
  rcases Bb h1 with h2 | ⟨g, _, h2⟩
  ·exact Si h2
  ·cases h2
 ·cases h1
 ·exact ih p hp h2
theorem B2x {t : T} (h : Ee t) : 0 ≤ t.kind := by
 have h2 := (L4.mp h).2.1
 unfold D1 at h2
 repeat' split at h2
 all_goals omega
abbrev EL : Type := Int × List Cl
def Dp (i : Int) : Nat := if 0 ≤ i ∧ i < 24 then 2 ^ i.toNat else 0
def A0z (s : Nat) (i : Int) : Nat := if 0 ≤ i ∧ i < 24 then (s &&& 16777215) ||| 2 ^ i.toNat else s &&& 16777215
theorem Ld (i : Int) : A0z 0 i = Dp i := by unfold A0z Dp; split <;> simp
theorem Il (i : Int) : Dp i < 16777216 := by
 unfold Dp
 split
 ·exact Nat.pow_lt_pow_right (n := 24) (a := 2) I4 A3
 ·decide
def Sv (i : Int) : Bool := decide (0 ≤ i) && decide (i < 24)
theorem C0h {i : Int} (h : Sv i = true) : Qb (Dp i &&& 16777215) = 1 := by
 have h1 : 0 ≤ i ∧ i < 24 := by unfold Sv at h; simpa using h
 have h2 := Il i
 rw [Vs, Nat.mod_eq_of_lt A3]
 unfold Dp
 rw [if_pos h1]
 exact B1j _ A3
theorem B5h {i : Int} (h : Sv i = false) : Qb (Dp i &&& 16777215) = 0 := by
 have h1 : ¬ (0 ≤ i ∧ i < 24) := by unfold Sv at h; simp at h; omega
 unfold Dp
 rw [if_neg h1]
 exact A5p
theorem A1j (i : Int) : decide (((Qb (Dp i &&& 16777215) : Nat) : Int) = 0) = !Sv i := by
 cases h : Sv i
 ·rw [B5h h]; rfl
 ·rw [C0h h]; rfl
def H4 (x : EL) (k : List Cl → EL) : EL := if x.1 ≠ 0 then (x.1, []) else k x.2
theorem Be {x : EL} {k : List Cl → EL} (h : x.1 ≠ 0) : H4 x k = (x.1, []) := if_pos h
theorem Ba {x : EL} {k : List Cl → EL} (h : x.1 = 0) : H4 x k = k x.2 := if_neg (by simp [h])
def C5 (g : List Cl → Cl → EL) : List Cl → List Cl → EL
 | h, [] => (0, h)
 | h, c :: cs => H4 (g h c) fun h' => C5 g h' cs
theorem V6 {g : List Cl → Cl → EL} : ∀ {l m h h' : List Cl}, C5 g h l = (0, h') → C5 g h (l ++ m) = C5 g h' m
 | [], m, h, h', e => by
  rw [C5, Prod.mk.injEq] at e
  rw [List.nil_append, e.2]
 | d :: l, m, h, h', e => by
  rw [C5] at e
  by_cases h0 : (g h d).1 = 0
  ·rw [Ba h0] at e
   rw [List.cons_append, C5, Ba h0]
   exact V6 e
  ·rw [Be h0, Prod.mk.injEq] at e
   exact absurd e.1 h0
theorem V7 {g : List Cl → Cl → EL} {l h h' : List Cl} {i : Nat} (hi : i < l.length) (e : C5 g h (l.take i) = (0, h')) (h0 : (g h' (l.getD i Bm)).1 = 0) : C5 g h (l.take (i + 1)) = (0, (g h' (l.getD i Bm)).2) := by
 rw [Ad (d := Bm) hi, V6 e, C5, Ba h0, C5]
theorem Ru {g : List Cl → Cl → EL} {l h h' : List Cl} {i : Nat} (hi : i < l.length) (e : C5 g h (l.take i) = (0, h')) (h0 : (g h' (l.getD i Bm)).1 ≠ 0) : C5 g h l = ((g h' (l.getD i Bm)).1, []) := by
 have e2 : l = l.take i ++ l.getD i Bm :: l.drop (i + 1) := by rw [Cd (d := Bm) hi, List.getElem_cons_drop, List.take_append_drop]
 rw [e2, V6 e, ← e2, C5, Be h0]
theorem Rv {g : List Cl → Cl → EL} {l h h' : List Cl} {i : Nat} (hi : i = l.length) (e : C5 g h (l.take i) = (0, h')) : C5 g h l = (0, h') := by
 rw [hi, List.take_length] at e
 exact e
def Gk (f g : List Cl) : EL := Ay (f ++ g)
def Hb (f g : List Cl) : List Cl := f.flatMap fun a => g.map fun b => D0 a b
def Hu (f g : List Cl) : EL := Ay (Hb f g)
def Rq (c : Cl) : List Cl := ((Aj c.pos).map fun i => (⟨0, Dp i⟩ : Cl)) ++ ((Aj c.neg).map fun i => (⟨Dp i, 0⟩ : Cl))
def Z7 (c : Cl) : EL := Ay (Rq c)
def Ce (h : List Cl) (c : Cl) : EL := H4 (Z7 c) fun o => Hu h o
def Nb (f : List Cl) : EL := C5 Ce [Bm] f
def Jm (f : List Cl) : EL := if Ab f then Nb f else (2, [])
def Da (l : List Cl) : List Cl := l.filter fun c => !I2 c
def Sm (f : List Cl) : EL := if Ab f then Ay (Da f) else (2, [])
def Ej (r : List Cl) : EL := H4 (Jm r) Sm
def L0 (f g : List Cl) : EL := Ay (f.flatMap fun a => Da (g.map fun b => D0 a b))
def Hx (f g : List Cl) : EL := if (A4 f && A4 g) = false then (2, []) else Gk f g
abbrev Pu (x : EL) : Prop := Af x.2
theorem B1f {l m : List Cl} (h : Af l) (hs : ∀ c, c ∈ m → c ∈ l) (hl : m.length ≤ l.length) : Af m := ⟨fun c hc => h.1 c (hs c hc), by have := h.2; omega⟩
theorem Kx {l : List Cl} (h : ∀ c, c ∈ l → u32 c) : Pu (Ay l) := Xv h
theorem Ul {x : EL} {k : List Cl → EL} (h : x.1 = 0 → Pu (k x.2)) : Pu (H4 x k) := by
 by_cases h0 : x.1 = 0
 ·rw [Ba h0]; exact h h0
 ·rw [Be h0]; exact Cf
theorem A2b {g : List Cl → Cl → EL} : ∀ {l h : List Cl}, (∀ h c, c ∈ l → Af h → Pu (g h c)) → Af h → Pu (C5 g h l)
 | [], h, _, h2 => h2
 | c :: l, h, h1, h2 => by
  rw [C5]
  exact Ul fun _ => A2b (fun h' d hd => h1 h' d (List.mem_cons_of_mem _ hd)) (h1 h c List.mem_cons_self h2)
theorem J2 {a b : Cl} (h : u32 a) (h2 : u32 b) : u32 (D0 a b) := ⟨Nat.or_lt_two_pow (n := 32) h.1 h2.1, Nat.or_lt_two_pow (n := 32) h.2 h2.2⟩
theorem Ts {f g : List Cl} (h : ∀ c, c ∈ f → u32 c) (h2 : ∀ c, c ∈ g → u32 c) : ∀ c, c ∈ f ++ g → u32 c := fun c hc => (List.mem_append.mp hc).elim (h c) (h2 c)
theorem Wu {f g : List Cl} (h : ∀ c, c ∈ f → u32 c) (h2 : ∀ c, c ∈ g → u32 c) : ∀ c, c ∈ Hb f g → u32 c := fun c hc => by
 obtain ⟨a, ha, hc⟩ := List.mem_flatMap.mp hc
 obtain ⟨b, hb, rfl⟩ := List.mem_map.mp hc
 exact J2 (h a ha) (h2 b hb)
theorem A8c (c : Cl) : ∀ d, d ∈ Rq c → u32 d := fun d hd => by
 rcases List.mem_append.mp hd with hd | hd
 ·obtain ⟨i, _, rfl⟩ := List.mem_map.mp hd
  exact ⟨by show (0 : Nat) < _; decide, by have := Il i; show Dp i < 4294967296; omega⟩
 ·obtain ⟨i, _, rfl⟩ := List.mem_map.mp hd
  exact ⟨by have := Il i; show Dp i < 4294967296; omega, by show (0 : Nat) < _; decide⟩
theorem X8 {c : Cl} (h : u32 c) : Af [c] := ⟨fun d hd => by rw [List.mem_singleton] at hd; subst hd; exact h, by unfold reach; simp⟩
theorem A2a {f g : List Cl} (h : Af f) (h2 : Af g) : Pu (Gk f g) := Kx (Ts h.1 h2.1)
theorem A1z {f g : List Cl} (h : Af f) (h2 : Af g) : Pu (Hu f g) := Kx (Wu h.1 h2.1)
theorem A8x (c : Cl) : Pu (Z7 c) := Kx (A8c c)
theorem Sl {h : List Cl} {c : Cl} (hh : Af h) : Pu (Ce h c) := Ul fun _ => A1z hh (A8x c)
theorem Hf : Af [Bm] := X8 ⟨by decide, by decide⟩
theorem A8y (f : List Cl) : Pu (Nb f) := A2b (fun h c _ hh => Sl hh) Hf
theorem A1x (f : List Cl) : Pu (Jm f) := by unfold Jm; split; exact A8y f; exact Cf
theorem Pe {l : List Cl} (h : Af l) : Af (Da l) := B1f h (fun c hc => (List.mem_filter.mp hc).1) (List.length_filter_le _ _)
theorem B6e {f : List Cl} (h : Af f) : Pu (Sm f) := by unfold Sm; split; exact Kx (Pe h).1; exact Cf
theorem A5y (r : List Cl) : Pu (Ej r) := Ul fun _ => B6e (A1x r)
theorem B1s {f g : List Cl} (h : Af f) (h2 : Af g) : Pu (L0 f g) := Kx fun c hc => by
 obtain ⟨a, ha, hc⟩ := List.mem_flatMap.mp hc
 obtain ⟨b, hb, rfl⟩ := List.mem_map.mp (List.mem_filter.mp hc).1
 exact J2 (h.1 a ha) (h2.1 b hb)
abbrev C1f (x : EL) : Prop := x.2.length ≤ 64
theorem Iw (l : List Cl) : C1f (Ay l) := by
 rcases Fw l with ⟨_, _, h, h2⟩ | h | h
 ·show (Ay l).2.length ≤ 64; rw [h]; exact h2
 ·show (Ay l).2.length ≤ 64; rw [V0 A3]; decide
 ·show (Ay l).2.length ≤ 64; rw [V0 A3]; decide
theorem B7d {x : EL} {k : List Cl → EL} (h : x.1 = 0 → C1f (k x.2)) : C1f (H4 x k) := by
 by_cases h0 : x.1 = 0
 ·rw [Ba h0]; exact h h0
 ·rw [Be h0]; show ([] : List Cl).length ≤ 64; decide
theorem A3c (h : List Cl) (c : Cl) : C1f (Ce h c) := B7d fun _ => Iw _
theorem Fv {f : List Cl} (h : Ab f = true) : f.length ≤ 64 := by
 unfold Ab at h
 simp only [Bool.and_eq_true, decide_eq_true_eq] at h
 exact h.2
theorem B6a (c : Cl) : (Rq c).length ≤ 48 := by
 unfold Rq
 rw [List.length_append, List.length_map, List.length_map]
 have h1 : (Aj c.pos).length ≤ 24 := Hk _ _
 have h2 : (Aj c.neg).length ≤ 24 := Hk _ _
 omega
theorem B6z {s i : Nat} (h : i < (Aj s).length) : 0 ≤ (Aj s).getD i 0 ∧ (Aj s).getD i 0 < 24 := by
 have h1 := Xp (Ae (d := (0 : Int)) h)
 exact ⟨h1.1, by have := h1.2; exact_mod_cast this⟩
theorem A2y {s i : Nat} (h : i < (Aj s).length) : Aq ((Aj s).getD i 0) := by have := B6z h; unfold Aq; omega
theorem Rs (f g : List Cl) : (Hb f g).length = f.length * g.length := by
 unfold Hb
 induction f with
 | nil => simp
 | cons a f ih => rw [List.flatMap_cons, List.length_append, ih, List.length_map, List.length_cons, Nat.succ_mul]; omega
theorem A6g (f g : List Cl) (a : Cl) : Hb (f ++ [a]) g = Hb f g ++ g.map fun b => D0 a b := by unfold Hb; rw [List.flatMap_append]; simp
theorem Bs {ok : Nat → Prop} {l : List Cl} {a : SH} {w : World} (h : I1 ok l a w) : Af l := ⟨h.2, h.1.2.1⟩
def Po (i : Int) : EL := if Sv i then (0, [⟨Dp i, 0⟩]) else (2, [])
theorem St.Zi {B : Bv} {Γ : List Fact} {Ms : List Aw} {w : World} {e : TypeId} {b : Nat} {l m : List Cl} {a a' : SH} (hs : St B Γ (Ac b [sl a l.length, sl a' m.length] e :: Ms) w) {hBp : Prop} (hB : hBp) (hF : CL l a ∈ Γ) (hG : CL m a' ∈ Γ) : St B (Jn [(l, a), (m, a')] (some ⟨b, 0, Option.none⟩, 2) :: Γ) Ms w := by
 have h1 := ((hs.I5 (sz := 1) (m := 2) rfl I4).Vu Mn).S7 (x := (l, a)) List.mem_cons_self (List.mem_cons_of_mem _ hF)
 have h2 := h1.S7 (x := (m, a')) List.mem_cons_self (List.mem_cons_of_mem _ (List.mem_cons_of_mem _ hG))
 exact (h2.Kq (F := Cb) (E := Mn) (d := Cw) (bt := 24) (l := [(l, a), (m, a')]) (fun _ => rfl) hB List.mem_cons_self rfl rfl I4).less sx_
theorem Spec.N3 {P : Program} {k : FuncId} {args : Array Value} {pre : List Fact} {e : TypeId} {r r' : EL} (he : r' = r) (h : Spec P k args pre [] (fun x : SH => .tuple #[sl x r.2.length, .int .i64 r.1]) (fun _ => []) (fun x => [Al 2 e x r.2.length (A5 r.2)])) (hr : Pu r) :
  Spec P k args pre [] (fun x : SH => .tuple #[sl x r'.2.length, .int .i64 r'.1]) (fun x => [CL r'.2 x]) (fun _ => []) := by
 subst he
 exact fun ok w hok hst => (h ok w hok hst).mono fun e w' hh => by
  obtain ⟨x, he, hs⟩ := hh
  exact ⟨x, he, hs.D7 trivial rfl rfl hr.2 hr.1⟩
theorem Spec.Oi {P : Program} {k : FuncId} {args : Array Value} {pre : List Fact} {e : TypeId} {r r' : EL} (he : r' = r) (h : Spec P k args pre [] (fun x : SH => .tuple #[sl x r.2.length, .int .i64 r.1]) (fun _ => []) (fun x => [Al 2 e x r.2.length (A5 r.2)])) :
  Spec P k args pre [] (fun x : SH => .tuple #[sl x r'.2.length, .int .i64 r'.1]) (fun _ => []) (fun x => [Al 2 e x r'.2.length (A5 r'.2)]) := by
 subst he
 exact h
structure B9f where
 form : Int → List Cl → EL
 B0 : Int → List Cl → EL
def elR (x : EL) : Ak (List Cl) := if x.1 = 0 then .ok x.2 else .bad x.1
theorem A6x {x : EL} (h : x.1 = 0) : elR x = .ok x.2 := if_pos h
theorem A9y {x : EL} (h : x.1 ≠ 0) : elR x = .bad x.1 := if_neg h
theorem Sz {x : EL} {e : Int} : elR x = .bad e ↔ x.1 = e ∧ e ≠ 0 := by
 unfold elR
 split
 ·rename_i h
  constructor
  ·intro h2; cases h2
  ·rintro ⟨h2, h3⟩; exact absurd (h2.symm.trans h) h3
 ·rename_i h
  constructor
  ·intro h2; injection h2 with h2; exact ⟨h2, h2 ▸ h⟩
  ·rintro ⟨h2, h3⟩; rw [h2]
section
variable {g : Nat → T → Ak T}
end
theorem W6 {C : Type} {A : Tr C} {k : Int} {c : C} {ss : List Br} {s : Nat} {bs : List Br} (hs : s < ss.length) (hb : Cn A k (ss.take s) c = .ok bs) (hf : A.B0 c (ss.getD s Bi).B0 = .ok none) : Cn A k (ss.take (s + 1)) c = .ok bs := by
 rw [Ad (d := Bi) hs, J3, hb]
 simp only [Ak.bind]
 rw [hf]
theorem W5 {C : Type} {A : Tr C} {t : T} {c : C} {e : Int} {p : Int × List Cl} (h : A.own c t.kind t.n t.name t.r = .ok (.inr p)) (hl : D6 A t.kind 0 t.kids c = .bad e) : Cj A t c = .bad e := by
 rw [Ft, h]; simp only [Ak.bind]; rw [hl]
section
variable {W : B9f}
theorem A8f : size t0 = 1 := by decide
end
section
variable {α : Type} {g : α → T → Int × T}
end
section
variable {P : Program} [Tab P] {f : FuncId} {R : Ending → World → Prop} {B : Bv} {n : Fz} {K : List Item} {ops : Array Oper} {l : List Nat} {σ : Nat → Value} {Γ : List Fact} {Ms : List Aw} {dst : Option Tmp} {ty : TypeId} {x : Operand}
end
end Go.Hy
namespace Go.Hy
open Go Go.ChangeShapes Go.WideShapes Go.RowKit Go.Shelf Go.Proofs
theorem Td {C : Checked} {os : Os} {f : FuncId} {fn : Func} {s : ChangeSpec} {conds : List PathCond} {ts : List TypeId} {tb : TypeId} {H : Type} {enc : TypeId × Value → H} {L : List (String × DataW Unit)}
  (own : ownKnob C.prog.godebug = none) (started : os.Started) (noInit : C.prog.inits.idxOf? f = none) (hfn : C.prog.funcs[f]? = some fn)
  (witness : ∃ (w : World) (tape : Tape) (i : Input), w.os = os ∧ (w.forCall tape i).Shaped C.prog ∧ i.vars = [] ∧ Input.okWide C.prog (w.forCall tape i) .any w.heap.size f i ∧
   ((s.pre enc C.prog fn conds false (w.forCall tape i).memory i.args ∧ laidMetH C.prog L (w.forCall tape i).memory) ∧ sizedMet enc C.prog fn (OpenSpec.ofChange s) false (w.forCall tape i).memory i.args) ∧ Assume.holds {} C.prog (lone (Frame.enter C.prog f i.args .normal) [] (w.forCall tape i)))
  (laid : laidOutB C.prog = true) (hps : fn.params.toList = ts) (hread : ts.all (fun t => C.prog.readableRec t && decide (t < C.prog.types.size)) = true) (hres : fn.resultTypes = #[tb]) (hbool : C.prog.underlying tb = some .bool) (hvars : s.vars = [])
  (hsays : ∀ ds : List (DataW H), ds.length = ts.length → s.fn H ds = { results := [.lit (.bool true)], args := ds })
  (hcall : ∀ (W : World) (base : Nat) (args : Array Value) (ds : List (DataW H)) (p : List MemPlace), (∀ (j : Nat) t v, ts[j]? = some t → args[j]? = some v → Value.okWide C.prog W .any base t v) →
   DataW.TrodAll enc C.prog W 0 (fun _ => true) true ts args.toList ds p → (∀ x, x ∈ DataW.weightsEach C.prog ts ds → x ≤ reach) → laidMetH C.prog L W →
   Calls C.prog f args W fun e W' => e = .returned (.bool true) ∧ Below W.heap.size W W') :
  ReturnsInHanded {} C os f .any (fun w args => (s.pre enc C.prog fn conds false w args ∧ laidMetH C.prog L w) ∧ sizedMet enc C.prog fn (OpenSpec.ofChange s) false w args) (s.post enc C.prog fn false true false false) := by
 refine returnsInHanded_of_change_and (X := fun w _ => laidMetH C.prog L w) (fun _ _ _ hh h => h.of_heap hh) own started noInit hfn witness ?_
 intro W base args ds gs before hval hW hcnd hwt hL _
 have hW' := hW
 obtain ⟨p, q, hA, hV, rfl, hfz, hnd⟩ := hW
 rw [hvars] at hV
 obtain ⟨rfl, rfl⟩ := trodVars_none hV
 rw [hps] at hA hwt
 have hlen : ∀ {ts : List TypeId} {vs : List Value} {ds : List (DataW H)} {ps : List MemPlace}, DataW.TrodAll enc C.prog W 0 (fun _ => true) true ts vs ds ps → ds.length = ts.length := by
  intro ts
  induction ts with
  | nil => intro vs ds ps h; obtain ⟨_, rfl, _⟩ := trodAll_nil h; rfl
  | cons t ts ih =>
   intro vs ds ps h
   obtain ⟨v, vs1, d, ds1, a, b, rfl, rfl, rfl, _, h2⟩ := trodAll_cons h
   simp [ih h2]
 have hvt : s.plain.varTypes C.prog = [] := by
  have : s.plain.vars = [] := hvars
  unfold DataSpec.varTypes; rw [this]; rfl
 have hw2 : ∀ x, x ∈ DataW.weightsEach C.prog ts ds → x ≤ reach := by
  intro x hx
  rw [List.append_nil, hvt, List.append_nil] at hwt
  have := List.all_eq_true.mp hwt x hx
  exact of_decide_eq_true this
 refine (hcall W base args ds p (fun j t v ht hv => hval j t v (by rw [← Array.getElem?_toList, hps]; exact ht) hv) hA hw2 hL).mono ?_
 intro e W' ⟨he, hb⟩
 have hlt : ∀ x ∈ p, x.block < W.heap.size := fun x hx => hW'.lt x (by simpa using hx)
 refine ⟨.bool true, he, ds, [], p ++ [], [], p, [], hW', ?_, ?_, ?_, hb.frame _, fun h => by cases h⟩
 ·rw [List.append_nil, hsays ds (hlen hA), hres]
  exact ⟨[], [], ⟨1, by simp [DataW.trod, Value.cells, hbool]⟩, rfl, rfl⟩
 ·rw [List.append_nil, hsays ds (hlen hA), hps]
  refine Ov laid hb (fun t ht => ?_) hA hlt
  have := List.all_eq_true.mp hread t ht
  simpa using this
 ·rw [List.append_nil, hsays ds (hlen hA), hvars]
  rfl
theorem B4l {P : Program} {W : World} {nm : String} {t e : TypeId} {tab : List Nat} (hg : P.globalNamed nm = some 0) (ht : (P.globals[0]?).map (·.type) = some t) (hu : P.underlying t = some (.array tab.length e)) (he : P.underlying e = some (.int .u8)) (hc : P.cellsOf e = 1) (hc2 : P.cellsOf t = tab.length) (hpos : 0 < tab.length)
  (hp : ([(nm, (DataW.agg (tab.map fun (v : Nat) => .lit (.int .u8 (v : Int))) : DataW Unit))].all fun x => x.2.handleName?.isNone) = true) (h : laidMetH P [(nm, .agg (tab.map fun (v : Nat) => .lit (.int .u8 (v : Int))))] W) : TabAt 0 tab W ∧ 0 < W.heap.size := by
 rw [MakeChecks.laidMetH_plain _ _ _ hp] at h
 obtain ⟨ps, ⟨g0, t0, cs0, f0, p0, q0, hg0, ht0, hv0, hd0, _⟩, _⟩ := h
 obtain rfl := u_ hg hg0
 obtain rfl := u_ ht ht0
 obtain ⟨xs, m1, rfl, hx1, hlen, hn3, hel⟩ := DataW.trod_array hu hd0
 simp only [Prod.mk.injEq, DataW.agg.injEq] at hx1
 have hcell : ∀ j, j < tab.length → W.cell? ⟨0, j, none⟩ = some (.int .u8 (tab.getD j 0)) := by
  intro j hj
  have h1 := hel j hj
  rw [hc, Nat.mul_one, List.getElem?_eq_getElem A3] at h1
  obtain ⟨n, e1, e2, _⟩ := DataW.trod_int he h1
  have h2 := World.var?_cell hg0 hv0 j
  have h3 : cs0[j]? = some (.int .u8 n) := by
   have h4 := congrArg (fun l => l[0]?) e1
   simp only [List.getElem?_take, List.getElem?_drop, List.getElem?_cons_zero] at h4
   simpa using h4
  rw [h2, h3]
  have h5 : (tab.map fun (v : Nat) => (DataW.lit (.int .u8 (v : Int)) : DataW Unit))[j]? = (xs.map (·.1))[j]? := by rw [hx1.1]
  rw [List.getElem?_map, List.getElem?_map, List.getElem?_eq_getElem hj, List.getElem?_eq_getElem (show j < xs.length by omega)] at h5
  simp only [Option.map_some, Option.some.injEq] at h5
  rw [e2] at h5
  simp only [DataW.lit.injEq, Lit.int.injEq, true_and] at h5
  rw [List.getD_eq_getElem?_getD, List.getElem?_eq_getElem hj]
  simp [← h5]
 refine ⟨hcell, ?_⟩
 have h6 := hcell 0 hpos
 refine Nat.lt_of_not_le fun hz => ?_
 unfold World.cell? at h6
 rw [Array.getElem?_eq_none (show W.heap.size ≤ 0 from hz)] at h6
 simp at h6
theorem B4m {W : World} {tab : List Nat} (h : TabAt 0 tab W ∧ 0 < W.heap.size) : (At 0 0 (tab.map fun (v : Nat) => Value.int .u8 (v : Int))).f (okw W) W := by
 refine ⟨h.2, fun j v hj => ?_⟩
 rw [List.getElem?_map] at hj
 cases hq : tab[j]? with
 | none => rw [hq] at hj; cases hj
 | some k =>
  rw [hq] at hj
  injection hj with hj
  subst hj
  have hlt : j < tab.length := by
   refine Nat.lt_of_not_le fun hn => ?_
   rw [List.getElem?_eq_none hn] at hq
   cases hq
  have h1 := h.1 j hlt
  rw [List.getD_eq_getElem?_getD, hq] at h1
  rw [Nat.zero_add]
  exact h1
end Go.Hy
namespace Go.Hy
abbrev Wd : Type := Nat → Prop
def Jl (c : Cl) (P N : Wd) : Prop := (∀ i, c.pos.testBit i = true → P i) ∧ ∀ i, c.neg.testBit i = true → N i
def sat (l : List Cl) (P N : Wd) : Prop := ∃ c, c ∈ l ∧ Jl c P N
def F4 (s : Nat) : Wd := fun i => s.testBit i = true
def T4 (P N : Wd) : Prop := ∀ i, ¬ (P i ∧ N i)
theorem B5z {a b : Nat} : a ||| b = a ↔ ∀ i, b.testBit i = true → a.testBit i = true := by
 constructor
 ·intro h i hi
  rw [← h, Nat.testBit_or, hi, Bool.or_true]
 ·intro h
  refine Nat.eq_of_testBit_eq fun i => ?_
  rw [Nat.testBit_or]
  cases hb : b.testBit i with
  | false => simp
  | true => rw [h i hb]; rfl
theorem Gq {a b : Cl} : below a b = true ↔ Jl b (F4 a.pos) (F4 a.neg) := by
 unfold below Jl F4
 rw [Bool.and_eq_true, decide_eq_true_eq, decide_eq_true_eq, B5z, B5z]
theorem Rh (c : Cl) : Jl c (F4 c.pos) (F4 c.neg) := ⟨fun i h => h, fun i h => h⟩
theorem Qa {a b : Cl} {P N : Wd} (h : below a b = true) (hs : Jl a P N) : Jl b P N := by
 have h1 := Gq.mp h
 exact ⟨fun i hi => hs.1 i (h1.1 i hi), fun i hi => hs.2 i (h1.2 i hi)⟩
theorem A7j (c : Cl) : below c c = true := Gq.mpr (Rh c)
theorem T5 {a b c : Cl} (h : below a b = true) (h2 : below b c = true) : below a c = true := Gq.mpr (Qa h2 (Gq.mp h))
theorem A7l {a b : Cl} (h : below a b = true) (h2 : below b a = true) : a = b := by
 have h1 := Gq.mp h
 have h3 := Gq.mp h2
 unfold Jl F4 at h1 h3
 have e1 : a.pos = b.pos := Nat.eq_of_testBit_eq fun i => by
  cases ha : a.pos.testBit i with
  | true => exact (h3.1 i ha).symm
  | false => cases hb : b.pos.testBit i with
   | false => rfl
   | true => rw [h1.1 i hb] at ha; cases ha
 have e2 : a.neg = b.neg := Nat.eq_of_testBit_eq fun i => by
  cases ha : a.neg.testBit i with
  | true => exact (h3.2 i ha).symm
  | false => cases hb : b.neg.testBit i with
   | false => rfl
   | true => rw [h1.2 i hb] at ha; cases ha
 cases a; cases b; simp_all
theorem Wc {l : List Cl} {c : Cl} (h : Bt l c = true) : ∃ d, d ∈ l ∧ c ≠ d ∧ below c d = true := by
 unfold Bt at h
 obtain ⟨d, hd, h2⟩ := List.any_eq_true.mp h
 rw [Bool.and_eq_true] at h2
 exact ⟨d, hd, by simpa using h2.1, h2.2⟩
theorem Ss {l : List Cl} : ∀ (n : Nat) (c : Cl), c.pos + c.neg ≤ n → c ∈ l → ∃ d, d ∈ Ct l ∧ below c d = true
 | n, c, hn, hc => by
  cases h : Bt l c with
  | false => exact ⟨c, Cs.mpr ⟨hc, h⟩, A7j c⟩
  | true =>
   obtain ⟨d, hd, hne, hb⟩ := Wc h
   have h1 : c.pos ||| d.pos = c.pos ∧ c.neg ||| d.neg = c.neg := by
    unfold below at hb
    rw [Bool.and_eq_true, decide_eq_true_eq, decide_eq_true_eq] at hb
    exact hb
   have h2 : d.pos ≤ c.pos := by have := Nat.right_le_or (n := c.pos) (m := d.pos); omega
   have h3 : d.neg ≤ c.neg := by have := Nat.right_le_or (n := c.neg) (m := d.neg); omega
   have h4 : d.pos + d.neg < c.pos + c.neg := by
    refine Nat.lt_of_le_of_ne A3 fun he => hne ?_
    have e1 : c.pos = d.pos := by omega
    have e2 : c.neg = d.neg := by omega
    cases c; cases d; simp_all
   obtain ⟨e, he, h5⟩ := Ss (d.pos + d.neg) d (Nat.le_refl _) hd
   exact ⟨e, he, T5 hb h5⟩
termination_by n c => c.pos + c.neg
theorem Yy {l : List Cl} {P N : Wd} : sat (Ct l) P N ↔ sat l P N := by
 constructor
 ·rintro ⟨c, hc, h⟩; exact ⟨c, (Cs.mp hc).1, h⟩
 ·rintro ⟨c, hc, h⟩
  obtain ⟨d, hd, hb⟩ := Ss _ c (Nat.le_refl _) hc
  exact ⟨d, hd, Qa hb h⟩
theorem He {l : List Cl} {P N : Wd} (h : (Ay l).1 = 0) : sat (Ay l).2 P N ↔ sat l P N := by
 rcases Fw l with ⟨_, _, h2, _⟩ | h2 | h2
 ·rw [h2]; exact Yy
 ·rw [h2] at h; cases h
 ·rw [h2] at h; cases h
theorem Z3 {l m : List Cl} (Q : Wd → Wd → Prop) (hl : ∀ c, c ∈ l → Q (F4 c.pos) (F4 c.neg)) (hm : ∀ c, c ∈ m → Q (F4 c.pos) (F4 c.neg)) (h : ∀ P N, Q P N → (sat l P N ↔ sat m P N)) : Ct l = Ct m := by
 have half : ∀ {l m : List Cl}, (∀ c, c ∈ l → Q (F4 c.pos) (F4 c.neg)) → (∀ c, c ∈ m → Q (F4 c.pos) (F4 c.neg)) → (∀ P N, Q P N → (sat l P N ↔ sat m P N)) → ∀ x, x ∈ Ct l → x ∈ Ct m := by
  intro l m hl hm h x hx
  obtain ⟨h1, h2⟩ := Cs.mp hx
  have key : ∀ d, d ∈ m → below x d = true → x = d := by
   intro d hd hb
   obtain ⟨e, he, hse⟩ := (h _ _ (hm d hd)).mpr ⟨d, hd, Rh d⟩
   have hb2 : below d e = true := Gq.mpr hse
   rcases Gy.mp h2 e he with h3 | h3
   ·subst h3; exact A7l hb hb2
   ·rw [T5 hb hb2] at h3; cases h3
  obtain ⟨d, hd, hsd⟩ := (h _ _ (hl x h1)).mp ⟨x, h1, Rh x⟩
  have hxd := key d hd (Gq.mpr hsd)
  refine Cs.mpr ⟨hxd ▸ hd, Gy.mpr fun e he => ?_⟩
  cases hb : below x e with
  | false => exact .inr rfl
  | true => exact .inl (key e he hb)
 exact Pc (Gb l) (Gb m) fun x => ⟨half hl hm h x, half hm hl (fun P N hq => (h P N hq).symm) x⟩
theorem A6k {l m : List Cl} (Q : Wd → Wd → Prop) (r1 : l.all Ap = true) (r2 : m.all Ap = true) (hl : ∀ c, c ∈ l → Q (F4 c.pos) (F4 c.neg)) (hm : ∀ c, c ∈ m → Q (F4 c.pos) (F4 c.neg)) (h : ∀ P N, Q P N → (sat l P N ↔ sat m P N)) : Ay l = Ay m := by
 unfold Ay
 rw [r1, r2, Z3 Q hl hm h]
theorem Fc {l : List Cl} (h : Ab l = true) : l.all Ap = true := by
 unfold Ab at h
 simp only [Bool.and_eq_true] at h
 exact h.1.1.1
theorem B8m {l m : List Cl} (Q : Wd → Wd → Prop) (h1 : Ab l = true) (h2 : Ab m = true) (hl : ∀ c, c ∈ l → Q (F4 c.pos) (F4 c.neg)) (hm : ∀ c, c ∈ m → Q (F4 c.pos) (F4 c.neg)) (h : ∀ P N, Q P N → (sat l P N ↔ sat m P N)) : l = m := by
 have h3 := A6k Q (Fc h1) (Fc h2) hl hm h
 rw [Hm.mp h1, Hm.mp h2] at h3
 injection h3
theorem B8d {l m : List Cl} (h1 : Ab l = true) (h2 : Ab m = true) (h : ∀ P N, sat l P N ↔ sat m P N) : l = m := B8m (fun _ _ => True) h1 h2 (fun _ _ => trivial) (fun _ _ => trivial) fun P N _ => h P N
theorem S4 {c : Cl} : I2 c = false ↔ T4 (F4 c.pos) (F4 c.neg) := by
 unfold I2 T4 F4
 rw [decide_eq_false_iff_not, Decidable.not_not]
 constructor
 ·rintro h i ⟨h1, h2⟩
  have h3 : (c.pos &&& c.neg).testBit i = true := by rw [Nat.testBit_and, h1, h2]; rfl
  rw [h, Nat.zero_testBit] at h3
  cases h3
 ·intro h
  refine Nat.eq_of_testBit_eq fun i => ?_
  rw [Nat.testBit_and, Nat.zero_testBit]
  cases h1 : c.pos.testBit i with
  | false => rfl
  | true => cases h2 : c.neg.testBit i with
   | false => rfl
   | true => exact absurd ⟨h1, h2⟩ (h i)
theorem Cx {l : List Cl} (h : A4 l = true) : Ab l = true ∧ ∀ c, c ∈ l → I2 c = false := by
 unfold A4 at h
 rw [Bool.and_eq_true, Bool.not_eq_true'] at h
 refine ⟨h.1, fun c hc => ?_⟩
 cases hq : I2 c with
 | false => rfl
 | true => rw [List.any_eq_true.mpr ⟨c, hc, hq⟩] at h; cases h.2
theorem S5 {l : List Cl} (h : Ab l = true) (h2 : ∀ c, c ∈ l → I2 c = false) : A4 l = true := by
 unfold A4
 rw [Bool.and_eq_true, Bool.not_eq_true', h]
 refine ⟨rfl, ?_⟩
 cases hq : l.any I2 with
 | false => rfl
 | true => obtain ⟨c, hc, h3⟩ := List.any_eq_true.mp hq; rw [h2 c hc] at h3; cases h3
theorem B8l {l m : List Cl} (h1 : A4 l = true) (h2 : A4 m = true) (h : ∀ P N, T4 P N → (sat l P N ↔ sat m P N)) : l = m :=
 B8m T4 (Cx h1).1 (Cx h2).1 (fun c hc => S4.mp ((Cx h1).2 c hc)) (fun c hc => S4.mp ((Cx h2).2 c hc)) h
section
variable {f g l : List Cl} {P N : Wd} {a b c : Cl}
theorem A8i : ¬ sat [] P N := by rintro ⟨c, hc, _⟩; cases hc
theorem Ll : sat (f ++ g) P N ↔ sat f P N ∨ sat g P N := by
 unfold sat
 simp only [List.mem_append]
 constructor
 ·rintro ⟨c, h | h, h2⟩
  ·exact .inl ⟨c, h, h2⟩
  ·exact .inr ⟨c, h, h2⟩
 ·rintro (⟨c, h, h2⟩ | ⟨c, h, h2⟩)
  ·exact ⟨c, .inl h, h2⟩
  ·exact ⟨c, .inr h, h2⟩
theorem Pd : sat [c] P N ↔ Jl c P N := by
 unfold sat
 constructor
 ·rintro ⟨d, hd, h⟩; rw [List.mem_singleton] at hd; subst hd; exact h
 ·intro h; exact ⟨c, List.mem_singleton.mpr rfl, h⟩
theorem B4v : Jl Bm P N := ⟨fun i hi => by simp [Bm] at hi, fun i hi => by simp [Bm] at hi⟩
theorem A8g : sat [Bm] P N := Pd.mpr B4v
theorem X7 : Jl (D0 a b) P N ↔ Jl a P N ∧ Jl b P N := by
 unfold Jl D0
 simp only [Nat.testBit_or, Bool.or_eq_true]
 constructor
 ·rintro ⟨h1, h2⟩; exact ⟨⟨fun i hi => h1 i (.inl hi), fun i hi => h2 i (.inl hi)⟩, fun i hi => h1 i (.inr hi), fun i hi => h2 i (.inr hi)⟩
 ·rintro ⟨h1, h2⟩; exact ⟨fun i hi => hi.elim (h1.1 i) (h2.1 i), fun i hi => hi.elim (h1.2 i) (h2.2 i)⟩
theorem Rg : sat (Hb f g) P N ↔ sat f P N ∧ sat g P N := by
 unfold sat Hb
 simp only [List.mem_flatMap, List.mem_map]
 constructor
 ·rintro ⟨c, ⟨a, ha, b, hb, rfl⟩, h⟩
  have h2 := X7.mp h
  exact ⟨⟨a, ha, h2.1⟩, b, hb, h2.2⟩
 ·rintro ⟨⟨a, ha, h1⟩, b, hb, h2⟩
  exact ⟨_, ⟨a, ha, b, hb, rfl⟩, X7.mpr ⟨h1, h2⟩⟩
theorem A1g (hw : T4 P N) : sat (Da l) P N ↔ sat l P N := by
 unfold sat Da
 constructor
 ·rintro ⟨c, hc, h⟩; exact ⟨c, (List.mem_filter.mp hc).1, h⟩
 ·rintro ⟨c, hc, h⟩
  refine ⟨c, List.mem_filter.mpr ⟨hc, ?_⟩, h⟩
  rw [Bool.not_eq_true', S4]
  rintro i ⟨h1, h2⟩
  exact hw i ⟨h.1 i h1, h.2 i h2⟩
end
theorem Np {i : Int} {j : Nat} : (Dp i).testBit j = true ↔ (0 ≤ i ∧ i < 24) ∧ (j : Int) = i := by
 unfold Dp
 split
 ·rename_i h
  rw [Nat.testBit_two_pow, decide_eq_true_eq]
  omega
 ·rename_i h
  rw [Nat.zero_testBit]
  constructor
  ·intro h2; cases h2
  ·rintro ⟨h2, _⟩; exact absurd h2 h
theorem Lm {c : Cl} (h : Ap c = true) : (∀ i, c.pos.testBit i = true → i < 24) ∧ ∀ i, c.neg.testBit i = true → i < 24 := by
 obtain ⟨h1, h2⟩ := Fk.mp h
 have key : ∀ s i : Nat, s < 16777216 → s.testBit i = true → i < 24 := fun s i hs hi => by
  refine Decidable.byContradiction fun hn => ?_
  have h3 : s < 2 ^ i := Nat.lt_of_lt_of_le (show s < 2 ^ 24 by omega) (Nat.pow_le_pow_right A3 A3)
  rw [Nat.testBit_lt_two_pow h3] at hi
  cases hi
 exact ⟨fun i hi => key _ i h1 hi, fun i hi => key _ i h2 hi⟩
theorem D9 {s : Nat} {x : Int} : x ∈ Aj s ↔ 0 ≤ x ∧ x < 24 ∧ s.testBit x.toNat = true := Dx
theorem C0c {c : Cl} {P N : Wd} (hc : Ap c = true) : sat (Rq c) P N ↔ (∃ i, c.pos.testBit i = true ∧ N i) ∨ ∃ i, c.neg.testBit i = true ∧ P i := by
 obtain ⟨b1, b2⟩ := Lm hc
 unfold Rq
 rw [Ll]
 have one : ∀ (s : Nat) (hs : ∀ i, s.testBit i = true → i < 24) (mk : Nat → Cl) (Q : Wd) (hq : ∀ x : Int, 0 ≤ x → x < 24 → (Jl (mk (Dp x)) P N ↔ Q x.toNat)), sat ((Aj s).map fun i => mk (Dp i)) P N ↔ ∃ i, s.testBit i = true ∧ Q i := by
  intro s hs mk Q hq
  unfold sat
  simp only [List.mem_map]
  constructor
  ·rintro ⟨_, ⟨x, hx, rfl⟩, h⟩
   obtain ⟨x0, x1, x2⟩ := D9.mp hx
   exact ⟨x.toNat, x2, (hq x x0 x1).mp h⟩
  ·rintro ⟨i, hi, h⟩
   have h3 := hs i hi
   exact ⟨_, ⟨(i : Int), D9.mpr ⟨by omega, by omega, by simpa using hi⟩, rfl⟩, (hq (i : Int) A3 A3).mpr (by simpa using h)⟩
 have e1 := one c.pos b1 (fun s => ⟨0, s⟩) N (fun x x0 x1 => by
  unfold Jl
  simp only [Nat.zero_testBit, Np]
  constructor
  ·intro h; exact h.2 x.toNat ⟨⟨x0, x1⟩, by omega⟩
  ·intro h; exact ⟨fun i hi => (by cases hi), fun i hi => (show i = x.toNat by omega) ▸ h⟩)
 have e2 := one c.neg b2 (fun s => ⟨s, 0⟩) P (fun x x0 x1 => by
  unfold Jl
  simp only [Nat.zero_testBit, Np]
  constructor
  ·intro h; exact h.1 x.toNat ⟨⟨x0, x1⟩, by omega⟩
  ·intro h; exact ⟨fun i hi => (show i = x.toNat by omega) ▸ h, fun i hi => (by cases hi)⟩)
 exact or_congr e1 e2
theorem Ob {g : List Cl → Cl → EL} {L : List Cl} {I : List Cl → List Cl → Prop} (hs : ∀ pre c h, c ∈ L → I pre h → (g h c).1 = 0 → I (pre ++ [c]) (g h c).2) : ∀ (m pre h : List Cl), I pre h → (∀ c, c ∈ m → c ∈ L) → (C5 g h m).1 = 0 → I (pre ++ m) (C5 g h m).2
 | [], pre, h, hi, _, _ => by rw [List.append_nil]; exact hi
 | c :: m, pre, h, hi, hm, h0 => by
  rw [C5] at h0 ⊢
  by_cases h1 : (g h c).1 = 0
  ·rw [Ba h1] at h0 ⊢
   have h2 := Ob hs m (pre ++ [c]) _ (hs pre c h (hm c List.mem_cons_self) hi h1) (fun d hd => hm d (List.mem_cons_of_mem _ hd)) h0
   rwa [List.append_assoc] at h2
  ·rw [Be h1] at h0
   exact absurd h0 h1
theorem Ex {x : EL} {k : List Cl → EL} (h : (H4 x k).1 = 0) : x.1 = 0 ∧ (k x.2).1 = 0 ∧ H4 x k = k x.2 := by
 by_cases h1 : x.1 = 0
 ·rw [Ba h1] at h ⊢; exact ⟨h1, h, rfl⟩
 ·rw [Be h1] at h; exact absurd h h1
def coW (P : Wd) : Wd := fun i => ¬ P i
theorem A8h {f : List Cl} {P N : Wd} (hf : ∀ c, c ∈ f → Ap c = true) (h : (Nb f).1 = 0) : sat (Nb f).2 P N ↔ ¬ sat f (coW N) (coW P) := by
 have h2 := Ob (g := Ce) (L := f) (I := fun pre h => ∀ P N, sat h P N ↔ ∀ c, c ∈ pre → ¬ Jl c (coW N) (coW P)) (fun pre c h hc hi h0 P N => by
  unfold Ce at h0 ⊢
  obtain ⟨a1, a2, a3⟩ := Ex h0
  rw [a3]
  unfold Hu at a2 ⊢
  rw [He a2, Rg, hi]
  unfold Z7 at a1 ⊢
  rw [He a1, C0c (hf c hc)]
  simp only [List.mem_append, List.mem_singleton, or_imp, forall_and, forall_eq]
  refine and_congr Iff.rfl ?_
  unfold Jl coW
  constructor
  ·rintro (⟨i, hi, hn⟩ | ⟨i, hi, hn⟩) ⟨h1, h2⟩
   ·exact h1 i hi hn
   ·exact h2 i hi hn
  ·intro h1
   refine Classical.byContradiction fun h2 => h1 ⟨fun i hi hn => h2 (.inl ⟨i, hi, hn⟩), fun i hi hn => h2 (.inr ⟨i, hi, hn⟩)⟩) f [] [Bm] (fun P N => ⟨fun _ c hc => (by cases hc), fun _ => A8g⟩) (fun c hc => hc) h P N
 rw [List.nil_append] at h2
 unfold Nb
 rw [h2]
 unfold sat
 constructor
 ·rintro h3 ⟨c, hc, h4⟩; exact h3 c hc h4
 ·intro h3 c hc h4; exact h3 ⟨c, hc, h4⟩
theorem B4u {r : List Cl} {P N : Wd} (hw : T4 P N) (h : (Sm r).1 = 0) : sat (Sm r).2 P N ↔ sat r P N := by
 unfold Sm at h ⊢
 split at h
 ·rename_i h1
  rw [if_pos h1, He h, A1g hw]
 ·cases h
theorem A5g {r : List Cl} {P N : Wd} (hw : T4 P N) (h : (Ej r).1 = 0) : sat (Ej r).2 P N ↔ ¬ sat r (coW N) (coW P) := by
 unfold Ej at h ⊢
 obtain ⟨a1, a2, a3⟩ := Ex h
 rw [a3, B4u hw a2]
 unfold Jm at a1 ⊢
 split at a1
 ·rename_i h1
  rw [if_pos h1, A8h (fun c hc => List.all_eq_true.mp (Fc h1) c hc) a1]
 ·cases a1
theorem C3a (l : List Cl) : (Ct l).length ≤ l.length := by
 have := B5c l l.length
 rwa [B5d] at this
theorem Su {l : List Cl} (h : l.all Ap = true) (h2 : l.length ≤ 64) : (Ay l).1 = 0 := by
 unfold Ay
 rw [if_neg (by simp [h]), if_neg (by have := C3a l; omega)]
def uE : T := .mk 3 0 ⟨#[]⟩ [] [] []
def aE (t u : T) : T := .mk 6 0 ⟨#[]⟩ [] [t, u] []
def lE (t : T) : T := .mk 5 0 ⟨#[]⟩ [] [t] []
mutual
def D3 : T → Bool
 | .mk _ _ _ _ ks ss => Fa ks || Kb ss
def Fa : List T → Bool
 | [] => false
 | t :: ts => D3 t || Fa ts
def Kb : List Br → Bool
 | [] => false
 | .mk f ks :: bs => (decide (f = []) || Fa ks) || Kb bs
end
theorem Lr : ∀ {ts : List T}, Fa ts = true ↔ ∃ t, t ∈ ts ∧ D3 t = true
 | [] => by simp [Fa]
 | t :: ts => by simp [Fa, Lr (ts := ts)]
theorem Ls : ∀ {bs : List Br}, Kb bs = true ↔ ∃ b, b ∈ bs ∧ (b.B0 = [] ∨ Fa b.kids = true)
 | [] => by simp [Kb]
 | .mk f ks :: bs => by simp [Kb, Ls (bs := bs), Br.B0, Br.kids]
theorem Hj {t : T} : D3 t = true ↔ Fa t.kids = true ∨ Kb t.sys = true := by
 obtain ⟨k, n, nm, r, ks, ss⟩ := t
 simp only [D3, T.kids, T.sys, Bool.or_eq_true]
theorem B1z {t : T} {i : Nat} (hi : i < t.kids.length) (h : D3 (t.kids.getD i t0) = true) : D3 t = true := Hj.mpr (.inl (Lr.mpr ⟨_, Ae hi, h⟩))
theorem A6d {t : T} {s : Nat} (hs : s < t.sys.length) (h : (t.sys.getD s Bi).B0 = []) : D3 t = true := Hj.mpr (.inr (Ls.mpr ⟨_, Ae hs, .inl h⟩))
theorem B1y {t : T} {s k : Nat} (hs : s < t.sys.length) (hk : k < (t.sys.getD s Bi).kids.length) (h : D3 ((t.sys.getD s Bi).kids.getD k t0) = true) : D3 t = true := Hj.mpr (.inr (Ls.mpr ⟨_, Ae hs, .inr (Lr.mpr ⟨_, Ae hk, h⟩)⟩))
theorem Sq {ts : List T} (h : ∀ k, k < ts.length → D3 (ts.getD k t0) = false) : Fa ts = false := by
 cases hn : Fa ts with
 | false => rfl
 | true =>
  obtain ⟨t, ht, h2⟩ := Lr.mp hn
  obtain ⟨i, hi, rfl⟩ := List.mem_iff_getElem.mp ht
  have := h i hi
  rw [Cd (d := t0) hi, h2] at this
  cases this
theorem A6c {t : T} (h1 : ∀ i, i < t.kids.length → D3 (t.kids.getD i t0) = false) (h2 : ∀ s, s < t.sys.length → (t.sys.getD s Bi).B0 ≠ [] ∧ Fa (t.sys.getD s Bi).kids = false) : D3 t = false := by
 cases hn : D3 t with
 | false => rfl
 | true =>
  rcases Hj.mp hn with h | h
  ·rw [Sq h1] at h; cases h
  ·obtain ⟨b, hb, h3⟩ := Ls.mp h
   obtain ⟨i, hi, rfl⟩ := List.mem_iff_getElem.mp hb
   have h4 := h2 i hi
   rw [Cd (d := Bi) hi] at h4
   rcases h3 with h3 | h3
   ·exact absurd h3 h4.1
   ·rw [h4.2] at h3; cases h3
section
variable {CA CB CC : Type} {A : Tr CA} {B : Tr CB} {D : Tr CC} (R : CA → CB → CC → Prop)
variable {R}
end
def B0z (x : EL) : Prop := x.1 = 0 ∧ x.2.length ≤ 1 ∧ x.2.all Ap = true
theorem Xu {l : List Cl} (h : l.all Ap = true) (h0 : (Ay l).1 = 0) : (Ay l).2.all Ap = true ∧ (Ay l).2.length ≤ l.length := by
 rcases Fw l with ⟨_, _, h2, _⟩ | h2 | h2
 ·rw [h2]
  exact ⟨List.all_eq_true.mpr fun c hc => List.all_eq_true.mp h c (Cs.mp hc).1, C3a l⟩
 ·rw [h2] at h0; cases h0
 ·rw [h2] at h0; cases h0
theorem Lh {l : List Cl} (h : l.all Ap = true) (h2 : l.length ≤ 1) : B0z (Ay l) := by
 have h0 := Su h A3
 obtain ⟨h3, h4⟩ := Xu h h0
 exact ⟨h0, by omega, h3⟩
theorem Z0 {a b : Cl} (h : Ap a = true) (h2 : Ap b = true) : Ap (D0 a b) = true := by
 obtain ⟨a1, a2⟩ := Fk.mp h
 obtain ⟨b1, b2⟩ := Fk.mp h2
 exact Fk.mpr ⟨Nat.or_lt_two_pow (n := 24) a1 b1, Nat.or_lt_two_pow (n := 24) a2 b2⟩
theorem La {f g : List Cl} (h : f.all Ap = true) (h2 : g.all Ap = true) : (Hb f g).all Ap = true := List.all_eq_true.mpr fun c hc => by
 obtain ⟨a, ha, hc⟩ := List.mem_flatMap.mp hc
 obtain ⟨b, hb, rfl⟩ := List.mem_map.mp hc
 exact Z0 (List.all_eq_true.mp h a ha) (List.all_eq_true.mp h2 b hb)
theorem X1 {f g : List Cl} (h : f.all Ap = true) (h2 : g.all Ap = true) (l1 : f.length ≤ 1) (l2 : g.length ≤ 1) : B0z (Hu f g) :=
 Lh (La h h2) (by rw [Rs]; exact Nat.le_trans (Nat.mul_le_mul l1 l2) A3)
theorem B0h {f g : List Cl} (h : f.all Ap = true) (h2 : g.all Ap = true) : (f ++ g).all Ap = true := by rw [List.all_append, h, h2]; rfl
theorem A4l {f : List Cl} (h : f.all Ap = true) : (Da f).all Ap = true ∧ (Da f).length ≤ f.length := ⟨List.all_eq_true.mpr fun c hc => List.all_eq_true.mp h c (List.mem_filter.mp hc).1, List.length_filter_le _ _⟩
theorem Uo {f : List Cl} (h : (Nb f).1 = 0) : Ab (Nb f).2 = true :=
 Ob (g := Ce) (L := f) (I := fun pre h => Ab h = true) (fun pre c h hc hi h0 => by
  unfold Ce at h0 ⊢
  obtain ⟨a1, a2, a3⟩ := Ex h0
  rw [a3]
  exact Ix a2) f [] [Bm] I4 (fun c hc => hc) h
theorem A6r {c : Cl} (h : Ap c = true) : Ab [c] = true := by
 unfold Ab
 simp [h, Jv, apart]
theorem O7 {i : Int} (h : 0 ≤ i ∧ i < 24) : Aj (Dp i) = [i] := by
 refine J5 (Ke _ _) (List.pairwise_singleton _ _) fun x => ?_
 rw [D9, List.mem_singleton]
 constructor
 ·rintro ⟨h1, h2, h3⟩
  have := (Np.mp h3).2
  omega
 ·rintro rfl
  exact ⟨h.1, h.2, Np.mpr ⟨h, by omega⟩⟩
def G3 (i : Int) : Cl := ⟨Dp i, 0⟩
theorem Jx (i : Int) : Ap (G3 i) = true := Fk.mpr ⟨Il i, by show (0 : Nat) < _; omega⟩
theorem B4i {o : List Cl} (h : o.all Ap = true) (h2 : o.length ≤ 1) : B0z (H4 (Ay o) fun x => Hu [Bm] x) := by
 have h1 := Lh h h2
 rw [Ba h1.1]
 exact X1 I4 h1.2.2 D4 h1.2.1
theorem A1b {c : Cl} (h : (Rq c).length ≤ 1) (h2 : (Rq c).all Ap = true) : B0z (Nb [c]) := by
 have h3 := B4i h2 h
 have e : Nb [c] = H4 (Ce [Bm] c) fun h' => C5 Ce h' [] := rfl
 have e2 : Ce [Bm] c = H4 (Ay (Rq c)) fun x => Hu [Bm] x := rfl
 rw [e, e2, Ba h3.1]
 exact ⟨rfl, h3.2⟩
theorem Yn {i : Int} (h : 0 ≤ i ∧ i < 24) : B0z (Nb [G3 i]) := by
 refine A1b ?_ ?_
 ·unfold Rq G3
  rw [show Aj (⟨Dp i, 0⟩ : Cl).pos = [i] from O7 h, show Aj (⟨Dp i, 0⟩ : Cl).neg = [] from (by decide : Aj 0 = [])]
  simp
 ·unfold Rq G3
  rw [show Aj (⟨Dp i, 0⟩ : Cl).pos = [i] from O7 h, show Aj (⟨Dp i, 0⟩ : Cl).neg = [] from (by decide : Aj 0 = [])]
  simp only [List.map_cons, List.map_nil, List.append_nil, List.all_cons, List.all_nil, Bool.and_true]
  exact Fk.mpr ⟨by show (0 : Nat) < _; omega, Il i⟩
theorem A3a {i d : Int} (hi : 0 ≤ i) (hd : 0 ≤ d) (h : i + d < 24) : A8 [G3 i] 0 d = (0, [G3 (i + d)]) := by
 have h1 : Ah (Dp i) 0 d = (0, Dp (i + d)) := by
  rw [Xo A3 hd (fun x hx => by rw [O7 ⟨hi, by omega⟩, List.mem_singleton] at hx; right; omega), O7 ⟨hi, by omega⟩]
  unfold Dp
  rw [if_pos ⟨by omega, h⟩]
  simp [U4, shI, if_neg (show ¬ i < 0 by omega)]
 have h0 : Ah 0 0 d = (0, 0) := by
  rw [Xo A3 hd (fun x hx => by rw [show Aj 0 = [] from by decide] at hx; cases hx), show Aj 0 = [] by decide]
  rfl
 have h2 : B6 (G3 i) 0 d = (0, G3 (i + d)) := by
  unfold B6
  rw [if_neg (by rw [Jx]; simp), show (G3 i).pos = Dp i from rfl, show (G3 i).neg = 0 from rfl, h1, h0]
  simp [G3]
 have h3 : Dy (fun c => B6 c 0 d) [G3 i] = (0, [G3 (i + d)]) := by
  rw [V8 (fun j hj => by have : j = 0 := (by simpa using hj); subst this; rw [show ([G3 i] : List Cl).getD 0 Bm = G3 i from rfl, h2]), List.map_cons, List.map_nil, h2]
 unfold A8
 rw [if_neg (by rw [A6r (Jx i)]; simp), h3, if_neg D4]
 exact Hm.mp (A6r (Jx _))
theorem A8j {i : Int} {P N : Wd} (h : 0 ≤ i ∧ i < 24) : sat [G3 i] P N ↔ P i.toNat := by
 rw [Pd]
 unfold Jl G3
 simp only [Np, Nat.zero_testBit]
 constructor
 ·intro h1; exact h1.1 i.toNat ⟨h, by omega⟩
 ·intro h1; exact ⟨fun j hj => (show i.toNat = j by omega) ▸ h1, fun j hj => (by cases hj)⟩
theorem Lz {k n : Int} {nm : ByteArray} {r : List Cl} (h : Rt k n nm r) : (k = 14 → A4 r = true) ∧ Ab r = true := by
 obtain ⟨_, _, h3, h4, h5, h6, h7⟩ := h
 refine ⟨h6, ?_⟩
 by_cases e : k = 13 ∨ k = 21 ∨ k = 26
 ·exact h5 e
 ·by_cases e2 : k = 14
  ·exact (Cx (h6 e2)).1
  ·rw [h7 A3]; decide
theorem A8z (i : Int) : Pu (Po i) := by
 unfold Po
 split
 ·exact X8 ⟨by have := Il i; show Dp i < _; omega, by show (0 : Nat) < _; omega⟩
 ·exact Cf
theorem B2m {f g : List Cl} (h : (Hx f g).1 = 0) : (Hx f g).2.length ≤ 64 ∧ A4 (Hx f g).2 = true := by
 unfold Hx at h ⊢
 split at h
 ·cases h
 ·rename_i h1
  rw [if_neg h1]
  simp only [Bool.not_eq_false, Bool.and_eq_true] at h1
  unfold Gk at h ⊢
  have hr := Ix h
  refine ⟨Fv hr, S5 hr fun c hc => ?_⟩
  rcases List.mem_append.mp (Pj h hc) with hc | hc
  ·exact (Cx h1.1).2 c hc
  ·exact (Cx h1.2).2 c hc
section
variable {C : Type} {A : Tr C}
end
def A5o (l : List Cl) : List Cl := l.filter fun c => !A5n c
theorem Rl {l : List Cl} (h : l.all Ap = true) : A5o l = Da l := by
 unfold A5o Da
 refine List.filter_congr fun c hc => ?_
 rw [B1g (List.all_eq_true.mp h c hc)]
theorem A5l {t : T} {v d : Int} (hv : 0 ≤ v ∧ v ≤ 1000000000000) (h : Cg t v d = 0) : Ee t ∧ 0 ≤ t.kind ∧ H0 t v d ∧ As t = 0 := by
 obtain ⟨_, _, h1, h2, h3⟩ := (Ri hv.1 hv.2).mp h
 exact ⟨h2, B2x h2, h3, Sx.mpr ⟨h1, h2⟩⟩
def Kz (f g : List Cl) : EL := if (Ab f && Ab g) = false then (2, []) else Hu f g
def L2 (f g : List Cl) : EL := if (Ab f && Ab g) = false then (2, []) else Gk f g
def E8 (f g : List Cl) : EL := if (A4 f && A4 g) = false then (2, []) else Ay (A5o (Hb f g))
theorem A2d {r : List Cl} (h : (Sm r).1 = 0) : A4 (Sm r).2 = true := by
 unfold Sm at h ⊢
 split at h
 ·rename_i h1
  rw [if_pos h1]
  exact S5 (Ix h) fun c hc => by
   have := Pj h hc
   have := (List.mem_filter.mp this).2
   simpa using this
 ·cases h
theorem A2c {r : List Cl} (h : (Ej r).1 = 0) : A4 (Ej r).2 = true := by
 unfold Ej at h ⊢
 obtain ⟨a1, a2, a3⟩ := Ex h
 rw [a3]
 exact A2d a2
theorem A7e {f g : List Cl} : Da (Hb f g) = f.flatMap fun a => Da (g.map fun b => D0 a b) := by
 unfold Da Hb
 rw [List.filter_flatMap]
theorem Kd {f g : List Cl} (h : A4 f = true) (h2 : A4 g = true) : E8 f g = L0 f g := by
 unfold E8 L0
 rw [if_neg (by simp [h, h2]), Rl (La (Fc (Cx h).1) (Fc (Cx h2).1)), A7e]
theorem A6h {f g : List Cl} (h : (L0 f g).1 = 0) : A4 (L0 f g).2 = true := by
 unfold L0 at h ⊢
 exact S5 (Ix h) fun c hc => by
  obtain ⟨a, _, h2⟩ := List.mem_flatMap.mp (Pj h hc)
  have := (List.mem_filter.mp h2).2
  simpa using this
theorem V1 {f g : List Cl} (h : A4 f = true) (h2 : A4 g = true) : Hx f g = Gk f g := by unfold Hx; rw [if_neg (by simp [h, h2])]
def Ml (k : Int) (r : List Cl) (ks : List T) : T := .mk k 0 ⟨#[]⟩ r ks []
abbrev kd (t : T) (i : Nat) : T := t.kids.getD i t0
abbrev Ev := List T × List (List Cl)
def Um (p neg : Bool) (f : List Cl) : EL := if p = true then (if neg = true then Ej f else Sm f) else if neg = true then Jm f else (0, f)
def Gz (p : Bool) (g h : List Cl) : EL := if p = true then E8 g h else Kz g h
def Ly (p : Bool) (g h : List Cl) : EL := if p = true then Hx g h else L2 g h
def Ch (p neg : Bool) (D : List (List Cl)) : List Int → List Cl → EL
 | [], g => (0, g)
 | i :: l, g => H4 (Um p neg (D.getD i.toNat [])) fun h => H4 (Gz p g h) fun g => Ch p neg D l g
def Ik (p : Bool) (D : List (List Cl)) (c : Cl) : EL := H4 (Ch p false D (Aj c.pos) [Bm]) fun g => Ch p true D (Aj c.neg) g
def E7 (p : Bool) (D : List (List Cl)) (h : List Cl) (c : Cl) : EL := H4 (Ik p D c) fun g => Ly p h g
def Fj (p : Bool) (D : List (List Cl)) (f : List Cl) : EL := C5 (E7 p D) [] f
theorem Ti {p neg : Bool} {D : List (List Cl)} : ∀ {l m : List Int} {g g' : List Cl}, Ch p neg D l g = (0, g') → Ch p neg D (l ++ m) g = Ch p neg D m g'
 | [], m, g, g', h => by
  rw [Ch, Prod.mk.injEq] at h
  rw [List.nil_append, h.2]
 | i :: l, m, g, g', h => by
  rw [Ch] at h
  rw [List.cons_append, Ch]
  by_cases h1 : (Um p neg (D.getD i.toNat [])).1 = 0
  ·rw [Ba h1] at h ⊢
   by_cases h2 : (Gz p g (Um p neg (D.getD i.toNat [])).2).1 = 0
   ·rw [Ba h2] at h ⊢
    exact Ti h
   ·rw [Be h2, Prod.mk.injEq] at h
    exact absurd h.1 h2
  ·rw [Be h1, Prod.mk.injEq] at h
   exact absurd h.1 h1
theorem C1d {p neg : Bool} {D : List (List Cl)} {l : List Int} {g g' : List Cl} {k : Nat} (hk : k < l.length) (h : Ch p neg D (l.take k) g = (0, g')) (h1 : (Um p neg (D.getD (l.getD k 0).toNat [])).1 = 0) (h2 : (Gz p g' (Um p neg (D.getD (l.getD k 0).toNat [])).2).1 = 0) :
  Ch p neg D (l.take (k + 1)) g = (0, (Gz p g' (Um p neg (D.getD (l.getD k 0).toNat [])).2).2) := by
 rw [Ad (d := 0) hk, Ti h, Ch, Ba h1, Ba h2, Ch]
theorem B2g {p neg : Bool} {D : List (List Cl)} {l : List Int} {g g' : List Cl} {k : Nat} (hk : k < l.length) (h : Ch p neg D (l.take k) g = (0, g')) (h1 : (Um p neg (D.getD (l.getD k 0).toNat [])).1 ≠ 0) : Ch p neg D l g = ((Um p neg (D.getD (l.getD k 0).toNat [])).1, []) := by
 have e2 : l = l.take k ++ l.getD k 0 :: l.drop (k + 1) := by rw [Cd (d := 0) hk, List.getElem_cons_drop, List.take_append_drop]
 rw [e2, Ti h, ← e2, Ch, Be h1]
theorem B2f {p neg : Bool} {D : List (List Cl)} {l : List Int} {g g' : List Cl} {k : Nat} (hk : k < l.length) (h : Ch p neg D (l.take k) g = (0, g')) (h1 : (Um p neg (D.getD (l.getD k 0).toNat [])).1 = 0) (h2 : (Gz p g' (Um p neg (D.getD (l.getD k 0).toNat [])).2).1 ≠ 0) : Ch p neg D l g = ((Gz p g' (Um p neg (D.getD (l.getD k 0).toNat [])).2).1, []) := by
 have e2 : l = l.take k ++ l.getD k 0 :: l.drop (k + 1) := by rw [Cd (d := 0) hk, List.getElem_cons_drop, List.take_append_drop]
 rw [e2, Ti h, ← e2, Ch, Ba h1, Be h2]
theorem Ql {p neg : Bool} {D : List (List Cl)} {l : List Int} {g g' : List Cl} {k : Nat} (hk : k = l.length) (h : Ch p neg D (l.take k) g = (0, g')) : Ch p neg D l g = (0, g') := by
 rw [hk, List.take_length] at h
 exact h
def H7 {α β : Type} (g : α → Int × β) : List α → Int × List β
 | [] => (0, [])
 | a :: l => if (g a).1 ≠ 0 then ((g a).1, []) else if (H7 g l).1 ≠ 0 then ((H7 g l).1, []) else (0, (g a).2 :: (H7 g l).2)
theorem Qk {α β : Type} {g : α → Int × β} : ∀ {l : List α}, (∀ a, a ∈ l → (g a).1 = 0) → H7 g l = (0, l.map fun a => (g a).2)
 | [], _ => rfl
 | a :: l, h => by
  have h0 := h a List.mem_cons_self
  have ih := Qk (g := g) (l := l) fun b hb => h b (List.mem_cons_of_mem _ hb)
  rw [H7, if_neg (by simp [h0]), ih, if_neg D4]
  rfl
theorem A2v {α β : Type} {g : α → Int × β} {d : α} : ∀ {l : List α} {i : Nat}, i < l.length → (∀ j, j < i → (g (l.getD j d)).1 = 0) → (g (l.getD i d)).1 ≠ 0 → H7 g l = ((g (l.getD i d)).1, [])
 | [], i, h, _, _ => absurd h D4
 | a :: l, 0, h, _, h2 => by
  rw [List.getD_cons_zero] at h2 ⊢
  rw [H7, if_pos h2]
 | a :: l, i + 1, h, h1, h2 => by
  have h0 := h1 0 A3
  rw [List.getD_cons_zero] at h0
  rw [List.getD_cons_succ] at h2 ⊢
  have ih := A2v (g := g) (d := d) (l := l) (i := i) (by simpa using h) (fun j hj => by have := h1 (j + 1) A3; rwa [List.getD_cons_succ] at this) h2
  rw [H7, if_neg (by simp [h0]), ih, if_pos h2]
def U8 {α : Type} (x : Int × α) : Ak α := if x.1 = 0 then .ok x.2 else .bad x.1
def Tb (e : Ev) : Ak Ev := (U8 (H7 (fun t => Bc t 0 1) e.1)).bind fun l => .ok (.mk 1 0 ⟨#[]⟩ [] [] [] :: l, e.2)
def R1 (e : Ev) : Ak Ev := (U8 (H7 (fun f => A8 f 0 1) e.2)).bind fun D => (U8 (H7 (fun t => B9 t 0 1) e.1)).bind fun l => .ok (l, [⟨1, 0⟩] :: D)
def Im (e : Ev) (b : Int × Int) : Ak Ev := if b.1 = 1 then Tb e else if b.2 = 1 then R1 e else .ok e
def Bj : Tr Ev where
 own e k n nm r := if k = 1 then .ok (.inl (e.1.getD n.toNat t0)) else (elR (Fj (decide (k = 14)) e.2 r)).bind fun g => .ok (.inr (0, g))
 B0 e f := (elR (Fj true e.2 f)).bind fun g => .ok (if g.length = 0 then none else some g)
 Mm e b := Im e b
def I0 (e : Ev) : Bool := decide (e.1.length ≤ 200) && decide (e.2.length ≤ 24)
def Fh (e : Ev) : Bool := e.2.all fun f => Ab f
def D3d (f : List Cl) (d : Nat) : Bool := decide (L7 f / 2 ^ d = 0)
def idE (v d : Int) : Int × Ev := if v < 0 ∨ 200 < v ∨ d < 0 ∨ 24 < d then (2, [], []) else (0, (List.range v.toNat).map (fun (n : Nat) => (T.mk 1 (n : Int) ⟨#[]⟩ [] [] [])), (List.range d.toNat).map fun (i : Nat) => [⟨Dp (i : Int), 0⟩])
def A0a (f : List Cl) (e : Ev) : EL := if (Ab f && I0 e && D3d f e.2.length && Fh e) = true then Fj false e.2 f else (2, [])
def Av (t : T) (e : Ev) : Int × T :=
 if I0 e = false then (2, t0)
 else if Cg t e.1.length e.2.length ≠ 0 then (Cg t e.1.length e.2.length, t0)
 else if (Fh e && e.1.all fun x => decide (As x = 0)) = false then (2, t0)
 else match Cj Bj t e with
  | .bad x => (x, t0)
  | .ok u => if As u ≠ 0 then (As u, t0) else (0, u)
def C9f (e f : Ev) : Int × Ev :=
 if (H7 (fun g => A0a g f) e.2).1 ≠ 0 then ((H7 (fun g => A0a g f) e.2).1, [], [])
 else if (H7 (fun t => Av t f) e.1).1 ≠ 0 then ((H7 (fun t => Av t f) e.1).1, [], [])
 else (0, (H7 (fun t => Av t f) e.1).2, (H7 (fun g => A0a g f) e.2).2)
def C4 (p : Bool) (g : List Cl) : Prop := if p = true then A4 g = true else Ab g = true
def Vi (p : Bool) (P N : Wd) : Prop := p = true → T4 P N
theorem Ei {p : Bool} {g : List Cl} (h : C4 p g) : Ab g = true := by
 unfold C4 at h
 split at h
 ·exact (Cx h).1
 ·exact h
def evP (D : List (List Cl)) (P N : Wd) : Wd := fun j => sat (D.getD j []) P N
def evN (D : List (List Cl)) (P N : Wd) : Wd := fun j => ¬ sat (D.getD j []) (coW N) (coW P)
theorem A9a {p neg : Bool} {d : List Cl} (hd : Ab d = true) (h : (Um p neg d).1 = 0) : C4 p (Um p neg d).2 ∧ ∀ P N, Vi p P N → (sat (Um p neg d).2 P N ↔ if neg = true then ¬ sat d (coW N) (coW P) else sat d P N) := by
 unfold Um at h ⊢
 cases p with
 | false =>
  simp only [Bool.false_eq_true, if_false] at h ⊢
  cases neg with
  | false =>
   simp only [Bool.false_eq_true, if_false]
   exact ⟨by unfold C4; rw [if_neg I4]; exact hd, fun P N _ => trivial⟩
  | true =>
   simp only [if_true] at h ⊢
   unfold Jm at h ⊢
   rw [if_pos hd] at h ⊢
   exact ⟨by unfold C4; rw [if_neg I4]; exact Uo h, fun P N _ => A8h (fun c hc => List.all_eq_true.mp (Fc hd) c hc) h⟩
 | true =>
  simp only [if_true] at h ⊢
  cases neg with
  | false =>
   simp only [Bool.false_eq_true, if_false] at h ⊢
   exact ⟨by unfold C4; rw [if_pos rfl]; exact A2d h, fun P N hw => B4u (hw rfl) h⟩
  | true =>
   simp only [if_true] at h ⊢
   exact ⟨by unfold C4; rw [if_pos rfl]; exact A2c h, fun P N hw => A5g (hw rfl) h⟩
theorem A2m {p : Bool} {g k : List Cl} (hg : C4 p g) (hk : C4 p k) (h : (Gz p g k).1 = 0) : C4 p (Gz p g k).2 ∧ ∀ P N, Vi p P N → (sat (Gz p g k).2 P N ↔ sat g P N ∧ sat k P N) := by
 unfold Gz at h ⊢
 cases p with
 | false =>
  simp only [Bool.false_eq_true, if_false] at h ⊢
  unfold C4 at hg hk ⊢
  simp only [Bool.false_eq_true, if_false] at hg hk ⊢
  unfold Kz at h ⊢
  rw [if_neg (by simp [hg, hk])] at h ⊢
  unfold Hu at h ⊢
  exact ⟨Ix h, fun P N _ => (He h).trans Rg⟩
 | true =>
  simp only [if_true] at h ⊢
  unfold C4 at hg hk ⊢
  simp only [if_true] at hg hk ⊢
  have e := Kd hg hk
  refine ⟨by rw [e] at h ⊢; exact A6h h, fun P N hw => ?_⟩
  unfold E8 at h ⊢
  rw [if_neg (by simp [hg, hk]), Rl (La (Fc (Cx hg).1) (Fc (Cx hk).1))] at h ⊢
  exact (He h).trans ((A1g (hw rfl)).trans Rg)
theorem A3g {p : Bool} {g k : List Cl} (hg : C4 p g) (hk : C4 p k) (h : (Ly p g k).1 = 0) : C4 p (Ly p g k).2 ∧ ∀ P N, Vi p P N → (sat (Ly p g k).2 P N ↔ sat g P N ∨ sat k P N) := by
 unfold Ly at h ⊢
 cases p with
 | false =>
  simp only [Bool.false_eq_true, if_false] at h ⊢
  unfold C4 at hg hk ⊢
  simp only [Bool.false_eq_true, if_false] at hg hk ⊢
  unfold L2 at h ⊢
  rw [if_neg (by simp [hg, hk])] at h ⊢
  unfold Gk at h ⊢
  exact ⟨Ix h, fun P N _ => (He h).trans Ll⟩
 | true =>
  simp only [if_true] at h ⊢
  unfold C4 at hg hk ⊢
  simp only [if_true] at hg hk ⊢
  refine ⟨(B2m h).2, fun P N hw => ?_⟩
  rw [V1 hg hk] at h ⊢
  unfold Gk at h ⊢
  exact (He h).trans Ll
theorem Xi (p : Bool) : C4 p [Bm] := by cases p <;> (unfold C4; decide)
theorem Up (p : Bool) : C4 p [] := by cases p <;> (unfold C4; decide)
theorem Ut {p neg : Bool} {D : List (List Cl)} : ∀ {l : List Int} {g : List Cl}, (∀ i, i ∈ l → Ab (D.getD i.toNat []) = true) → C4 p g → (Ch p neg D l g).1 = 0 →
  C4 p (Ch p neg D l g).2 ∧ ∀ P N, Vi p P N → (sat (Ch p neg D l g).2 P N ↔ sat g P N ∧ ∀ i, i ∈ l → if neg = true then evN D P N i.toNat else evP D P N i.toNat)
 | [], g, hD, hg, h => ⟨hg, fun P N _ => ⟨fun h => ⟨h, fun i hi => by cases hi⟩, fun h => h.1⟩⟩
 | i :: l, g, hD, hg, h => by
  rw [Ch] at h ⊢
  obtain ⟨h1, h, e⟩ := Ex h
  rw [e]
  obtain ⟨a1, a2⟩ := A9a (hD i List.mem_cons_self) h1
  obtain ⟨h2, h, e⟩ := Ex h
  rw [e]
  obtain ⟨b1, b2⟩ := A2m hg a1 h2
  obtain ⟨c1, c2⟩ := Ut (neg := neg) (fun j hj => hD j (List.mem_cons_of_mem _ hj)) b1 h
  refine ⟨c1, fun P N hw => ?_⟩
  rw [c2 P N hw, b2 P N hw, a2 P N hw]
  constructor
  ·rintro ⟨⟨q1, q2⟩, q3⟩
   refine ⟨q1, fun j hj => ?_⟩
   rcases List.mem_cons.mp hj with rfl | hj
   ·exact q2
   ·exact q3 j hj
  ·rintro ⟨q1, q2⟩
   exact ⟨⟨q1, q2 i List.mem_cons_self⟩, fun j hj => q2 j (List.mem_cons_of_mem _ hj)⟩
theorem B8s {p : Bool} {D : List (List Cl)} {c : Cl} (hc : Ap c = true) (hD : ∀ j, (c.pos ||| c.neg).testBit j = true → Ab (D.getD j []) = true) (h : (Ik p D c).1 = 0) :
  C4 p (Ik p D c).2 ∧ ∀ P N, Vi p P N → (sat (Ik p D c).2 P N ↔ Jl c (evP D P N) (evN D P N)) := by
 obtain ⟨r1, r2⟩ := Lm hc
 have dp : ∀ i, i ∈ Aj c.pos → Ab (D.getD i.toNat []) = true := fun i hi => hD _ (by rw [Nat.testBit_or, (D9.mp hi).2.2]; rfl)
 have dn : ∀ i, i ∈ Aj c.neg → Ab (D.getD i.toNat []) = true := fun i hi => hD _ (by rw [Nat.testBit_or, (D9.mp hi).2.2, Bool.or_true])
 unfold Ik at h ⊢
 obtain ⟨h1, h, e⟩ := Ex h
 rw [e]
 obtain ⟨a1, a2⟩ := Ut dp (Xi p) h1
 obtain ⟨b1, b2⟩ := Ut dn a1 h
 refine ⟨b1, fun P N hw => ?_⟩
 rw [b2 P N hw, a2 P N hw]
 simp only [Bool.false_eq_true, if_false, if_true]
 constructor
 ·rintro ⟨⟨_, q1⟩, q2⟩
  refine ⟨fun j hj => ?_, fun j hj => ?_⟩
  ·have := q1 (j : Int) (D9.mpr ⟨by omega, by have := r1 j hj; omega, by simpa using hj⟩)
   simpa using this
  ·have := q2 (j : Int) (D9.mpr ⟨by omega, by have := r2 j hj; omega, by simpa using hj⟩)
   simpa using this
 ·rintro ⟨q1, q2⟩
  exact ⟨⟨A8g, fun i hi => q1 _ (D9.mp hi).2.2⟩, fun i hi => q2 _ (D9.mp hi).2.2⟩
theorem B4z {p : Bool} {D : List (List Cl)} {f : List Cl} (hf : f.all Ap = true) (hD : ∀ c, c ∈ f → ∀ j, (c.pos ||| c.neg).testBit j = true → Ab (D.getD j []) = true) (h : (Fj p D f).1 = 0) :
  C4 p (Fj p D f).2 ∧ ∀ P N, Vi p P N → (sat (Fj p D f).2 P N ↔ sat f (evP D P N) (evN D P N)) := by
 have key := Ob (g := E7 p D) (L := f) (I := fun pre h => C4 p h ∧ ∀ P N, Vi p P N → (sat h P N ↔ sat pre (evP D P N) (evN D P N))) (fun pre c g hc hI h0 => by
  unfold E7 at h0 ⊢
  obtain ⟨h1, h0, e⟩ := Ex h0
  rw [e]
  obtain ⟨a1, a2⟩ := B8s (List.all_eq_true.mp hf c hc) (hD c hc) h1
  obtain ⟨b1, b2⟩ := A3g hI.1 a1 h0
  refine ⟨b1, fun P N hw => ?_⟩
  rw [b2 P N hw, hI.2 P N hw, a2 P N hw, Ll, Pd]) f [] [] ⟨Up p, fun P N _ => ⟨fun h => absurd h A8i, fun h => absurd h A8i⟩⟩ (fun c hc => hc) h
 exact key
def Jk (v : Nat) : List T := (List.range v).map fun (n : Nat) => T.mk 1 (n : Int) ⟨#[]⟩ [] [] []
def Gl (d : Nat) : List (List Cl) := (List.range d).map fun (i : Nat) => [G3 (i : Int)]
theorem Zq {d j : Nat} (h : j < d) : (Gl d).getD j [] = [G3 (j : Int)] := by
 unfold Gl
 rw [Cd (d := []) (by simpa using h), List.getElem_map, List.getElem_range]
theorem S1 {i : Int} : Ab [G3 i] = true := A6r (Jx i)
def C0u (p : Bool) (x : EL) : Prop := x.1 = 0 ∧ x.2.length ≤ 1 ∧ C4 p x.2
theorem C5c {p neg : Bool} {i : Int} (hi : 0 ≤ i ∧ i < 24) : C0u p (Um p neg [G3 i]) := by
 have hd : Ab [G3 i] = true := S1
 have hn : B0z (Nb [G3 i]) := Yn hi
 have ho : ∀ {f : List Cl}, Ab f = true → f.length ≤ 1 → (Sm f).1 = 0 ∧ (Sm f).2.length ≤ 1 := fun {f} h1 h2 => by
  unfold Sm
  rw [if_pos h1]
  obtain ⟨c1, c2⟩ := A4l (Fc h1)
  have := Lh c1 A3
  exact ⟨this.1, this.2.1⟩
 have key : (Um p neg [G3 i]).1 = 0 ∧ (Um p neg [G3 i]).2.length ≤ 1 := by
  unfold Um
  cases p with
  | false =>
   cases neg with
   | false => exact ⟨rfl, Nat.le_refl 1⟩
   | true =>
    simp only [Bool.false_eq_true, if_false, if_true]
    unfold Jm
    rw [if_pos hd]
    exact ⟨hn.1, hn.2.1⟩
  | true =>
   cases neg with
   | false => exact ho hd (Nat.le_refl 1)
   | true =>
    simp only [if_true]
    unfold Ej Jm
    rw [if_pos hd, Ba hn.1]
    exact ho (Uo hn.1) hn.2.1
 exact ⟨key.1, key.2, (A9a hd key.1).1⟩
theorem C1b {p : Bool} {g k : List Cl} (hg : C4 p g) (hk : C4 p k) (l1 : g.length ≤ 1) (l2 : k.length ≤ 1) : C0u p (Gz p g k) := by
 have f1 := Fc (Ei hg)
 have f2 := Fc (Ei hk)
 have key : (Gz p g k).1 = 0 ∧ (Gz p g k).2.length ≤ 1 := by
  cases p with
  | false =>
   have := X1 f1 f2 l1 l2
   unfold Gz Kz
   simp only [Bool.false_eq_true, if_false]
   rw [if_neg (by simp [Ei hg, Ei hk])]
   exact ⟨this.1, this.2.1⟩
  | true =>
   have q1 : A4 g = true := hg
   have q2 : A4 k = true := hk
   unfold Gz E8
   simp only [if_true]
   rw [if_neg (by simp [q1, q2]), Rl (La f1 f2)]
   obtain ⟨c1, c2⟩ := A4l (La f1 f2)
   have hl : (Hb g k).length ≤ 1 := by
    unfold Hb
    match g, l1 with
    | [], _ => simp
    | [a], _ => simpa using l2
    | a :: b :: g, l1 => simp at l1
   have := Lh c1 A3
   exact ⟨this.1, this.2.1⟩
 exact ⟨key.1, key.2, (A2m hg hk key.1).1⟩
theorem Zh {p neg : Bool} {d : Nat} (hd : d ≤ 24) : ∀ {l : List Int} {g : List Cl}, (∀ i, i ∈ l → 0 ≤ i ∧ i < d) → C4 p g → g.length ≤ 1 → C0u p (Ch p neg (Gl d) l g)
 | [], g, hl, hg, h1 => ⟨rfl, h1, hg⟩
 | i :: l, g, hl, hg, h1 => by
  obtain ⟨a1, a2⟩ := hl i List.mem_cons_self
  rw [Ch, Zq (show i.toNat < d by omega), show ((i.toNat : Nat) : Int) = i by omega]
  obtain ⟨b1, b2, b3⟩ := C5c (p := p) (neg := neg) (i := i) ⟨a1, by omega⟩
  rw [Ba b1]
  obtain ⟨c1, c2, c3⟩ := C1b hg b3 h1 b2
  rw [Ba c1]
  exact Zh hd (fun j hj => hl j (List.mem_cons_of_mem _ hj)) c3 c2
theorem C2g {p : Bool} {d : Nat} {c : Cl} (hd : d ≤ 24) (hb : ∀ j, (c.pos ||| c.neg).testBit j = true → j < d) : C0u p (Ik p (Gl d) c) := by
 unfold Ik
 have hp : ∀ i, i ∈ Aj c.pos → 0 ≤ i ∧ i < d := fun i hi => by
  have h1 := D9.mp hi
  have h2 := hb i.toNat (by rw [Nat.testBit_or, h1.2.2]; rfl)
  omega
 have hn : ∀ i, i ∈ Aj c.neg → 0 ≤ i ∧ i < d := fun i hi => by
  have h1 := D9.mp hi
  have h2 := hb i.toNat (by rw [Nat.testBit_or, h1.2.2, Bool.or_true])
  omega
 obtain ⟨a1, a2, a3⟩ := Zh (p := p) (neg := false) hd hp (Xi p) (Nat.le_refl 1)
 rw [Ba a1]
 exact Zh hd hn a3 a2
theorem A9q {p : Bool} {d : Nat} {f : List Cl} (hd : d ≤ 24) (hl : f.length ≤ 64) (hb : ∀ c, c ∈ f → ∀ j, (c.pos ||| c.neg).testBit j = true → j < d) : ∀ (m : List Cl) (h : List Cl), (∀ c, c ∈ m → c ∈ f) → h.length + m.length ≤ 64 → C4 p h → (C5 (E7 p (Gl d)) h m).1 = 0
 | [], h, _, _, _ => rfl
 | c :: m, h, hm, hlen, hr => by
  obtain ⟨a1, a2, a3⟩ := C2g (p := p) hd (hb c (hm c List.mem_cons_self))
  have hj : (Ly p h (Ik p (Gl d) c).2).1 = 0 ∧ (Ly p h (Ik p (Gl d) c).2).2.length ≤ h.length + 1 := by
   have r1 := Fc (Ei hr)
   have r2 := Fc (Ei a3)
   have hlen2 : (h ++ (Ik p (Gl d) c).2).length ≤ h.length + 1 := by rw [List.length_append]; omega
   have h64 : (h ++ (Ik p (Gl d) c).2).length ≤ 64 := by
    rw [List.length_cons] at hlen
    omega
   have t := Su (B0h r1 r2) h64
   have e : Ly p h (Ik p (Gl d) c).2 = Ay (h ++ (Ik p (Gl d) c).2) := by
    cases p with
    | false =>
     unfold Ly L2 Gk
     simp only [Bool.false_eq_true, if_false]
     rw [if_neg (by simp [Ei hr, Ei a3])]
    | true =>
     have q1 : A4 h = true := hr
     have q2 : A4 (Ik true (Gl d) c).2 = true := a3
     unfold Ly
     simp only [if_true]
     rw [V1 q1 q2]; rfl
   rw [e]
   exact ⟨t, Nat.le_trans (Xu (B0h r1 r2) t).2 hlen2⟩
  have hs : E7 p (Gl d) h c = Ly p h (Ik p (Gl d) c).2 := by unfold E7; rw [Ba a1]
  rw [C5, hs, Ba hj.1]
  refine A9q hd hl hb m _ (fun e he => hm e (List.mem_cons_of_mem _ he)) ?_ (A3g hr a3 hj.1).1
  rw [List.length_cons] at hlen
  omega
theorem B7q {p : Bool} {d : Nat} {f : List Cl} (hd : d ≤ 24) (hf : C4 p f) (hb : ∀ c, c ∈ f → ∀ j, (c.pos ||| c.neg).testBit j = true → j < d) : Fj p (Gl d) f = (0, f) := by
 have hr := Ei hf
 have h0 : (Fj p (Gl d) f).1 = 0 := A9q hd (Fv hr) hb f [] (fun c hc => hc) (by have := Fv hr; simpa using this) (Up p)
 obtain ⟨g1, g2⟩ := B4z (p := p) (D := Gl d) (Fc hr) (fun c hc j hj => by rw [Zq (hb c hc j hj)]; exact S1) h0
 have hs : ∀ P N, sat f (evP (Gl d) P N) (evN (Gl d) P N) ↔ sat f P N := fun P N => by
  have hc : ∀ c, c ∈ f → (Jl c (evP (Gl d) P N) (evN (Gl d) P N) ↔ Jl c P N) := fun c hc => by
   have e1 : ∀ j, (c.pos ||| c.neg).testBit j = true → (evP (Gl d) P N j ↔ P j) ∧ (evN (Gl d) P N j ↔ N j) := fun j hj => by
    have hlt := hb c hc j hj
    unfold evP evN
    rw [Zq hlt, A8j ⟨by omega, by omega⟩, A8j ⟨by omega, by omega⟩, Int.toNat_natCast]
    exact ⟨Iff.rfl, by unfold coW; exact Classical.not_not⟩
   constructor
   ·intro h
    exact ⟨fun j hj => (e1 j (by rw [Nat.testBit_or, hj]; rfl)).1.mp (h.1 j hj), fun j hj => (e1 j (by rw [Nat.testBit_or, hj, Bool.or_true])).2.mp (h.2 j hj)⟩
   ·intro h
    exact ⟨fun j hj => (e1 j (by rw [Nat.testBit_or, hj]; rfl)).1.mpr (h.1 j hj), fun j hj => (e1 j (by rw [Nat.testBit_or, hj, Bool.or_true])).2.mpr (h.2 j hj)⟩
  constructor
  ·rintro ⟨c, h1, h2⟩; exact ⟨c, h1, (hc c h1).mp h2⟩
  ·rintro ⟨c, h1, h2⟩; exact ⟨c, h1, (hc c h1).mpr h2⟩
 refine Prod.ext h0 ?_
 cases p with
 | false => exact B8d g1 hf fun P N => (g2 P N (fun h => by cases h)).trans (hs P N)
 | true => exact B8l g1 hf fun P N hw => (g2 P N (fun _ => hw)).trans (hs P N)
theorem B0u {n : Int} (h : 0 ≤ n) : Ee (vE n) := by
 unfold vE
 simp only [Ee, L5, Qx]
 refine ⟨?_, rfl, fun _ => trivial, trivial, trivial⟩
 refine ⟨fun h => absurd rfl h, fun _ => rfl, fun _ => ⟨rfl, h⟩, fun h => by omega, fun h => by omega, fun h => by omega, fun _ => rfl⟩
theorem N1 {n : Int} (h : 0 ≤ n) : As (vE n) = 0 := by
 refine Sx.mpr ⟨?_, B0u h⟩
 rw [Li]
 have h1 : depth (vE n) = 1 := by rw [depth, A1k]; rfl
 have h2 : size (vE n) = 1 := by rw [J6]; show 1 + Fi [] + Jw [] = 1; simp [Fi, Jw]
 omega
theorem Wv {C : Type} {A : Tr C} {n m : Int} {c : C} (h : A.own c 1 n ⟨#[]⟩ [] = .ok (.inr (m, []))) : Cj A (vE n) c = .ok (vE m) := by
 rw [Ft]
 show ((A.own c 1 n ⟨#[]⟩ []).bind fun o => match o with
  | .inl u => .ok u
  | .inr p => (D6 A 1 0 [] c).bind fun ks' => (Cn A 1 [] c).bind fun ss' => .ok (.mk 1 p.1 ⟨#[]⟩ p.2 ks' ss')) = _
 rw [h]
 simp only [Ak.bind]
 rw [Eh]
 simp only
 rw [E4]
 rfl
theorem B3z {n : Int} (h : 0 ≤ n ∧ n < 1000000000) : Bc (vE n) 0 1 = (0, vE (n + 1)) := by
 rw [B9u (N1 h.1) A3]
 have e : Cj (Bu 1 0) (vE n) (0, 0) = .ok (vE (n + 1)) := Wv (by
  rw [Nf, Sj]
  show (if (1 : Int) = 1 ∧ (0 : Int) ≤ n ∧ 1000000000 - 1 < n then _ else _) = _
  rw [if_neg A3]
  unfold Hc
  rw [if_pos (by exact ⟨rfl, h.1⟩)])
 show Hd (Cj (Bu 1 0) (vE n) (0, 0)) = _
 rw [e]; rfl
theorem A7w {n : Int} (h : 0 ≤ n ∧ n < 1000000000) : B9 (vE n) 0 1 = (0, vE n) := by
 rw [C2d (N1 h.1) A3]
 have e : Cj (Bu 0 1) (vE n) (0, 0) = .ok (vE n) := Wv (by
  rw [Nf, Sj]
  show (if (1 : Int) = 1 ∧ (0 : Int) ≤ n ∧ 1000000000 - 0 < n then _ else _) = _
  rw [if_neg A3]
  unfold Hc
  rw [Int.add_zero, ite_self])
 show Hd (Cj (Bu 0 1) (vE n) (0, 0)) = _
 rw [e]; rfl
theorem B7s (v : Nat) : Jk (v + 1) = vE 0 :: (Jk v).map fun t => vE (t.n + 1) := by
 unfold Jk
 rw [List.range_succ_eq_map, List.map_cons, List.map_map, List.map_map]
 rfl
theorem B7x (d : Nat) : Gl (d + 1) = [G3 0] :: (List.range d).map fun (i : Nat) => [G3 ((i : Int) + 1)] := by
 unfold Gl
 rw [List.range_succ_eq_map, List.map_cons, List.map_map]
 congr 1
theorem Qt {v : Nat} {t : T} (h : t ∈ Jk v) : ∃ n : Nat, n < v ∧ t = vE (n : Int) := by
 obtain ⟨n, hn, rfl⟩ := List.mem_map.mp h
 exact ⟨n, List.mem_range.mp hn, rfl⟩
theorem A9r {d : Nat} {f : List Cl} (h : f ∈ Gl d) : ∃ i : Nat, i < d ∧ f = [G3 (i : Int)] := by
 obtain ⟨n, hn, rfl⟩ := List.mem_map.mp h
 exact ⟨n, List.mem_range.mp hn, rfl⟩
theorem Z2 {α : Type} {l : α} : U8 ((0, l) : Int × α) = .ok l := if_pos rfl
theorem C7y {v d : Nat} (hv : v ≤ 1000000000) : Tb (Jk v, Gl d) = .ok (Jk (v + 1), Gl d) := by
 unfold Tb
 have h := Qk (g := fun t => Bc t 0 1) (l := Jk v) fun t ht => by
  obtain ⟨n, hn, rfl⟩ := Qt ht
  rw [B3z A3]
 rw [h, Z2]
 show Ak.ok (_ :: _, Gl d) = _
 rw [B7s]
 congr 2
 congr 1
 refine List.map_congr_left fun t ht => ?_
 obtain ⟨n, hn, rfl⟩ := Qt ht
 rw [B3z A3]
 rfl
theorem C7z {v d : Nat} (hv : v ≤ 1000000000) (hd : d < 24) : R1 (Jk v, Gl d) = .ok (Jk v, Gl (d + 1)) := by
 unfold R1
 have h := Qk (g := fun f => A8 f 0 1) (l := Gl d) fun f hf => by
  obtain ⟨i, hi, rfl⟩ := A9r hf
  rw [A3a A3 A3 A3]
 have h2 := Qk (g := fun t => B9 t 0 1) (l := Jk v) fun t ht => by
  obtain ⟨n, hn, rfl⟩ := Qt ht
  rw [A7w A3]
 rw [h, h2, Z2, Z2]
 simp only [Ak.bind]
 have e1 : (Jk v).map (fun a => (B9 a 0 1).2) = Jk v := by
  conv => rhs; rw [← List.map_id (Jk v)]
  refine List.map_congr_left fun t ht => ?_
  obtain ⟨n, hn, rfl⟩ := Qt ht
  rw [A7w A3]; rfl
 have e2 : (Gl d).map (fun a => (A8 a 0 1).2) = (List.range d).map fun (i : Nat) => [G3 ((i : Int) + 1)] := by
  unfold Gl
  rw [List.map_map]
  refine List.map_congr_left fun i hi => ?_
  have := List.mem_range.mp hi
  show (A8 [G3 (i : Int)] 0 1).2 = _
  rw [A3a A3 A3 A3]
 rw [e1, e2, B7x]
 rfl
theorem B7r {v d : Nat} {b : Int × Int} (hb : (b.1 = 0 ∨ b.1 = 1) ∧ (b.2 = 0 ∨ b.2 = 1) ∧ ¬ (b.1 = 1 ∧ b.2 = 1)) (hv : v ≤ 1000000000) (hd : (d : Int) + b.2 ≤ 24) : Im (Jk v, Gl d) b = .ok (Jk (v + b.1.toNat), Gl (d + b.2.toNat)) := by
 obtain ⟨b1, b2⟩ := b
 simp only at hb hd
 unfold Im
 by_cases h1 : b1 = 1
 ·have h2 : b2 = 0 := by omega
  subst h1 h2
  rw [if_pos rfl, C7y hv]; rfl
 ·have h1 : b1 = 0 := by omega
  subst h1
  rw [if_neg (show ¬ ((0 : Int) = 1) by decide)]
  by_cases h2 : b2 = 1
  ·subst h2
   rw [if_pos rfl, C7z hv A3]; rfl
  ·have h2 : b2 = 0 := by omega
   subst h2
   rw [if_neg (show ¬ ((0 : Int) = 1) by decide)]; rfl
theorem Lc {f : List Cl} {d : Nat} (hd : d ≤ 24) (hf : f.all Ap = true) (h : within f d = true) : ∀ c, c ∈ f → ∀ j, (c.pos ||| c.neg).testBit j = true → j < d := fun c hc j hj => by
 refine Decidable.byContradiction fun hn => ?_
 have h24 : j < 24 := by
  obtain ⟨r1, r2⟩ := Lm (List.all_eq_true.mp hf c hc)
  rw [Nat.testBit_or, Bool.or_eq_true] at hj
  rcases hj with hj | hj
  ·exact r1 j hj
  ·exact r2 j hj
 have h1 := (within_iff (l := f) (d := d) A3).mp h j A3
 rw [B3a.mpr ⟨h24, c, hc, hj⟩] at h1
 cases h1
theorem Yb (k i : Int) : ((binds k i).1 = 0 ∨ (binds k i).1 = 1) ∧ ((binds k i).2 = 0 ∨ (binds k i).2 = 1) ∧ ¬ ((binds k i).1 = 1 ∧ (binds k i).2 = 1) := by
 unfold binds
 (repeat' split) <;> simp
mutual
theorem C8a : ∀ {t : T} {v d : Nat}, Ee t → D3 t = false → H0 t v d → v + size t ≤ 1000000000 → Cj Bj t (Jk v, Gl d) = .ok t
 | .mk k n nm r ks ss, v, d, hf, hn, hm, hv => by
  have hf0 := hf
  simp only [Ee] at hf
  obtain ⟨h1, h2, h3, h4, h5⟩ := hf
  simp only [H0] at hm
  obtain ⟨⟨m1, m2, m3⟩, m4, m5⟩ := hm
  have e1 : size (.mk k n nm r ks ss) = 1 + Fi ks + Jw ss := J6 _
  rw [Ft]
  simp only [T.kind, T.n, T.name, T.r, T.kids, T.sys]
  by_cases hk : k = 1
  ·subst hk
   obtain ⟨hx, hn0⟩ := V9 hf0 rfl
   have hx : T.mk 1 n nm r ks ss = vE n := hx
   have hlt := m2 rfl
   have hn0 : 0 ≤ n := hn0
   have hown : Bj.own (Jk v, Gl d) 1 n nm r = .ok (.inl ((Jk v).getD n.toNat t0)) := by
    simp only [Bj]
    rw [if_pos trivial]
   rw [hown]
   simp only [Ak.bind]
   have : (Jk v).getD n.toNat t0 = vE n := by
    unfold Jk
    rw [Cd (d := t0) (by simpa using (show n.toNat < v by omega)), List.getElem_map, List.getElem_range]
    show vE ((n.toNat : Nat) : Int) = _
    rw [show ((n.toNat : Nat) : Int) = n by omega]
   rw [this, hx]
  ·have hr : C4 (decide (k = 14)) r := by
    unfold C4
    by_cases h14 : k = 14
    ·rw [if_pos (by simp [h14])]; exact (Lz h1).1 h14
    ·rw [if_neg (by simp [h14])]; exact (Lz h1).2
   have hrow := B7q (d := d) A3 hr (Lc A3 (Fc (Ei hr)) m3)
   have hown : Bj.own (Jk v, Gl d) k n nm r = .ok (.inr (0, r)) := by
    show (if k = 1 then _ else _) = _
    rw [if_neg hk, hrow]; rfl
   have hnz : n = 0 := h1.1 hk
   have n1 : Fa ks = false := by
    cases h : Fa ks with
    | false => rfl
    | true => have := (Hj (t := .mk k n nm r ks ss)).mpr (.inl h); rw [hn] at this; cases this
   have n2 : Kb ss = false := by
    cases h : Kb ss with
    | false => rfl
    | true => have := (Hj (t := .mk k n nm r ks ss)).mpr (.inr h); rw [hn] at this; cases this
   rw [hown]
   simp only [Ak.bind]
   rw [D1x A3 h4 n1 m4 A3]
   simp only [Ak.bind]
   rw [D1y A3 h5 n2 m5 A3, hnz]
theorem D1x {k : Int} {v d : Nat} (hd : d ≤ 24) : ∀ {ts : List T} {i : Nat}, L5 ts → Fa ts = false → A2q k i ts v d → v + 1 + Fi ts ≤ 1000000000 → D6 Bj k i ts (Jk v, Gl d) = .ok ts
 | [], i, _, _, _, _ => Eh _ _ _
 | t :: ts, i, hf, hn, hm, hv => by
  simp only [L5] at hf
  simp only [A2q] at hm
  simp only [Fa, Bool.or_eq_false_iff] at hn
  have hs : Fi (t :: ts) = size t + Fi ts := rfl
  have hp := size_pos' t
  obtain ⟨b1, b2, b3⟩ := Yb k i
  have hdm : (d : Int) + (binds k i).2 ≤ 24 := by
   have := Hv.mp hm.1
   exact this.1.1
  rw [Ec, show Bj.Mm (Jk v, Gl d) (binds k i) = Im (Jk v, Gl d) (binds k i) from rfl, B7r ⟨b1, b2, b3⟩ A3 hdm]
  simp only [Ak.bind]
  rw [C8a hf.1 hn.1 (by
   have e1 : (((v + (binds k i).1.toNat : Nat)) : Int) = v + (binds k i).1 := by omega
   have e2 : (((d + (binds k i).2.toNat : Nat)) : Int) = d + (binds k i).2 := by omega
   rw [e1, e2]; exact hm.1) (by
   rw [hs] at hv
   omega)]
  simp only [Ak.bind]
  rw [D1x hd hf.2 hn.2 hm.2 A3]
theorem D1w {k : Int} {v d : Nat} (hd : d ≤ 24) : ∀ {ts : List T}, L5 ts → Fa ts = false → A2o k ts v d → v + Fi ts ≤ 1000000000 → Ck Bj k ts (Jk v, Gl d) = .ok ts
 | [], _, _, _, _ => F5 _ _
 | t :: ts, hf, hn, hm, hv => by
  simp only [L5] at hf
  simp only [A2o] at hm
  simp only [Fa, Bool.or_eq_false_iff] at hn
  have hs : Fi (t :: ts) = size t + Fi ts := rfl
  have hmo := Tg k
  have hdm : (d : Int) + more k ≤ 24 := (Hv.mp hm.1).1.1
  rw [Eb, show Bj.Mm (Jk v, Gl d) (0, more k) = Im (Jk v, Gl d) (0, more k) from rfl, B7r ⟨.inl rfl, by omega, fun h => by cases h.1⟩ A3 hdm]
  simp only [Ak.bind]
  rw [C8a hf.1 hn.1 (by
   have e2 : (((d + (more k).toNat : Nat)) : Int) = d + more k := by omega
   show H0 t ((v + 0 : Nat) : Int) _
   rw [e2]; exact hm.1) (by show v + 0 + size t ≤ _; omega)]
  simp only [Ak.bind]
  rw [D1w hd hf.2 hn.2 hm.2 A3]
theorem D1y {k : Int} {v d : Nat} (hd : d ≤ 24) : ∀ {bs : List Br}, Qx k bs → Kb bs = false → A2s k bs v d → v + Jw bs ≤ 1000000000 → Cn Bj k bs (Jk v, Gl d) = .ok bs
 | [], _, _, _, _ => E4 _ _
 | .mk f ks :: bs, hf, hn, hm, hv => by
  simp only [Qx] at hf
  simp only [A2s] at hm
  simp only [Kb, Bool.or_eq_false_iff] at hn
  have hs : Jw (.mk f ks :: bs) = Fi ks + Jw bs := rfl
  have hne : f ≠ [] := by
   have := hn.1.1
   intro h
   rw [h] at this
   cases this
  have hrow := B7q (p := true) (d := d) hd (show C4 true f from hf.2.1) (Lc hd (Fc (Cx hf.2.1).1) hm.1)
  have hface : Bj.B0 (Jk v, Gl d) f = .ok (some f) := by
   show (elR (Fj true (Gl d) f)).bind _ = _
   rw [hrow]
   show Ak.ok (if f.length = 0 then none else some f) = _
   rw [if_neg (fun h => hne (List.eq_nil_of_length_eq_zero h))]
  rw [Dt]
  simp only [Br.B0, Br.kids]
  rw [hface]
  simp only [Ak.bind]
  rw [D1w hd hf.2.2.1 hn.1.2 hm.2.1 A3]
  simp only [Ak.bind]
  rw [D1y hd hf.2.2.2 hn.2 hm.2.2 A3]
end
theorem B7v {v d : Int} (hv : 0 ≤ v ∧ v ≤ 200) (hd : 0 ≤ d ∧ d ≤ 24) : idE v d = (0, Jk v.toNat, Gl d.toNat) := by
 unfold idE
 rw [if_neg A3]
 rfl
theorem A1i {t : T} {v d : Int} (h : Cg t v d = 0) : 0 ≤ v ∧ 0 ≤ d ∧ d ≤ 24 := by
 unfold Cg at h
 split at h
 ·cases h
 ·rename_i h1
  simp only [Bool.or_eq_true, decide_eq_true_eq, not_or] at h1
  omega
theorem C8k {t : T} {v d : Int} (hr : Cg t v d = 0) (hn : D3 t = false) (hv : v ≤ 100) : idE v d = (0, Jk v.toNat, Gl d.toNat) ∧ Av t (Jk v.toNat, Gl d.toNat) = (0, t) := by
 obtain ⟨v0, d0, d1⟩ := A1i hr
 obtain ⟨hf, hk, hm, hfo⟩ := A5l ⟨v0, by omega⟩ hr
 have hz := Hz hfo
 refine ⟨B7v ⟨v0, by omega⟩ ⟨d0, d1⟩, ?_⟩
 have l1 : (Jk v.toNat).length = v.toNat := by unfold Jk; simp
 have l2 : (Gl d.toNat).length = d.toNat := by unfold Gl; simp
 have hfit : I0 (Jk v.toNat, Gl d.toNat) = true := by
  unfold I0
  simp only [l1, l2, Bool.and_eq_true, decide_eq_true_eq]
  omega
 have hso : (Fh (Jk v.toNat, Gl d.toNat) && (Jk v.toNat).all fun x => decide (As x = 0)) = true := by
  rw [Bool.and_eq_true]
  constructor
  ·unfold Fh
   exact List.all_eq_true.mpr fun f hf => by
    obtain ⟨i, hi, rfl⟩ := A9r hf
    exact S1
  ·exact List.all_eq_true.mpr fun x hx => by
    obtain ⟨n, hn, rfl⟩ := Qt hx
    exact decide_eq_true (N1 A3)
 have hr2 : Cg t ((Jk v.toNat).length : Int) ((Gl d.toNat).length : Int) = 0 := by
  rw [l1, l2, show ((v.toNat : Nat) : Int) = v by omega, show ((d.toNat : Nat) : Int) = d by omega]
  exact hr
 have ht := C8a (t := t) (v := v.toNat) (d := d.toNat) hf hn (by rw [show ((v.toNat : Nat) : Int) = v by omega, show ((d.toNat : Nat) : Int) = d by omega]; exact hm) A3
 unfold Av
 rw [if_neg (by rw [hfit]; decide), if_neg (by simp [hr2]), if_neg (by rw [hso]; decide), ht]
 simp only
 rw [if_neg (by simp [hfo])]
variable {S : Nat → Prop}
theorem O6 {α β : Type} {g : α → Int × β} : ∀ {l : List α}, (H7 g l).1 = 0 → (∀ a, a ∈ l → (g a).1 = 0) ∧ (H7 g l).2 = l.map fun a => (g a).2
 | [], _ => ⟨fun t ht => (by cases ht), rfl⟩
 | t :: ts, h => by
  rw [H7] at h ⊢
  by_cases h1 : (g t).1 ≠ 0
  ·rw [if_pos h1] at h; exact absurd h h1
  ·rw [if_neg h1] at h ⊢
   by_cases h2 : (H7 g ts).1 ≠ 0
   ·rw [if_pos h2] at h; exact absurd h h2
   ·rw [if_neg h2]
    obtain ⟨a1, a2⟩ := O6 (Decidable.not_not.mp h2)
    refine ⟨fun u hu => ?_, by rw [a2]; rfl⟩
    rcases List.mem_cons.mp hu with rfl | hu
    ·exact Decidable.not_not.mp h1
    ·exact a1 u hu
theorem V3 {t : T} {ns : List Int} {r : Ak T} (h : (Bg t ns r).1 = 0) : As t = 0 ∧ (r = .ok (Bg t ns r).2 ∨ r = .bad 0) := by
 unfold Bg at h ⊢
 split at h
 ·rename_i h1; exact absurd h h1
 ·rename_i h1
  split at h
  ·cases h
  ·rename_i h2
   rw [if_neg h1, if_neg h2]
   refine ⟨Decidable.not_not.mp h1, ?_⟩
   cases r with
   | ok u => exact .inl rfl
   | bad e => right; simp only at h; subst h; rfl
theorem B0s {x : T} (h : (Bc x 0 1).1 = 0) : Cj (Bu 1 0) x (0, 0) = .ok (Bc x 0 1).2 := by
 obtain ⟨h1, h2 | h2⟩ := V3 h
 ·exact h2
 ·have := Qn x h2; omega
theorem B3d {x : T} (h : (B9 x 0 1).1 = 0) : Cj (Bu 0 1) x (0, 0) = .ok (B9 x 0 1).2 := by
 obtain ⟨h1, h2 | h2⟩ := V3 h
 ·exact h2
 ·have := Qn x h2; omega
theorem Rj {α : Type} {x : Int × α} {a : α} (h : U8 x = .ok a) : x.1 = 0 ∧ x.2 = a := by
 unfold U8 at h
 split at h
 ·rename_i h1; injection h with h; exact ⟨h1, h⟩
 ·cases h
theorem N4 {α : Type} {x : Int × α} {e : Int} (h : U8 x = .bad e) : e ≠ 0 := by
 unfold U8 at h
 split at h
 ·cases h
 ·rename_i h1; injection h with h; exact h ▸ h1
theorem Vr {e : Ev} {b : Int × Int} {x : Int} (h : Im e b = .bad x) : x ≠ 0 := by
 unfold Im at h
 split at h
 ·unfold Tb at h
  rcases Bb h with h | ⟨_, _, h⟩
  ·exact N4 h
  ·cases h
 ·split at h
  ·unfold R1 at h
   rcases Bb h with h | ⟨_, _, h⟩
   ·exact N4 h
   ·rcases Bb h with h | ⟨_, _, h⟩
    ·exact N4 h
    ·cases h
  ·cases h
theorem Pn : ∀ (t : T) {e : Ev} {x : Int}, Cj Bj t e = .bad x → x ≠ 0 := T.ind fun t ih e x h => by
 rcases A1a h with h1 | ⟨b, _, h1⟩ | ⟨p, hp, h1 | ⟨c', _, h2⟩⟩
 ·simp only [Bj] at h1
  split at h1
  ·cases h1
  ·rcases Bb h1 with h1 | ⟨_, _, h1⟩
   ·exact (Sz.mp h1).2
   ·cases h1
 ·simp only [Bj] at h1
  rcases Bb h1 with h1 | ⟨_, _, h1⟩
  ·exact (Sz.mp h1).2
  ·cases h1
 ·exact Vr h1
 ·exact ih p hp h2
abbrev bnd (b : Int × Int) : Prop := (b.1 = 0 ∨ b.1 = 1) ∧ (b.2 = 0 ∨ b.2 = 1) ∧ ¬ (b.1 = 1 ∧ b.2 = 1)
theorem B8w (k : Int) : bnd (0, more k) := ⟨.inl rfl, by have := Tg k; show more k = 0 ∨ more k = 1; omega, fun h => by cases h.1⟩
section
variable {CA CB CC CD : Type} {A : Tr CA} {B : Tr CB} {C : Tr CC} {D : Tr CD} (nv mv : Bool) (R : CA → CB → CC → CD → Int → Int → Prop)
variable {nv mv R}
end
theorem B2r {α β : Type} (g : α → β) {l : List α} {i : Nat} (h : i < l.length) (d : α) (d' : β) : (l.map g).getD i d' = g (l.getD i d) := by
 rw [Cd (d := d') (by simpa using h), Cd (d := d) h, List.getElem_map]
theorem B0v {e e' : Ev} (h : Tb e = .ok e') : e' = (vE 0 :: e.1.map (fun t => (Bc t 0 1).2), e.2) ∧ ∀ t, t ∈ e.1 → Cj (Bu 1 0) t (0, 0) = .ok (Bc t 0 1).2 := by
 unfold Tb at h
 obtain ⟨l, h3, h4⟩ := Ak.Aa h
 injection h4 with h4
 obtain ⟨h5, h6⟩ := Rj h3
 obtain ⟨h7, h8⟩ := O6 h5
 rw [h8] at h6
 subst h6
 exact ⟨h4.symm, fun t ht => B0s (h7 t ht)⟩
theorem B3g {e e' : Ev} (h : R1 e = .ok e') : e' = (e.1.map (fun t => (B9 t 0 1).2), [⟨1, 0⟩] :: e.2.map (fun f => (A8 f 0 1).2)) ∧ (∀ t, t ∈ e.1 → Cj (Bu 0 1) t (0, 0) = .ok (B9 t 0 1).2) ∧ ∀ f, f ∈ e.2 → Bl 1 f 0 = .ok (A8 f 0 1).2 := by
 unfold R1 at h
 obtain ⟨D, h3, h4⟩ := Ak.Aa h
 obtain ⟨l, h5, h6⟩ := Ak.Aa h4
 injection h6 with h6
 obtain ⟨a1, a2⟩ := Rj h3
 obtain ⟨a3, a4⟩ := O6 a1
 rw [a4] at a2
 subst a2
 obtain ⟨b1, b2⟩ := Rj h5
 obtain ⟨b3, b4⟩ := O6 b1
 rw [b4] at b2
 subst b2
 refine ⟨h6.symm, fun t ht => B3d (b3 t ht), fun f hf => ?_⟩
 have h9 := a3 f hf
 rw [Yz (V4 h9).1 A3 A3, if_pos h9]
theorem C1v {t : T} {e : Ev} (hk : t.kind = 1) : Cj Bj t e = .ok (e.1.getD t.n.toNat t0) := by
 rw [Ft]
 have : Bj.own e t.kind t.n t.name t.r = .ok (.inl (e.1.getD t.n.toNat t0)) := by
  simp only [Bj]
  rw [if_pos hk]
 rw [this]
 rfl
theorem B1r (f : List Cl) : Pu (Jm f) := by
 unfold Jm
 split
 ·exact A8y f
 ·exact Cf
theorem Qf {p neg : Bool} {f : List Cl} (h : Af f) : Pu (Um p neg f) := by
 unfold Um
 split
 ·split
  ·exact A5y f
  ·exact B6e h
 ·split
  ·exact B1r f
  ·exact h
theorem A1y {p : Bool} {g k : List Cl} (hg : Af g) (hk : Af k) : Pu (Gz p g k) := by
 unfold Gz
 split
 ·by_cases h : (A4 g && A4 k) = false
  ·unfold E8; rw [if_pos h]; exact Cf
  ·have h2 : A4 g = true ∧ A4 k = true := by simpa using h
   rw [Kd h2.1 h2.2]
   exact B1s hg hk
 ·unfold Kz
  split
  ·exact Cf
  ·exact A1z hg hk
theorem B6f {p : Bool} {g k : List Cl} (hg : Af g) (hk : Af k) : Pu (Ly p g k) := by
 unfold Ly
 split
 ·unfold Hx
  split
  ·exact Cf
  ·exact A2a hg hk
 ·unfold L2
  split
  ·exact Cf
  ·exact A2a hg hk
theorem B7b (p : Bool) (g k : List Cl) : (Gz p g k).2.length ≤ 64 := by
 unfold Gz
 split
 ·unfold E8
  split
  ·show ([] : List Cl).length ≤ 64; simp
  ·exact Iw _
 ·unfold Kz
  split
  ·show ([] : List Cl).length ≤ 64; simp
  ·exact Iw _
theorem B7c (p : Bool) (g k : List Cl) : (Ly p g k).2.length ≤ 64 := by
 unfold Ly
 split
 ·unfold Hx
  split
  ·show ([] : List Cl).length ≤ 64; simp
  ·exact Iw _
 ·unfold L2
  split
  ·show ([] : List Cl).length ≤ 64; simp
  ·exact Iw _
theorem Xs {x : EL} {k : List Cl → EL} {n : Nat} (h : ∀ g, (k g).2.length ≤ n) : (H4 x k).2.length ≤ n := by
 by_cases h0 : x.1 = 0
 ·rw [Ba h0]; exact h _
 ·rw [Be h0]; exact Nat.zero_le _
theorem Iu {x : EL} {k : List Cl → EL} (h : Pu x) (hk : ∀ g, Af g → Pu (k g)) : Pu (H4 x k) := by
 by_cases h0 : x.1 = 0
 ·rw [Ba h0]; exact hk _ h
 ·rw [Be h0]; exact Cf
def Df (p neg : Bool) (f g : List Cl) : EL := H4 (Um p neg f) fun h => Gz p g h
theorem Gj {p neg : Bool} {f g : List Cl} (hf : Af f) (hg : Af g) : Pu (Df p neg f g) := Iu (Qf hf) fun _ h => A1y hg h
theorem Fy {l : List CP} {j : Nat} (h : j < l.length) : (l.map (·.1)).getD j [] = (l.getD j Cw).1 := B2r _ h Cw []
theorem Lu {p neg : Bool} {D : List (List Cl)} {f : List Cl} {l : List Int} {z hv : List Cl} {k j : Nat} (hk : k < l.length) (h : Ch p neg D (l.take k) z = (0, hv)) (hj : l.getD k 0 = (j : Int)) (hD : D.getD j [] = f) (h0 : (Df p neg f hv).1 = 0) : Ch p neg D (l.take (k + 1)) z = (0, (Df p neg f hv).2) := by
 unfold Df at h0 ⊢
 obtain ⟨h1, h2, e⟩ := Ex h0
 have e1 : D.getD (l.getD k 0).toNat [] = f := by rw [hj, Int.toNat_natCast]; exact hD
 rw [C1d hk h (by rw [e1]; exact h1) (by rw [e1]; exact h2), e1, e]
theorem Jz {p neg : Bool} {D : List (List Cl)} {f : List Cl} {l : List Int} {z hv : List Cl} {k j : Nat} (hk : k < l.length) (h : Ch p neg D (l.take k) z = (0, hv)) (hj : l.getD k 0 = (j : Int)) (hD : D.getD j [] = f) (h0 : (Df p neg f hv).1 ≠ 0) : Ch p neg D l z = ((Df p neg f hv).1, []) := by
 unfold Df at h0 ⊢
 have e1 : D.getD (l.getD k 0).toNat [] = f := by rw [hj, Int.toNat_natCast]; exact hD
 by_cases h1 : (Um p neg f).1 = 0
 ·rw [Ba h1] at h0 ⊢
  rw [B2f hk h (by rw [e1]; exact h1) (by rw [e1]; exact h0), e1]
 ·rw [Be h1] at h0 ⊢
  rw [B2g hk h (by rw [e1]; exact h1), e1]
theorem Ja {p neg : Bool} {D : List (List Cl)} (hD : ∀ j, Af (D.getD j [])) : ∀ {l : List Int} {g : List Cl}, Af g → Pu (Ch p neg D l g)
 | [], g, hg => hg
 | i :: l, g, hg => by
  rw [Ch]
  exact Iu (Qf (hD _)) fun h hh => Iu (A1y hg hh) fun g hg => Ja hD hg
theorem Ng {p neg : Bool} {D : List (List Cl)} : ∀ {l : List Int} {g : List Cl}, g.length ≤ 64 → (Ch p neg D l g).2.length ≤ 64
 | [], g, hg => hg
 | i :: l, g, hg => by
  rw [Ch]
  refine Xs fun h => ?_
  by_cases h0 : (Gz p g h).1 = 0
  ·rw [Ba h0]; exact Ng (B7b _ _ _)
  ·rw [Be h0]; exact Nat.zero_le _
theorem B6g {p : Bool} {D : List (List Cl)} {c : Cl} (hD : ∀ j, Af (D.getD j [])) : Pu (Ik p D c) := Iu (Ja hD Hf) fun _ hg => Ja hD hg
theorem Uk {p : Bool} {D : List (List Cl)} {c : Cl} {h : List Cl} (hD : ∀ j, Af (D.getD j [])) (hh : Af h) : Pu (E7 p D h c) := Iu (B6g hD) fun _ hg => B6f hh hg
theorem A3b (p : Bool) (D : List (List Cl)) (h : List Cl) (c : Cl) : (E7 p D h c).2.length ≤ 64 := Xs fun _ => B7c _ _ _
theorem B2t {g : List Cl → Cl → EL} {m : List Cl} (hg : ∀ h c, Af h → Pu (g h c)) : ∀ {h : List Cl}, Af h → Pu (C5 g h m) := by
 induction m with
 | nil => intro h hh; exact hh
 | cons c m ih =>
  intro h hh
  rw [C5]
  exact Iu (hg h c hh) fun _ h2 => ih h2
theorem A1w {p : Bool} {D : List (List Cl)} {f : List Cl} (hD : ∀ j, Af (D.getD j [])) : Pu (Fj p D f) := B2t (fun h c hh => Uk hD hh) Cf
theorem S3 {l : List CP} (h : ∀ j, j < l.length → Af (l.getD j Cw).1) (j : Nat) : Af ((l.map (·.1)).getD j []) := by
 by_cases hj : j < l.length
 ·rw [Fy hj]; exact h j hj
 ·rw [List.getD_eq_getElem?_getD, List.getElem?_eq_none (by simpa using hj)]
  exact Cf
theorem Spec.A9w {P : Program} {k : FuncId} {args : Array Value} {pre : List Fact} {Ms0 : List Aw} {r r' : EL} (he : r' = r) (h : Spec P k args pre Ms0 (fun x : SH => .tuple #[sl x r.2.length, .int .i64 r.1]) (fun x => [CL r.2 x]) (fun _ => [])) : Spec P k args pre Ms0 (fun x : SH => .tuple #[sl x r'.2.length, .int .i64 r'.1]) (fun x => [CL r'.2 x]) (fun _ => []) := by
 subst he
 exact h
def Cc {α β : Type} (g : α → Int × β) (z : List β) (l : List α) : Int × List β := if (H7 g l).1 ≠ 0 then ((H7 g l).1, []) else (0, z ++ (H7 g l).2)
theorem Rn {α β : Type} {g : α → Int × β} {z : List β} {l : List α} (h : ∀ a, a ∈ l → (g a).1 = 0) : Cc g z l = (0, z ++ l.map fun a => (g a).2) := by
 unfold Cc
 rw [Qk h, if_neg D4]
theorem Rm {α β : Type} {g : α → Int × β} {z : List β} {d : α} {l : List α} {i : Nat} (hi : i < l.length) (h : ∀ j, j < i → (g (l.getD j d)).1 = 0) (h2 : (g (l.getD i d)).1 ≠ 0) : Cc g z l = ((g (l.getD i d)).1, []) := by
 unfold Cc
 rw [A2v hi h h2, if_pos h2]
theorem A7o {α β : Type} {g : α → Int × β} {d : α} {l : List α} {i : Nat} (hi : i = l.length) (h : ∀ j, j < i → (g (l.getD j d)).1 = 0) : ∀ a, a ∈ l → (g a).1 = 0 := fun a ha => by
 obtain ⟨j, hj, rfl⟩ := List.mem_iff_getElem.mp ha
 rw [← Cd (d := d) hj]
 exact h j A3
theorem Tx {α β : Type} {f : α → β} {d : α} {l : List α} {k : Nat} (h : k < l.length) : (l.take (k + 1)).map f = (l.take k).map f ++ [f (l.getD k d)] := by rw [Ad (d := d) h, List.map_append]; rfl
def Kw (r : Ak Ev) (c : Int) (e : Ev) : Prop := (c = 0 → r = .ok e) ∧ (c ≠ 0 → r = .bad c)
theorem B4a (ts : List T) (D : List (List Cl)) : Kw (Tb (ts, D)) (Cc (fun t => Bc t 0 1) [vE 0] ts).1 ((Cc (fun t => Bc t 0 1) [vE 0] ts).2, D) := by
 unfold Cc Tb Kw U8
 by_cases h : (H7 (fun t => Bc t 0 1) ts).1 ≠ 0
 ·rw [if_pos h]
  refine ⟨fun h0 => absurd h0 h, fun _ => ?_⟩
  rw [if_neg h]; rfl
 ·rw [if_neg h]
  refine ⟨fun _ => ?_, fun h0 => absurd rfl h0⟩
  rw [if_pos (Decidable.not_not.mp h)]; rfl
theorem B3f {ts : List T} {D : List (List Cl)} (h : (Cc (fun f => A8 f 0 1) [[⟨1, 0⟩]] D).1 ≠ 0) : R1 (ts, D) = .bad (Cc (fun f => A8 f 0 1) [[⟨1, 0⟩]] D).1 := by
 unfold Cc at h ⊢
 unfold R1 U8
 by_cases h1 : (H7 (fun f => A8 f 0 1) D).1 ≠ 0
 ·rw [if_pos h1, if_neg h1]; rfl
 ·rw [if_neg h1] at h; exact absurd rfl h
theorem B3e {ts : List T} {D : List (List Cl)} (h : (Cc (fun f => A8 f 0 1) [[⟨1, 0⟩]] D).1 = 0) : Kw (R1 (ts, D)) (Cc (fun t => B9 t 0 1) [] ts).1 ((Cc (fun t => B9 t 0 1) [] ts).2, (Cc (fun f => A8 f 0 1) [[⟨1, 0⟩]] D).2) := by
 unfold Cc at h
 by_cases h1 : (H7 (fun f => A8 f 0 1) D).1 ≠ 0
 ·rw [if_pos h1] at h; exact absurd h h1
 ·unfold Cc Kw R1 U8
  rw [if_neg h1, if_pos (Decidable.not_not.mp h1)]
  by_cases h2 : (H7 (fun t => B9 t 0 1) ts).1 ≠ 0
  ·rw [if_pos h2]
   refine ⟨fun h0 => absurd h0 h2, fun _ => ?_⟩
   rw [if_neg h2]; rfl
  ·rw [if_neg h2]
   refine ⟨fun _ => ?_, fun h0 => absurd rfl h0⟩
   rw [if_pos (Decidable.not_not.mp h2)]; rfl
theorem C3r {ok : Nat → Prop} {w : World} {l : List CP} {a : SH} (h : (Jn l a).f ok w) (j : Nat) (hj : j < l.length) : Af (l.getD j Cw).1 := Bs (h.2 _ (Ae hj))
def Eg (t : T) (e : Ev) : Int × T := Hd (Cj Bj t e)
def F2 (t : T) (e : Ev) (b : Int × Int) : Int × T := Hd ((Im e b).bind fun e' => Cj Bj t e')
theorem B7k {t : T} {e : Ev} {b : Int × Int} {c : Int} (h : Im e b = .bad c) : F2 t e b = (c, t0) := by unfold F2; rw [h]; rfl
theorem C1k {t : T} {e e' : Ev} {b : Int × Int} (h : Im e b = .ok e') : F2 t e b = Eg t e' := by unfold F2; rw [h]; rfl
theorem Vq {e e' : Ev} {b : Int × Int} {n : Nat} (hn : 1 ≤ n) (h : ∀ x, x ∈ e.1 → size x ≤ n) (hk : Im e b = .ok e') : (∀ x, x ∈ e'.1 → size x ≤ n) ∧ (bnd b → (e'.1.length : Int) = e.1.length + b.1 ∧ (e'.2.length : Int) = e.2.length + b.2) := by
 unfold Im at hk
 split at hk
 ·rename_i h1
  obtain ⟨rfl, ht⟩ := B0v hk
  refine ⟨fun x hx => ?_, fun hb => ?_⟩
  ·rcases List.mem_cons.mp hx with rfl | hx
   ·have : size (vE 0) = 1 := by decide +kernel
    omega
   ·obtain ⟨y, hy, rfl⟩ := List.mem_map.mp hx
    rw [O8 (ht y hy)]; exact h y hy
  ·simp only [List.length_cons, List.length_map]; omega
 ·split at hk
  ·rename_i h1 h2
   obtain ⟨rfl, ht, _⟩ := B3g hk
   refine ⟨fun x hx => ?_, fun hb => ?_⟩
   ·obtain ⟨y, hy, rfl⟩ := List.mem_map.mp hx
    rw [O8 (ht y hy)]; exact h y hy
   ·simp only [List.length_cons, List.length_map]; omega
  ·injection hk with hk
   subst hk
   exact ⟨h, fun hb => by omega⟩
theorem St.A9h {B : Bv} {Γ : List Fact} {Ms : List Aw} {w : World} (c : Nat) (hs : St B Γ Ms w) : St B (Jn [] (Option.none, c) :: Γ) Ms w := hs.add ⟨⟨Nat.zero_le _, by simp, fun h => absurd h D4⟩, fun x hx => by cases hx⟩
def A3f (t : T) (e : Ev) (b : Int × Int) : Ak T := (Im e b).bind fun e' => Cj Bj t e'
theorem C1l {t : T} {e : Ev} {b : Int × Int} {x : Int} (h : A3f t e b = .bad x) : x ≠ 0 := by
 unfold A3f at h
 rcases Bb h with h | ⟨e', _, h⟩
 ·exact Vr h
 ·exact Pn _ h
theorem Pr {r : Ak T} (hn : ∀ e, r = .bad e → e ≠ 0) (h : (Hd r).1 = 0) : r = .ok (Hd r).2 := by
 cases r with
 | ok u => rfl
 | bad e => exact absurd h (hn e rfl)
theorem B8z {r : Ak T} (h : (Hd r).1 ≠ 0) : r = .bad (Hd r).1 := by
 cases r with
 | ok u => exact absurd rfl h
 | bad e => rfl
theorem Xx {t : T} {e : Ev} {b : Int × Int} (h : (F2 t e b).1 = 0) : A3f t e b = .ok (F2 t e b).2 := Pr (fun _ h => C1l h) h
theorem A9p {t : T} {e : Ev} {b : Int × Int} (h : (F2 t e b).1 ≠ 0) : A3f t e b = .bad (F2 t e b).1 := B8z h
theorem A6v {k : Int} {ts : List T} {i : Nat} {l : List T} {e : Ev} {u : T} (hi : i < ts.length) (hl : D6 Bj k 0 (ts.take i) e = .ok l) (h : A3f (ts.getD i t0) e (binds k i) = .ok u) : D6 Bj k 0 (ts.take (i + 1)) e = .ok (l ++ [u]) := by
 obtain ⟨e', h1, h2⟩ := Ak.Aa h
 exact Sb hi hl h1 h2
theorem A3x {t : T} {e : Ev} {x : Int} {p : Int × List Cl} {i : Nat} {l : List T} (ho : Bj.own e t.kind t.n t.name t.r = .ok (.inr p)) (hi : i < t.kids.length) (hl : D6 Bj t.kind 0 (t.kids.take i) e = .ok l) (h : A3f (t.kids.getD i t0) e (binds t.kind i) = .bad x) : Cj Bj t e = .bad x := by
 rcases Bb h with h | ⟨e', h1, h2⟩
 ·have h1 : D6 Bj t.kind 0 (t.kids.take (i + 1)) e = .bad x := by
   rw [Ad (d := t0) hi, Lg, hl]
   simp only [Ak.bind, List.length_take, Nat.zero_add, Nat.min_eq_left (Nat.le_of_lt hi)]
   rw [show Bj.Mm e (binds t.kind i) = .bad x from h]
  have h2 := Rb (m := t.kids.drop (i + 1)) h1
  rw [List.take_append_drop] at h2
  exact W5 ho h2
 ·exact Q4 ho hi hl h1 h2
theorem B8o {k : Int} {ts : List T} {i : Nat} {l : List T} {e : Ev} {u : T} (hi : i < ts.length) (hl : Ck Bj k (ts.take i) e = .ok l) (h : A3f (ts.getD i t0) e (0, more k) = .ok u) : Ck Bj k (ts.take (i + 1)) e = .ok (l ++ [u]) := by
 obtain ⟨e', h1, h2⟩ := Ak.Aa h
 exact Sc hi hl h1 h2
theorem B3b {k : Int} {ts : List T} {i : Nat} {l : List T} {e : Ev} {x : Int} (hi : i < ts.length) (hl : Ck Bj k (ts.take i) e = .ok l) (h : A3f (ts.getD i t0) e (0, more k) = .bad x) : Ck Bj k ts e = .bad x := by
 rcases Bb h with h | ⟨e', h1, h2⟩
 ·have h1 : Ck Bj k (ts.take (i + 1)) e = .bad x := by
   rw [Ad (d := t0) hi, Lf, hl]
   simp only [Ak.bind]
   rw [show Bj.Mm e (0, more k) = .bad x from h]
  have h2 := Ra (m := ts.drop (i + 1)) h1
  rwa [List.take_append_drop] at h2
 ·exact Q5 hi hl h1 h2
theorem Q6 {C : Type} {A : Tr C} {k : Int} {c : C} {ss : List Br} {s : Nat} {bs : List Br} {e : Int} (hs : s < ss.length) (hb : Cn A k (ss.take s) c = .ok bs) (hf : A.B0 c (ss.getD s Bi).B0 = .bad e ∨ ∃ f', A.B0 c (ss.getD s Bi).B0 = .ok (some f') ∧ Ck A k (ss.getD s Bi).kids c = .bad e) : Cn A k ss c = .bad e := by
 have h1 : Cn A k (ss.take (s + 1)) c = .bad e := by
  rw [Ad (d := Bi) hs, J3, hb]
  simp only [Ak.bind]
  rcases hf with hf | ⟨f', hf, h2⟩
  ·rw [hf]
  ·rw [hf]; simp only; rw [h2]
 have h2 := O1 (m := ss.drop (s + 1)) h1
 rwa [List.take_append_drop] at h2
def Mk (t : T) (e : Ev) (g : List Cl) (ks : List T) : Int × T := Hd ((Cn Bj t.kind t.sys e).bind fun bs => .ok (.mk t.kind 0 t.name g ks bs))
theorem A4b {t : T} {e : Ev} {g : List Cl} {ks : List T} {x : Int} (h : Cn Bj t.kind t.sys e = .bad x) : Mk t e g ks = (x, t0) := by unfold Mk; rw [h]; rfl
theorem C2j {t : T} {e : Ev} {g : List Cl} {ks : List T} {bs : List Br} (h : Cn Bj t.kind t.sys e = .ok bs) : Mk t e g ks = (0, .mk t.kind 0 t.name g ks bs) := by unfold Mk; rw [h]; rfl
theorem Zz {e : Ev} {f : List Cl} (h : (Fj true e.2 f).1 ≠ 0) : Bj.B0 e f = .bad (Fj true e.2 f).1 := by show (elR _).bind _ = _; rw [A9y h]; rfl
theorem Wl {e : Ev} {f : List Cl} (h : (Fj true e.2 f).1 = 0) (h2 : (Fj true e.2 f).2.length = 0) : Bj.B0 e f = .ok none := by show (elR _).bind _ = _; rw [A6x h]; show Ak.ok (if _ then _ else _) = _; rw [if_pos h2]
theorem Wk {e : Ev} {f : List Cl} (h : (Fj true e.2 f).1 = 0) (h2 : (Fj true e.2 f).2.length ≠ 0) : Bj.B0 e f = .ok (some (Fj true e.2 f).2) := by show (elR _).bind _ = _; rw [A6x h]; show Ak.ok (if _ then _ else _) = _; rw [if_neg h2]
theorem A3w {e : Ev} {k n : Int} {nm : ByteArray} {r : List Cl} (hk : k ≠ 1) (h : (Fj (decide (k = 14)) e.2 r).1 ≠ 0) : Bj.own e k n nm r = .bad (Fj (decide (k = 14)) e.2 r).1 := by
 show (if k = 1 then _ else _) = _
 rw [if_neg hk, A9y h]; rfl
theorem A6u {e : Ev} {k n : Int} {nm : ByteArray} {r : List Cl} (hk : k ≠ 1) (h : (Fj (decide (k = 14)) e.2 r).1 = 0) : Bj.own e k n nm r = .ok (.inr (0, (Fj (decide (k = 14)) e.2 r).2)) := by
 show (if k = 1 then _ else _) = _
 rw [if_neg hk, A6x h]; rfl
theorem C1w {t : T} {e : Ev} {g : List Cl} {ks : List T} (ho : Bj.own e t.kind t.n t.name t.r = .ok (.inr (0, g))) (hl : D6 Bj t.kind 0 t.kids e = .ok ks) : Eg t e = Mk t e g ks := by
 show Hd _ = Hd _
 rw [Ft, ho]; simp only [Ak.bind]; rw [hl]
theorem C0d {t : T} {v : Int} {d : Nat} (hf : Ee t) (hm : H0 t v d) : ∀ c, c ∈ t.r → ∀ j, (c.pos ||| c.neg).testBit j = true → j < d := by
 obtain ⟨⟨m1, m2, m3⟩, m4, m5⟩ := Hv.mp hm
 have h1 := (L4.mp hf).1
 by_cases hk : t.kind = 1
 ·rw [(V9 hf hk).1]
  intro c hc
  cases hc
 ·have hr : C4 (decide (t.kind = 14)) t.r := by
   unfold C4
   by_cases h14 : t.kind = 14
   ·rw [if_pos (by simp [h14])]; exact (Lz h1).1 h14
   ·rw [if_neg (by simp [h14])]; exact (Lz h1).2
  exact Lc A3 (Fc (Ei hr)) m3
theorem B8k {t : T} {v : Int} {d : Nat} {s : Nat} (hf : Ee t) (hm : H0 t v d) (hs : s < t.sys.length) : ∀ c, c ∈ (t.sys.getD s Bi).B0 → ∀ j, (c.pos ||| c.neg).testBit j = true → j < d := by
 obtain ⟨⟨m1, m2, m3⟩, m4, m5⟩ := Hv.mp hm
 have hb := Ae (d := Bi) hs
 exact Lc A3 (Fc (Cx (B2y hf hb)).1) (m4 _ hb)
def I3 (ts : List T) (D n : Nat) : Prop := ts.length + n ≤ 10000000 ∧ D + n ≤ 10000000 ∧ ∀ x, x ∈ ts → size x ≤ 1000000000
theorem I3.less {ts : List T} {D n m : Nat} (h : I3 ts D n) (hm : m ≤ n) : I3 ts D m := ⟨by have := h.1; omega, by have := h.2.1; omega, h.2.2⟩
theorem B7i {e e' : Ev} {b : Int × Int} {n : Nat} (hb : bnd b) (h : I3 e.1 e.2.length (n + 1)) (hk : Im e b = .ok e') : I3 e'.1 e'.2.length n := by
 obtain ⟨h1, h2⟩ := Vq (n := 1000000000) A3 h.2.2 hk
 obtain ⟨h3, h4⟩ := h2 hb
 have h5 := h.1
 have h6 := h.2.1
 have h7 := hb.1
 have h8 := hb.2.1
 exact ⟨by omega, by omega, h1⟩
theorem C1j {e e' : Ev} {b : Int × Int} {t : T} (hb : bnd b) (hm : H0 t (e.1.length + b.1) (e.2.length + b.2)) {n : Nat} (h : I3 e.1 e.2.length n) (hk : Im e b = .ok e') : H0 t e'.1.length e'.2.length := by
 obtain ⟨h1, h2⟩ := Vq (n := 1000000000) A3 h.2.2 hk
 obtain ⟨h3, h4⟩ := h2 hb
 rw [h3, h4]; exact hm
theorem B6v {t : T} {v d : Int} (hm : H0 t v d) {i : Nat} (hi : i < t.kids.length) : H0 (t.kids.getD i t0) (v + (binds t.kind i).1) (d + (binds t.kind i).2) := (Hv.mp hm).2.2 _ (List.mem_of_getElem? (It t i hi))
theorem B6u {t : T} {v d : Int} (hm : H0 t v d) {s k : Nat} (hs : s < t.sys.length) (hk : k < (t.sys.getD s Bi).kids.length) : H0 ((t.sys.getD s Bi).kids.getD k t0) (v + 0) (d + more t.kind) := (Hv.mp hm).2.2 _ (List.mem_of_getElem? (Iq t s k hs hk))
theorem A7h (k i : Int) : bnd ((binds k i).1, (binds k i).2) := Yb k i
theorem A1h {l : List CP} {ts : List T} {n : Nat} (h : I3 ts l.length n) : I3 (ts, l.map (·.1)).1 (ts, l.map (·.1)).2.length n := by
 show I3 ts (l.map (·.1)).length n
 rw [List.length_map]; exact h
theorem B6w {l : List CP} {ts : List T} {n : Nat} (h : I3 (ts, l.map (·.1)).1 (ts, l.map (·.1)).2.length n) : I3 ts l.length n := by
 have h : I3 ts (l.map (·.1)).length n := h
 rwa [List.length_map] at h
section
variable {P : Program} [Tab P] {f : FuncId} {fn : Func} {B : Bv} {n : Fz} {K : List Item} {σ : Nat → Value} {Γ : List Fact} {Ms : List Aw} {X : Type} {val : X → Value} {N : X → List Fact} {Ms1 : X → List Aw}
end
def kpT (e : Int) (t : T) : T := if e = 0 then t else t0
def kpS (e : Int) (s : SH) : SH := if e = 0 then s else (none, 0)
theorem C6m {e : Int} {t : T} (h : e = 0) : kpT e t = t := if_pos h
theorem C1i {e : Int} {t : T} (h : e ≠ 0) : kpT e t = t0 := if_neg h
theorem A6l {e : Int} {t : SH} (h : e = 0) : kpS e t = t := if_pos h
theorem Zn {e : Int} {t : SH} (h : e ≠ 0) : kpS e t = (none, 0) := if_neg h
theorem St.kp {B : Bv} {Γ : List Fact} {Ms : List Aw} {w : World} (e : Int) {t : T} {a b c : SH} (hs : St B Γ Ms w) (h : RT t a b c ∈ Γ) : St B (RT (kpT e t) (kpS e a) (kpS e b) (kpS e c) :: Γ) Ms w := by
 by_cases he : e = 0
 ·rw [C6m he, A6l he, A6l he, A6l he]
  exact hs.less (by
   intro F hF
   rcases List.mem_cons.mp hF with rfl | hF
   ·exact h
   ·exact hF)
 ·rw [C1i he, Zn he, Zn he, Zn he]
  exact hs.J0
section
variable {tn : Bool} {pn : Nat} {P : Program} [Tab P] {f : FuncId} {R : Ending → World → Prop} {B : Bv} {n : Fz} {K : List Item} {ops : Array Oper} {fin l : List Nat} {σ : Nat → Value} {Γ : List Fact} {Ms : List Aw} {i : Nat} {dst : Option Tmp} {ty : TypeId} {x y z : Operand}
end
section
variable {M : Nat}
theorem B7j {e e' : Ev} {b : Int × Int} (hM : 1 ≤ M) (h : ∀ x, x ∈ e.1 → size x ≤ M) (hk : Bj.Mm e b = .ok e') : ∀ x, x ∈ e'.1 → size x ≤ M := (Vq hM h hk).1
mutual
theorem Ve : ∀ {t u : T} {e : Ev}, 1 ≤ M → (∀ x, x ∈ e.1 → size x ≤ M) → Cj Bj t e = .ok u → size u ≤ size t * M
 | .mk k n nm r ks ss, u, e, hM, he, hu => by
  rw [Ft] at hu
  simp only [T.kind, T.n, T.name, T.r, T.kids, T.sys] at hu
  obtain ⟨o, h9, hu⟩ := Ak.Aa hu
  cases o with
  | inl v =>
   injection hu with hu
   subst hu
   simp only [Bj] at h9
   split at h9
   ·injection h9 with h9
    injection h9 with h9
    subst h9
    have h1 : size (e.1.getD n.toNat t0) ≤ M := by
     by_cases hl : n.toNat < e.1.length
     ·exact he _ (Ae hl)
     ·rw [List.getD_eq_getElem?_getD, List.getElem?_eq_none A3]
      show size t0 ≤ M
      rw [A8f]; exact hM
    exact Nat.le_trans h1 (Nat.le_mul_of_pos_left M (size_pos' _))
   ·obtain ⟨g, _, h9⟩ := Ak.Aa h9
    injection h9 with h9
    cases h9
  | inr p =>
   obtain ⟨ks', h10, hu⟩ := Ak.Aa hu
   obtain ⟨ss', h11, hu⟩ := Ak.Aa hu
   injection hu with hu
   subst hu
   rw [J6, J6 (.mk k n nm r ks ss)]
   simp only [T.kids, T.sys]
   have h1 := Y5 hM he h10
   have h2 := Ry hM he h11
   rw [Nat.add_mul, Nat.add_mul]
   omega
theorem Y5 {k : Int} : ∀ {ts us : List T} {i : Nat} {e : Ev}, 1 ≤ M → (∀ x, x ∈ e.1 → size x ≤ M) → D6 Bj k i ts e = .ok us → Fi us ≤ Fi ts * M
 | [], us, i, e, hM, he, hu => by rw [Eh] at hu; injection hu with hu; subst hu; exact Nat.zero_le _
 | t :: ts, us, i, e, hM, he, hu => by
  rw [Ec] at hu
  obtain ⟨c', h1, hu⟩ := Ak.Aa hu
  obtain ⟨t', h2, hu⟩ := Ak.Aa hu
  obtain ⟨ts', h3, hu⟩ := Ak.Aa hu
  injection hu with hu
  subst hu
  have h4 := Ve hM (B7j hM he h1) h2
  have h5 := Y5 hM he h3
  simp only [Fi]
  rw [Nat.add_mul]
  omega
theorem Y4 {k : Int} : ∀ {ts us : List T} {e : Ev}, 1 ≤ M → (∀ x, x ∈ e.1 → size x ≤ M) → Ck Bj k ts e = .ok us → Fi us ≤ Fi ts * M
 | [], us, e, hM, he, hu => by rw [F5] at hu; injection hu with hu; subst hu; exact Nat.zero_le _
 | t :: ts, us, e, hM, he, hu => by
  rw [Eb] at hu
  obtain ⟨c', h1, hu⟩ := Ak.Aa hu
  obtain ⟨t', h2, hu⟩ := Ak.Aa hu
  obtain ⟨ts', h3, hu⟩ := Ak.Aa hu
  injection hu with hu
  subst hu
  have h4 := Ve hM (B7j hM he h1) h2
  have h5 := Y4 hM he h3
  simp only [Fi]
  rw [Nat.add_mul]
  omega
theorem Ry {k : Int} : ∀ {bs us : List Br} {e : Ev}, 1 ≤ M → (∀ x, x ∈ e.1 → size x ≤ M) → Cn Bj k bs e = .ok us → Jw us ≤ Jw bs * M
 | [], us, e, hM, he, hu => by rw [E4] at hu; injection hu with hu; subst hu; exact Nat.zero_le _
 | .mk f ks :: bs, us, e, hM, he, hu => by
  rw [Dt] at hu
  simp only [Br.B0, Br.kids] at hu
  obtain ⟨o, h5, hu⟩ := Ak.Aa hu
  cases o with
  | none => have h6 := Ry hM he hu; simp only [Jw]; rw [Nat.add_mul]; omega
  | some g =>
   obtain ⟨ks', h7, hu⟩ := Ak.Aa hu
   obtain ⟨bs', h8, hu⟩ := Ak.Aa hu
   injection hu with hu
   subst hu
   have h1 := Y4 hM he h7
   have h2 := Ry hM he h8
   simp only [Jw, Br.kids]
   rw [Nat.add_mul]
   omega
end
end
theorem B3c {t : T} {e : Ev} {M : Nat} (hM : 1 ≤ M) (he : ∀ x, x ∈ e.1 → size x ≤ M) : size (Eg t e).2 ≤ size t * M := by
 unfold Eg
 cases h : Cj Bj t e with
 | ok u => exact Ve hM he h
 | bad x => show size t0 ≤ _; rw [A8f]; exact Nat.le_trans hM (Nat.le_mul_of_pos_left M (size_pos' t))
theorem C8o {α : Type} {p : α → Bool} {l : List α} {d : α} {i : Nat} (hi : i < l.length) (h : p (l.getD i d) = true) : l.any p = true := List.any_eq_true.mpr ⟨_, Ae hi, h⟩
theorem any_none {α : Type} {p : α → Bool} {l : List α} {d : α} (h : ∀ j, j < l.length → p (l.getD j d) = false) : l.any p = false := by
 rw [List.any_eq_false]
 intro x hx
 obtain ⟨j, hj, rfl⟩ := List.mem_iff_getElem.mp hx
 have := h j hj
 rw [Cd (d := d) hj] at this
 rw [this]; decide
theorem B7p {α : Type} {p : α → Bool} {l : List α} {d : α} {i : Nat} (hi : i < l.length) (h : p (l.getD i d) = true) : decide (0 ≤ (i : Int)) = l.any p := by rw [C8o hi h]; exact decide_eq_true A3
theorem A3j {α : Type} {p : α → Bool} {l : List α} {d : α} (h : ∀ j, j < l.length → p (l.getD j d) = false) : decide (0 ≤ (-1 : Int)) = l.any p := by rw [any_none h]; decide
theorem B4q (ts : List T) (l : List CP) : (!(l.any fun x => !Ab x.1)) = Fh (ts, l.map (·.1)) := by
 unfold Fh
 show _ = (l.map (·.1)).all fun f => Ab f
 rw [List.all_map, Bool.eq_iff_iff]
 simp [List.any_eq_false]
theorem A9v (ts : List T) (l : List CP) : (decide ((ts.length : Int) ≤ 200) && decide ((l.length : Int) ≤ 24)) = I0 (ts, l.map (·.1)) := by
 unfold I0
 show _ = (decide (ts.length ≤ 200) && decide ((l.map (·.1)).length ≤ 24))
 rw [List.length_map, Bool.eq_iff_iff]
 simp only [Bool.and_eq_true, decide_eq_true_eq]
 omega
theorem A3t {ts : List T} {l : List CP} (h : I0 (ts, l.map (·.1)) = true) : ts.length ≤ 200 ∧ l.length ≤ 24 := by
 rw [← A9v] at h
 simp only [Bool.and_eq_true, decide_eq_true_eq] at h
 omega
theorem A7n {t : T} {e : Ev} (h : I0 e = false) : Av t e = (2, t0) := by unfold Av; rw [if_pos h]
theorem A4g {t : T} {e : Ev} (h : I0 e = true) (h2 : Cg t e.1.length e.2.length ≠ 0) : Av t e = (Cg t e.1.length e.2.length, t0) := by unfold Av; rw [if_neg (by rw [h]; decide), if_pos h2]
theorem A4f {t : T} {e : Ev} (h : I0 e = true) (h2 : Cg t e.1.length e.2.length = 0) (h3 : (Fh e && e.1.all fun x => decide (As x = 0)) = false) : Av t e = (2, t0) := by unfold Av; rw [if_neg (by rw [h]; decide), if_neg (by rw [h2]; decide), if_pos h3]
theorem T6 {ts : List T} : (ts.all fun x => decide (As x = 0)) = !(ts.any fun t => decide (As t ≠ 0)) := by
 rw [Bool.eq_iff_iff]
 simp [List.any_eq_false]
theorem B3p {t : T} {e : Ev} (h : I0 e = true) (h2 : Cg t e.1.length e.2.length = 0) (h3 : (Fh e && e.1.all fun x => decide (As x = 0)) = true) (h4 : (Eg t e).1 ≠ 0) : Av t e = ((Eg t e).1, t0) := by
 unfold Av
 rw [if_neg (by rw [h]; decide), if_neg (by rw [h2]; decide), if_neg (by rw [h3]; decide)]
 unfold Eg at h4 ⊢
 cases hq : Cj Bj t e with
 | ok u => rw [hq] at h4; exact absurd rfl h4
 | bad x => rfl
theorem A4h {t : T} {e : Ev} (h : I0 e = true) (h2 : Cg t e.1.length e.2.length = 0) (h3 : (Fh e && e.1.all fun x => decide (As x = 0)) = true) (h4 : (Eg t e).1 = 0) (h5 : As (Eg t e).2 ≠ 0) : Av t e = (As (Eg t e).2, t0) := by
 have hz := Pr (r := Cj Bj t e) (fun x hx => Pn t hx) h4
 unfold Av
 rw [if_neg (by rw [h]; decide), if_neg (by rw [h2]; decide), if_neg (by rw [h3]; decide), hz]
 exact if_pos h5
theorem B9a {t : T} {e : Ev} (h : I0 e = true) (h2 : Cg t e.1.length e.2.length = 0) (h3 : (Fh e && e.1.all fun x => decide (As x = 0)) = true) (h4 : (Eg t e).1 = 0) (h5 : As (Eg t e).2 = 0) : Av t e = (0, (Eg t e).2) := by
 have hz := Pr (r := Cj Bj t e) (fun x hx => Pn t hx) h4
 unfold Av
 rw [if_neg (by rw [h]; decide), if_neg (by rw [h2]; decide), if_neg (by rw [h3]; decide), hz]
 exact if_neg (by rw [show (Hd (Cj Bj t e)).2 = (Eg t e).2 from rfl, h5]; decide)
theorem A7m {t : T} {ts : List T} {l : List CP} (h : I0 (ts, l.map (·.1)) = true) (h2 : Cg t ts.length l.length = 0) (h3 : ∀ x, x ∈ ts → As x = 0) (hz : size t ≤ 20000) : I3 ts l.length (size t) ∧ Ee t ∧ H0 t ts.length l.length := by
 have hl := A3t h
 obtain ⟨_, _, _, hf, hm⟩ := (Ri (t := t) (v := ts.length) (d := l.length) A3 A3).mp h2
 exact ⟨⟨by omega, by omega, fun x hx => by have := Hz (h3 x hx); omega⟩, hf, hm⟩
theorem A5k {t : T} {v d : Int} (hv : 0 ≤ v) (hb : v ≤ 1000000000000) (h : Cg t v d = 0) : size t ≤ 20000 := (Li.mp ((Ri hv hb).mp h).2.2.1).2
theorem C1p {v d : Int} (h : v < 0 ∨ 200 < v ∨ d < 0 ∨ 24 < d) : idE v d = (2, [], []) := by unfold idE; rw [if_pos h]
theorem B7t (n : Nat) : Jk (n + 1) = Jk n ++ [T.mk 1 (n : Int) ⟨#[]⟩ [] [] []] := by unfold Jk; rw [List.range_succ, List.map_append]; rfl
theorem B7y (n : Nat) : Gl (n + 1) = Gl n ++ [[G3 (n : Int)]] := by unfold Gl; rw [List.range_succ, List.map_append]; rfl
theorem C2e {n : Nat} (h : n < 24) : Po (n : Int) = (0, [G3 (n : Int)]) := by
 unfold Po
 rw [if_pos (by unfold Sv; simp; omega)]
 rfl
def sE : T := Ml 19 [] []
theorem C1u : Av (aE (vE 0) (vE 1)) ([uE, sE], []) = (0, aE uE sE) := by decide +kernel
theorem C1t : Av (lE (aE (vE 0) (vE 1))) ([vE 3], []) = (0, lE (aE (vE 0) (vE 4))) := by decide +kernel
theorem Qz : size (aE (vE 0) (vE 1)) ≤ 100 ∧ size (lE (aE (vE 0) (vE 1))) ≤ 100 ∧ (∀ t, t ∈ [uE, sE] → size t ≤ 100) ∧ ∀ t, t ∈ [vE 3] → size t ≤ 100 := by decide +kernel
theorem B7u {v : Nat} : ∀ t, t ∈ Jk v → size t ≤ 1 := fun t ht => by
 unfold Jk at ht
 obtain ⟨n, _, rfl⟩ := List.mem_map.mp ht
 show size (vE n) ≤ 1
 have : size (vE n) = 1 := by rw [J6]; rfl
 omega
end Go.Hy
namespace Go.Hy
open Go.RowKit Go.Shelf
theorem B1h {F : Fence} {n : Nat} {P : Program} {α : Type} {g : Operand} {ps : Array Tmp} {assign body : Code} {Q : Exit → Act → World → Prop} {a : Act} {w : World}
  (hro : F.round = none) (h1 : 1 ≤ n) {gf : Nat} {lb : Array Value} (hg : a.eval g = .func (.func gf) #[] lb) (hFg : F.fn gf) (eg : ∀ args w, (callFunc gf args).run P w = .ok (.enter gf args) w)
  {encs : α → Array Value} (hps : ∀ x, (encs x).size = ps.size) (I : List α → World → Prop) (Px : List α → α → Prop) (Kp : World → World → Prop)
  (hIp : ∀ (pre : List α) (A : World) (l : Nat) (o o0 : Obj), I pre A → A.heap[l]? = some o0 → o0.isCells = false → w.heap.size ≤ l → I pre (A.putObj l o)) (hIa : ∀ (pre : List α) (A : World) (o : Obj), I pre A → w.heap.size ≤ A.heap.size → I pre (A.alloc o)) (h0 : I [] w)
  (hKt : ∀ {A B C : World}, Kp A B → Kp B C → Kp A C) (hKp : ∀ (A : World) (l : Nat) (o o0 : Obj), A.heap[l]? = some o0 → o0.isCells = false → w.heap.size ≤ l → Kp A (A.putObj l o))
  (xs : List α)
  (hit : ∀ (l : Nat) (J : List α → World → Prop) (W1 : World), (∀ pre W, J pre W → I pre W) →
   (∀ pre A B, J pre A → I pre B → (∀ (k : Nat) (o : Obj), A.heap[k]? = some o → o.isCells = false → B.heap[k]? = some o) → J pre B) →
   (∀ pre x W, J pre W → Px pre x → YieldAt F (n - 1 - 1) P l (encs x) W fun e W' => e = .returned (.bool true) ∧ J (pre ++ [x]) W' ∧ Kp W W') → J [] W1 → (∀ (k : Nat), k < w.heap.size → W1.heap[k]? = w.heap[k]?) →
   CallsIn F (n - 1) P gf (#[.func (.yield l) #[] #[]] ++ lb) W1 fun e W' => (∃ v, e = .returned v) ∧ J xs W')
  (a₁ : α → Act)
  (hassign : ∀ (l : Nat) (x : α) (W : World) (K : Act → World → Prop), K (a₁ x) W →
   assign.wpIn (F.inRound l) (n - 1 - 1) P (Exit.then K (fun _ _ _ => False)) { tmps := (ps.zip (encs x)).foldl (fun t (p, v) => t.setIfInBounds p v) a.tmps, defers := [] } W)
  (hbody : ∀ (l : Nat) (pre : List α) (x : α) (W : World), I pre W → Px pre x →
   body.wpIn (F.inRound l) (n - 1 - 1) P (fun e _ W' => e = .normal ∧ KeepsOthers W W' ∧ Kp W W' ∧ I (pre ++ [x]) W') (a₁ x) W)
  (hdone : ∀ (D : Nat) (W : World), w.heap.size ≤ D → I xs W → W.heap[D]? = some (.deferred (some [])) → Q .normal { a with defers := { target := .collected D, args := #[] } :: a.defers } W) :
  (Code.rangeFunc g ps assign body).wpIn F n P Q a w := by
 refine wpIn_rangeFunc ?_
 intro fn hfn
 rw [hro]
 obtain ⟨rec, hrec⟩ : ∃ rec : LoopState → Option Code → Loop, rec = fun st pe => { state := st, pending := pe, fn, tmps := a.tmps, params := ps, assign, body, defers := w.heap.size } := ⟨_, rfl⟩
 obtain ⟨W1, hW1⟩ : ∃ W1, (w.alloc (.deferred (some []))).alloc (.loop (rec .ready none)) = W1 := ⟨_, rfl⟩
 have hL1 : W1.heap[w.heap.size + 1]? = some (.loop (rec .ready none)) := by
  rw [← hW1]; have := World.alloc_heap_new (w.alloc (.deferred (some []))) (.loop (rec .ready none)); rwa [World.size_alloc] at this
 have hK1 : W1.heap[w.heap.size]? = some (.deferred (some [])) := by
  rw [← hW1]; exact (Below.heap_alloc _ _ _ D4).trans (World.alloc_heap_new w _)
 have hI1 : I [] W1 := by rw [← hW1]; exact hIa _ _ _ (hIa _ _ _ h0 (Nat.le_refl _)) D4
 refine ⟨w.heap.size + 1, [{ target := .collected w.heap.size, args := #[] }], W1, { target := .fn (.func gf) lb, args := #[.func (.yield (w.heap.size + 1)) #[] #[]] }, W1, gf,
  #[.func (.yield (w.heap.size + 1)) #[] #[]] ++ lb, W1, ?_, ?_, ?_, ?_, fun _ => h1, ?_⟩
 ·rw [← hW1, hrec]; exact run_enterLoop_outer _ _ _ _ _
 ·simp only [resolve, hg]
  simp [go_sem]
 ·intro f' hf'; simp [Target.leads] at hf'; subst hf'; exact hFg
 ·simp [invoke, go_sem, eg]
 ·refine (hit (w.heap.size + 1) (fun pre W => I pre W ∧ W.heap[w.heap.size + 1]? = some (.loop (rec .ready none)) ∧ W.heap[w.heap.size]? = some (.deferred (some []))) W1
   (fun pre W h => h.1) (fun pre A B hA hB hk => ⟨hB, hk _ _ hA.2.1 rfl, hk _ _ hA.2.2 rfl⟩) ?_ ⟨hI1, hL1, hK1⟩ (fun k hk => by rw [← hW1]; exact (Below.heap_alloc _ _ _ (by simp; omega)).trans (Below.heap_alloc _ _ _ hk))).mono ?_
  ·rintro pre x W ⟨hi, hl, hk⟩ hpx
   have hlt : w.heap.size + 1 < W.heap.size := (Array.getElem?_eq_some_iff.1 hl).1
   have hy := run_yield (P := P) (args := encs x) hl (by rw [hrec]; exact hps x)
   rw [hrec] at hy
   refine ⟨fn, _, assign, body, hy, roundIn_of_wpIn hfn (hassign _ x W _ ⟨_, run_beginRound hl (by rw [hrec]), ?_⟩)⟩
   have hl2 : (W.putObj (w.heap.size + 1) (.loop { rec .ready none with state := .busy })).heap[w.heap.size + 1]? = some (.loop { rec .ready none with state := .busy }) := World.putObj_heap_same hlt
   have hk2 : (W.putObj (w.heap.size + 1) (.loop { rec .ready none with state := .busy })).heap[w.heap.size]? = some (.deferred (some [])) := (World.putObj_heap_other A3).trans hk
   refine wpIn_mono (hbody _ pre x _ (hIp _ _ _ _ _ hi hl rfl A3) hpx) ?_
   rintro e a3 W3 ⟨rfl, hk3, hkp3, hi3⟩
   have hl3 := hk3.same _ _ hl2 rfl
   have hend := run_endRound (P := P) none hl3
   rw [hrec] at hl3 hend
   refine ⟨_, _, hend, rfl, ⟨hIp _ _ _ _ _ hi3 hl3 rfl A3, ?_, ?_⟩, hKt (hKt (hKp _ _ _ _ hl rfl A3) hkp3) (hKp _ _ _ _ hl3 rfl A3)⟩
   ·rw [hrec]; exact World.putObj_heap_same (Array.getElem?_eq_some_iff.1 hl3).1
   ·exact (World.putObj_heap_other A3).trans (hk3.same _ _ hk2 rfl)
  ·rintro e W2 ⟨⟨v, rfl⟩, hi, hl, hk⟩
   exact ⟨none, _, by have := run_endLoop (P := P) hl (by rw [hrec]; simp); rw [hrec] at this; exact this, hdone _ _ (Nat.le_refl _) (hIp _ _ _ _ _ hi hl rfl A3) ((World.putObj_heap_other A3).trans hk)⟩
end Go.Hy
namespace Go.Hy
open Go.Proofs Go.Proofs.Tryz
set_option maxRecDepth 100000
theorem B4y (l : List Cl) (a_l : SH) (m : List Cl) (a_m : SH)  : Spec prog 31 #[sl a_l (l.length), sl a_m (m.length)] [CL l a_l, CL m a_m] [] (fun _ : Unit => .bool ((decide (l = m)))) (fun _ => []) (fun _ => []) := by
 refine D8 ntmps31 fun B hB => ?_
 refine A6 (l := l) (a := a_l) (fun hl1 hA1 hU1 => ?_); refine A6 (l := m) (a := a_m) (fun hl2 hA2 hU2 => ?_); refine C9 ?_; refine Gt ?_; refine H6 ?_; refine E1 ?_; refine H6 ?_; refine A4q ?_; refine D2 (decide ((l.length : Int) ≠ (m.length : Int))) (fun h10 c10 => ?_) (fun h10 c10 => ?_)
 ·have hne : ¬ l = m := fun e => by subst e; simp at h10
  refine C9 ?_; refine Ao f_ rfl A7 () (by rw [decide_eq_false hne]) (fun w hs => hs.none)
 ·have hlen : l.length = m.length := by simp at h10; omega
  refine K4 ?_; refine C9 ?_; refine W0 ?_; refine B3 (X := Nat) (fun s_ => s_ ≤ l.length ∧ ∀ j, j < s_ → l.getD j Bm = m.getD j Bm) (fun s_ => [(0, sl a_l (l.length)), (1, sl a_m (m.length)), (5, iv ((s_ : Int)))]) (fun s_ G_ => G_) (fun s_ => []) (fun s_ => l.length - s_) (0) (⟨by omega, fun j hj => by omega⟩) (by exact Dk) ?_ ?_
  ·exact fun w hs => hs
  ·intro i base0 ⟨hi, hok⟩ next0; refine Gt ?_; refine E1 ?_; refine H6 ?_; refine Ta ?_; refine Jj ?_; refine D2 (decide ((i : Int) < (l.length : Int))) (fun h14 c14 => ?_) (fun h14 c14 => ?_)
   ·refine H9 ?_; refine Ca (pn := 1000000) (tn := false) (A := [0, 0, 3, 7, 0, 0, 48, 112, 255]) (l := [0, 1, 2, 3, 4, 5, 6, 7, 8]) (fin := []) Tab.mixed ⟨_, func31⟩ (by rfl) ?_; refine Jp ?_; obtain ⟨bk3, o3, hav3⟩ := hA1 A3; refine n0 rfl (Jr ?_ (j := i)); refine n0 rfl (A7z ?_); refine Jp ?_; obtain ⟨bk4, o4, hav4⟩ := hA2 A3; refine n0 rfl (Jr ?_ (j := i)); refine n0 rfl (A7z ?_); refine n0 rfl (C2s ?_ (c := (l.getD i Bm)) (c' := (m.getD i Bm))); refine T7 ?_; refine D2 (!decide ((l.getD i Bm) = (m.getD i Bm))) (fun h25 c25 => ?_) (fun h25 c25 => ?_)
    ·refine C9 ?_; refine Ao f_ rfl A7 () (by rw [decide_eq_false (fun e => by subst e; simp at h25)]) (fun w hs => hs.none)
    ·refine Gu ?_; refine P8 ?_; refine Dj ?_; refine Mv ?_; have hb : l.getD i Bm = m.getD i Bm := by simpa using h25
     refine A2 (fun w hs => ?_) (next0 (i + 1) _ (⟨by omega, B4o hok hb⟩) A3 Dk); exact (hs.l9)
   ·refine Km ?_; refine Ao f_ rfl A7 () (by rw [decide_eq_true (Lv hlen (fun j hj => hok j A3))]) (fun w hs => hs.none)
end Go.Hy
