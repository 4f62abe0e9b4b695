/- Contracts of this program's functions and the laws that they need: a separation logic over the machine's rules, one theorem each (partly printed by a program of this repository). -/
import Derived.Test.YtpfjlbopkhdebaaGreatDoorProg
import Derived.KernelRfl
import Derived.Shelf.SlSortCmp.WholeK
import Derived.Shelf.SlGeneric
import Derived.Ground.SlsfProg
import Derived.Test.YtpfjlbopkhdebaaGreatDoorP1
import Derived.Test.YtpfjlbopkhdebaaGreatDoorP2
import Derived.Test.YtpfjlbopkhdebaaGreatDoorP3
set_option linter.unusedVariables false
set_option linter.unusedSimpArgs false
set_option linter.unusedSectionVars false
namespace Go.Hy
def F0r (T : TypeId) (e : Int) : List PanicEntry := [{ v := .iface T (.int .i64 e), recovered := false }]
def E0z (P : Program) (T : TypeId) (k : FuncId) (args : Array Value) (pre : List Fact) {α : Type} (r : A2m α) {X : α → Type} (val : ∀ a : α, X a → Value) (N : ∀ a : α, X a → List Fact) (Ms1 : ∀ a : α, X a → List Res) : Prop :=
 (∀ a, r = .ok a → Spec P k args pre [] (val a) (N a) (Ms1 a)) ∧ (∀ e, r = .bad e → E7j P k args pre (F0r T e))
section
variable {P : Program} {f : FuncId} {B : A6z} {n : Fz} {K : List Item} {σ : Nat → Value} {Γ : List Fact} {Ms : List Res} {todo : List Item} {T : TypeId} {α : Type} {X : α → Type} {r : A2m α} {val : ∀ a : α, X a → Value} {N : ∀ a : α, X a → List Fact} {Ms1 : ∀ a : α, X a → List Res}
theorem F6i {K : List Item} {it : Item} {R : Ending → World → Prop} {Ms' : List Res} (p : Prop) (live : List (Nat × Value)) (h1 : (p → ∀ σ', B7z σ' live → GoT P f R B n K σ' Γ Ms') → GoT P f R B n (it :: K) σ Γ Ms) (h2 : p → ∀ base, GoT P f R B n K (stL base live) Γ Ms') : GoT P f R B n (it :: K) σ Γ Ms :=
 h1 (fun hp σ' hl => go_slots live hl (h2 hp))
end
def B6u (L : List Fact) : Fact := ⟨fun ok w => ∀ F, F ∈ L → F.f ok w, fun ok ok' w hs h F hF => F.mono ok ok' w hs (h F hF), fun ok w w' h hs F hF => F.loc ok w w' (h F hF) hs⟩
section
variable {B : A6z} {Γ : List Fact} {Ms : List Res} {w : World} {L : List Fact}
theorem St.F1a (hs : St B Γ Ms w) (h : ∀ F, F ∈ L → F ∈ Γ) : St B (B6u L :: Γ) Ms w := hs.add (fun F hF => hs.facts F (h F hF))
theorem St.F1q (hs : St B [B6u L] Ms w) : St B L Ms w := ⟨hs.chg, fun F hF => hs.facts _ List.mem_cons_self F hF, hs.res, hs.lt, hs.disj⟩
theorem Spec.F1a {P : Program} {k : FuncId} {args : Array Value} {Ms0 : List Res} {X : Type} {val : X → Value} {N : X → List Fact} {Ms1 : X → List Res} (h : Spec P k args L Ms0 val N Ms1) : Spec P k args [B6u L] Ms0 val N Ms1 := fun ok w hok hs => h ok w hok hs.F1q
theorem E7j.F1a {P : Program} {k : FuncId} {args : Array Value} {chain : List PanicEntry} (h : E7j P k args L chain) : E7j P k args [B6u L] chain := fun ok w hok hs => h ok w hok hs.F1q
theorem E0z.F1a {P : Program} {T : TypeId} {k : FuncId} {args : Array Value} {α : Type} {r : A2m α} {X : α → Type} {val : ∀ a : α, X a → Value} {N : ∀ a : α, X a → List Fact} {Ms1 : ∀ a : α, X a → List Res} (h : E0z P T k args L r val N Ms1) : E0z P T k args [B6u L] r val N Ms1 := ⟨fun a ha => (h.1 a ha).F1a, fun e he => (h.2 e he).F1a⟩
end
section
variable {P : Program} [Tab P] {f : FuncId} {R : Ending → World → Prop} {B : A6z} {n : Fz} {K : List Item} {ops : Array Oper} {i : Nat} {l : List Nat} {σ : Nat → Value} {Γ : List Fact} {Ms : List Res}
variable {dst : Option Tmp} {ty : TypeId} {v : Value} {x y : Operand}
end
section
variable {P : Program} {f : FuncId} {fn : Func} {R : Ending → World → Prop} {B : A6z} {n : Fz} {K : List Item} {σ : Nat → Value} {Γ : List Fact} {Ms : List Res}
end
section
variable {P : Program} {f : FuncId} {fn : Func} {B : A6z} {Γ : List Fact} {Ms : List Res}
end
section
variable {P : Program} [Tab P] {f : FuncId} {R : Ending → World → Prop} {B : A6z} {n : Fz} {K : List Item} {ops : Array Oper} {i : Nat} {l : List Nat} {σ : Nat → Value} {Γ : List Fact} {Ms : List Res}
variable {dst : Option Tmp} {ty : TypeId} {v : Value} {x y : Operand}
end
section
variable {P : Program} [Tab P] {f : FuncId} {fn : Func} {B : A6z} {n : Fz} {K : List Item} {σ : Nat → Value} {Γ : List Fact} {Ms : List Res} {X : Type} {val : X → Value} {N : X → List Fact} {Ms1 : X → List Res}
end
section
variable {P : Program} [Tab P] {f : FuncId} {fn : Func} {B : A6z} {n : Fz} {K : List Item} {σ : Nat → Value} {Γ : List Fact} {Ms : List Res} {X : Type} {val : X → Value} {N : X → List Fact} {Ms1 : X → List Res}
end
section
variable {P : Program} [Tab P] {f : FuncId} {R : Ending → World → Prop} {B : A6z} {n : Fz} {K : List Item} {ops : Array Oper} {i : Nat} {l : List Nat} {σ : Nat → Value} {Γ : List Fact} {Ms : List Res}
variable {dst : Option Tmp} {ty : TypeId} {v : Value} {x y : Operand}
theorem E3s {s d : TypeId} {a : Nat} (hs : Tab.und P s = some (.int .u32)) (hd : Tab.und P d = some (.int .u64)) (hx : ev σ x = .int .u32 (a : Int)) (ha : a < 4294967296) : A3f P σ (.convert s d x) ty (.int .u64 (a : Int)) := by
 have e : IntKind.u64.wrap (a : Int) = (a : Int) := by
  have : IntKind.u64.wrap (a : Int) = (a : Int) % 18446744073709551616 := by simp [IntKind.wrap, IntKind.bits, IntKind.signed]
  rw [this]; omega
 have := A9g (P := P) (ty := ty) hs hd hx
 rwa [e] at this
theorem E9g {s d : TypeId} {a : Nat} (k_ : RgT P f R B n K ops l (A1u σ dst (.int .u64 (a : Int))) Γ Ms) (hx : ev σ x = .int .u32 (a : Int) := by exact wn_) (ha : a < 4294967296 := by first | assumption | omega) (hs : Tab.und P s = some (.int .u32) := by rfl) (hd' : Tab.und P d = some (.int .u64) := by rfl) (hd : A0t n dst = true := by rfl) : OpT P f R B n K ops l (opr dst (.convert s d x) ty) σ Γ Ms := A1l (E3s hs hd' hx ha) hd k_
end
end Go.Hy
namespace Go.Hy
def A4q (c d : Cl) : Cl := ⟨c.pos ||| d.pos, c.neg ||| d.neg⟩
theorem E0w (c d : Cl) : decide (A4q c d = c) = below c d := by
 obtain ⟨p, n⟩ := c
 obtain ⟨p', n'⟩ := d
 simp [A4q, below]
def A5v (l : List Cl) (i : Nat) : Nat := (l.take i).foldl (fun a c => a ||| (c.pos ||| c.neg)) 0
theorem C2i {l : List Cl} {i : Nat} (h : i < l.length) : A5v l (i + 1) = A5v l i ||| ((l.getD i cl0).pos ||| (l.getD i cl0).neg) := by
 unfold A5v; rw [A0f (d := cl0) h, List.foldl_append]; rfl
theorem D0s {l : List Cl} (h : ∀ c, c ∈ l → u32 c) : ∀ i, A5v l i < 4294967296 := by
 intro i
 have : ∀ (m : List Cl) (a : Nat), (∀ c, c ∈ m → u32 c) → a < 4294967296 → m.foldl (fun a c => a ||| (c.pos ||| c.neg)) a < 4294967296 := by
  intro m
  induction m with
  | nil => intro a _ h; exact h
  | cons c m ih =>
   intro a hm ha
   have hc := hm c List.mem_cons_self
   exact ih _ (fun d hd => hm d (List.mem_cons_of_mem _ hd)) (Nat.or_lt_two_pow (n := 32) ha (Nat.or_lt_two_pow (n := 32) hc.1 hc.2))
 exact this _ 0 (fun c hc => h c (List.mem_of_mem_take hc)) oo_
theorem C8a (l : List Cl) : A5d l = A5v l l.length &&& 16777215 := by
 unfold A5d A5v; rw [List.take_length]
theorem D5h {s : Nat} (hs : s < 4294967296) : decide ((A1g s 16777215 : Int) = 0) = decide (s < 16777216) := by
 apply decide_eq_decide.mpr
 have h : A1g s 16777215 = s / 16777216 * 16777216 := by
  unfold A1g
  have e : (BitVec.ofNat 32 s &&& ~~~ BitVec.ofNat 32 16777215).toNat = s / 16777216 * 16777216 := by
   apply Nat.eq_of_testBit_eq
   intro i
   rw [← BitVec.getLsbD, BitVec.getLsbD_and, BitVec.getLsbD_not, BitVec.getLsbD_ofNat, BitVec.getLsbD_ofNat]
   rw [show s / 16777216 * 16777216 = (s / 2 ^ 24) * 2 ^ 24 from rfl, Nat.testBit_mul_two_pow, Nat.testBit_div_two_pow]
   rw [show (16777215 : Nat) = 2 ^ 24 - 1 from rfl, Nat.testBit_two_pow_sub_one]
   by_cases h1 : i < 32
   ·by_cases h2 : 24 ≤ i
    ·simp [h1, h2, Nat.sub_add_cancel h2]
    ·simp [h1, h2]; omega
   ·have : s.testBit i = false := Nat.testBit_lt_two_pow (Nat.lt_of_lt_of_le hs (Nat.pow_le_pow_right (n := 2) oo_ (show 32 ≤ i by omega)))
    have h2 : 24 ≤ i := by omega
    simp [h1, h2, Nat.sub_add_cancel h2, this]
  exact e
 omega
end Go.Hy
namespace Go.Hy
def F6f (g : Cl → Bool) (l : List Cl) : Int := if l.any g then (l.findIdx g : Int) else -1
theorem A5s {α : Type} {d : α} {l : List α} {i : Nat} (h : i < l.length) : l.getD i d = l[i] := by
 rw [List.getD_eq_getElem?_getD, List.getElem?_eq_getElem h]; rfl
theorem F6e {g : Cl → Bool} {l : List Cl} {i : Nat} (h : i < l.length) (hg : g (l.getD i cl0) = true) (hb : ∀ j, j < i → g (l.getD j cl0) = false) : F6f g l = i := by
 have hany : l.any g = true := List.any_eq_true.mpr ⟨_, A0l h, hg⟩
 have hidx : l.findIdx g = i := by
  rw [List.findIdx_eq h]
  refine ⟨by rw [← A5s (d := cl0) h]; exact hg, fun j hj => ?_⟩
  have := hb j hj
  rwa [A5s (d := cl0) oo_] at this
 unfold F6f
 rw [hany, hidx]; rfl
theorem E5t {g : Cl → Bool} {l : List Cl} (hb : ∀ j, j < l.length → g (l.getD j cl0) = false) : F6f g l = -1 := by
 have hany : l.any g = false := by
  rw [List.any_eq_false]
  intro x hx
  obtain ⟨j, hj, e⟩ := List.mem_iff_getElem.mp hx
  have := hb j hj
  rw [A5s (d := cl0) hj, e] at this
  simp [this]
 unfold F6f; rw [hany]; rfl
theorem D4t (g : Cl → Bool) (l : List Cl) : decide (0 ≤ F6f g l) = l.any g := by
 unfold F6f
 cases l.any g
 ·rfl
 ·simp
def once (l : List Cl) : List Cl := l.foldl (fun o c => if c ∈ o then o else o ++ [c]) []
theorem E4k (l : List Cl) (c : Cl) : once (l ++ [c]) = if c ∈ once l then once l else once l ++ [c] := by
 unfold once; rw [List.foldl_append]; rfl
theorem C7g (c : Cl) : ∀ (l o : List Cl), (c ∈ l.foldl (fun o c => if c ∈ o then o else o ++ [c]) o ↔ c ∈ o ∨ c ∈ l) ∧ (l.foldl (fun o c => if c ∈ o then o else o ++ [c]) o).length ≤ o.length + l.length
 | [], o => by simp
 | d :: l, o => by
  have ih := C7g c l (if d ∈ o then o else o ++ [d])
  rw [List.foldl_cons]
  constructor
  ·rw [ih.1, List.mem_cons]
   split
   ·rename_i h
    constructor
    ·rintro (h2 | h2)
     ·exact .inl h2
     ·exact .inr (.inr h2)
    ·rintro (h2 | h2 | h2)
     ·exact .inl h2
     ·exact .inl (h2 ▸ h)
     ·exact .inr h2
   ·rw [List.mem_append, List.mem_singleton, or_assoc]
  ·have h3 := ih.2
   have h4 : (if d ∈ o then o else o ++ [d]).length ≤ o.length + 1 := by split <;> simp
   simp only [List.length_cons]; omega
theorem B4z (c : Cl) (l : List Cl) : c ∈ once l ↔ c ∈ l := by
 have := (C7g c l []).1
 simpa [once] using this
theorem C0u (l : List Cl) : (once l).length ≤ l.length := by
 have := (C7g cl0 l []).2
 simpa [once] using this
def A2b (l : List Cl) (c : Cl) : Bool := l.any fun d => !decide (c = d) && below c d
def kept (l : List Cl) : List Cl := (once l).filter fun c => !A2b (once l) c
def D8j (l l' : List Cl) : Prop := l'.Perm l ∧ l'.Pairwise fun a b => A3p b a = false
def B0l (l : List Cl) (r : Int × List Cl) : Prop :=
 if l.all A0u = false then r = (2, []) else if 64 < (kept l).length then r = (3, []) else r.1 = 0 ∧ D8j (kept l) r.2
end Go.Hy
namespace Go.Hy
theorem G1y {l : List Cl} {g : Cl → Bool} (h : ∀ j, j < l.length → g (l.getD j cl0) = true) : l.all g = true := by
 rw [List.all_eq_true]
 intro x hx
 obtain ⟨j, hj, e⟩ := List.mem_iff_getElem.mp hx
 have := h j hj
 rwa [A5s (d := cl0) hj, e] at this
theorem F6r {l : List Cl} {g : Cl → Bool} {i : Nat} (hi : i < l.length) (h : g (l.getD i cl0) = false) : l.all g = false := by
 rw [List.all_eq_false]
 exact ⟨l.getD i cl0, A0l hi, by rw [h]; decide⟩
def A7l (l : List Cl) (i : Nat) : List Cl := ((once l).take i).filter fun c => !A2b (once l) c
theorem B7n {l : List Cl} {i : Nat} (h : i < (once l).length) : A7l l (i + 1) = if A2b (once l) ((once l).getD i cl0) then A7l l i else A7l l i ++ [(once l).getD i cl0] := by
 unfold A7l
 rw [A0f (d := cl0) h, List.filter_append]
 cases hn : A2b (once l) ((once l).getD i cl0)
 ·rw [List.filter_cons_of_pos (by rw [hn]; rfl)]; simp
 ·rw [List.filter_cons_of_neg (by rw [hn]; decide)]; simp
theorem D1k (l : List Cl) : A7l l (once l).length = kept l := by simp [A7l, kept]
theorem D1j (l : List Cl) (i : Nat) : (A7l l i).length ≤ l.length := by
 unfold A7l
 have h1 := List.length_filter_le (fun c => !A2b (once l) c) ((once l).take i)
 have h2 := C0u l
 simp only [List.length_take] at h1
 omega
theorem B5r {l : List Cl} {i : Nat} (h : i < l.length) : once (l.take (i + 1)) = if l.getD i cl0 ∈ once (l.take i) then once (l.take i) else once (l.take i) ++ [l.getD i cl0] := by
 rw [A0f (d := cl0) h, E4k]
theorem C7e (l : List Cl) (i : Nat) : (once (l.take i)).length ≤ l.length := by
 have := C0u (l.take i); simp only [List.length_take] at this; omega
theorem E9w {l : List Cl} {c : Cl} (h : c ∈ kept l) : c ∈ l := by
 unfold kept at h
 exact (B4z c l).mp (List.mem_filter.mp h).1
end Go.Hy
namespace Go.Hy
theorem B4h (a b : Cl) : A3p a b = true ∨ a = b ∨ A3p b a = true := by
 obtain ⟨p, n⟩ := a
 obtain ⟨p', n'⟩ := b
 simp only [A3p, Bool.or_eq_true, Bool.and_eq_true, decide_eq_true_eq, Cl.mk.injEq]
 omega
theorem B5e {a b : Cl} (h : A3p a b = true) : A3p b a = false := by
 simp only [A3p, Bool.or_eq_true, Bool.and_eq_true, decide_eq_true_eq, Bool.or_eq_false_iff, Bool.and_eq_false_iff, decide_eq_false_iff_not] at *
 omega
theorem C2r {a b c : Cl} (h : A3p a b = true) (h2 : A3p b c = true) : A3p a c = true := by
 simp only [A3p, Bool.or_eq_true, Bool.and_eq_true, decide_eq_true_eq] at *
 omega
theorem B7l (a : Cl) : A3p a a = false := by simp [A3p]
theorem G5u {a b : Cl} (h : A3p a b = false) (h2 : A3p b a = false) : a = b := by
 rcases B4h a b with h3 | h3 | h3
 ·rw [h] at h3; cases h3
 ·exact h3
 ·rw [h2] at h3; cases h3
theorem C9e : ∀ {l m : List Cl}, l.Perm m → (l.Pairwise fun a b => A3p b a = false) → (m.Pairwise fun a b => A3p b a = false) → l = m
 | [], m, hp, _, _ => by have := hp.length_eq; cases m with | nil => rfl | cons _ _ => simp at this
 | a :: l, [], hp, _, _ => by have := hp.length_eq; simp at this
 | a :: l, b :: m, hp, h1, h2 => by
  rw [List.pairwise_cons] at h1 h2
  have ha : a ∈ b :: m := hp.mem_iff.mp List.mem_cons_self
  have hb : b ∈ a :: l := hp.mem_iff.mpr List.mem_cons_self
  have e : a = b := by
   rcases List.mem_cons.mp ha with h | h
   ·exact h
   ·rcases List.mem_cons.mp hb with h3 | h3
    ·exact h3.symm
    ·exact G5u (h2.1 a h |> fun x => x) (h1.1 b h3) |> fun x => by exact x
  subst e
  rw [C9e (List.Perm.cons_inv hp) h1.2 h2.2]
theorem B2w : ∀ {l : List Cl}, B4b l = true ↔ l.Pairwise fun a b => A3p a b = true
 | [] => by simp [B4b]
 | [a] => by simp [B4b]
 | a :: b :: l => by
  rw [B4b, Bool.and_eq_true, B2w (l := b :: l), List.pairwise_cons (a := a)]
  constructor
  ·rintro ⟨h1, h2⟩
   refine ⟨fun c hc => ?_, h2⟩
   rcases List.mem_cons.mp hc with h | h
   ·exact h ▸ h1
   ·exact C2r h1 ((List.pairwise_cons.mp h2).1 c h)
  ·rintro ⟨h1, h2⟩
   exact ⟨h1 b List.mem_cons_self, h2⟩
theorem C7f {l : List Cl} (h : l.Pairwise fun a b => A3p a b = true) : once l = l := by
 have : ∀ (m o : List Cl), ((o ++ m).Pairwise fun a b => A3p a b = true) → m.foldl (fun o c => if c ∈ o then o else o ++ [c]) o = o ++ m := by
  intro m
  induction m with
  | nil => intro o _; simp
  | cons c m ih =>
   intro o h
   rw [List.foldl_cons]
   have hn : c ∉ o := by
    intro hc
    have := (List.pairwise_append.mp h).2.2 c hc c List.mem_cons_self
    rw [B7l] at this; cases this
   rw [if_neg hn, ih (o ++ [c]) (by simpa using h)]
   simp
 have := this l [] (by simpa using h)
 simpa [once] using this
theorem C3o {l : List Cl} : apart l = true ↔ ∀ a, a ∈ l → ∀ b, b ∈ l → a = b ∨ below a b = false := by
 unfold apart
 simp only [List.all_eq_true, Bool.or_eq_true, decide_eq_true_eq, Bool.not_eq_true']
theorem A9v {l : List Cl} {c : Cl} : A2b l c = false ↔ ∀ d, d ∈ l → c = d ∨ below c d = false := by
 unfold A2b
 rw [List.any_eq_false]
 constructor
 ·intro h d hd
  have := h d hd
  simp only [Bool.and_eq_true, Bool.not_eq_true', decide_eq_false_iff_not, not_and, Bool.not_eq_true] at this
  by_cases e : c = d
  ·exact .inl e
  ·exact .inr (this e)
 ·intro h d hd
  simp only [Bool.and_eq_true, Bool.not_eq_true', decide_eq_false_iff_not, not_and, Bool.not_eq_true]
  intro e
  exact (h d hd).resolve_left e
theorem B6k {l : List Cl} {r : Int × List Cl} (h : B0l l r) : (decide (r.1 = 0) && decide (r.2 = l)) = A0h l := by
 rw [Bool.eq_iff_iff, Bool.and_eq_true, decide_eq_true_eq, decide_eq_true_eq]
 unfold B0l at h
 constructor
 ·rintro ⟨h1, h2⟩
  split at h
  ·rw [h] at h1; cases h1
  ·rename_i hr
   split at h
   ·rw [h] at h1; cases h1
   ·rename_i h64
    obtain ⟨_, hp, hs⟩ := h
    rw [h2] at hp hs
    have hr' : l.all A0u = true := by simpa using hr
    have hlen := hp.length_eq
    have hk1 : (kept l).length ≤ (once l).length := by unfold kept; exact List.length_filter_le _ _
    have ho := C0u l
    have hkeep : kept l = once l := by
     have : (kept l).Sublist (once l) := by unfold kept; exact List.filter_sublist
     exact this.eq_of_length oo_
    have hnd : ∀ c, c ∈ l → A2b (once l) c = false := by
     intro c hc
     have : c ∈ kept l := hp.mem_iff.mp hc
     unfold kept at this
     have := (List.mem_filter.mp this).2
     simpa using this
    have hap : apart l = true := C3o.mpr fun a ha b hb => A9v.mp (hnd a ha) b ((B4z b l).mpr hb)
    have hnodup : (once l).Nodup := by
     have : ∀ (m o : List Cl), o.Nodup → (m.foldl (fun o c => if c ∈ o then o else o ++ [c]) o).Nodup := by
      intro m
      induction m with
      | nil => intro o h; exact h
      | cons c m ih =>
       intro o h
       rw [List.foldl_cons]
       apply ih
       split
       ·exact h
       ·rename_i hn
        rw [List.nodup_append]
        refine ⟨h, by simp, ?_⟩
        intro a ha b hb e
        rw [List.mem_singleton] at hb
        exact hn (hb ▸ e ▸ ha)
     exact this l [] List.nodup_nil
    have hln : l.Nodup := (hp.nodup_iff).mpr (hkeep ▸ hnodup)
    have hst : B4b l = true := by
     rw [B2w]
     have hboth : l.Pairwise fun a b => A3p b a = false ∧ a ≠ b := hs.and hln
     exact hboth.imp fun {a b} ⟨h3, h4⟩ => by
      rcases B4h a b with h5 | h5 | h5
      ·exact h5
      ·exact absurd h5 h4
      ·rw [h3] at h5; cases h5
    unfold A0h
    rw [hr', hst, hap]
    simp; omega
 ·intro hf
  unfold A0h at hf
  simp only [Bool.and_eq_true, decide_eq_true_eq] at hf
  obtain ⟨⟨⟨hr, hs⟩, ha⟩, h64⟩ := hf
  have hs' := B2w.mp hs
  have ho := C7f hs'
  have hk : kept l = l := by
   unfold kept
   rw [ho, List.filter_eq_self]
   intro c hc
   have : A2b l c = false := A9v.mpr fun d hd => C3o.mp ha c hc d hd
   simp [this]
  rw [hr, if_neg de_, hk, if_neg oo_] at h
  exact ⟨h.1, C9e h.2.1 h.2.2 (hs'.imp fun h => B5e h)⟩
def A4l (s : Nat) (i : Int) : Bool := decide (0 ≤ i) && decide (i < 24) && s.testBit i.toNat
theorem B4j (s : Nat) (i : Int) : A4l s i = (decide (0 ≤ i) && decide (i < 24) && decide (s / 2 ^ i.toNat % 2 = 1)) := by
 unfold A4l; rw [Nat.testBit_eq_decide_div_mod_eq]
def A2f (s n : Nat) : List Int := ((List.range n).filter s.testBit).map fun (i : Nat) => (i : Int)
abbrev A0g (s : Nat) : List Int := A2f s 24
theorem A6h (s n : Nat) : A2f s (n + 1) = if s.testBit n then A2f s n ++ [(n : Int)] else A2f s n := by
 unfold A2f
 rw [List.range_succ, List.filter_append]
 cases h : s.testBit n <;> simp [h]
theorem B1b {s n : Nat} {x : Int} (h : x ∈ A2f s n) : 0 ≤ x ∧ x < n := by
 unfold A2f at h
 simp only [List.mem_map, List.mem_filter, List.mem_range] at h
 obtain ⟨i, ⟨h1, _⟩, rfl⟩ := h
 omega
theorem A4f {s n : Nat} {x : Int} : x ∈ A2f s n ↔ 0 ≤ x ∧ x < n ∧ s.testBit x.toNat = true := by
 unfold A2f
 simp only [List.mem_map, List.mem_filter, List.mem_range]
 constructor
 ·rintro ⟨i, ⟨h1, h2⟩, rfl⟩; exact ⟨by omega, by omega, by simpa using h2⟩
 ·rintro ⟨h1, h2, h3⟩; exact ⟨x.toNat, ⟨by omega, h3⟩, by omega⟩
theorem A6v (s n : Nat) : (A2f s n).length ≤ n := by
 unfold A2f
 rw [List.length_map]
 have := List.length_filter_le s.testBit (List.range n)
 simpa using this
def B2p (l : List Int) : Nat := (l.map fun x => 2 ^ x.toNat).sum
def C6r (l : List Int) (i : Nat) : Nat := B2p (l.take i)
theorem D8t (l : List Int) : C6r l 0 = 0 := by simp [C6r, B2p]
theorem E2h (l : List Int) : C6r l l.length = B2p l := by simp [C6r]
theorem D8u {l : List Int} {i : Nat} (h : i < l.length) : C6r l (i + 1) = C6r l i + 2 ^ (l.getD i 0).toNat := by
 unfold C6r B2p; rw [A0f (d := 0) h, List.map_append, List.sum_append]; simp
theorem F4f {l : List Int} (h : ∀ x, x ∈ l → 0 ≤ x ∧ x < 24) : B2p l ≤ l.length * 8388608 := by
 unfold B2p
 induction l with
 | nil => simp
 | cons a l ih =>
  have h1 := ih (fun x hx => h x (List.mem_cons_of_mem _ hx))
  have h2 := h a List.mem_cons_self
  have h3 : 2 ^ a.toNat ≤ 8388608 := Nat.pow_le_pow_right (n := 2) (j := 23) oo_ oo_
  simp only [List.map_cons, List.sum_cons, List.length_cons]
  generalize 2 ^ a.toNat = q at *
  omega
theorem E8f {l : List Int} (h : ∀ x, x ∈ l → 0 ≤ x ∧ x < 24) (i : Nat) : C6r l i ≤ l.length * 8388608 := by
 have h1 := F4f (l := l.take i) (fun x hx => h x (List.mem_of_mem_take hx))
 have h2 : (l.take i).length ≤ l.length := by simp; omega
 exact Nat.le_trans h1 (Nat.mul_le_mul_right 8388608 h2)
theorem C1r (s : Nat) : ∀ n, B2p (A2f s n) = s % 2 ^ n
 | 0 => by
  have h : A2f s 0 = [] := by unfold A2f; rw [List.range_zero, List.filter_nil, List.map_nil]
  rw [h, Nat.pow_zero, Nat.mod_one, B2p, List.map_nil, List.sum_nil]
 | n + 1 => by
  rw [A6h, Nat.mod_pow_succ]
  have ih := C1r s n
  have hb := Nat.testBit_eq_decide_div_mod_eq (x := s) (i := n)
  by_cases h : s / 2 ^ n % 2 = 1
  ·rw [hb, decide_eq_true h, if_pos rfl, h]
   have e : B2p (A2f s n ++ [(n : Int)]) = B2p (A2f s n) + 2 ^ n := by simp [B2p]
   rw [e, ih, Nat.mul_one]
  ·have h0 : s / 2 ^ n % 2 = 0 := by omega
   rw [hb, decide_eq_false h, if_neg sp_, h0, ih]; simp
theorem D5j (s : Nat) : s &&& 16777215 = s % 2 ^ 24 := by
 rw [show (16777215 : Nat) = 2 ^ 24 - 1 from rfl, Nat.and_two_pow_sub_one_eq_mod]
theorem B8l (s : Nat) : B2p (A0g s) = s &&& 16777215 := by rw [C1r, D5j]
theorem A8l {p : Nat → Prop} {i : Nat} (h : ∀ j, j < i → p j) (hi : p i) : ∀ j, j < i + 1 → p j := fun j hj => by
 rcases Nat.lt_succ_iff_lt_or_eq.mp hj with h2 | h2
 ·exact h j h2
 ·exact h2 ▸ hi
theorem C0i {α : Type} {d : α} {l : List α} {g : α → Bool} (h : ∀ j, j < l.length → g (l.getD j d) = false) : l.any g = false := by
 rw [List.any_eq_false]
 intro x hx
 obtain ⟨j, hj, e⟩ := List.mem_iff_getElem.mp hx
 have := h j hj
 rw [A5s (d := d) hj, e] at this
 simp [this]
theorem C3p {α : Type} {d : α} {l : List α} {g : α → Bool} {i : Nat} (hi : i < l.length) (h : g (l.getD i d) = true) : l.any g = true := List.any_eq_true.mpr ⟨_, A0l hi, h⟩
theorem B6t {α : Type} {d : α} {l : List α} {g : α → Bool} (h : ∀ j, j < l.length → g (l.getD j d) = true) : l.all g = true := by
 rw [List.all_eq_true]
 intro x hx
 obtain ⟨j, hj, e⟩ := List.mem_iff_getElem.mp hx
 have := h j hj
 rwa [A5s (d := d) hj, e] at this
theorem B4s {α : Type} {d : α} {l : List α} {g : α → Bool} {i : Nat} (hi : i < l.length) (h : g (l.getD i d) = false) : l.all g = false := by
 rw [List.all_eq_false]
 exact ⟨l.getD i d, A0l hi, by rw [h]; decide⟩
def B3t (c : Cl) : Bool := (List.range 24).any fun i => A4l c.pos (i : Int) && A4l c.neg (i : Int)
theorem C2a {c : Cl} (h : A0u c = true) : B3t c = A6s c := by
 simp only [A0u, Bool.and_eq_true, decide_eq_true_eq] at h
 rw [Bool.eq_iff_iff]
 unfold B3t A6s
 rw [List.any_eq_true, decide_eq_true_eq]
 constructor
 ·rintro ⟨i, hi, hb⟩ h0
  simp only [A4l, Bool.and_eq_true, decide_eq_true_eq, Int.toNat_natCast] at hb
  have := congrArg (fun n => Nat.testBit n i) h0
  simp only [Nat.testBit_and, Nat.zero_testBit] at this
  rw [hb.1.2, hb.2.2] at this
  cases this
 ·intro h0
  obtain ⟨i, hi⟩ : ∃ i, (c.pos &&& c.neg).testBit i = true := by
   apply Classical.byContradiction
   intro hn
   exact h0 (Nat.eq_of_testBit_eq fun i => by
    rw [Nat.zero_testBit]
    cases hb : (c.pos &&& c.neg).testBit i
    ·rfl
    ·exact absurd ⟨i, hb⟩ hn)
  rw [Nat.testBit_and, Bool.and_eq_true] at hi
  have hlt : i < 24 := by
   apply Classical.byContradiction
   intro hge
   have : c.pos.testBit i = false := Nat.testBit_lt_two_pow (Nat.lt_of_lt_of_le h.1 (Nat.pow_le_pow_right (n := 2) oo_ (show 24 ≤ i by omega)))
   rw [this] at hi; cases hi.1
  exact ⟨i, List.mem_range.mpr hlt, by simp [A4l, hi.1, hi.2]; omega⟩
def C3w (c : Cl) : List Cl → List Cl
 | [] => [c]
 | d :: l => if A3p d c then d :: C3w c l else if d = c then d :: l else c :: d :: l
def rl (l : List Cl) (m : List Cl) : List Cl := m.foldl (fun o c => if A2b l c then o else C3w c o) []
def A7n (l : List Cl) (i : Nat) : List Cl := rl l (l.take i)
abbrev A3x (l : List Cl) : List Cl := rl l l
theorem D0e (l : List Cl) : A7n l 0 = [] := by simp [A7n, rl]
theorem D6i (l : List Cl) : A7n l l.length = A3x l := by simp [A7n]
theorem C1x {l : List Cl} {i : Nat} (h : i < l.length) : A7n l (i + 1) = if A2b l (l.getD i cl0) then A7n l i else C3w (l.getD i cl0) (A7n l i) := by
 unfold A7n rl; rw [A0f (d := cl0) h, List.foldl_append]; rfl
theorem C7q {c x : Cl} : ∀ {l : List Cl}, x ∈ C3w c l ↔ x = c ∨ x ∈ l
 | [] => by simp [C3w]
 | d :: l => by
  unfold C3w
  split
  ·rw [List.mem_cons, C7q (l := l), List.mem_cons]
   constructor
   ·rintro (h | h | h)
    ·exact .inr (.inl h)
    ·exact .inl h
    ·exact .inr (.inr h)
   ·rintro (h | h | h)
    ·exact .inr (.inl h)
    ·exact .inl h
    ·exact .inr (.inr h)
  ·split
   ·rename_i h
    subst h
    simp
   ·simp
theorem D7n (c : Cl) : ∀ l : List Cl, (C3w c l).length ≤ l.length + 1
 | [] => by simp [C3w]
 | d :: l => by
  unfold C3w
  have := D7n c l
  split
  ·simp; omega
  ·split <;> simp
theorem C2w {c : Cl} : ∀ {l : List Cl}, (l.Pairwise fun a b => A3p a b = true) → (C3w c l).Pairwise fun a b => A3p a b = true
 | [], _ => by simp [C3w]
 | d :: l, h => by
  rw [List.pairwise_cons] at h
  unfold C3w
  split
  ·rename_i hd
   rw [List.pairwise_cons]
   refine ⟨fun x hx => ?_, C2w h.2⟩
   rcases C7q.mp hx with e | e
   ·exact e ▸ hd
   ·exact h.1 x e
  ·rename_i hd
   split
   ·exact List.pairwise_cons.mpr h
   ·rename_i hne
    have hcd : A3p c d = true := by
     rcases B4h c d with h3 | h3 | h3
     ·exact h3
     ·exact absurd h3.symm hne
     ·exact absurd h3 hd
    rw [List.pairwise_cons]
    refine ⟨fun x hx => ?_, List.pairwise_cons.mpr h⟩
    rcases List.mem_cons.mp hx with e | e
    ·exact e ▸ hcd
    ·exact C2r hcd (h.1 x e)
theorem D0d (l : List Cl) : ∀ (m o : List Cl), (o.Pairwise fun a b => A3p a b = true) → (m.foldl (fun o c => if A2b l c then o else C3w c o) o).Pairwise fun a b => A3p a b = true
 | [], o, h => h
 | c :: m, o, h => by
  rw [List.foldl_cons]
  apply D0d l m
  split
  ·exact h
  ·exact C2w h
theorem E2t (l : List Cl) (x : Cl) : ∀ (m o : List Cl), x ∈ m.foldl (fun o c => if A2b l c then o else C3w c o) o ↔ x ∈ o ∨ (x ∈ m ∧ A2b l x = false)
 | [], o => by simp
 | c :: m, o => by
  rw [List.foldl_cons, E2t l x m]
  by_cases hn : A2b l c = true
  ·rw [if_pos hn, List.mem_cons]
   constructor
   ·rintro (h | ⟨h, h2⟩)
    ·exact .inl h
    ·exact .inr ⟨.inr h, h2⟩
   ·rintro (h | ⟨h | h, h2⟩)
    ·exact .inl h
    ·subst h; rw [hn] at h2; cases h2
    ·exact .inr ⟨h, h2⟩
  ·rw [if_neg hn, C7q, List.mem_cons]
   constructor
   ·rintro ((h | h) | ⟨h, h2⟩)
    ·subst h; exact .inr ⟨.inl rfl, by simpa using hn⟩
    ·exact .inl h
    ·exact .inr ⟨.inr h, h2⟩
   ·rintro (h | ⟨h | h, h2⟩)
    ·exact .inl (.inr h)
    ·exact .inl (.inl h)
    ·exact .inr ⟨h, h2⟩
theorem A4t {l : List Cl} {x : Cl} : x ∈ A3x l ↔ x ∈ l ∧ A2b l x = false := by
 have := E2t l x l []
 simpa [A3x, rl] using this
theorem A8o (l : List Cl) : (A3x l).Pairwise fun a b => A3p a b = true := D0d l l [] List.Pairwise.nil
theorem C6z (l : List Cl) (i : Nat) : (A7n l i).length ≤ i := by
 have : ∀ (m o : List Cl), (m.foldl (fun o c => if A2b l c then o else C3w c o) o).length ≤ o.length + m.length := by
  intro m
  induction m with
  | nil => intro o; simp
  | cons c m ih =>
   intro o
   rw [List.foldl_cons]
   have h1 := ih (if A2b l c then o else C3w c o)
   have h2 : (if A2b l c = true then o else C3w c o).length ≤ o.length + 1 := by
    split
    ·omega
    ·exact D7n c o
   simp only [List.length_cons]; omega
 have := this (l.take i) []
 unfold A7n rl
 simp at this ⊢
 omega
theorem E2u {l : List Cl} {i : Nat} {c : Cl} (h : c ∈ A7n l i) : c ∈ l := by
 have := (E2t l c (l.take i) []).mp h
 rcases this with h | h
 ·cases h
 ·exact List.mem_of_mem_take h.1
theorem B8h : ∀ {l m : List Cl}, (l.Pairwise fun a b => A3p a b = true) → (m.Pairwise fun a b => A3p a b = true) → (∀ x, x ∈ l ↔ x ∈ m) → l = m
 | [], [], _, _, _ => rfl
 | [], b :: m, _, _, h => by have := (h b).mpr List.mem_cons_self; cases this
 | a :: l, [], _, _, h => by have := (h a).mp List.mem_cons_self; cases this
 | a :: l, b :: m, h1, h2, h => by
  rw [List.pairwise_cons] at h1 h2
  have e : a = b := by
   rcases List.mem_cons.mp ((h a).mp List.mem_cons_self) with h3 | h3
   ·exact h3
   ·rcases List.mem_cons.mp ((h b).mpr List.mem_cons_self) with h4 | h4
    ·exact h4.symm
    ·have h5 := h2.1 a h3
     have h6 := h1.1 b h4
     rw [B5e h5] at h6; cases h6
  subst e
  congr 1
  apply B8h h1.2 h2.2
  intro x
  have hx := h x
  rw [List.mem_cons, List.mem_cons] at hx
  constructor
  ·intro h3
   rcases hx.mp (.inr h3) with h4 | h4
   ·subst h4; have := h1.1 x h3; rw [B7l] at this; cases this
   ·exact h4
  ·intro h3
   rcases hx.mpr (.inr h3) with h4 | h4
   ·subst h4; have := h2.1 x h3; rw [B7l] at this; cases this
   ·exact h4
theorem C7l (l : List Cl) (c : Cl) : A2b (once l) c = A2b l c := by
 unfold A2b
 rw [Bool.eq_iff_iff, List.any_eq_true, List.any_eq_true]
 constructor
 ·rintro ⟨d, h1, h2⟩; exact ⟨d, (B4z d l).mp h1, h2⟩
 ·rintro ⟨d, h1, h2⟩; exact ⟨d, (B4z d l).mpr h1, h2⟩
theorem D9n (l : List Cl) : (once l).Nodup := by
 have : ∀ (m o : List Cl), o.Nodup → (m.foldl (fun o c => if c ∈ o then o else o ++ [c]) o).Nodup := by
  intro m
  induction m with
  | nil => intro o h; exact h
  | cons c m ih =>
   intro o h
   rw [List.foldl_cons]
   apply ih
   split
   ·exact h
   ·rename_i hn
    rw [List.nodup_append]
    refine ⟨h, by simp, ?_⟩
    intro a ha b hb e
    rw [List.mem_singleton] at hb
    exact hn (hb ▸ e ▸ ha)
 exact this l [] List.nodup_nil
theorem C9g (l : List Cl) : ∃ m, D8j l m := by
 refine ⟨l.mergeSort (fun a b => !A3p b a), List.mergeSort_perm _ _, ?_⟩
 have := List.pairwise_mergeSort (le := fun a b => !A3p b a) (fun a b c h1 h2 => by
  simp only [Bool.not_eq_true'] at *
  simp only [A3p, Bool.or_eq_false_iff, Bool.and_eq_false_iff, decide_eq_false_iff_not] at *
  omega) (fun a b => by
  rcases B4h a b with h | h | h
  ·simp [B5e h]
  ·subst h; simp [B7l]
  ·simp [B5e h]) l
 exact this.imp fun h => by simpa using h
theorem C9h {l m : List Cl} (h : D8j (kept l) m) : m = A3x l := by
 have hnd : m.Nodup := (h.1.nodup_iff).mpr (by unfold kept; exact (D9n l).filter _)
 have hb : m.Pairwise fun a b => A3p b a = false ∧ a ≠ b := h.2.and hnd
 refine B8h ?_ (A8o l) (fun x => ?_)
 ·exact hb.imp fun {a b} ⟨h3, h4⟩ => by
   rcases B4h a b with h5 | h5 | h5
   ·exact h5
   ·exact absurd h5 h4
   ·rw [h3] at h5; cases h5
 ·rw [h.1.mem_iff, A4t]
  unfold kept
  rw [List.mem_filter, B4z, C7l]
  simp
def A0p (l : List Cl) : Int × List Cl := if l.all A0u = false then (2, []) else if 64 < (A3x l).length then (3, []) else (0, A3x l)
theorem C5j {l : List Cl} {r : Int × List Cl} (h : B0l l r) : r = A0p l := by
 unfold B0l at h
 unfold A0p
 by_cases h1 : l.all A0u = false
 ·rw [if_pos h1] at h ⊢; exact h
 ·rw [if_neg h1] at h ⊢
  by_cases h2 : 64 < (kept l).length
  ·have h3 : (kept l).length = (A3x l).length := by
    obtain ⟨m, hm⟩ := C9g (kept l)
    rw [← hm.1.length_eq, C9h hm]
   rw [if_pos h2] at h
   rw [if_pos oo_]; exact h
  ·rw [if_neg h2] at h
   have e := C9h h.2
   have h3 : (kept l).length = (A3x l).length := by rw [← h.2.1.length_eq, e]
   rw [if_neg oo_]
   exact Prod.ext h.1 e
theorem B9x (l : List Cl) : (decide ((A0p l).1 = 0) && decide ((A0p l).2 = l)) = A0h l := by
 obtain ⟨r, hr⟩ : ∃ r, B0l l r := by
  unfold B0l
  by_cases h1 : l.all A0u = false
  ·exact ⟨_, by rw [if_pos h1]⟩
  ·by_cases h2 : 64 < (kept l).length
   ·exact ⟨_, by rw [if_neg h1, if_pos h2]⟩
   ·obtain ⟨m, hm⟩ := C9g (kept l)
    exact ⟨(0, m), by rw [if_neg h1, if_neg h2]; exact ⟨rfl, hm⟩⟩
 rw [← C5j hr]
 exact B6k hr
theorem D4s {c : Cl} : ∀ {l : List Cl} {k : Nat}, k ≤ l.length → (∀ j, j < k → A3p (l.getD j cl0) c = true) → (k < l.length → A3p (l.getD k cl0) c = false) → C3w c l = if k < l.length ∧ l.getD k cl0 = c then l else l.take k ++ [c] ++ l.drop k
 | [], k, hk, h1, h2 => by simp at hk; subst hk; simp [C3w]
 | d :: l, 0, hk, h1, h2 => by
  have h := h2 sp_
  simp only [List.getD_cons_zero] at h
  unfold C3w
  rw [h, if_neg de_]
  simp
 | d :: l, k + 1, hk, h1, h2 => by
  have h := h1 0 oo_
  simp only [List.getD_cons_zero] at h
  unfold C3w
  rw [if_pos h, D4s (l := l) (k := k) (by simpa using hk) (fun j hj => by simpa using h1 (j + 1) oo_) (fun hlt => by simpa using h2 (by simpa using hlt))]
  simp only [List.length_cons, List.getD_cons_succ, List.take_succ_cons, List.drop_succ_cons, List.cons_append, Nat.add_lt_add_iff_right]
  split <;> rfl
def G1r (t : T) (ks : List Nat) (bs : List (List Nat)) : Nat := 1 + t.r.length + t.name.size + ks.sum + ((t.sys.zip bs).map fun p => 1 + p.1.A1s.length + p.2.sum).sum
def B6r : T → Nat := tf G1r
def C0h (b : Br) : Nat := 1 + b.A1s.length + (b.kids.map B6r).sum
theorem C8g (t : T) : B6r t = 1 + t.r.length + t.name.size + (t.kids.map B6r).sum + (t.sys.map C0h).sum := by
 conv => lhs; rw [B6r, F7n]
 unfold G1r
 congr 2
 generalize t.sys = l
 induction l with
 | nil => rfl
 | cons b l ih => simp only [List.map_cons, List.zip_cons_cons, List.map_cons]; rw [ih]; rfl
def bK (t : T) (i : Nat) : Nat := 1 + t.r.length + t.name.size + ((t.kids.take i).map B6r).sum
def bS (t : T) (i : Nat) : Nat := bK t t.kids.length + ((t.sys.take i).map C0h).sum
def bJ (t : T) (i j : Nat) : Nat := bS t i + 1 + (t.sys.getD i br0).A1s.length + (((t.sys.getD i br0).kids.take j).map B6r).sum
theorem B2u {α : Type} (f : α → Nat) {l : List α} {i : Nat} {d : α} (h : i < l.length) : ((l.take (i + 1)).map f).sum = ((l.take i).map f).sum + f (l.getD i d) := by
 rw [A0f (d := d) h, List.map_append, List.sum_append]; simp
theorem B2v {α : Type} (f : α → Nat) : ∀ (l : List α) (i : Nat), ((l.take i).map f).sum ≤ (l.map f).sum
 | [], i => by simp
 | a :: l, 0 => by simp
 | a :: l, i + 1 => by have := B2v f l i; simp only [List.take_succ_cons, List.map_cons, List.sum_cons]; omega
theorem D5g (t : T) : bK t 0 = 1 + t.r.length + t.name.size := by simp [bK]
theorem F6p {t : T} {i : Nat} (h : i < t.kids.length) : bK t (i + 1) = bK t i + B6r (t.kids.getD i t0) := by
 unfold bK; rw [B2u B6r h (d := t0)]; omega
theorem F6o (t : T) : bS t 0 = bK t t.kids.length := by simp [bS]
theorem E6x (t : T) (i : Nat) : bJ t i 0 = bS t i + 1 + (t.sys.getD i br0).A1s.length := by simp [bJ]
theorem F6q {t : T} {i j : Nat} (h : j < (t.sys.getD i br0).kids.length) : bJ t i (j + 1) = bJ t i j + B6r ((t.sys.getD i br0).kids.getD j t0) := by
 unfold bJ; rw [B2u B6r h (d := t0)]; omega
theorem D5f {t : T} {i : Nat} (h : i < t.sys.length) : bS t (i + 1) = bJ t i (t.sys.getD i br0).kids.length := by
 unfold bS bJ bS; rw [B2u C0h h (d := br0), List.take_length]; unfold C0h; omega
theorem G1v (t : T) : bS t t.sys.length = B6r t := by
 rw [C8g]; unfold bS bK; rw [List.take_length, List.take_length]
theorem G1u (t : T) (i : Nat) : bS t i ≤ B6r t := by
 rw [C8g]; unfold bS bK; rw [List.take_length]; have := B2v C0h t.sys i; omega
theorem F1g (t : T) (i : Nat) : bK t i ≤ B6r t := by
 rw [C8g]; unfold bK; have := B2v B6r t.kids i; omega
theorem G1w {t : T} {i j : Nat} (h : i < t.sys.length) : bJ t i j ≤ B6r t := by
 have h1 := G1u t (i + 1)
 rw [D5f h] at h1
 unfold bJ at h1 ⊢
 rw [List.take_length] at h1
 have := B2v B6r (t.sys.getD i br0).kids j
 omega
def A7o (t : T) (part : Nat) (A8z n : Int) : Prop := 0 ≤ n ∧ n ≤ 2 * A8z + 1 ∧ ((n ≤ A8z ∧ n = part) ∨ (A8z < n ∧ A8z < B6r t))
theorem C9l : ∀ t, size t ≤ B6r t := T.ind fun t ih => by
 have hk : ∀ (F G : T → Nat) (l : List T), (∀ k, k ∈ l → F k ≤ G k) → (l.map F).sum ≤ (l.map G).sum := by
  intro F G l
  induction l with
  | nil => intro _; simp
  | cons a l ih => intro h; have := ih (fun k hk => h k (List.mem_cons_of_mem _ hk)); have := h a List.mem_cons_self; simp only [List.map_cons, List.sum_cons]; omega
 have e : size t = 1 + ((parts t).map fun p => size p.1).sum := by
  rw [size_eq]
  have : ∀ (l : List Part) (a : Nat), l.foldl (fun a p => a + size p.1) a = a + (l.map fun p => size p.1).sum := by
   intro l
   induction l with
   | nil => intro a; simp
   | cons b l ih => intro a; rw [List.foldl_cons, ih]; simp; omega
  exact this _ _
 rw [e, B4d, C8g, List.sum_append]
 have h1 := hk size B6r t.kids (fun k hk => by obtain ⟨p, hp, e⟩ := A6i hk; exact e ▸ ih p hp)
 have h2 : ((t.sys.map fun b => b.kids.map size).flatten).sum ≤ (t.sys.map C0h).sum := by
  have : ∀ (l : List Br), (∀ b, b ∈ l → b ∈ t.sys) → ((l.map fun b => b.kids.map size).flatten).sum ≤ (l.map C0h).sum := by
   intro l
   induction l with
   | nil => intro _; simp
   | cons b l ih2 =>
    intro h
    have h3 := ih2 (fun b hb => h b (List.mem_cons_of_mem _ hb))
    have h4 := hk size B6r b.kids (fun k hk => by obtain ⟨p, hp, e⟩ := A6g (h b List.mem_cons_self) hk; exact e ▸ ih p hp)
    simp only [List.map_cons, List.flatten_cons, List.sum_append, List.sum_cons]
    have hb : C0h b = 1 + b.A1s.length + (b.kids.map B6r).sum := rfl
    rw [hb]
    omega
  exact this t.sys (fun _ h => h)
 omega
end Go.Hy
namespace Go.Proofs.YtpfjlbopkhdebaaGreatDoor.Hy
open Go.Proofs
set_option maxRecDepth 100000
set_option maxHeartbeats 8000000
def G2n : Nat → Option (TypeDesc)
 | 1 => some (.func #[] #[] false)
 | 2 => some (.int .i64)
 | 3 => some (.int .i64)
 | 4 => some (.bool)
 | 5 => some (.int .u8)
 | 9 => some (.string)
 | 12 => some (.int .u64)
 | 20 => some (.interface #[])
 | 21 => some (.int .i32)
 | 22 => some (.slice 47)
 | 23 => some (.func #[22] #[4] false)
 | 24 => some (.func #[] #[4] false)
 | 25 => some (.slice 45)
 | 26 => some (.int .i64)
 | 28 => some (.func #[22] #[25, 26] false)
 | 30 => some (.func #[22] #[25, 3] false)
 | 31 => some (.func #[22] #[3] false)
 | 32 => some (.func #[25, 25] #[4] false)
 | 33 => some (.slice 35)
 | 36 => some (.func #[35, 25] #[4] false)
 | 37 => some (.func #[35] #[35] false)
 | 39 => some (.func #[35, 3, 25] #[35, 26] false)
 | 41 => some (.func #[35, 3, 25] #[35, 3] false)
 | 42 => some (.func #[35, 35] #[4] false)
 | 43 => some (.int .u32)
 | 53 => some (.func #[45] #[4] false)
 | 54 => some (.func #[25, 45] #[25, 26] false)
 | 63 => some (.func #[35] #[4] false)
 | 103 => some (.func #[25, 3] #[25, 26] false)
 | 104 => some (.func #[25, 3] #[25, 26] false)
 | 108 => some (.func #[35, 3] #[35, 26] false)
 | 116 => some (.slice 115)
 | 117 => some (.slice 3)
 | 126 => some (.func #[45] #[45, 4] false)
 | 133 => some (.func #[35, 3, 3] #[4] false)
 | 138 => some (.func #[35, 3, 3] #[35] false)
 | 139 => some (.func #[] #[35] false)
 | 146 => some (.int .u64)
 | 148 => some (.func #[43, 3] #[4] false)
 | 151 => some (.func #[3] #[3] false)
 | 157 => some (.func #[25, 3, 25] #[25, 26] false)
 | 159 => some (.func #[157] #[104] false)
 | 165 => some (.func #[35, 3, 25, 3, 4] #[35] false)
 | 167 => some (.func #[3] #[35] false)
 | 168 => some (.func #[33] #[33] false)
 | 174 => some (.map 45 4)
 | 177 => some (.func #[45, 45] #[3] false)
 | 181 => some (.slice 25)
 | 195 => some (.int .u64)
 | 196 => some (.array 29 3)
 | 202 => some (.array 32 5)
 | 204 => some (.int .i64)
 | 215 => some (.func #[] #[195] false)
 | 216 => some (.func #[25, 3, 217, 177] #[3] false)
 | 217 => some (.pointer 3)
 | 233 => some (.pointer 5)
 | _ => none
def G2o : Nat → Option (Nat × Nat × Value)
 | 1 => some (1, 8, .nilFunc)
 | 2 => some (1, 8, .int .i64 0)
 | 3 => some (1, 8, .int .i64 0)
 | 4 => some (1, 1, .bool false)
 | 5 => some (1, 1, .int .u8 0)
 | 9 => some (1, 16, .string ⟨#[]⟩)
 | 12 => some (1, 8, .int .u64 0)
 | 21 => some (1, 4, .int .i32 0)
 | 22 => some (1, 24, .slice none 0 0)
 | 23 => some (1, 8, .nilFunc)
 | 24 => some (1, 8, .nilFunc)
 | 25 => some (1, 24, .slice none 0 0)
 | 26 => some (1, 8, .int .i64 0)
 | 28 => some (1, 8, .nilFunc)
 | 30 => some (1, 8, .nilFunc)
 | 31 => some (1, 8, .nilFunc)
 | 32 => some (1, 8, .nilFunc)
 | 33 => some (1, 24, .slice none 0 0)
 | 34 => some (6, 104, .agg #[.int .i64 0, .int .i64 0, .string ⟨#[]⟩, .slice none 0 0, .slice none 0 0, .slice none 0 0])
 | 35 => some (6, 104, .agg #[.int .i64 0, .int .i64 0, .string ⟨#[]⟩, .slice none 0 0, .slice none 0 0, .slice none 0 0])
 | 36 => some (1, 8, .nilFunc)
 | 37 => some (1, 8, .nilFunc)
 | 39 => some (1, 8, .nilFunc)
 | 41 => some (1, 8, .nilFunc)
 | 42 => some (1, 8, .nilFunc)
 | 43 => some (1, 4, .int .u32 0)
 | 44 => some (2, 8, .agg #[.int .u32 0, .int .u32 0])
 | 45 => some (2, 8, .agg #[.int .u32 0, .int .u32 0])
 | 46 => some (2, 48, .agg #[.slice none 0 0, .slice none 0 0])
 | 47 => some (2, 48, .agg #[.slice none 0 0, .slice none 0 0])
 | 53 => some (1, 8, .nilFunc)
 | 54 => some (1, 8, .nilFunc)
 | 63 => some (1, 8, .nilFunc)
 | 67 => some (2, 32, .agg #[.slice none 0 0, .int .i64 0])
 | 68 => some (2, 32, .agg #[.slice none 0 0, .int .i64 0])
 | 71 => some (2, 32, .agg #[.slice none 0 0, .int .i64 0])
 | 103 => some (1, 8, .nilFunc)
 | 104 => some (1, 8, .nilFunc)
 | 105 => some (2, 16, .agg #[.nilFunc, .nilFunc])
 | 106 => some (2, 16, .agg #[.nilFunc, .nilFunc])
 | 108 => some (1, 8, .nilFunc)
 | 115 => some (2, 32, .agg #[.int .u32 0, .slice none 0 0])
 | 116 => some (1, 24, .slice none 0 0)
 | 117 => some (1, 24, .slice none 0 0)
 | 126 => some (1, 8, .nilFunc)
 | 133 => some (1, 8, .nilFunc)
 | 136 => some (2, 16, .agg #[.int .i64 0, .int .i64 0])
 | 137 => some (2, 16, .agg #[.int .i64 0, .int .i64 0])
 | 138 => some (1, 8, .nilFunc)
 | 139 => some (1, 8, .nilFunc)
 | 146 => some (1, 8, .int .u64 0)
 | 148 => some (1, 8, .nilFunc)
 | 151 => some (1, 8, .nilFunc)
 | 157 => some (1, 8, .nilFunc)
 | 159 => some (1, 8, .nilFunc)
 | 165 => some (1, 8, .nilFunc)
 | 167 => some (1, 8, .nilFunc)
 | 168 => some (1, 8, .nilFunc)
 | 174 => some (1, 8, .map none)
 | 177 => some (1, 8, .nilFunc)
 | 181 => some (1, 24, .slice none 0 0)
 | 195 => some (1, 8, .int .u64 0)
 | 196 => some (29, 232, .agg #[.int .i64 0, .int .i64 0, .int .i64 0, .int .i64 0, .int .i64 0, .int .i64 0, .int .i64 0, .int .i64 0, .int .i64 0, .int .i64 0, .int .i64 0, .int .i64 0, .int .i64 0, .int .i64 0, .int .i64 0, .int .i64 0, .int .i64 0, .int .i64 0, .int .i64 0, .int .i64 0, .int .i64 0, .int .i64 0, .int .i64 0, .int .i64 0, .int .i64 0, .int .i64 0, .int .i64 0, .int .i64 0, .int .i64 0])
 | 202 => some (32, 32, .agg #[.int .u8 0, .int .u8 0, .int .u8 0, .int .u8 0, .int .u8 0, .int .u8 0, .int .u8 0, .int .u8 0, .int .u8 0, .int .u8 0, .int .u8 0, .int .u8 0, .int .u8 0, .int .u8 0, .int .u8 0, .int .u8 0, .int .u8 0, .int .u8 0, .int .u8 0, .int .u8 0, .int .u8 0, .int .u8 0, .int .u8 0, .int .u8 0, .int .u8 0, .int .u8 0, .int .u8 0, .int .u8 0, .int .u8 0, .int .u8 0, .int .u8 0, .int .u8 0])
 | 204 => some (1, 8, .int .i64 0)
 | 215 => some (1, 8, .nilFunc)
 | 216 => some (1, 8, .nilFunc)
 | 217 => some (1, 8, .pointer none)
 | 233 => some (1, 8, .pointer none)
 | _ => none
def F6y : Nat → Option (List (Nat × Nat))
 | 34 => some ([(0, 1), (1, 1), (2, 1), (3, 1), (4, 1), (5, 1)])
 | 35 => some ([(0, 1), (1, 1), (2, 1), (3, 1), (4, 1), (5, 1)])
 | 44 => some ([(0, 1), (1, 1)])
 | 45 => some ([(0, 1), (1, 1)])
 | 46 => some ([(0, 1), (1, 1)])
 | 47 => some ([(0, 1), (1, 1)])
 | 67 => some ([(0, 1), (1, 1)])
 | 68 => some ([(0, 1), (1, 1)])
 | 71 => some ([(0, 1), (1, 1)])
 | 105 => some ([(0, 1), (1, 1)])
 | 106 => some ([(0, 1), (1, 1)])
 | 115 => some ([(0, 1), (1, 1)])
 | 136 => some ([(0, 1), (1, 1)])
 | 137 => some ([(0, 1), (1, 1)])
 | _ => none
def G2p (t j : Nat) : Option Nat := (F6y t).bind fun l => (l[j]?).map (·.1)
theorem G6q : (Tryz.prog.info? 1).map (fun i => (i.size, i.bytes, i.zero)) = some (1, 8, some (.nilFunc)) := by kernel_rfl
theorem G6p : (Tryz.prog.info? 2).map (fun i => (i.size, i.bytes, i.zero)) = some (1, 8, some (.int .i64 0)) := by kernel_rfl
theorem G6o : (Tryz.prog.info? 3).map (fun i => (i.size, i.bytes, i.zero)) = some (1, 8, some (.int .i64 0)) := by kernel_rfl
theorem G6n : (Tryz.prog.info? 4).map (fun i => (i.size, i.bytes, i.zero)) = some (1, 1, some (.bool false)) := by kernel_rfl
theorem G6m : (Tryz.prog.info? 5).map (fun i => (i.size, i.bytes, i.zero)) = some (1, 1, some (.int .u8 0)) := by kernel_rfl
theorem G6l : (Tryz.prog.info? 9).map (fun i => (i.size, i.bytes, i.zero)) = some (1, 16, some (.string ⟨#[]⟩)) := by kernel_rfl
theorem G5l : (Tryz.prog.info? 12).map (fun i => (i.size, i.bytes, i.zero)) = some (1, 8, some (.int .u64 0)) := by kernel_rfl
theorem G5k : (Tryz.prog.info? 21).map (fun i => (i.size, i.bytes, i.zero)) = some (1, 4, some (.int .i32 0)) := by kernel_rfl
theorem G5j : (Tryz.prog.info? 22).map (fun i => (i.size, i.bytes, i.zero)) = some (1, 24, some (.slice none 0 0)) := by kernel_rfl
theorem G5i : (Tryz.prog.info? 23).map (fun i => (i.size, i.bytes, i.zero)) = some (1, 8, some (.nilFunc)) := by kernel_rfl
theorem G5h : (Tryz.prog.info? 24).map (fun i => (i.size, i.bytes, i.zero)) = some (1, 8, some (.nilFunc)) := by kernel_rfl
theorem G5g : (Tryz.prog.info? 25).map (fun i => (i.size, i.bytes, i.zero)) = some (1, 24, some (.slice none 0 0)) := by kernel_rfl
theorem G5f : (Tryz.prog.info? 26).map (fun i => (i.size, i.bytes, i.zero)) = some (1, 8, some (.int .i64 0)) := by kernel_rfl
theorem G5e : (Tryz.prog.info? 28).map (fun i => (i.size, i.bytes, i.zero)) = some (1, 8, some (.nilFunc)) := by kernel_rfl
theorem G5d : (Tryz.prog.info? 30).map (fun i => (i.size, i.bytes, i.zero)) = some (1, 8, some (.nilFunc)) := by kernel_rfl
theorem G5c : (Tryz.prog.info? 31).map (fun i => (i.size, i.bytes, i.zero)) = some (1, 8, some (.nilFunc)) := by kernel_rfl
theorem G5b : (Tryz.prog.info? 32).map (fun i => (i.size, i.bytes, i.zero)) = some (1, 8, some (.nilFunc)) := by kernel_rfl
theorem G5a : (Tryz.prog.info? 33).map (fun i => (i.size, i.bytes, i.zero)) = some (1, 24, some (.slice none 0 0)) := by kernel_rfl
theorem G4z : (Tryz.prog.info? 34).map (fun i => (i.size, i.bytes, i.zero)) = some (6, 104, some (.agg #[.int .i64 0, .int .i64 0, .string ⟨#[]⟩, .slice none 0 0, .slice none 0 0, .slice none 0 0])) := by kernel_rfl
theorem G4y : (Tryz.prog.info? 35).map (fun i => (i.size, i.bytes, i.zero)) = some (6, 104, some (.agg #[.int .i64 0, .int .i64 0, .string ⟨#[]⟩, .slice none 0 0, .slice none 0 0, .slice none 0 0])) := by kernel_rfl
theorem G4x : (Tryz.prog.info? 36).map (fun i => (i.size, i.bytes, i.zero)) = some (1, 8, some (.nilFunc)) := by kernel_rfl
theorem G4w : (Tryz.prog.info? 37).map (fun i => (i.size, i.bytes, i.zero)) = some (1, 8, some (.nilFunc)) := by kernel_rfl
theorem G4v : (Tryz.prog.info? 39).map (fun i => (i.size, i.bytes, i.zero)) = some (1, 8, some (.nilFunc)) := by kernel_rfl
theorem G4u : (Tryz.prog.info? 41).map (fun i => (i.size, i.bytes, i.zero)) = some (1, 8, some (.nilFunc)) := by kernel_rfl
theorem G4t : (Tryz.prog.info? 42).map (fun i => (i.size, i.bytes, i.zero)) = some (1, 8, some (.nilFunc)) := by kernel_rfl
theorem G4s : (Tryz.prog.info? 43).map (fun i => (i.size, i.bytes, i.zero)) = some (1, 4, some (.int .u32 0)) := by kernel_rfl
theorem G4r : (Tryz.prog.info? 44).map (fun i => (i.size, i.bytes, i.zero)) = some (2, 8, some (.agg #[.int .u32 0, .int .u32 0])) := by kernel_rfl
theorem G4q : (Tryz.prog.info? 45).map (fun i => (i.size, i.bytes, i.zero)) = some (2, 8, some (.agg #[.int .u32 0, .int .u32 0])) := by kernel_rfl
theorem G4p : (Tryz.prog.info? 46).map (fun i => (i.size, i.bytes, i.zero)) = some (2, 48, some (.agg #[.slice none 0 0, .slice none 0 0])) := by kernel_rfl
theorem G4o : (Tryz.prog.info? 47).map (fun i => (i.size, i.bytes, i.zero)) = some (2, 48, some (.agg #[.slice none 0 0, .slice none 0 0])) := by kernel_rfl
theorem G4n : (Tryz.prog.info? 53).map (fun i => (i.size, i.bytes, i.zero)) = some (1, 8, some (.nilFunc)) := by kernel_rfl
theorem G4m : (Tryz.prog.info? 54).map (fun i => (i.size, i.bytes, i.zero)) = some (1, 8, some (.nilFunc)) := by kernel_rfl
theorem G4l : (Tryz.prog.info? 63).map (fun i => (i.size, i.bytes, i.zero)) = some (1, 8, some (.nilFunc)) := by kernel_rfl
theorem G4k : (Tryz.prog.info? 67).map (fun i => (i.size, i.bytes, i.zero)) = some (2, 32, some (.agg #[.slice none 0 0, .int .i64 0])) := by kernel_rfl
theorem G4j : (Tryz.prog.info? 68).map (fun i => (i.size, i.bytes, i.zero)) = some (2, 32, some (.agg #[.slice none 0 0, .int .i64 0])) := by kernel_rfl
theorem G4i : (Tryz.prog.info? 71).map (fun i => (i.size, i.bytes, i.zero)) = some (2, 32, some (.agg #[.slice none 0 0, .int .i64 0])) := by kernel_rfl
theorem G1j : (Tryz.prog.info? 103).map (fun i => (i.size, i.bytes, i.zero)) = some (1, 8, some (.nilFunc)) := by kernel_rfl
theorem G1i : (Tryz.prog.info? 104).map (fun i => (i.size, i.bytes, i.zero)) = some (1, 8, some (.nilFunc)) := by kernel_rfl
theorem G1h : (Tryz.prog.info? 105).map (fun i => (i.size, i.bytes, i.zero)) = some (2, 16, some (.agg #[.nilFunc, .nilFunc])) := by kernel_rfl
theorem G1g : (Tryz.prog.info? 106).map (fun i => (i.size, i.bytes, i.zero)) = some (2, 16, some (.agg #[.nilFunc, .nilFunc])) := by kernel_rfl
theorem G1f : (Tryz.prog.info? 108).map (fun i => (i.size, i.bytes, i.zero)) = some (1, 8, some (.nilFunc)) := by kernel_rfl
theorem G1e : (Tryz.prog.info? 115).map (fun i => (i.size, i.bytes, i.zero)) = some (2, 32, some (.agg #[.int .u32 0, .slice none 0 0])) := by kernel_rfl
theorem G1d : (Tryz.prog.info? 116).map (fun i => (i.size, i.bytes, i.zero)) = some (1, 24, some (.slice none 0 0)) := by kernel_rfl
theorem G1c : (Tryz.prog.info? 117).map (fun i => (i.size, i.bytes, i.zero)) = some (1, 24, some (.slice none 0 0)) := by kernel_rfl
theorem G1b : (Tryz.prog.info? 126).map (fun i => (i.size, i.bytes, i.zero)) = some (1, 8, some (.nilFunc)) := by kernel_rfl
theorem G1a : (Tryz.prog.info? 133).map (fun i => (i.size, i.bytes, i.zero)) = some (1, 8, some (.nilFunc)) := by kernel_rfl
theorem G0z : (Tryz.prog.info? 136).map (fun i => (i.size, i.bytes, i.zero)) = some (2, 16, some (.agg #[.int .i64 0, .int .i64 0])) := by kernel_rfl
theorem G0y : (Tryz.prog.info? 137).map (fun i => (i.size, i.bytes, i.zero)) = some (2, 16, some (.agg #[.int .i64 0, .int .i64 0])) := by kernel_rfl
theorem G0x : (Tryz.prog.info? 138).map (fun i => (i.size, i.bytes, i.zero)) = some (1, 8, some (.nilFunc)) := by kernel_rfl
theorem G0w : (Tryz.prog.info? 139).map (fun i => (i.size, i.bytes, i.zero)) = some (1, 8, some (.nilFunc)) := by kernel_rfl
theorem G0v : (Tryz.prog.info? 146).map (fun i => (i.size, i.bytes, i.zero)) = some (1, 8, some (.int .u64 0)) := by kernel_rfl
theorem G0u : (Tryz.prog.info? 148).map (fun i => (i.size, i.bytes, i.zero)) = some (1, 8, some (.nilFunc)) := by kernel_rfl
theorem G0t : (Tryz.prog.info? 151).map (fun i => (i.size, i.bytes, i.zero)) = some (1, 8, some (.nilFunc)) := by kernel_rfl
theorem G0s : (Tryz.prog.info? 157).map (fun i => (i.size, i.bytes, i.zero)) = some (1, 8, some (.nilFunc)) := by kernel_rfl
theorem G0r : (Tryz.prog.info? 159).map (fun i => (i.size, i.bytes, i.zero)) = some (1, 8, some (.nilFunc)) := by kernel_rfl
theorem G0q : (Tryz.prog.info? 165).map (fun i => (i.size, i.bytes, i.zero)) = some (1, 8, some (.nilFunc)) := by kernel_rfl
theorem G0p : (Tryz.prog.info? 167).map (fun i => (i.size, i.bytes, i.zero)) = some (1, 8, some (.nilFunc)) := by kernel_rfl
theorem G0o : (Tryz.prog.info? 168).map (fun i => (i.size, i.bytes, i.zero)) = some (1, 8, some (.nilFunc)) := by kernel_rfl
theorem G0n : (Tryz.prog.info? 174).map (fun i => (i.size, i.bytes, i.zero)) = some (1, 8, some (.map none)) := by kernel_rfl
theorem G0m : (Tryz.prog.info? 177).map (fun i => (i.size, i.bytes, i.zero)) = some (1, 8, some (.nilFunc)) := by kernel_rfl
theorem G0l : (Tryz.prog.info? 181).map (fun i => (i.size, i.bytes, i.zero)) = some (1, 24, some (.slice none 0 0)) := by kernel_rfl
theorem G0k : (Tryz.prog.info? 195).map (fun i => (i.size, i.bytes, i.zero)) = some (1, 8, some (.int .u64 0)) := by kernel_rfl
theorem G0j : (Tryz.prog.info? 196).map (fun i => (i.size, i.bytes, i.zero)) = some (29, 232, some (.agg #[.int .i64 0, .int .i64 0, .int .i64 0, .int .i64 0, .int .i64 0, .int .i64 0, .int .i64 0, .int .i64 0, .int .i64 0, .int .i64 0, .int .i64 0, .int .i64 0, .int .i64 0, .int .i64 0, .int .i64 0, .int .i64 0, .int .i64 0, .int .i64 0, .int .i64 0, .int .i64 0, .int .i64 0, .int .i64 0, .int .i64 0, .int .i64 0, .int .i64 0, .int .i64 0, .int .i64 0, .int .i64 0, .int .i64 0])) := by kernel_rfl
theorem G0i : (Tryz.prog.info? 202).map (fun i => (i.size, i.bytes, i.zero)) = some (32, 32, some (.agg #[.int .u8 0, .int .u8 0, .int .u8 0, .int .u8 0, .int .u8 0, .int .u8 0, .int .u8 0, .int .u8 0, .int .u8 0, .int .u8 0, .int .u8 0, .int .u8 0, .int .u8 0, .int .u8 0, .int .u8 0, .int .u8 0, .int .u8 0, .int .u8 0, .int .u8 0, .int .u8 0, .int .u8 0, .int .u8 0, .int .u8 0, .int .u8 0, .int .u8 0, .int .u8 0, .int .u8 0, .int .u8 0, .int .u8 0, .int .u8 0, .int .u8 0, .int .u8 0])) := by kernel_rfl
theorem G0h : (Tryz.prog.info? 204).map (fun i => (i.size, i.bytes, i.zero)) = some (1, 8, some (.int .i64 0)) := by kernel_rfl
theorem G0g : (Tryz.prog.info? 215).map (fun i => (i.size, i.bytes, i.zero)) = some (1, 8, some (.nilFunc)) := by kernel_rfl
theorem G0f : (Tryz.prog.info? 216).map (fun i => (i.size, i.bytes, i.zero)) = some (1, 8, some (.nilFunc)) := by kernel_rfl
theorem G0e : (Tryz.prog.info? 217).map (fun i => (i.size, i.bytes, i.zero)) = some (1, 8, some (.pointer none)) := by kernel_rfl
theorem G0d : (Tryz.prog.info? 233).map (fun i => (i.size, i.bytes, i.zero)) = some (1, 8, some (.pointer none)) := by kernel_rfl
theorem A1i {t s b : Nat} {z : Value} (h : (Tryz.prog.info? t).map (fun i => (i.size, i.bytes, i.zero)) = some (s, b, some z)) : ∃ i, Tryz.prog.info? t = some i ∧ i.size = s ∧ i.bytes = b ∧ i.zero = some z := by
 obtain ⟨i, h1, h2⟩ := Option.map_eq_some_iff.1 h
 simp only [Prod.mk.injEq] at h2
 exact ⟨i, h1, h2.1, h2.2.1, h2.2.2⟩
theorem F3z : ∀ t d, G2n t = some d → Tryz.prog.underlying t = some d := by
 intro t d h
 unfold G2n at h
 split at h
 ·cases h; exact Tryz.underlying1
 ·cases h; exact Tryz.underlying2
 ·cases h; exact Tryz.underlying3
 ·cases h; exact Tryz.underlying4
 ·cases h; exact Tryz.underlying5
 ·cases h; exact Tryz.underlying9
 ·cases h; exact Tryz.underlying12
 ·cases h; exact Tryz.underlying20
 ·cases h; exact Tryz.underlying21
 ·cases h; exact Tryz.underlying22
 ·cases h; exact Tryz.underlying23
 ·cases h; exact Tryz.underlying24
 ·cases h; exact Tryz.underlying25
 ·cases h; exact Tryz.underlying26
 ·cases h; exact Tryz.underlying28
 ·cases h; exact Tryz.underlying30
 ·cases h; exact Tryz.underlying31
 ·cases h; exact Tryz.underlying32
 ·cases h; exact Tryz.underlying33
 ·cases h; exact Tryz.underlying36
 ·cases h; exact Tryz.underlying37
 ·cases h; exact Tryz.underlying39
 ·cases h; exact Tryz.underlying41
 ·cases h; exact Tryz.underlying42
 ·cases h; exact Tryz.underlying43
 ·cases h; exact Tryz.underlying53
 ·cases h; exact Tryz.underlying54
 ·cases h; exact Tryz.underlying63
 ·cases h; exact Tryz.underlying103
 ·cases h; exact Tryz.underlying104
 ·cases h; exact Tryz.underlying108
 ·cases h; exact Tryz.underlying116
 ·cases h; exact Tryz.underlying117
 ·cases h; exact Tryz.underlying126
 ·cases h; exact Tryz.underlying133
 ·cases h; exact Tryz.underlying138
 ·cases h; exact Tryz.underlying139
 ·cases h; exact Tryz.underlying146
 ·cases h; exact Tryz.underlying148
 ·cases h; exact Tryz.underlying151
 ·cases h; exact Tryz.underlying157
 ·cases h; exact Tryz.underlying159
 ·cases h; exact Tryz.underlying165
 ·cases h; exact Tryz.underlying167
 ·cases h; exact Tryz.underlying168
 ·cases h; exact Tryz.underlying174
 ·cases h; exact Tryz.underlying177
 ·cases h; exact Tryz.underlying181
 ·cases h; exact Tryz.underlying195
 ·cases h; exact Tryz.underlying196
 ·cases h; exact Tryz.underlying202
 ·cases h; exact Tryz.underlying204
 ·cases h; exact Tryz.underlying215
 ·cases h; exact Tryz.underlying216
 ·cases h; exact Tryz.underlying217
 ·cases h; exact Tryz.underlying233
 ·cases h
theorem F4a : ∀ t s b z, G2o t = some (s, b, z) → ∃ i, Tryz.prog.info? t = some i ∧ i.size = s ∧ i.bytes = b ∧ i.zero = some z := by
 intro t s b z h
 unfold G2o at h
 split at h
 ·cases h; exact A1i G6q
 ·cases h; exact A1i G6p
 ·cases h; exact A1i G6o
 ·cases h; exact A1i G6n
 ·cases h; exact A1i G6m
 ·cases h; exact A1i G6l
 ·cases h; exact A1i G5l
 ·cases h; exact A1i G5k
 ·cases h; exact A1i G5j
 ·cases h; exact A1i G5i
 ·cases h; exact A1i G5h
 ·cases h; exact A1i G5g
 ·cases h; exact A1i G5f
 ·cases h; exact A1i G5e
 ·cases h; exact A1i G5d
 ·cases h; exact A1i G5c
 ·cases h; exact A1i G5b
 ·cases h; exact A1i G5a
 ·cases h; exact A1i G4z
 ·cases h; exact A1i G4y
 ·cases h; exact A1i G4x
 ·cases h; exact A1i G4w
 ·cases h; exact A1i G4v
 ·cases h; exact A1i G4u
 ·cases h; exact A1i G4t
 ·cases h; exact A1i G4s
 ·cases h; exact A1i G4r
 ·cases h; exact A1i G4q
 ·cases h; exact A1i G4p
 ·cases h; exact A1i G4o
 ·cases h; exact A1i G4n
 ·cases h; exact A1i G4m
 ·cases h; exact A1i G4l
 ·cases h; exact A1i G4k
 ·cases h; exact A1i G4j
 ·cases h; exact A1i G4i
 ·cases h; exact A1i G1j
 ·cases h; exact A1i G1i
 ·cases h; exact A1i G1h
 ·cases h; exact A1i G1g
 ·cases h; exact A1i G1f
 ·cases h; exact A1i G1e
 ·cases h; exact A1i G1d
 ·cases h; exact A1i G1c
 ·cases h; exact A1i G1b
 ·cases h; exact A1i G1a
 ·cases h; exact A1i G0z
 ·cases h; exact A1i G0y
 ·cases h; exact A1i G0x
 ·cases h; exact A1i G0w
 ·cases h; exact A1i G0v
 ·cases h; exact A1i G0u
 ·cases h; exact A1i G0t
 ·cases h; exact A1i G0s
 ·cases h; exact A1i G0r
 ·cases h; exact A1i G0q
 ·cases h; exact A1i G0p
 ·cases h; exact A1i G0o
 ·cases h; exact A1i G0n
 ·cases h; exact A1i G0m
 ·cases h; exact A1i G0l
 ·cases h; exact A1i G0k
 ·cases h; exact A1i G0j
 ·cases h; exact A1i G0i
 ·cases h; exact A1i G0h
 ·cases h; exact A1i G0g
 ·cases h; exact A1i G0f
 ·cases h; exact A1i G0e
 ·cases h; exact A1i G0d
 ·cases h
theorem G4h : ∃ fs, Tryz.prog.underlying 34 = some (.struct fs) ∧ fs.toList.mapM (fun f => (Tryz.prog.info? f.type).map fun i => (f.offset, i.size)) = some [(0, 1), (1, 1), (2, 1), (3, 1), (4, 1), (5, 1)] := ⟨_, Tryz.underlying34, by kernel_rfl⟩
theorem G4g : ∃ fs, Tryz.prog.underlying 35 = some (.struct fs) ∧ fs.toList.mapM (fun f => (Tryz.prog.info? f.type).map fun i => (f.offset, i.size)) = some [(0, 1), (1, 1), (2, 1), (3, 1), (4, 1), (5, 1)] := ⟨_, Tryz.underlying35, by kernel_rfl⟩
theorem G4f : ∃ fs, Tryz.prog.underlying 44 = some (.struct fs) ∧ fs.toList.mapM (fun f => (Tryz.prog.info? f.type).map fun i => (f.offset, i.size)) = some [(0, 1), (1, 1)] := ⟨_, Tryz.underlying44, by kernel_rfl⟩
theorem G4e : ∃ fs, Tryz.prog.underlying 45 = some (.struct fs) ∧ fs.toList.mapM (fun f => (Tryz.prog.info? f.type).map fun i => (f.offset, i.size)) = some [(0, 1), (1, 1)] := ⟨_, Tryz.underlying45, by kernel_rfl⟩
theorem G4d : ∃ fs, Tryz.prog.underlying 46 = some (.struct fs) ∧ fs.toList.mapM (fun f => (Tryz.prog.info? f.type).map fun i => (f.offset, i.size)) = some [(0, 1), (1, 1)] := ⟨_, Tryz.underlying46, by kernel_rfl⟩
theorem G4c : ∃ fs, Tryz.prog.underlying 47 = some (.struct fs) ∧ fs.toList.mapM (fun f => (Tryz.prog.info? f.type).map fun i => (f.offset, i.size)) = some [(0, 1), (1, 1)] := ⟨_, Tryz.underlying47, by kernel_rfl⟩
theorem G4b : ∃ fs, Tryz.prog.underlying 67 = some (.struct fs) ∧ fs.toList.mapM (fun f => (Tryz.prog.info? f.type).map fun i => (f.offset, i.size)) = some [(0, 1), (1, 1)] := ⟨_, Tryz.underlying67, by kernel_rfl⟩
theorem G4a : ∃ fs, Tryz.prog.underlying 68 = some (.struct fs) ∧ fs.toList.mapM (fun f => (Tryz.prog.info? f.type).map fun i => (f.offset, i.size)) = some [(0, 1), (1, 1)] := ⟨_, Tryz.underlying68, by kernel_rfl⟩
theorem G3z : ∃ fs, Tryz.prog.underlying 71 = some (.struct fs) ∧ fs.toList.mapM (fun f => (Tryz.prog.info? f.type).map fun i => (f.offset, i.size)) = some [(0, 1), (1, 1)] := ⟨_, Tryz.underlying71, by kernel_rfl⟩
theorem G0a : ∃ fs, Tryz.prog.underlying 105 = some (.struct fs) ∧ fs.toList.mapM (fun f => (Tryz.prog.info? f.type).map fun i => (f.offset, i.size)) = some [(0, 1), (1, 1)] := ⟨_, Tryz.underlying105, by kernel_rfl⟩
theorem F9z : ∃ fs, Tryz.prog.underlying 106 = some (.struct fs) ∧ fs.toList.mapM (fun f => (Tryz.prog.info? f.type).map fun i => (f.offset, i.size)) = some [(0, 1), (1, 1)] := ⟨_, Tryz.underlying106, by kernel_rfl⟩
theorem F9y : ∃ fs, Tryz.prog.underlying 115 = some (.struct fs) ∧ fs.toList.mapM (fun f => (Tryz.prog.info? f.type).map fun i => (f.offset, i.size)) = some [(0, 1), (1, 1)] := ⟨_, Tryz.underlying115, by kernel_rfl⟩
theorem F9x : ∃ fs, Tryz.prog.underlying 136 = some (.struct fs) ∧ fs.toList.mapM (fun f => (Tryz.prog.info? f.type).map fun i => (f.offset, i.size)) = some [(0, 1), (1, 1)] := ⟨_, Tryz.underlying136, by kernel_rfl⟩
theorem F9w : ∃ fs, Tryz.prog.underlying 137 = some (.struct fs) ∧ fs.toList.mapM (fun f => (Tryz.prog.info? f.type).map fun i => (f.offset, i.size)) = some [(0, 1), (1, 1)] := ⟨_, Tryz.underlying137, by kernel_rfl⟩
theorem E1y : ∀ t l, F6y t = some l → ∃ fs, Tryz.prog.underlying t = some (.struct fs) ∧ fs.toList.mapM (fun f => (Tryz.prog.info? f.type).map fun i => (f.offset, i.size)) = some l := by
 intro t l h
 unfold F6y at h
 split at h
 ·cases h; exact G4h
 ·cases h; exact G4g
 ·cases h; exact G4f
 ·cases h; exact G4e
 ·cases h; exact G4d
 ·cases h; exact G4c
 ·cases h; exact G4b
 ·cases h; exact G4a
 ·cases h; exact G3z
 ·cases h; exact G0a
 ·cases h; exact F9z
 ·cases h; exact F9y
 ·cases h; exact F9x
 ·cases h; exact F9w
 ·cases h
theorem E8b : ∀ t l, F6y t = some l → l.all (fun x => x.2 != 0) = true := by
 intro t l h
 unfold F6y at h
 split at h
 ·cases h; rfl
 ·cases h; rfl
 ·cases h; rfl
 ·cases h; rfl
 ·cases h; rfl
 ·cases h; rfl
 ·cases h; rfl
 ·cases h; rfl
 ·cases h; rfl
 ·cases h; rfl
 ·cases h; rfl
 ·cases h; rfl
 ·cases h; rfl
 ·cases h; rfl
 ·cases h
theorem D7g {P : Program} : ∀ (fs : List Field) (l : List (Nat × Nat)), fs.mapM (fun f => (P.info? f.type).map fun i => (f.offset, i.size)) = some l → ∀ (j : Nat) (x : Nat × Nat), l[j]? = some x → ∃ fl i, fs[j]? = some fl ∧ P.info? fl.type = some i ∧ fl.offset = x.1 ∧ i.size = x.2
 | [], l, h, j, x, hx => by simp at h; subst h; simp at hx
 | f :: fs, l, h, j, x, hx => by
  simp only [List.mapM_cons, Option.bind_eq_bind, Option.pure_def] at h
  cases hi : P.info? f.type with
  | none => simp [hi] at h
  | some i =>
   cases hr : fs.mapM (fun f => (P.info? f.type).map fun i => (f.offset, i.size)) with
   | none => simp [hi, hr] at h
   | some rest =>
    simp [hi, hr] at h
    subst h
    cases j with
    | zero => simp at hx; subst hx; exact ⟨f, i, rfl, hi, rfl, rfl⟩
    | succ j => simpa using D7g fs rest hr j x (by simpa using hx)
theorem F4b : ∀ t j o, G2p t j = some o → ∃ fs fl i, Tryz.prog.underlying t = some (.struct fs) ∧ fs[j]? = some fl ∧ fl.offset = o ∧ Tryz.prog.info? fl.type = some i ∧ i.size ≠ 0 := by
 intro t j o h
 unfold G2p at h
 obtain ⟨l, h1, h2⟩ := Option.bind_eq_some_iff.1 h
 obtain ⟨x, h3, rfl⟩ := Option.map_eq_some_iff.1 h2
 obtain ⟨fs, h4, h5⟩ := E1y t l h1
 obtain ⟨fl, i, h6, h7, h8, h9⟩ := D7g fs.toList l h5 j x h3
 refine ⟨fs, fl, i, h4, by simpa using h6, h8, h7, ?_⟩
 have := List.all_eq_true.1 (E8b t l h1) x (List.mem_of_getElem? h3)
 rw [h9]
 simpa using this
theorem G6s (a b c d : Int) (w : World) : (Op.equalIn 10000 45 (.agg #[.int .u32 a, .int .u32 b]) (.agg #[.int .u32 c, .int .u32 d])).run Tryz.prog w = .ok (a == c && b == d) w := by
 have u := Tryz.underlying43
 have hS : Tryz.prog.underlying 45 = some (.struct (Tryz.prog.fieldsOf 45)) := by kernel_rfl
 have hp : Tryz.prog.stoodInHeld 45 = false := by kernel_rfl
 obtain ⟨i, h1, h2⟩ : ∃ i, Tryz.prog.info? 43 = some i ∧ i.size = 1 := by
  obtain ⟨i, h1, h2⟩ := Option.map_eq_some_iff.1 (show (Tryz.prog.info? 43).map (fun i => i.size) = some 1 by kernel_rfl)
  exact ⟨i, h1, h2⟩
 have hz : ∀ w, (sizeOf 43).run Tryz.prog w = .ok 1 w := fun w => by simp [sizeOf, typeInfo, h1, h2]
 rw [show (10000 : Nat) = 9999 + 1 from rfl, run_equalIn_agg w 9999 45 _ _ hS hp]
 simp only [Program.fieldsOf, Tryz.underlying45]
 have hA : ∀ w, (isAgg 43).run Tryz.prog w = .ok false w := fun w => by simp [isAgg, run_underlying u]
 have e : ∀ (a c : Int) (w : World), (Op.equalIn 9999 43 (.int .u32 a) (.int .u32 c)).run Tryz.prog w = .ok (a == c) w := fun a c w => run_equalIn_int w 9998 43 .u32 .u32 a c u
 simp [Op.eqFields, part, hA, hz, e]
 by_cases h1 : a = c <;> by_cases h2 : b = d <;> simp [h1, h2]
instance : Go.Hy.Tab Tryz.prog := ⟨G2n, F3z, G2o, F4a, G2p, F4b, F6y, E1y, by kernel_rfl, 45, G6s, by kernel_rfl⟩
noncomputable def fC' : Array Field := match Tryz.prog.underlying 45 with | some (.struct fs) => fs | _ => #[]
noncomputable def fT' : Array Field := match Tryz.prog.underlying 35 with | some (.struct fs) => fs | _ => #[]
noncomputable def fB' : Array Field := match Tryz.prog.underlying 47 with | some (.struct fs) => fs | _ => #[]
noncomputable instance : Go.Hy.TyF Tryz.prog := { tI := 3, tS := 9, tU := 43, tC := 45, tT := 35, tB := 47, lC := 25, lT := 33, lB := 22, fC := fC', fT := fT', fB := fB', uI := Tryz.underlying3, uS := Tryz.underlying9, uU := Tryz.underlying43, uC := by kernel_rfl, uT := by kernel_rfl, uB := by kernel_rfl, ulC := Tryz.underlying25, ulT := Tryz.underlying33, ulB := Tryz.underlying22, pC := by kernel_rfl, pT := by kernel_rfl, pB := by kernel_rfl, c1 := ⟨by kernel_rfl, by kernel_rfl, by kernel_rfl, by kernel_rfl, by kernel_rfl, by kernel_rfl⟩, c2 := ⟨by kernel_rfl, by kernel_rfl, by kernel_rfl⟩, b2 := ⟨by kernel_rfl, by kernel_rfl, by kernel_rfl⟩ }
theorem laid' : laidOutB Tryz.prog = true := by kernel_rfl
noncomputable instance : Go.Hy.TabM Tryz.prog := { law := deep_law_laid laid' (m := 3) (by omega) (of_decide_eq_true (by kernel_rfl)) (by kernel_rfl) (by kernel_rfl), kt := by kernel_rfl, names := by kernel_rfl, npos := of_decide_eq_true (by kernel_rfl) }
end Go.Proofs.YtpfjlbopkhdebaaGreatDoor.Hy
namespace Go.Hy
theorem size_pos' (t : T) : 1 ≤ size t := by
 rw [size_eq]
 have : ∀ (l : List Part) (a : Nat), a ≤ l.foldl (fun a p => a + size p.1) a := by
  intro l
  induction l with
  | nil => intro a; exact Nat.le_refl _
  | cons p l ih => intro a; exact Nat.le_trans (Nat.le_add_right _ _) (ih _)
 exact this _ _
end Go.Hy
namespace Go.Hy
theorem B1t (k i : Int) : 0 ≤ (binds k i).1 ∧ (binds k i).1 ≤ 1 ∧ 0 ≤ (binds k i).2 ∧ (binds k i).2 ≤ 1 := by
 unfold binds
 repeat (first | split | (refine ⟨?_, ?_, ?_, ?_⟩ <;> simp))
theorem C7c {t : T} {p : Part} (h : p ∈ parts t) : 0 ≤ p.2.1 ∧ p.2.1 ≤ 1 ∧ 0 ≤ p.2.2 ∧ p.2.2 ≤ 1 := by
 unfold parts at h
 rcases List.mem_append.mp h with h | h
 ·have : ∀ (ks : List T) (i : Nat), p ∈ A4r t.kind i ks → 0 ≤ p.2.1 ∧ p.2.1 ≤ 1 ∧ 0 ≤ p.2.2 ∧ p.2.2 ≤ 1 := by
   intro ks
   induction ks with
   | nil => intro i h; simp [A4r] at h
   | cons k ks ih =>
    intro i h
    rcases List.mem_cons.mp h with e | h
    ·subst e; exact B1t _ _
    ·exact ih _ h
  exact this _ _ h
 ·have : ∀ (bs : List Br), p ∈ A3g t.kind bs → 0 ≤ p.2.1 ∧ p.2.1 ≤ 1 ∧ 0 ≤ p.2.2 ∧ p.2.2 ≤ 1 := by
   intro bs
   induction bs with
   | nil => intro h; simp [A3g] at h
   | cons b bs ih =>
    intro h
    rcases List.mem_append.mp h with h | h
    ·obtain ⟨k, _, e⟩ := List.mem_map.mp h
     subst e
     show 0 ≤ (0 : Int) ∧ (0 : Int) ≤ 1 ∧ 0 ≤ more t.kind ∧ more t.kind ≤ 1
     unfold more
     split <;> omega
    ·exact ih h
  exact this _ h
theorem B1l {t : T} {p : Part} (h : p ∈ parts t) : size p.1 < size t := by
 obtain ⟨m, hm, e⟩ := List.mem_iff_getElem.mp h
 have h1 := B1a (t := t) (m := m) (p := p) (by rw [List.getElem?_eq_getElem hm, e])
 have h2 : 1 ≤ A2h t m := by
  unfold A2h B5k
  have : ∀ (l : List Part) (a : Nat), a ≤ l.foldl (fun a p => a + size p.1) a := by
   intro l
   induction l with
   | nil => intro a; exact Nat.le_refl _
   | cons p l ih => intro a; exact Nat.le_trans (Nat.le_add_right _ _) (ih _)
  exact this _ _
 omega
end Go.Hy
namespace Go.Hy
@[simp] theorem qE_def (q : QP) : qE q = RT q.1.1 q.1.2.1 q.1.2.2.1 q.1.2.2.2 := rfl
@[simp] theorem ipE_def (q : IP) : ipE q = IL q.1 q.2 := rfl
end Go.Hy
namespace Go.Hy
section
variable {α : Type} {B : A6z} {Γ : List Fact} {Ms : List Res} {w : World} {E : α → Fact} {l : List α}
end
end Go.Hy
namespace Go.Hy
theorem B6p {t : T} (h : A3v t = 0) : size t ≤ 20000 := by
 unfold A3v at h
 split at h
 ·rename_i hs; exact absurd h hs
 ·rename_i hs
  simp only [ne_eq, Decidable.not_not, sized] at hs
  split at hs
  ·cases hs
  ·split at hs
   ·cases hs
   ·omega
section
variable {tn : Bool} {pn : Nat} {P : Program} [Tab P] {f : FuncId} {R : Ending → World → Prop} {B : A6z} {n : Fz} {K : List Item} {ops : Array Oper} {i : Nat} {l fin : List Nat} {σ : Nat → Value} {Γ : List Fact} {Ms Ms2 : List Res}
variable {dst : Option Tmp} {op : Op} {ty : TypeId} {pos : String} {after : Array Edge} {v : Value} {x y z : Operand}
theorem F2v {t e : TypeId} {d : TypeDesc} {g i' n' : Nat} {a : SH} {ls : List Int} (k_ : RgT P f R B n K ops l (A1u σ dst (.int .i64 (ls.getD i' 0))) Γ Ms) (hx : ev σ x = .pointer (some ⟨g, 0 + i' * 1, none⟩) := by exact wn_) (hma : A1d 1 e a n' (A3q ls) ∈ Ms ∧ a.1 = some ⟨g, 0, none⟩ := by exact ma1_) (hu : Tab.und P t = some d := by rfl) (hd' : (match d with | .struct _ | .array _ _ => true | _ => false) = false := by rfl) (hlt : i' < ls.length := by first | omega | (simp only [List.length_map, List.length_set]; omega) | (simp; omega)) (hd : A0t n dst = true := by rfl) : OpT P f R B n K ops l (opr dst (.load t x) ty) σ Γ Ms := A7x (F9n (F := B0r) B4i 0 hx hma.1 hma.2 hu hd' hlt rfl) hd k_
theorem F8z {t e : TypeId} {bt g i' n' : Nat} {a : SH} {zv : Value} {ls : List Int} (u : Int) (k_ : RgT P f R B n K ops l σ Γ (A1d 1 e a n' (A3q (ls.set i' u)) :: Ms2)) (hx : ev σ x = .pointer (some ⟨g, 0 + i' * 1, none⟩) := by exact wn_) (hm : Ms.Perm (A1d 1 e a n' (A3q ls) :: Ms2) := by first | exact C0m | exact A0y | exact A3o | exact A2x | exact A3m | exact A4i | exact A3e | exact A9f | exact B2y) (ha : a.1 = some ⟨g, 0, none⟩ := by assumption) (hn : n' = ls.length := by first | rfl | omega | (simp; done) | (simp; omega)) (hy : (ev σ y).cells = (B0r u).toArray := by exact wn_) (hi : Tab.inf P t = some (1, bt, zv) := by rfl) (hlt : i' < ls.length := by first | omega | (simp only [List.length_map, List.length_set]; omega) | (simp; omega)) : OpT P f R B n K ops l (opr none (.store t x y) ty) σ Γ Ms := B4u (F4c (F := B0r) B4i u hx hm ha hn hy hi rfl hlt) k_
end
section
variable {tn : Bool} {pn : Nat} {P : Program} [Tab P] {f : FuncId} {R : Ending → World → Prop} {B : A6z} {n : Fz} {K : List Item} {ops : Array Oper} {i : Nat} {l fin : List Nat} {σ : Nat → Value} {Γ : List Fact} {Ms Ms2 : List Res}
variable {dst : Option Tmp} {ty : TypeId}
theorem F3t {c : FuncId} {args cap al : List Value} {av : Array Operand} {ts : Array TypeId} {g : Operand} {pre : List Fact} {X : Type} {val : X → Value} {N : X → List Fact} {Ms1 : X → List Res}
  (hc : ∀ (args : Array Value) (w : World), (callFunc c args).run P w = .ok (.enter c args) w) (hsp : Spec P c al.toArray pre [] val N Ms1) (kk : ∀ x, NV tn pn P f R B n K ops fin l (A1u σ dst (val x)) (N x ++ Γ) (Ms1 x ++ Ms))
  (hg : ev σ g = .func (.func c) #[] cap.toArray := by rfl) (ha : av.toList.map (ev σ) = args := by rfl) (hal : args ++ cap = al := by rfl) (hpre : ∀ F, F ∈ pre → F ∈ Γ := by first | (simp; done) | (simp +contextual; done)) (hd : A0t n dst = true := by rfl) : NvT tn pn P f R B n K ops fin i l dst (.call { callee := .value g, args := av, argTypes := ts }) ty σ Γ Ms :=
 E5a (F3h hg ha hc) (hal ▸ hsp) hpre rfl rfl hd kk
end
end Go.Hy
namespace Go.Proofs
open Go.Shelf
def Tryz.C1n : Go.Shelf.Ren := ⟨fun | 6 => 170 | 15 => 222 | 14 => 221 | 28 => 245 | 29 => 246 | 20 => 237 | 21 => 238 | 22 => 239 | 23 => 240 | 24 => 241 | 25 => 242 | 26 => 243 | 27 => 244 | 46 => 257 | 47 => 258 | 48 => 259 | 49 => 260 | 50 => 261 | 57 => 264 | n => n, fun | 22 => 25 | 24 => 45 | 25 => 177 | 3 => 3 | 39 => 146 | 0 => 0 | 53 => 43 | 55 => 195 | 4 => 4 | 46 => 205 | 45 => 204 | 50 => 209 | 5 => 5 | 9 => 9 | 66 => 213 | 70 => 217 | 76 => 220 | 77 => 163 | n => n, fun | n => n⟩
theorem Tryz.F7s : Go.Proofs.SlLaysF0.n6 Tryz.prog Tryz.C1n := {
 mixed := by kernel_rfl
 f6 := ⟨Tryz.f170.name, by decide, Tryz.func170.trans (congrArg some (by kernel_rfl))⟩
 f14 := ⟨Tryz.f221.name, by decide, Tryz.func221.trans (congrArg some (by kernel_rfl))⟩
 f15 := Tryz.func222.trans (congrArg some (by kernel_rfl))
 f20 := ⟨Tryz.f237.name, by decide, Tryz.func237.trans (congrArg some (by kernel_rfl))⟩
 f21 := ⟨Tryz.f238.name, by decide, Tryz.func238.trans (congrArg some (by kernel_rfl))⟩
 f22 := ⟨Tryz.f239.name, by decide, Tryz.func239.trans (congrArg some (by kernel_rfl))⟩
 f23 := ⟨Tryz.f240.name, by decide, Tryz.func240.trans (congrArg some (by kernel_rfl))⟩
 f24 := ⟨Tryz.f241.name, by decide, Tryz.func241.trans (congrArg some (by kernel_rfl))⟩
 f25 := ⟨Tryz.f242.name, by decide, Tryz.func242.trans (congrArg some (by kernel_rfl))⟩
 f26 := ⟨Tryz.f243.name, by decide, Tryz.func243.trans (congrArg some (by kernel_rfl))⟩
 f27 := ⟨Tryz.f244.name, by decide, Tryz.func244.trans (congrArg some (by kernel_rfl))⟩
 f28 := Tryz.func245.trans (congrArg some (by kernel_rfl))
 f29 := Tryz.func246.trans (congrArg some (by kernel_rfl))
 f46 := ⟨Tryz.f257.name, by decide, Tryz.func257.trans (congrArg some (by kernel_rfl))⟩
 f47 := Tryz.func258.trans (congrArg some (by kernel_rfl))
 f48 := Tryz.func259.trans (congrArg some (by kernel_rfl))
 f49 := ⟨Tryz.f260.name, by decide, Tryz.func260.trans (congrArg some (by kernel_rfl))⟩
 f50 := ⟨Tryz.f261.name, by decide, Tryz.func261.trans (congrArg some (by kernel_rfl))⟩
 f57 := ⟨Tryz.f264.name, by decide, Tryz.func264.trans (congrArg some (by kernel_rfl))⟩
 t0 := Tryz.underlying0
 a0 := Tryz.isAgg0
 z0 := Tryz.sizeOf0
 v0 := Tryz.zeroValue0
 t3 := Tryz.underlying3
 a3 := Tryz.isAgg3
 z3 := Tryz.sizeOf3
 v3 := Tryz.zeroValue3
 t4 := Tryz.underlying4
 a4 := Tryz.isAgg4
 z4 := Tryz.sizeOf4
 v4 := Tryz.zeroValue4
 t5 := Tryz.underlying5
 a5 := Tryz.isAgg5
 z5 := Tryz.sizeOf5
 v5 := Tryz.zeroValue5
 t9 := Tryz.underlying9
 a9 := Tryz.isAgg9
 z9 := Tryz.sizeOf9
 v9 := Tryz.zeroValue9
 t22 := Tryz.underlying25
 a22 := Tryz.isAgg25
 z22 := Tryz.sizeOf25
 v22 := Tryz.zeroValue25
 t25 := Tryz.underlying177
 a25 := Tryz.isAgg177
 z25 := Tryz.sizeOf177
 v25 := Tryz.zeroValue177
 t39 := Tryz.underlying146
 a39 := Tryz.isAgg146
 z39 := Tryz.sizeOf146
 v39 := Tryz.zeroValue146
 t45 := Tryz.underlying204
 a45 := Tryz.isAgg204
 z45 := Tryz.sizeOf204
 v45 := Tryz.zeroValue204
 t46 := Tryz.underlying205
 a46 := Tryz.isAgg205
 z46 := Tryz.sizeOf205
 v46 := Tryz.zeroValue205
 t50 := Tryz.underlying209
 a50 := Tryz.isAgg209
 z50 := Tryz.sizeOf209
 v50 := Tryz.zeroValue209
 t53 := Tryz.underlying43
 a53 := Tryz.isAgg43
 z53 := Tryz.sizeOf43
 v53 := Tryz.zeroValue43
 t55 := Tryz.underlying195
 a55 := Tryz.isAgg195
 z55 := Tryz.sizeOf195
 v55 := Tryz.zeroValue195
 t66 := Tryz.underlying213
 a66 := Tryz.isAgg213
 z66 := Tryz.sizeOf213
 v66 := Tryz.zeroValue213
 t70 := Tryz.underlying217
 a70 := Tryz.isAgg217
 z70 := Tryz.sizeOf217
 v70 := Tryz.zeroValue217
 t76 := Tryz.underlying220
 a76 := Tryz.isAgg220
 z76 := Tryz.sizeOf220
 v76 := Tryz.zeroValue220
 t77 := Tryz.underlying163
 a77 := Tryz.isAgg163
 z77 := Tryz.sizeOf163
 v77 := Tryz.zeroValue163 }
end Go.Proofs
