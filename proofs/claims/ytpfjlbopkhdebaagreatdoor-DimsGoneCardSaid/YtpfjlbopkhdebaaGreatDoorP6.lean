/- Contracts of this program's functions and the laws that they need: a separation logic over the machine's rules, one theorem each (partly printed by a program of this repository). -/
import Derived.Lib.TrailingZeros
import Derived.LaidMore
import Derived.OpenShut
import Derived.Stop.Joined
import Derived.MakeChecks
import Derived.Shelf.Spec.TrailingZeros
import Derived.RangeFuncNested
import Derived.RangeFuncBound
import Derived.RangeFuncCalls
import Derived.RangeFuncLeaves
import Derived.RangeFuncBox
import Derived.Shelf.Abstract
import Derived.Shelf.RegionOpen
import Derived.WalkKit
import Derived.OwnWalkIn
import Derived.TacticsInMore
import Derived.LoopNIn
import Derived.LoopIn
import Derived.Maps.AppendAt
import Derived.Test.YtpfjlbopkhdebaaGreatDoorP3
import Derived.Test.YtpfjlbopkhdebaaGreatDoorP5
set_option linter.unusedVariables false
set_option linter.unusedSimpArgs false
set_option linter.unusedSectionVars false
namespace Go.Hy
/-! ### A mask's least number, and the rest -/
theorem listM_sort (s : Nat) : (listM s).Pairwise fun a b => a < b := by
  unfold listM listTo
  rw [List.pairwise_map]
  refine List.Pairwise.filter _ ?_
  exact List.pairwise_lt_range.imp fun h => by omega
theorem listM_and (s : Nat) : listM (s &&& 16777215) = listM s := by
  refine sorted_ext (listM_sort _) (listM_sort _) fun x => ?_
  rw [listTo_mem, listTo_mem, and24_bit]
  constructor
  · rintro ⟨h1, h2, h3⟩
    rw [Bool.and_eq_true] at h3
    exact ⟨h1, h2, h3.2⟩
  · rintro ⟨h1, h2, h3⟩
    exact ⟨h1, h2, by rw [h3, decide_eq_true (by omega)]; rfl⟩
theorem low_split {r : Nat} (h0 : ¬ r = 0) (h : r < 4294967296) : ∃ m, r = 2 ^ Lib.ctz 32 r * (2 * m + 1) ∧ Lib.ctz 32 r < 32 := by
  obtain ⟨m, h1, h2⟩ := Lib.ctzFrom_spec 32 r (by omega) h
  have e : Lib.ctz 32 r = Lib.ctzFrom 32 r := by unfold Lib.ctz; rw [if_neg h0]
  rw [e]
  exact ⟨m, h1, h2⟩
theorem low_bit {r k m i : Nat} (h : r = 2 ^ k * (2 * m + 1)) : (r &&& (r - 1)).testBit i = (r.testBit i && decide (i ≠ k)) ∧ r.testBit k = true ∧ (i < k → r.testBit i = false) := by
  have hp : 0 < 2 ^ k := Nat.pow_pos (by decide)
  have e1 : r = 2 ^ (k + 1) * m + 2 ^ k := by rw [h, Nat.pow_succ, Nat.mul_add, Nat.mul_assoc]; simp
  have e2 : r - 1 = 2 ^ (k + 1) * m + (2 ^ k - 1) := by omega
  have hb1 : 2 ^ k < 2 ^ (k + 1) := by rw [Nat.pow_succ]; omega
  have hb2 : 2 ^ k - 1 < 2 ^ (k + 1) := by omega
  have t1 : ∀ j, r.testBit j = if j < k + 1 then (2 ^ k).testBit j else m.testBit (j - (k + 1)) := fun j => by rw [e1]; exact Nat.testBit_two_pow_mul_add m hb1 j
  have t2 : ∀ j, (r - 1).testBit j = if j < k + 1 then (2 ^ k - 1).testBit j else m.testBit (j - (k + 1)) := fun j => by rw [e2]; exact Nat.testBit_two_pow_mul_add m hb2 j
  refine ⟨?_, by rw [t1, if_pos (by omega), Nat.testBit_two_pow_self], fun hi => by rw [t1, if_pos (by omega), Nat.testBit_two_pow_of_ne (by omega)]⟩
  rw [Nat.testBit_and, t1, t2]
  by_cases hi : i < k + 1
  · rw [if_pos hi, if_pos hi, Nat.testBit_two_pow, Nat.testBit_two_pow_sub_one]
    by_cases hk : k = i
    · subst hk; simp
    · simp [hk]
  · rw [if_neg hi, if_neg hi]
    have : i ≠ k := by omega
    simp [this]
theorem listM_low {r : Nat} (h0 : ¬ r = 0) (h : r < 16777216) : Lib.ctz 32 r < 24 ∧ listM r = (Lib.ctz 32 r : Int) :: listM (r &&& (r - 1)) := by
  obtain ⟨m, h1, h2⟩ := low_split h0 (by omega)
  have hb := fun i => low_bit (i := i) h1
  have hk : Lib.ctz 32 r < 24 := Decidable.byContradiction fun hn => by
    have h3 := Nat.ge_two_pow_of_testBit (hb 0).2.1
    have h4 : 2 ^ 24 ≤ 2 ^ Lib.ctz 32 r := Nat.pow_le_pow_right (by decide) (by omega)
    omega
  refine ⟨hk, sorted_ext (listM_sort _) (List.pairwise_cons.mpr ⟨fun x hx => ?_, listM_sort _⟩) fun x => ?_⟩
  · obtain ⟨x0, x1, x2⟩ := listTo_mem.mp hx
    rw [(hb x.toNat).1, Bool.and_eq_true, decide_eq_true_eq] at x2
    have : ¬ x.toNat < Lib.ctz 32 r := fun hlt => by have := (hb x.toNat).2.2 hlt; rw [x2.1] at this; cases this
    omega
  · rw [List.mem_cons, listTo_mem, listTo_mem, (hb x.toNat).1, Bool.and_eq_true, decide_eq_true_eq]
    constructor
    · rintro ⟨x0, x1, x2⟩
      by_cases hx : x = (Lib.ctz 32 r : Int)
      · exact .inl hx
      · exact .inr ⟨x0, x1, x2, by omega⟩
    · rintro (rfl | ⟨x0, x1, x2, _⟩)
      · exact ⟨by omega, by omega, by rw [Int.toNat_natCast]; exact (hb 0).2.1⟩
      · exact ⟨x0, x1, x2⟩
theorem low_lt {r : Nat} (h0 : ¬ r = 0) : r &&& (r - 1) < r := Nat.lt_of_le_of_lt Nat.and_le_right (by omega)
end Go.Hy
namespace Go.Hy
/-! Counting bits: the library's table of bytes. -/
def popS : ByteArray := ⟨#[0, 1, 1, 2, 1, 2, 2, 3, 1, 2, 2, 3, 2, 3, 3, 4, 1, 2, 2, 3, 2, 3, 3, 4, 2, 3, 3, 4, 3, 4, 4, 5, 1, 2, 2, 3, 2, 3, 3, 4, 2, 3, 3, 4, 3, 4, 4, 5, 2, 3, 3, 4, 3, 4, 4, 5, 3, 4, 4, 5, 4, 5, 5, 6, 1, 2, 2, 3, 2, 3, 3, 4, 2, 3, 3, 4, 3, 4, 4, 5, 2, 3, 3, 4, 3, 4, 4, 5, 3, 4, 4, 5, 4, 5, 5, 6, 2, 3, 3, 4, 3, 4, 4, 5, 3, 4, 4, 5, 4, 5, 5, 6, 3, 4, 4, 5, 4, 5, 5, 6, 4, 5, 5, 6, 5, 6, 6, 7, 1, 2, 2, 3, 2, 3, 3, 4, 2, 3, 3, 4, 3, 4, 4, 5, 2, 3, 3, 4, 3, 4, 4, 5, 3, 4, 4, 5, 4, 5, 5, 6, 2, 3, 3, 4, 3, 4, 4, 5, 3, 4, 4, 5, 4, 5, 5, 6, 3, 4, 4, 5, 4, 5, 5, 6, 4, 5, 5, 6, 5, 6, 6, 7, 2, 3, 3, 4, 3, 4, 4, 5, 3, 4, 4, 5, 4, 5, 5, 6, 3, 4, 4, 5, 4, 5, 5, 6, 4, 5, 5, 6, 5, 6, 6, 7, 3, 4, 4, 5, 4, 5, 5, 6, 4, 5, 5, 6, 5, 6, 6, 7, 4, 5, 5, 6, 5, 6, 6, 7, 5, 6, 6, 7, 6, 7, 7, 8]⟩
def pop8 (j : Nat) : Nat := j % 2 + j / 2 % 2 + j / 4 % 2 + j / 8 % 2 + j / 16 % 2 + j / 32 % 2 + j / 64 % 2 + j / 128 % 2
theorem popTab : ∀ j, j < 256 → popS[j]? = some (UInt8.ofNat (pop8 j)) ∧ pop8 j ≤ 8 := by decide +kernel
def pop32 (s : Nat) : Nat := pop8 (s / 16777216) + pop8 (s / 65536 &&& 255) + pop8 (s / 256 &&& 255) + pop8 (s &&& 255)
theorem pop32_one : ∀ k, k < 24 → pop32 (2 ^ k) = 1 := by decide +kernel
theorem pop32_zero : pop32 0 = 0 := by decide
theorem and255 (s : Nat) : s &&& 255 < 256 := Nat.lt_of_le_of_lt Nat.and_le_right (by decide)
section
variable {tn : Bool} {pn : Nat} {P : Program} [Tab P] {f : FuncId} {R : Ending → World → Prop} {B : Base} {n : Fz} {K : List Item} {ops : Array Oper} {i : Nat} {l fin : List Nat} {σ : Nat → Value} {Γ : List Fact} {Ms Ms2 : List Res}
variable {dst : Option Tmp} {op : Op} {ty : TypeId} {pos : String} {after : Array Edge} {v : Value} {x y z : Operand}
theorem pe_indexPop {t : TypeId} {s : ByteArray} {j : Nat} (hu : Tab.und P t = some .string) (hx : ev σ x = .string s) (hs : s = popS) (hy : ev σ y = .int .u32 (j : Int)) (hj : j < 256) : PureE P σ (.index t x y) ty (.int .u8 (pop8 j : Nat)) := fun w => by
  subst hs
  have h := (popTab j hj)
  have e : ((UInt8.ofNat (pop8 j)).toNat : Int) = (pop8 j : Nat) := by
    rw [UInt8.toNat_ofNat']
    have := h.2
    omega
  simp [opr, execOp, hx, hy, Instr.index, asIntOf, run_und0 hu, h.1]
  have := h.2
  omega
theorem pe_addU8 {t t' : TypeId} {a b : Nat} (hx : ev σ x = .int .u8 (a : Nat)) (hy : ev σ y = .int .u8 (b : Nat)) (h : a + b < 256) : PureE P σ (.binOp .add t x y t') ty (.int .u8 ((a + b : Nat) : Int)) :=
  run_bin hx hy (fun w => eqGuard_int w) (fun w => by
    have e : IntKind.u8.wrap ((a : Int) + (b : Int)) = ((a + b : Nat) : Int) := by simp [IntKind.wrap, IntKind.signed, IntKind.bits]; omega
    show Result.ok (Value.int .u8 (IntKind.u8.wrap ((a : Int) + (b : Int)))) w = _
    rw [e])
theorem pe_convBI {s d : TypeId} {ds : TypeDesc} {a : Nat} (hs : Tab.und P s = some ds) (hd : Tab.und P d = some (.int .i64)) (hx : ev σ x = .int .u8 (a : Nat)) (ha : a < 256) : PureE P σ (.convert s d x) ty (.int .i64 (a : Int)) := by
  have h := pe_convert hs hd hx (ty := ty)
  rwa [show IntKind.i64.wrap (a : Int) = (a : Int) by rw [IntKind.wrap_i64]; omega] at h
theorem v_ixPop {t : TypeId} {s : ByteArray} {j : Nat} (k_ : NV tn pn P f R B n K ops fin l (putS σ dst (.int .u8 (pop8 j : Nat))) Γ Ms) (hx : ev σ x = .string s := by exact wn_) (hy : ev σ y = .int .u32 (j : Int) := by exact wn_) (hs : s = popS := by rfl) (hu : Tab.und P t = some .string := by rfl) (hj : j < 256 := by first | omega | exact and255 _) (hd : dstOk n dst = true := by rfl) : NvT tn pn P f R B n K ops fin i l dst (.index t x y) ty σ Γ Ms := nv_pure (pe_indexPop hu hx hs hy hj) hd k_
theorem v_addU8 {t t' : TypeId} {a b : Nat} (k_ : NV tn pn P f R B n K ops fin l (putS σ dst (.int .u8 ((a + b : Nat) : Int))) Γ Ms) (hx : ev σ x = .int .u8 (a : Nat) := by exact wn_) (hy : ev σ y = .int .u8 (b : Nat) := by exact wn_) (h : a + b < 256 := by omega) (hd : dstOk n dst = true := by rfl) : NvT tn pn P f R B n K ops fin i l dst (.binOp .add t x y t') ty σ Γ Ms := nv_pure (pe_addU8 hx hy h) hd k_
theorem v_convBI {s d : TypeId} {ds : TypeDesc} {a : Nat} (k_ : NV tn pn P f R B n K ops fin l (putS σ dst (.int .i64 (a : Int))) Γ Ms) (hx : ev σ x = .int .u8 (a : Nat) := by exact wn_) (hs : Tab.und P s = some ds := by rfl) (hd' : Tab.und P d = some (.int .i64) := by rfl) (ha : a < 256 := by omega) (hd : dstOk n dst = true := by rfl) : NvT tn pn P f R B n K ops fin i l dst (.convert s d x) ty σ Γ Ms := nv_pure (pe_convBI hs hd' hx ha) hd k_
end
end Go.Hy
namespace Go.Hy
/-! ### The document's lift against the program's -/
theorem leastF_snd {l : List Cl} (h : (leastF l).1 ≠ 0) : (leastF l).2 = [] := by
  unfold leastF at h ⊢
  split
  · rfl
  · rename_i h1
    rw [if_neg h1] at h
    split
    · rfl
    · rename_i h2
      rw [if_neg h2] at h
      exact absurd rfl h
end Go.Hy
namespace Go.Hy
/-! ### Formulas and faces: what the program makes of them -/
abbrev EL : Type := Int × List Cl
def bitM (i : Int) : Nat := if 0 ≤ i ∧ i < 24 then 2 ^ i.toNat else 0
def withM (s : Nat) (i : Int) : Nat := if 0 ≤ i ∧ i < 24 then (s &&& 16777215) ||| 2 ^ i.toNat else s &&& 16777215
def withoutM (s : Nat) (i : Int) : Nat := if 0 ≤ i ∧ i < 24 then andNot32 (s &&& 16777215) (2 ^ i.toNat) else s &&& 16777215
theorem withM_zero (i : Int) : withM 0 i = bitM i := by unfold withM bitM; split <;> simp
theorem bitM_lt (i : Int) : bitM i < 16777216 := by
  unfold bitM
  split
  · exact Nat.pow_lt_pow_right (n := 24) (a := 2) (by decide) (by omega)
  · decide
theorem withoutM_lt (s : Nat) (i : Int) : withoutM s i < 16777216 := by
  unfold withoutM
  split
  · rw [show (16777216 : Nat) = 2 ^ 24 from rfl]
    exact Nat.lt_pow_two_of_testBit _ fun j hj => by
      rw [andNot32_bit, and24_bit, decide_eq_false (show ¬ j < 24 by omega)]; simp
  · exact and24_lt s
theorem has_bits (s : Nat) (i : Int) : ((decide (0 ≤ i) && decide (i < 24)) && decide (((s / 2 ^ (min i.toNat 32) &&& 1 : Nat) : Int) = 1)) = hasM s i := by
  rw [hasM_eq, Nat.and_one_is_mod]
  by_cases h : 0 ≤ i ∧ i < 24
  · rw [show min i.toNat 32 = i.toNat by omega]
    congr 1
    exact decide_eq_decide.mpr (by omega)
  · have : (decide (0 ≤ i) && decide (i < 24)) = false := by simp; omega
    rw [this]; rfl
def isDim (i : Int) : Bool := decide (0 ≤ i) && decide (i < 24)
theorem pop_bit {i : Int} (h : isDim i = true) : pop32 (bitM i &&& 16777215) = 1 := by
  have h1 : 0 ≤ i ∧ i < 24 := by unfold isDim at h; simpa using h
  have h2 := bitM_lt i
  rw [and24, Nat.mod_eq_of_lt (by omega)]
  unfold bitM
  rw [if_pos h1]
  exact pop32_one _ (by omega)
theorem pop_none {i : Int} (h : isDim i = false) : pop32 (bitM i &&& 16777215) = 0 := by
  have h1 : ¬ (0 ≤ i ∧ i < 24) := by unfold isDim at h; simp at h; omega
  unfold bitM
  rw [if_neg h1]
  exact pop32_zero
theorem pop_dim (i : Int) : decide (((pop32 (bitM i &&& 16777215) : Nat) : Int) = 1) = isDim i := by
  cases h : isDim i
  · rw [pop_none h]; rfl
  · rw [pop_bit h]; rfl
theorem pop_dim0 (i : Int) : decide (((pop32 (bitM i &&& 16777215) : Nat) : Int) = 0) = !isDim i := by
  cases h : isDim i
  · rw [pop_none h]; rfl
  · rw [pop_bit h]; rfl
def bindE (x : EL) (k : List Cl → EL) : EL := if x.1 ≠ 0 then (x.1, []) else k x.2
theorem bindE_bad {x : EL} {k : List Cl → EL} (h : x.1 ≠ 0) : bindE x k = (x.1, []) := if_pos h
theorem bindE_ok {x : EL} {k : List Cl → EL} (h : x.1 = 0) : bindE x k = k x.2 := if_neg (by simp [h])
/-- On from a list, clause by clause. -/
def foldF (g : List Cl → Cl → EL) : List Cl → List Cl → EL
  | h, [] => (0, h)
  | h, c :: cs => bindE (g h c) fun h' => foldF g h' cs
theorem foldF_on {g : List Cl → Cl → EL} : ∀ {l m h h' : List Cl}, foldF g h l = (0, h') → foldF g h (l ++ m) = foldF g h' m
  | [], m, h, h', e => by
    rw [foldF, Prod.mk.injEq] at e
    rw [List.nil_append, e.2]
  | d :: l, m, h, h', e => by
    rw [foldF] at e
    by_cases h0 : (g h d).1 = 0
    · rw [bindE_ok h0] at e
      rw [List.cons_append, foldF, bindE_ok h0]
      exact foldF_on e
    · rw [bindE_bad h0, Prod.mk.injEq] at e
      exact absurd e.1 h0
theorem foldF_ok {g : List Cl → Cl → EL} {l h h' : List Cl} {i : Nat} (hi : i < l.length) (e : foldF g h (l.take i) = (0, h')) (h0 : (g h' (l.getD i cl0)).1 = 0) : foldF g h (l.take (i + 1)) = (0, (g h' (l.getD i cl0)).2) := by
  rw [take_succ_getD (d := cl0) hi, foldF_on e, foldF, bindE_ok h0, foldF]
theorem foldF_bad {g : List Cl → Cl → EL} {l h h' : List Cl} {i : Nat} (hi : i < l.length) (e : foldF g h (l.take i) = (0, h')) (h0 : (g h' (l.getD i cl0)).1 ≠ 0) : foldF g h l = ((g h' (l.getD i cl0)).1, []) := by
  have e2 : l = l.take i ++ l.getD i cl0 :: l.drop (i + 1) := by rw [getD_get (d := cl0) hi, List.getElem_cons_drop, List.take_append_drop]
  rw [e2, foldF_on e, ← e2, foldF, bindE_bad h0]
theorem foldF_all {g : List Cl → Cl → EL} {l h h' : List Cl} {i : Nat} (hi : i = l.length) (e : foldF g h (l.take i) = (0, h')) : foldF g h l = (0, h') := by
  rw [hi, List.take_length] at e
  exact e
/-! Formulas. -/
def joinF (f g : List Cl) : EL := leastF (f ++ g)
def meetL (f g : List Cl) : List Cl := f.flatMap fun a => g.map fun b => meetC a b
def meetF (f g : List Cl) : EL := leastF (meetL f g)
def oppL (c : Cl) : List Cl := ((listM c.pos).map fun i => (⟨0, bitM i⟩ : Cl)) ++ ((listM c.neg).map fun i => (⟨bitM i, 0⟩ : Cl))
def oppF (c : Cl) : EL := leastF (oppL c)
def notStep (h : List Cl) (c : Cl) : EL := bindE (oppF c) fun o => meetF h o
def notF (f : List Cl) : EL := foldF notStep [cl0] f
def notR (f : List Cl) : EL := if fRight f then notF f else (2, [])
def takeC (c : Cl) (i : Int) : Cl := ⟨withoutM c.pos i, withoutM c.neg i⟩
def putPos (i : Int) (r : List Cl) (c : Cl) : EL := if hasM c.pos i then meetF [takeC c i] r else (0, [takeC c i])
def putNeg (i : Int) (r : List Cl) (c : Cl) (g : List Cl) : EL := if hasM c.neg i then bindE (notF r) fun s => meetF g s else (0, g)
def putStep (i : Int) (r h : List Cl) (c : Cl) : EL := bindE (putPos i r c) fun g => bindE (putNeg i r c g) fun g => joinF h g
theorem putStep_bad1 {i : Int} {r h : List Cl} {c : Cl} {P : EL} (hP : putPos i r c = P) (h0 : P.1 ≠ 0) : putStep i r h c = (P.1, []) := by unfold putStep; rw [hP]; exact bindE_bad h0
theorem putStep_bad2 {i : Int} {r h : List Cl} {c : Cl} {P N : EL} (hP : putPos i r c = P) (h0 : P.1 = 0) (hN : putNeg i r c P.2 = N) (h1 : N.1 ≠ 0) : putStep i r h c = (N.1, []) := by unfold putStep; rw [hP, bindE_ok h0, hN]; exact bindE_bad h1
theorem putStep_end {i : Int} {r h : List Cl} {c : Cl} {P N : EL} (hP : putPos i r c = P) (h0 : P.1 = 0) (hN : putNeg i r c P.2 = N) (h1 : N.1 = 0) : putStep i r h c = joinF h N.2 := by unfold putStep; rw [hP, bindE_ok h0, hN]; exact bindE_ok h1
theorem putNeg_bad {i : Int} {r : List Cl} {c : Cl} {g : List Cl} {s : EL} (h : hasM c.neg i = true) (hs : s = notF r) (h0 : s.1 ≠ 0) : putNeg i r c g = (s.1, []) := by unfold putNeg; rw [if_pos h, ← hs]; exact bindE_bad h0
theorem putNeg_yes {i : Int} {r : List Cl} {c : Cl} {g : List Cl} {s m : EL} (h : hasM c.neg i = true) (hs : s = notF r) (h0 : s.1 = 0) (hm : m = meetF g s.2) : putNeg i r c g = m := by unfold putNeg; rw [if_pos h, ← hs, hm]; exact bindE_ok h0
theorem putNeg_no {i : Int} {r : List Cl} {c : Cl} {g : List Cl} (h : hasM c.neg i = false) : putNeg i r c g = (0, g) := by unfold putNeg; rw [if_neg (by simp [h])]
def formPut (f : List Cl) (i : Int) (r : List Cl) : EL := if (fRight f && fRight r) = false then (2, []) else if isDim i = false then (2, []) else foldF (putStep i r) [] f
/-! Faces. -/
def calmL (l : List Cl) : List Cl := l.filter fun c => !clash c
def ofF (f : List Cl) : EL := if fRight f then leastF (calmL f) else (2, [])
def ofZero (r : List Cl) : EL := bindE (notR r) ofF
def meetA (f g : List Cl) : EL := leastF (f.flatMap fun a => calmL (g.map fun b => meetC a b))
def facePart (i : Int) (r : List Cl) (c : Cl) : EL := if hasM c.pos i then bindE (ofF r) fun x => meetA [takeC c i] x else if hasM c.neg i then bindE (ofZero r) fun x => meetA [takeC c i] x else (0, [takeC c i])
def faceStep (i : Int) (r h : List Cl) (c : Cl) : EL := bindE (facePart i r c) fun g => joinF h g
theorem faceStep_ok {i : Int} {r h : List Cl} {c : Cl} {P : EL} (hP : facePart i r c = P) (h0 : P.1 = 0) : faceStep i r h c = joinF h P.2 := by unfold faceStep; rw [hP]; exact bindE_ok h0
theorem faceStep_bad {i : Int} {r h : List Cl} {c : Cl} {P : EL} (hP : facePart i r c = P) (h0 : P.1 ≠ 0) : faceStep i r h c = (P.1, []) := by unfold faceStep; rw [hP]; exact bindE_bad h0
theorem facePart_pos {i : Int} {r : List Cl} {c : Cl} {q m : EL} (h : hasM c.pos i = true) (hq : q = ofF r) (h0 : q.1 = 0) (hm : m = meetA [takeC c i] q.2) : facePart i r c = m := by unfold facePart; rw [if_pos h, ← hq, hm]; exact bindE_ok h0
theorem facePart_pose {i : Int} {r : List Cl} {c : Cl} {q : EL} (h : hasM c.pos i = true) (hq : q = ofF r) (h0 : q.1 ≠ 0) : facePart i r c = (q.1, []) := by unfold facePart; rw [if_pos h, ← hq]; exact bindE_bad h0
theorem facePart_neg {i : Int} {r : List Cl} {c : Cl} {q m : EL} (h1 : hasM c.pos i = false) (h : hasM c.neg i = true) (hq : q = ofZero r) (h0 : q.1 = 0) (hm : m = meetA [takeC c i] q.2) : facePart i r c = m := by unfold facePart; rw [if_neg (by simp [h1]), if_pos h, ← hq, hm]; exact bindE_ok h0
theorem facePart_nege {i : Int} {r : List Cl} {c : Cl} {q : EL} (h1 : hasM c.pos i = false) (h : hasM c.neg i = true) (hq : q = ofZero r) (h0 : q.1 ≠ 0) : facePart i r c = (q.1, []) := by unfold facePart; rw [if_neg (by simp [h1]), if_pos h, ← hq]; exact bindE_bad h0
theorem facePart_no {i : Int} {r : List Cl} {c : Cl} (h1 : hasM c.pos i = false) (h : hasM c.neg i = false) : facePart i r c = (0, [takeC c i]) := by unfold facePart; rw [if_neg (by simp [h1]), if_neg (by simp [h])]
def facePut (f : List Cl) (i : Int) (r : List Cl) : EL := if (faceRight f && isDim i && fRight r) = false then (2, []) else foldF (faceStep i r) [] f
def single (c : Cl) : Bool := right24 c && !clash c
/-! ### Rows that may lie in memory -/
abbrev okE (x : EL) : Prop := rowOk x.2
theorem rowOk_sub {l m : List Cl} (h : rowOk l) (hs : ∀ c, c ∈ m → c ∈ l) (hl : m.length ≤ l.length) : rowOk m := ⟨fun c hc => h.1 c (hs c hc), by have := h.2; omega⟩
theorem okE_least {l : List Cl} (h : ∀ c, c ∈ l → u32 c) : okE (leastF l) := leastF_ok h
theorem okE_bind {x : EL} {k : List Cl → EL} (h : x.1 = 0 → okE (k x.2)) : okE (bindE x k) := by
  by_cases h0 : x.1 = 0
  · rw [bindE_ok h0]; exact h h0
  · rw [bindE_bad h0]; exact rowOk_nil
theorem okE_fold {g : List Cl → Cl → EL} : ∀ {l h : List Cl}, (∀ h c, c ∈ l → rowOk h → okE (g h c)) → rowOk h → okE (foldF g h l)
  | [], h, _, h2 => h2
  | c :: l, h, h1, h2 => by
    rw [foldF]
    exact okE_bind fun _ => okE_fold (fun h' d hd => h1 h' d (List.mem_cons_of_mem _ hd)) (h1 h c List.mem_cons_self h2)
theorem u32_meet {a b : Cl} (h : u32 a) (h2 : u32 b) : u32 (meetC a b) := ⟨Nat.or_lt_two_pow (n := 32) h.1 h2.1, Nat.or_lt_two_pow (n := 32) h.2 h2.2⟩
theorem u32_join {f g : List Cl} (h : ∀ c, c ∈ f → u32 c) (h2 : ∀ c, c ∈ g → u32 c) : ∀ c, c ∈ f ++ g → u32 c := fun c hc => (List.mem_append.mp hc).elim (h c) (h2 c)
theorem u32_meetL {f g : List Cl} (h : ∀ c, c ∈ f → u32 c) (h2 : ∀ c, c ∈ g → u32 c) : ∀ c, c ∈ meetL f g → u32 c := fun c hc => by
  obtain ⟨a, ha, hc⟩ := List.mem_flatMap.mp hc
  obtain ⟨b, hb, rfl⟩ := List.mem_map.mp hc
  exact u32_meet (h a ha) (h2 b hb)
theorem u32_opp (c : Cl) : ∀ d, d ∈ oppL c → u32 d := fun d hd => by
  rcases List.mem_append.mp hd with hd | hd
  · obtain ⟨i, _, rfl⟩ := List.mem_map.mp hd
    exact ⟨by show (0 : Nat) < _; decide, by have := bitM_lt i; show bitM i < 4294967296; omega⟩
  · obtain ⟨i, _, rfl⟩ := List.mem_map.mp hd
    exact ⟨by have := bitM_lt i; show bitM i < 4294967296; omega, by show (0 : Nat) < _; decide⟩
theorem u32_take (c : Cl) (i : Int) : u32 (takeC c i) := ⟨by have := withoutM_lt c.pos i; show withoutM c.pos i < _; omega, by have := withoutM_lt c.neg i; show withoutM c.neg i < _; omega⟩
theorem rowOk_one {c : Cl} (h : u32 c) : rowOk [c] := ⟨fun d hd => by rw [List.mem_singleton] at hd; subst hd; exact h, by unfold reach; simp⟩
theorem okE_join {f g : List Cl} (h : rowOk f) (h2 : rowOk g) : okE (joinF f g) := okE_least (u32_join h.1 h2.1)
theorem okE_meet {f g : List Cl} (h : rowOk f) (h2 : rowOk g) : okE (meetF f g) := okE_least (u32_meetL h.1 h2.1)
theorem okE_opp (c : Cl) : okE (oppF c) := okE_least (u32_opp c)
theorem okE_notStep {h : List Cl} {c : Cl} (hh : rowOk h) : okE (notStep h c) := okE_bind fun _ => okE_meet hh (okE_opp c)
theorem rowOk_one0 : rowOk [cl0] := rowOk_one ⟨by decide, by decide⟩
theorem okE_not (f : List Cl) : okE (notF f) := okE_fold (fun h c _ hh => okE_notStep hh) rowOk_one0
theorem okE_notR (f : List Cl) : okE (notR f) := by unfold notR; split; exact okE_not f; exact rowOk_nil
theorem okE_putPos {i : Int} {r : List Cl} {c : Cl} (hr : rowOk r) : okE (putPos i r c) := by
  unfold putPos
  split
  · exact okE_meet (rowOk_one (u32_take c i)) hr
  · exact rowOk_one (u32_take c i)
theorem okE_putNeg {i : Int} {r : List Cl} {c : Cl} {g : List Cl} (hg : rowOk g) : okE (putNeg i r c g) := by
  unfold putNeg
  split
  · exact okE_bind fun _ => okE_meet hg (okE_not r)
  · exact hg
theorem okE_putStep {i : Int} {r h : List Cl} {c : Cl} (hr : rowOk r) (hh : rowOk h) : okE (putStep i r h c) := by
  unfold putStep
  refine okE_bind fun _ => okE_bind fun _ => okE_join hh ?_
  have h1 : okE (putPos i r c) := okE_putPos hr
  exact okE_putNeg h1
theorem okE_formPut {f r : List Cl} {i : Int} (hr : rowOk r) : okE (formPut f i r) := by
  unfold formPut
  split
  · exact rowOk_nil
  · split
    · exact rowOk_nil
    · exact okE_fold (fun h c _ hh => okE_putStep hr hh) rowOk_nil
theorem rowOk_calm {l : List Cl} (h : rowOk l) : rowOk (calmL l) := rowOk_sub h (fun c hc => (List.mem_filter.mp hc).1) (List.length_filter_le _ _)
theorem okE_of {f : List Cl} (h : rowOk f) : okE (ofF f) := by unfold ofF; split; exact okE_least (rowOk_calm h).1; exact rowOk_nil
theorem okE_ofZero (r : List Cl) : okE (ofZero r) := okE_bind fun _ => okE_of (okE_notR r)
theorem okE_meetA {f g : List Cl} (h : rowOk f) (h2 : rowOk g) : okE (meetA f g) := okE_least fun c hc => by
  obtain ⟨a, ha, hc⟩ := List.mem_flatMap.mp hc
  obtain ⟨b, hb, rfl⟩ := List.mem_map.mp (List.mem_filter.mp hc).1
  exact u32_meet (h.1 a ha) (h2.1 b hb)
theorem okE_facePart {i : Int} {r : List Cl} {c : Cl} (hr : rowOk r) : okE (facePart i r c) := by
  unfold facePart
  split
  · exact okE_bind fun _ => okE_meetA (rowOk_one (u32_take c i)) (okE_of hr)
  · split
    · exact okE_bind fun _ => okE_meetA (rowOk_one (u32_take c i)) (okE_ofZero r)
    · exact rowOk_one (u32_take c i)
theorem okE_faceStep {i : Int} {r h : List Cl} {c : Cl} (hr : rowOk r) (hh : rowOk h) : okE (faceStep i r h c) := okE_bind fun _ => okE_join hh (okE_facePart hr)
theorem okE_facePut {f r : List Cl} {i : Int} (hr : rowOk r) : okE (facePut f i r) := by
  unfold facePut
  split
  · exact rowOk_nil
  · exact okE_fold (fun h c _ hh => okE_faceStep hr hh) rowOk_nil
/-! No more than 64. -/
abbrev lenE (x : EL) : Prop := x.2.length ≤ 64
theorem len_least (l : List Cl) : lenE (leastF l) := by
  rcases leastF_cases l with ⟨_, _, h, h2⟩ | h | h
  · show (leastF l).2.length ≤ 64; rw [h]; exact h2
  · show (leastF l).2.length ≤ 64; rw [leastF_snd (by omega)]; decide
  · show (leastF l).2.length ≤ 64; rw [leastF_snd (by omega)]; decide
theorem len_bind {x : EL} {k : List Cl → EL} (h : x.1 = 0 → lenE (k x.2)) : lenE (bindE x k) := by
  by_cases h0 : x.1 = 0
  · rw [bindE_ok h0]; exact h h0
  · rw [bindE_bad h0]; show ([] : List Cl).length ≤ 64; decide
theorem len_fold {g : List Cl → Cl → EL} : ∀ {l h : List Cl}, (∀ h c, c ∈ l → h.length ≤ 64 → lenE (g h c)) → h.length ≤ 64 → lenE (foldF g h l)
  | [], h, _, h2 => h2
  | c :: l, h, h1, h2 => by
    rw [foldF]
    exact len_bind fun _ => len_fold (fun h' d hd => h1 h' d (List.mem_cons_of_mem _ hd)) (h1 h c List.mem_cons_self h2)
theorem len_notStep (h : List Cl) (c : Cl) : lenE (notStep h c) := len_bind fun _ => len_least _
theorem len_not (f : List Cl) : lenE (notF f) := len_fold (fun h c _ _ => len_notStep h c) (by decide)
theorem len_putStep (i : Int) (r h : List Cl) (c : Cl) : lenE (putStep i r h c) := len_bind fun _ => len_bind fun _ => len_least _
theorem len_of (f : List Cl) : lenE (ofF f) := by unfold ofF; split; exact len_least _; (show ([] : List Cl).length ≤ 64; decide)
theorem len_ofZero (r : List Cl) : lenE (ofZero r) := len_bind fun _ => len_of _
theorem len_right {f : List Cl} (h : fRight f = true) : f.length ≤ 64 := by
  unfold fRight at h
  simp only [Bool.and_eq_true, decide_eq_true_eq] at h
  exact h.2
theorem oppL_len (c : Cl) : (oppL c).length ≤ 48 := by
  unfold oppL
  rw [List.length_append, List.length_map, List.length_map]
  have h1 : (listM c.pos).length ≤ 24 := listTo_len _ _
  have h2 : (listM c.neg).length ≤ 24 := listTo_len _ _
  omega
theorem listM_at {s i : Nat} (h : i < (listM s).length) : 0 ≤ (listM s).getD i 0 ∧ (listM s).getD i 0 < 24 := by
  have h1 := listTo_in (getD_mem (d := (0 : Int)) h)
  exact ⟨h1.1, by have := h1.2; exact_mod_cast this⟩
theorem listM_in {s i : Nat} (h : i < (listM s).length) : in64 ((listM s).getD i 0) := by have := listM_at h; unfold in64; omega
theorem meetL_len (f g : List Cl) : (meetL f g).length = f.length * g.length := by
  unfold meetL
  induction f with
  | nil => simp
  | cons a f ih => rw [List.flatMap_cons, List.length_append, ih, List.length_map, List.length_cons, Nat.succ_mul]; omega
theorem meetL_snoc (f g : List Cl) (a : Cl) : meetL (f ++ [a]) g = meetL f g ++ g.map fun b => meetC a b := by unfold meetL; rw [List.flatMap_append]; simp
theorem rowOk_CL {ok : Nat → Prop} {l : List Cl} {a : SH} {w : World} (h : clsAt ok l a w) : rowOk l := ⟨h.2, h.1.2.1⟩
def dimF (i : Int) : EL := if isDim i then (0, [⟨bitM i, 0⟩]) else (2, [])
/-! ### From an own row to what is known -/
theorem St.litCC2 {B : Base} {Γ : List Fact} {Ms : List Res} {w : World} {e : TypeId} {b : Nat} {l m : List Cl} {a a' : SH} (hs : St B Γ (boxR b [sl a l.length, sl a' m.length] e :: Ms) w) {hBp : Prop} (hB : hBp) (hF : CL l a ∈ Γ) (hG : CL m a' ∈ Γ) : St B (CCF [(l, a), (m, a')] (some ⟨b, 0, Option.none⟩, 2) :: Γ) Ms w := by
  have h1 := ((hs.boxRow (sz := 1) (m := 2) rfl (by decide)).allNil cpE).allAdd (x := (l, a)) List.mem_cons_self (List.mem_cons_of_mem _ hF)
  have h2 := h1.allAdd (x := (m, a')) List.mem_cons_self (List.mem_cons_of_mem _ (List.mem_cons_of_mem _ hG))
  exact (h2.settleRow (F := cpCells) (E := cpE) (d := cp0) (bt := 24) (l := [(l, a), (m, a')]) (fun _ => rfl) hB List.mem_cons_self rfl rfl (by decide)).less (by simp +contextual)
theorem St.lit1C {B : Base} {Γ : List Fact} {Ms : List Res} {w : World} {b : Nat} {e : TypeId} {cs : List Value} {c : Cl} (hs : St B Γ (boxR b cs e :: Ms) w) {hBp : Prop} (hB : hBp) (hc : cs = clCells c) (hu : u32 c) : St B (CL [c] (some ⟨b, 0, Option.none⟩, 1) :: Γ) Ms w :=
  (hs.boxRow (sz := 2) (m := 1) (by rw [hc]; rfl) (by decide)).settleCL (l := [c]) hB (by rw [hc]; simp [clFlat]) rfl (rowOk_one hu).2 (rowOk_one hu).1
theorem Spec.rowF {P : Program} {k : FuncId} {args : Array Value} {pre : List Fact} {e : TypeId} {r r' : EL} (he : r' = r) (h : Spec P k args pre [] (fun x : SH => .tuple #[sl x r.2.length, .int .i64 r.1]) (fun _ => []) (fun x => [rowS 2 e x r.2.length (clFlat r.2)])) (hr : okE r) :
    Spec P k args pre [] (fun x : SH => .tuple #[sl x r'.2.length, .int .i64 r'.1]) (fun x => [CL r'.2 x]) (fun _ => []) := by
  subst he
  exact fun ok w hok hst => (h ok w hok hst).mono fun e w' hh => by
    obtain ⟨x, he, hs⟩ := hh
    exact ⟨x, he, hs.settleCL trivial rfl rfl hr.2 hr.1⟩
theorem Spec.rowH {P : Program} {k : FuncId} {args : Array Value} {pre : List Fact} {e : TypeId} {r r' : EL} (he : r' = r) (h : Spec P k args pre [] (fun x : SH => .tuple #[sl x r.2.length, .int .i64 r.1]) (fun _ => []) (fun x => [rowS 2 e x r.2.length (clFlat r.2)])) :
    Spec P k args pre [] (fun x : SH => .tuple #[sl x r'.2.length, .int .i64 r'.1]) (fun _ => []) (fun x => [rowS 2 e x r'.2.length (clFlat r'.2)]) := by
  subst he
  exact h
end Go.Hy
namespace Go.Hy
/-! ### A way through a term that changes rows alone -/
structure RowsW where
  form : Int → List Cl → EL
  face : Int → List Cl → EL
def elR (x : EL) : Res1 (List Cl) := if x.1 = 0 then .ok x.2 else .bad x.1
theorem elR_ok {x : EL} (h : x.1 = 0) : elR x = .ok x.2 := if_pos h
theorem elR_bad {x : EL} (h : x.1 ≠ 0) : elR x = .bad x.1 := if_neg h
theorem elR_ok_iff {x : EL} {g : List Cl} : elR x = .ok g ↔ x = (0, g) := by
  unfold elR
  split
  · rename_i h
    constructor
    · intro h2; injection h2 with h2; exact Prod.ext h h2
    · rintro rfl; rfl
  · rename_i h
    constructor
    · intro h2; cases h2
    · rintro rfl; exact absurd rfl h
theorem elR_bad_iff {x : EL} {e : Int} : elR x = .bad e ↔ x.1 = e ∧ e ≠ 0 := by
  unfold elR
  split
  · rename_i h
    constructor
    · intro h2; cases h2
    · rintro ⟨h2, h3⟩; exact absurd (h2.symm.trans h) h3
  · rename_i h
    constructor
    · intro h2; injection h2 with h2; exact ⟨h2, h2 ▸ h⟩
    · rintro ⟨h2, h3⟩; rw [h2]
def RowsW.row (W : RowsW) (k d : Int) (r : List Cl) : EL := if k = 14 then W.face d r else W.form d r
def rowsTr (W : RowsW) : Tr Int where
  own d k n _ r := (elR (W.row k d r)).bind fun g => .ok (.inr (n, g))
  face d f := (elR (W.face d f)).bind fun g => .ok (if g.length = 0 then none else some g)
  kid d b := .ok (d + b.2)
theorem rows_kid {W : RowsW} {d : Int} {b : Int × Int} : (rowsTr W).kid d b = .ok (d + b.2) := rfl
theorem rows_own_ok {W : RowsW} {d k n : Int} {nm : ByteArray} {r : List Cl} (h : (W.row k d r).1 = 0) : (rowsTr W).own d k n nm r = .ok (.inr (n, (W.row k d r).2)) := by
  show (elR _).bind _ = _; rw [elR_ok h]; rfl
theorem rows_own_bad {W : RowsW} {d k n : Int} {nm : ByteArray} {r : List Cl} (h : (W.row k d r).1 ≠ 0) : (rowsTr W).own d k n nm r = .bad (W.row k d r).1 := by
  show (elR _).bind _ = _; rw [elR_bad h]; rfl
theorem rows_own_inr {W : RowsW} {d k n : Int} {nm : ByteArray} {r : List Cl} {p : Int × List Cl} : (rowsTr W).own d k n nm r = .ok (.inr p) ↔ W.row k d r = (0, p.2) ∧ p.1 = n := by
  constructor
  · intro h
    obtain ⟨g, hg, h2⟩ := Res1.bind_ok (x := elR (W.row k d r)) h
    injection h2 with h2; injection h2 with h2; subst h2
    exact ⟨elR_ok_iff.mp hg, rfl⟩
  · rintro ⟨h1, h2⟩
    rw [rows_own_ok (by rw [h1]), h1, ← h2]
theorem rows_own_inl {W : RowsW} {d k n : Int} {nm : ByteArray} {r : List Cl} {u : T} : (rowsTr W).own d k n nm r ≠ .ok (.inl u) := by
  intro h
  obtain ⟨g, hg, h2⟩ := Res1.bind_ok (x := elR (W.row k d r)) h
  injection h2 with h2; cases h2
theorem rows_own_bad_iff {W : RowsW} {d k n e : Int} {nm : ByteArray} {r : List Cl} : (rowsTr W).own d k n nm r = .bad e ↔ (W.row k d r).1 = e ∧ e ≠ 0 := by
  rw [← elR_bad_iff]
  show (elR _).bind _ = _ ↔ _
  cases elR (W.row k d r) with
  | ok g => constructor <;> (intro h; cases h)
  | bad e' => exact Iff.intro (fun h => by injection h with h; rw [h]) (fun h => by injection h with h; rw [h]; rfl)
theorem rows_face_none {W : RowsW} {d : Int} {f : List Cl} (h : (W.face d f).1 = 0) (h2 : (W.face d f).2.length = 0) : (rowsTr W).face d f = .ok none := by
  show (elR _).bind _ = _; rw [elR_ok h]; show Res1.ok (if _ then _ else _) = _; rw [if_pos h2]
theorem rows_face_some {W : RowsW} {d : Int} {f : List Cl} (h : (W.face d f).1 = 0) (h2 : (W.face d f).2.length ≠ 0) : (rowsTr W).face d f = .ok (some (W.face d f).2) := by
  show (elR _).bind _ = _; rw [elR_ok h]; show Res1.ok (if _ then _ else _) = _; rw [if_neg h2]
theorem rows_face_bad {W : RowsW} {d : Int} {f : List Cl} (h : (W.face d f).1 ≠ 0) : (rowsTr W).face d f = .bad (W.face d f).1 := by
  show (elR _).bind _ = _; rw [elR_bad h]; rfl
theorem rows_face_some_iff {W : RowsW} {d : Int} {f g : List Cl} : (rowsTr W).face d f = .ok (some g) ↔ W.face d f = (0, g) ∧ g ≠ [] := by
  constructor
  · intro h
    obtain ⟨g', hg, h2⟩ := Res1.bind_ok (x := elR (W.face d f)) h
    injection h2 with h2
    split at h2
    · cases h2
    · rename_i h3
      injection h2 with h2; subst h2
      exact ⟨elR_ok_iff.mp hg, fun h => h3 (by rw [h]; rfl)⟩
  · rintro ⟨h, h2⟩
    have h3 := rows_face_some (W := W) (d := d) (f := f) (by rw [h]) (by rw [h]; intro h4; exact h2 (List.eq_nil_of_length_eq_zero h4))
    rw [h3, h]
theorem rows_face_bad_iff {W : RowsW} {d e : Int} {f : List Cl} : (rowsTr W).face d f = .bad e ↔ (W.face d f).1 = e ∧ e ≠ 0 := by
  rw [← elR_bad_iff]
  show (elR _).bind _ = _ ↔ _
  cases elR (W.face d f) with
  | ok g => constructor <;> (intro h; cases h)
  | bad e' => exact Iff.intro (fun h => by injection h with h; rw [h]) (fun h => by injection h with h; rw [h]; rfl)
/-! Terms of a list, one by one. -/
def eachT (g : Nat → T → Res1 T) : Nat → List T → Res1 (List T)
  | _, [] => .ok []
  | i, t :: ts => (g i t).bind fun t' => (eachT g (i + 1) ts).bind fun ts' => .ok (t' :: ts')
section
variable {g : Nat → T → Res1 T}
theorem eachT_snoc : ∀ (i : Nat) (l : List T) (t : T), eachT g i (l ++ [t]) = (eachT g i l).bind fun l' => (g (i + l.length) t).bind fun t' => .ok (l' ++ [t'])
  | i, [], t => by
    simp only [List.nil_append, eachT, Res1.bind, List.length_nil, Nat.add_zero]
  | i, a :: l, t => by
    simp only [List.cons_append, eachT, eachT_snoc (i + 1) l t, List.length_cons]
    rw [show i + 1 + l.length = i + (l.length + 1) by omega]
    cases g i a with
    | bad e => rfl
    | ok a' =>
      simp only [Res1.bind]
      cases eachT g (i + 1) l with
      | bad e => rfl
      | ok l' =>
        simp only
        cases g (i + (l.length + 1)) t with
        | bad e => rfl
        | ok c2 => rfl
theorem eachT_bad {e : Int} : ∀ {l m : List T} {i : Nat}, eachT g i l = .bad e → eachT g i (l ++ m) = .bad e
  | [], m, i, h => by rw [eachT] at h; cases h
  | a :: l, m, i, h => by
    rw [List.cons_append, eachT]
    rw [eachT] at h
    cases h1 : g i a with
    | bad e' => rw [h1] at h; exact h
    | ok a' =>
      rw [h1] at h
      simp only [Res1.bind] at h ⊢
      cases h3 : eachT g (i + 1) l with
      | bad e' => rw [h3] at h; rw [eachT_bad h3]; exact h
      | ok l' => rw [h3] at h; cases h
theorem eachT_at_ok {l us : List T} {i : Nat} {u : T} (hi : i < l.length) (h : eachT g 0 (l.take i) = .ok us) (hu : g i (l.getD i t0) = .ok u) : eachT g 0 (l.take (i + 1)) = .ok (us ++ [u]) := by
  rw [take_succ_getD (d := t0) hi, eachT_snoc, h]
  simp only [Res1.bind, List.length_take, Nat.zero_add, Nat.min_eq_left (Nat.le_of_lt hi)]
  rw [hu]
theorem eachT_at_bad {l us : List T} {i : Nat} {e : Int} (hi : i < l.length) (h : eachT g 0 (l.take i) = .ok us) (hu : g i (l.getD i t0) = .bad e) : eachT g 0 l = .bad e := by
  have h1 : eachT g 0 (l.take (i + 1)) = .bad e := by
    rw [take_succ_getD (d := t0) hi, eachT_snoc, h]
    simp only [Res1.bind, List.length_take, Nat.zero_add, Nat.min_eq_left (Nat.le_of_lt hi)]
    rw [hu]
  have h2 := eachT_bad (m := l.drop (i + 1)) h1
  rwa [List.take_append_drop] at h2
theorem eachT_len : ∀ {l us : List T} {i : Nat}, eachT g i l = .ok us → us.length = l.length
  | [], us, i, h => by rw [eachT] at h; injection h with h; subst h; rfl
  | a :: l, us, i, h => by
    rw [eachT] at h
    obtain ⟨a', _, h⟩ := Res1.bind_ok h
    obtain ⟨l', h2, h⟩ := Res1.bind_ok h
    injection h with h; subst h
    simp [eachT_len h2]
theorem eachT_why {e : Int} : ∀ {l : List T} {i : Nat}, eachT g i l = .bad e → ∃ j t, t ∈ l ∧ g j t = .bad e
  | [], i, h => by rw [eachT] at h; cases h
  | a :: l, i, h => by
    rw [eachT] at h
    cases h1 : g i a with
    | bad e' => rw [h1] at h; injection h with h; subst h; exact ⟨i, a, List.mem_cons_self, h1⟩
    | ok a' =>
      rw [h1] at h
      simp only [Res1.bind] at h
      cases h3 : eachT g (i + 1) l with
      | bad e' => rw [h3] at h; injection h with h; subst h; obtain ⟨j, t, ht, hj⟩ := eachT_why h3; exact ⟨j, t, List.mem_cons_of_mem _ ht, hj⟩
      | ok l' => rw [h3] at h; cases h
end
theorem travL_map {W : RowsW} {k d : Int} : ∀ {i : Nat} {ts : List T}, travL (rowsTr W) k i ts d = eachT (fun j t => trav (rowsTr W) t (d + (binds k j).2)) i ts
  | i, [] => by rw [travL_nil, eachT]
  | i, t :: ts => by rw [travL_cons, eachT, rows_kid, travL_map (i := i + 1) (ts := ts)]; rfl
theorem travS_map {W : RowsW} {k d : Int} : ∀ {i : Nat} {ts : List T}, travS (rowsTr W) k ts d = eachT (fun _ t => trav (rowsTr W) t (d + more k)) i ts
  | i, [] => by rw [travS_nil, eachT]
  | i, t :: ts => by rw [travS_cons, eachT, rows_kid, travS_map (i := i + 1) (ts := ts)]; rfl
theorem travB_at_none {C : Type} {A : Tr C} {k : Int} {c : C} {ss : List Br} {s : Nat} {bs : List Br} (hs : s < ss.length) (hb : travB A k (ss.take s) c = .ok bs) (hf : A.face c (ss.getD s br0).face = .ok none) : travB A k (ss.take (s + 1)) c = .ok bs := by
  rw [take_succ_getD (d := br0) hs, travB_snoc, hb]
  simp only [Res1.bind]
  rw [hf]
theorem trav_kids_bad {C : Type} {A : Tr C} {t : T} {c : C} {e : Int} {p : Int × List Cl} (h : A.own c t.kind t.n t.name t.r = .ok (.inr p)) (hl : travL A t.kind 0 t.kids c = .bad e) : trav A t c = .bad e := by
  rw [trav_eq, h]; simp only [Res1.bind]; rw [hl]
def asResL (r : Res1 (List T)) : Int × List T := match r with
  | .ok u => (0, u)
  | .bad e => (e, [])
theorem asRes_bad {r : Res1 T} (h : (asRes r).1 ≠ 0) : r = .bad (asRes r).1 := by
  cases r with
  | ok u => exact absurd rfl h
  | bad e => rfl
theorem asRes_ok {r : Res1 T} (hb : ∀ e, r = .bad e → e ≠ 0) (h : (asRes r).1 = 0) : r = .ok (asRes r).2 := by
  cases r with
  | ok u => rfl
  | bad e => exact absurd h (hb e rfl)
theorem asResL_bad {r : Res1 (List T)} (h : (asResL r).1 ≠ 0) : r = .bad (asResL r).1 := by
  cases r with
  | ok u => exact absurd rfl h
  | bad e => rfl
theorem asResL_ok {r : Res1 (List T)} (hb : ∀ e, r = .bad e → e ≠ 0) (h : (asResL r).1 = 0) : r = .ok (asResL r).2 := by
  cases r with
  | ok u => rfl
  | bad e => exact absurd h (hb e rfl)
theorem rows_bad_ne {W : RowsW} : ∀ (t : T) {d e : Int}, trav (rowsTr W) t d = .bad e → e ≠ 0 := T.ind fun t ih d e h => by
  rcases trav_why h with h1 | ⟨b, _, h1⟩ | ⟨p, hp, h1 | ⟨c', _, h2⟩⟩
  · exact (rows_own_bad_iff.mp h1).2
  · exact (rows_face_bad_iff.mp h1).2
  · cases h1
  · exact ih p hp h2
theorem eachT_bad_ne {W : RowsW} {b : Nat → Int} {l : List T} {i : Nat} {e d : Int} (h : eachT (fun j t => trav (rowsTr W) t (d + b j)) i l = .bad e) : e ≠ 0 := by
  obtain ⟨j, t, _, h1⟩ := eachT_why h
  exact rows_bad_ne t h1
abbrev walkR (W : RowsW) (t : T) (d : Int) : Int × T := asRes (trav (rowsTr W) t d)
abbrev walkL (W : RowsW) (b : Nat → Int) (l : List T) (d : Int) : Int × List T := asResL (eachT (fun j t => trav (rowsTr W) t (d + b j)) 0 l)
/-! Rows with a formula in a dimension's place; rows without a dimension. -/
def rowPut (P : List Cl → Int → List Cl → EL) (i : Int) (r : List Cl) (d : Int) (f : List Cl) : EL := if hasM (fDims f) (i + d) = false then (0, f) else bindE (formLift r 0 d) fun s => P f (i + d) s
def putW (i : Int) (r : List Cl) : RowsW := ⟨rowPut formPut i r, rowPut facePut i r⟩
def dropRow (i : Int) (d : Int) (f : List Cl) : EL := leastF (f.map fun c => ⟨dropM c.pos (i + d), dropM c.neg (i + d)⟩)
def dropW (i : Int) : RowsW := ⟨dropRow i, dropRow i⟩
theorem u32_drop {f : List Cl} {j : Int} {c : Cl} (hc : c ∈ f.map fun c => (⟨dropM c.pos j, dropM c.neg j⟩ : Cl)) : u32 c := by
  obtain ⟨e, _, rfl⟩ := List.mem_map.mp hc
  exact ⟨by have := dropM_lt e.pos j; show dropM _ _ < _; omega, by have := dropM_lt e.neg j; show dropM _ _ < _; omega⟩
theorem size_kid_mem {t k : T} (h : k ∈ t.kids) : size k < size t := by obtain ⟨p, hp, e⟩ := kid_mem_parts h; exact e ▸ size_part_lt hp
theorem size_sys_mem {t k : T} {b : Br} (h : b ∈ t.sys) (h2 : k ∈ b.kids) : size k < size t := by obtain ⟨p, hp, e⟩ := sys_mem_parts h h2; exact e ▸ size_part_lt hp
/-! What a call tells, under another name. -/
theorem Spec.treeH {P : Program} {k : FuncId} {args : Array Value} {pre : List Fact} {Ms0 : List Res} {y : Tys} {r r' : Int × T} (he : r' = r) (h : Spec P k args pre Ms0 (fun x : {h : HT // h.er = r.2} => .tuple #[.agg (tc r.2 x.1.vr x.1.vk x.1.vs).toArray, .int .i64 r.1]) (fun _ => []) (fun x => [bigR (treeR y x.1)])) :
    Spec P k args pre Ms0 (fun x : {h : HT // h.er = r'.2} => .tuple #[.agg (tc r'.2 x.1.vr x.1.vk x.1.vs).toArray, .int .i64 r'.1]) (fun _ => []) (fun x => [bigR (treeR y x.1)]) := by
  subst he
  exact h
theorem Spec.listH {P : Program} {k : FuncId} {args : Array Value} {pre : List Fact} {Ms0 : List Res} {y : Tys} {e : TypeId} {r r' : Int × List T} (he : r' = r) (h : Spec P k args pre Ms0 (fun x : {p : List HT × SH // p.1.map HT.er = r.2} => .tuple #[sl x.1.2 r.2.length, .int .i64 r.1]) (fun _ => []) (fun x => [rowS 6 e x.1.2 r.2.length (tpFlat (x.1.1.map HT.tp)), bigR (kidsR y x.1.1)])) :
    Spec P k args pre Ms0 (fun x : {p : List HT × SH // p.1.map HT.er = r'.2} => .tuple #[sl x.1.2 r'.2.length, .int .i64 r'.1]) (fun _ => []) (fun x => [rowS 6 e x.1.2 r'.2.length (tpFlat (x.1.1.map HT.tp)), bigR (kidsR y x.1.1)]) := by
  subst he
  exact h
end Go.Hy
namespace Go.Hy
/-! ### dims: what the program makes of a term -/
section
variable {W : RowsW}
mutual
theorem walk_size : ∀ {t u : T} {d : Int}, trav (rowsTr W) t d = .ok u → size u ≤ size t
  | .mk k n nm r ks ss, u, d, hu => by
    rw [trav_eq] at hu
    simp only [T.kind, T.n, T.name, T.r, T.kids, T.sys] at hu
    obtain ⟨o, h9, hu⟩ := Res1.bind_ok hu
    cases o with
    | inl v => exact absurd h9 rows_own_inl
    | inr p =>
      obtain ⟨ks', h10, hu⟩ := Res1.bind_ok hu
      obtain ⟨ss', h11, hu⟩ := Res1.bind_ok hu
      injection hu with hu
      subst hu
      rw [size_sumLB, size_sumLB]
      simp only [T.kids, T.sys]
      have h1 := walkL_size h10
      have h2 := walkB_size h11
      omega
theorem walkL_size {k : Int} : ∀ {ts us : List T} {i : Nat} {d : Int}, travL (rowsTr W) k i ts d = .ok us → sizeL us ≤ sizeL ts
  | [], us, i, d, hu => by rw [travL_nil] at hu; injection hu with hu; subst hu; exact Nat.le_refl _
  | t :: ts, us, i, d, hu => by
    rw [travL_cons] at hu
    obtain ⟨c', _, hu⟩ := Res1.bind_ok hu
    obtain ⟨t', h2, hu⟩ := Res1.bind_ok hu
    obtain ⟨ts', h3, hu⟩ := Res1.bind_ok hu
    injection hu with hu
    subst hu
    have h4 := walk_size h2
    have h5 := walkL_size h3
    simp only [sizeL]
    omega
theorem walkS_size {k : Int} : ∀ {ts us : List T} {d : Int}, travS (rowsTr W) k ts d = .ok us → sizeL us ≤ sizeL ts
  | [], us, d, hu => by rw [travS_nil] at hu; injection hu with hu; subst hu; exact Nat.le_refl _
  | t :: ts, us, d, hu => by
    rw [travS_cons] at hu
    obtain ⟨c', _, hu⟩ := Res1.bind_ok hu
    obtain ⟨t', h2, hu⟩ := Res1.bind_ok hu
    obtain ⟨ts', h3, hu⟩ := Res1.bind_ok hu
    injection hu with hu
    subst hu
    have h4 := walk_size h2
    have h5 := walkS_size h3
    simp only [sizeL]
    omega
theorem walkB_size {k : Int} : ∀ {bs us : List Br} {d : Int}, travB (rowsTr W) k bs d = .ok us → sizeB us ≤ sizeB bs
  | [], us, d, hu => by rw [travB_nil] at hu; injection hu with hu; subst hu; exact Nat.le_refl _
  | .mk f ks :: bs, us, d, hu => by
    rw [travB_cons] at hu
    simp only [Br.face, Br.kids] at hu
    obtain ⟨o, h5, hu⟩ := Res1.bind_ok hu
    cases o with
    | none => have h6 := walkB_size hu; simp only [sizeB]; omega
    | some g =>
      obtain ⟨ks', h7, hu⟩ := Res1.bind_ok hu
      obtain ⟨bs', h8, hu⟩ := Res1.bind_ok hu
      injection hu with hu
      subst hu
      have h1 := walkS_size h7
      have h2 := walkB_size h8
      simp only [sizeB, Br.kids]
      omega
end
theorem walk_okT (hW : ∀ d f, rowOk f → okE (W.form d f) ∧ okE (W.face d f)) {t u : T} {d : Int} (h : okT t) (hu : trav (rowsTr W) t d = .ok u) : okT u := by
  refine trav_okT (A := rowsTr W) ?_ ?_ ?_ t d u h hu
  · intro c k n nm r p _ hn hr ho
    obtain ⟨h1, h2⟩ := rows_own_inr.mp ho
    have h3 := hW c r hr
    have h4 : okE (W.row k c r) := by unfold RowsW.row; split; exact h3.2; exact h3.1
    unfold okE at h4
    rw [h1] at h4
    exact ⟨by rw [h2]; exact hn, h4⟩
  · intro c k n nm r u ho
    exact absurd ho rows_own_inl
  · intro c f f' hr ho
    obtain ⟨h1, _⟩ := rows_face_some_iff.mp ho
    have h3 := (hW c f hr).2
    unfold okE at h3
    rw [h1] at h3
    exact h3
theorem size_t0 : size t0 = 1 := by decide
theorem asRes_size {t : T} {d : Int} : size (walkR W t d).2 ≤ size t := by
  unfold walkR
  cases h : trav (rowsTr W) t d with
  | ok u => exact walk_size h
  | bad e => show size t0 ≤ size t; rw [size_t0]; exact size_pos' t
theorem asRes_okT (hW : ∀ d f, rowOk f → okE (W.form d f) ∧ okE (W.face d f)) {t : T} {d : Int} (h : okT t) : okT (walkR W t d).2 := by
  unfold walkR
  cases hu : trav (rowsTr W) t d with
  | ok u => exact walk_okT hW h hu
  | bad e => exact okT_t0
end
theorem okE_rowPut {P : List Cl → Int → List Cl → EL} (hP : ∀ f i r, rowOk f → rowOk r → okE (P f i r)) {i d : Int} {r f : List Cl} (hf : rowOk f) : okE (rowPut P i r d f) := by
  unfold rowPut
  split
  · exact hf
  · exact okE_bind fun _ => hP _ _ _ hf (formLift_ok r 0 d)
theorem okW_put (i : Int) (r : List Cl) : ∀ d f, rowOk f → okE ((putW i r).form d f) ∧ okE ((putW i r).face d f) := fun d f hf =>
  ⟨okE_rowPut (fun f i r _ hr => okE_formPut hr) hf, okE_rowPut (fun f i r _ hr => okE_facePut hr) hf⟩
theorem okE_drop {i d : Int} {f : List Cl} (hf : rowOk f) : okE (dropRow i d f) := okE_least fun c hc => u32_drop hc
theorem okW_drop (i : Int) : ∀ d f, rowOk f → okE ((dropW i).form d f) ∧ okE ((dropW i).face d f) := fun d f hf => ⟨okE_drop hf, okE_drop hf⟩
def thenT (x : Int × T) (k : T → Int × T) : Int × T := if x.1 ≠ 0 then (x.1, t0) else k x.2
theorem thenT_bad {x : Int × T} {k : T → Int × T} (h : x.1 ≠ 0) : thenT x k = (x.1, t0) := if_pos h
theorem thenT_ok {x : Int × T} {k : T → Int × T} (h : x.1 = 0) : thenT x k = k x.2 := if_neg (by simp [h])
def foldT {α : Type} (g : α → T → Int × T) : List α → T → Int × T
  | [], t => (0, t)
  | a :: l, t => thenT (g a t) fun u => foldT g l u
section
variable {α : Type} {g : α → T → Int × T}
theorem foldT_on : ∀ {l m : List α} {t u : T}, foldT g l t = (0, u) → foldT g (l ++ m) t = foldT g m u
  | [], m, t, u, e => by
    rw [foldT, Prod.mk.injEq] at e
    rw [List.nil_append, e.2]
  | a :: l, m, t, u, e => by
    rw [foldT] at e
    by_cases h0 : (g a t).1 = 0
    · rw [thenT_ok h0] at e
      rw [List.cons_append, foldT, thenT_ok h0]
      exact foldT_on e
    · rw [thenT_bad h0, Prod.mk.injEq] at e
      exact absurd e.1 h0
theorem foldT_ok {l : List α} {d : α} {t u : T} {i : Nat} (hi : i < l.length) (e : foldT g (l.take i) t = (0, u)) (h0 : (g (l.getD i d) u).1 = 0) : foldT g (l.take (i + 1)) t = (0, (g (l.getD i d) u).2) := by
  rw [take_succ_getD (d := d) hi, foldT_on e, foldT, thenT_ok h0, foldT]
theorem foldT_bad {l : List α} {d : α} {t u : T} {i : Nat} (hi : i < l.length) (e : foldT g (l.take i) t = (0, u)) (h0 : (g (l.getD i d) u).1 ≠ 0) : foldT g l t = ((g (l.getD i d) u).1, t0) := by
  have e2 : l = l.take i ++ l.getD i d :: l.drop (i + 1) := by rw [getD_get (d := d) hi, List.getElem_cons_drop, List.take_append_drop]
  rw [e2, foldT_on e, ← e2, foldT, thenT_bad h0]
theorem foldT_all {l : List α} {t u : T} {i : Nat} (hi : i = l.length) (e : foldT g (l.take i) t = (0, u)) : foldT g l t = (0, u) := by
  rw [hi, List.take_length] at e
  exact e
theorem foldT_t0 : ∀ {l : List α} {t : T}, (foldT g l t).1 ≠ 0 → (foldT g l t).2 = t0
  | [], t, h => absurd rfl h
  | a :: l, t, h => by
    rw [foldT] at h ⊢
    by_cases h1 : (g a t).1 = 0
    · rw [thenT_ok h1] at h ⊢; exact foldT_t0 h
    · rw [thenT_bad h1]
theorem foldT_keep {p : T → Prop} (h0 : p t0) (hg : ∀ a u, p u → p (g a u).2) : ∀ {l : List α} {t : T}, p t → p (foldT g l t).2
  | [], t, h => h
  | a :: l, t, h => by
    rw [foldT]
    by_cases h1 : (g a t).1 = 0
    · rw [thenT_ok h1]; exact foldT_keep h0 hg (hg a t h)
    · rw [thenT_bad h1]; exact h0
end
def dimsWrong (t : T) (i : Int) (r : List Cl) : Int := if formedP t ≠ 0 then formedP t else if (isDim i && fRight r) = false then 2 else 0
def dimsPut (t : T) (i : Int) (r : List Cl) : Int × T := if dimsWrong t i r ≠ 0 then (dimsWrong t i r, t0) else walkR (putW i r) t 0
def dimsTake (t : T) (i : Int) (r : List Cl) : Int × T := if dimsWrong t i r ≠ 0 then (dimsWrong t i r, t0) else if (formLift r i 1).1 ≠ 0 then ((formLift r i 1).1, t0) else thenT (walkR (putW i (formLift r i 1).2) t 0) fun x => walkR (dropW i) x 0
theorem wrong_zero {t : T} {i : Int} {r : List Cl} (h : dimsWrong t i r = 0) : formedP t = 0 ∧ (0 ≤ i ∧ i < 24) ∧ fRight r = true := by
  unfold dimsWrong at h
  split at h
  · rename_i h1; exact absurd h h1
  · rename_i h1
    split at h
    · cases h
    · rename_i h2
      simp only [Bool.not_eq_false, Bool.and_eq_true] at h2
      refine ⟨Decidable.not_not.mp h1, ?_, h2.2⟩
      have h3 := h2.1
      unfold isDim at h3
      simpa using h3
def putsT (r : List Cl) (l : List Int) (t : T) : Int × T := foldT (fun i u => walkR (putW i r) u 0) l t
abbrev EP : Type := Nat × List Cl × SH
def epCells (p : EP) : List Value := [.int .u32 (p.1 : Int), sl p.2.2 p.2.1.length]
abbrev epE (p : EP) : Fact := CL p.2.1 p.2.2
def ep0 : EP := (0, [], none, 0)
abbrev ENF (l : List EP) (a : SH) : Fact := RowF 2 32 epCells epE ep0 l a
def endsT (l : List EP) (t : T) : Int × T := foldT (fun (p : EP) u => putsT p.2.1 (listM p.1) u) l t
def dimsUnder (t : T) (c : Cl) : Int × T := if formedP t ≠ 0 then (formedP t, t0) else if single c = false then (2, t0) else thenT (putsT [cl0] (listM c.pos) t) fun u => putsT [] (listM c.neg) u
theorem endsT_two {c : Cl} {a : SH} {t : T} : endsT [(c.pos, [cl0], a), (c.neg, [], none, 0)] t = thenT (putsT [cl0] (listM c.pos) t) fun u => putsT [] (listM c.neg) u := by
  unfold endsT
  simp only [foldT]
  congr 1
  funext u
  by_cases h : (putsT [] (listM c.neg) u).1 = 0
  · rw [thenT_ok h]; exact Prod.ext h.symm rfl
  · rw [thenT_bad h]
    unfold putsT at h ⊢
    refine Prod.ext rfl ?_
    show t0 = _
    exact (foldT_t0 h).symm
theorem putsT_okT {r : List Cl} {l : List Int} {t : T} (h : okT t) : okT (putsT r l t).2 := foldT_keep okT_t0 (fun i u hu => asRes_okT (okW_put i r) hu) h
theorem putsT_size {r : List Cl} {l : List Int} {t : T} {n : Nat} (hn : 1 ≤ n) (h : size t ≤ n) : size (putsT r l t).2 ≤ n := foldT_keep (p := fun u => size u ≤ n) (by rw [size_t0]; exact hn) (fun i u hu => Nat.le_trans asRes_size hu) h
section
variable {P : Program} [Tab P] {f : FuncId} {R : Ending → World → Prop} {B : Base} {n : Fz} {K : List Item} {ops : Array Oper} {l : List Nat} {σ : Nat → Value} {Γ : List Fact} {Ms : List Res} {dst : Option Tmp} {ty : TypeId} {x : Operand}
theorem o_ldEN {t : TypeId} {l' : List (Nat × Nat)} {bt bk o i' : Nat} {a : SH} {zv : Value} {ls : List EP} (k_ : RgT P f R B n K ops l (putS σ dst (.agg (epCells (ls.getD i' ep0)).toArray)) Γ Ms) (hF : ENF ls a ∈ Γ := by repeat (first | exact List.mem_cons_self | apply List.mem_cons_of_mem))
    (hx : ev σ x = .pointer (some ⟨bk, o + i' * 2, none⟩) := by exact wn_) (ha : a.1 = some ⟨bk, o, none⟩ := by assumption) (hu : Tab.lay P t = some l' := by rfl) (hi : Tab.inf P t = some (2, bt, zv) := by rfl) (hlt : i' < ls.length := by first | omega | (simp; omega)) (hd : dstOk n dst = true := by rfl) : OpT P f R B n K ops l (opr dst (.load t x) ty) σ Γ Ms :=
  sq_load (le_rowE (F := epCells) (fun _ => rfl) hx hF ha hu hi hlt) hd k_
end
/-! From what holds to what is asked. -/
theorem Spec.conj2 {P : Program} {k : FuncId} {args : Array Value} {pre L : List Fact} {G : Fact} {Ms0 : List Res} {X : Type} {val : X → Value} {N : X → List Fact} {Ms1 : X → List Res} (hp : ∀ F, F ∈ pre → F ∈ G :: L) (h : Spec P k args pre Ms0 val N Ms1) : Spec P k args [AllFs L, G] Ms0 val N Ms1 := fun ok w hok hs =>
  h ok w hok ⟨hs.chg, fun F hF => by
    rcases List.mem_cons.mp (hp F hF) with e | e
    · subst e; exact hs.facts _ (List.mem_cons_of_mem _ List.mem_cons_self)
    · exact hs.facts (AllFs L) List.mem_cons_self F e, hs.res, hs.lt, hs.disj⟩
theorem Spec.unconj2 {P : Program} {k : FuncId} {args : Array Value} {pre L : List Fact} {G : Fact} {Ms0 : List Res} {X : Type} {val : X → Value} {N : X → List Fact} {Ms1 : X → List Res} (hL : ∀ F, F ∈ L → F ∈ pre) (hG : G ∈ pre) (h : Spec P k args [AllFs L, G] Ms0 val N Ms1) : Spec P k args pre Ms0 val N Ms1 := fun ok w hok hs =>
  h ok w hok ⟨hs.chg, fun F hF => by
    rcases List.mem_cons.mp hF with e | e
    · subst e; exact fun F' hF' => hs.facts F' (hL F' hF')
    · rw [List.mem_singleton] at e; subst e; exact hs.facts _ hG, hs.res, hs.lt, hs.disj⟩
theorem St.litEN {B : Base} {Γ : List Fact} {Ms : List Res} {w : World} {e : TypeId} {b : Nat} {p q : EP} (hs : St B Γ (boxR b (epCells p ++ epCells q) e :: Ms) w) {hBp : Prop} (hB : hBp) (hF : epE p ∈ Γ) (hG : epE q ∈ Γ) : St B (ENF [p, q] (some ⟨b, 0, Option.none⟩, 2) :: Γ) Ms w := by
  have h1 := ((hs.boxRow (sz := 2) (m := 2) rfl (by decide)).allNil epE).allAdd (x := p) List.mem_cons_self (List.mem_cons_of_mem _ hF)
  have h2 := h1.allAdd (x := q) List.mem_cons_self (List.mem_cons_of_mem _ (List.mem_cons_of_mem _ hG))
  exact (h2.settleRow (F := epCells) (E := epE) (d := ep0) (bt := 32) (l := [p, q]) (fun _ => rfl) hB List.mem_cons_self (by simp) rfl (by decide)).less (by simp +contextual)
end Go.Hy
namespace Go.Hy
open Go Go.ChangeShapes Go.WideShapes Go.RowKit Go.Shelf Go.Proofs
/-! ### A law whose row lists a package-level table -/
theorem law_lifted_laid {C : Checked} {os : Os} {f : FuncId} {fn : Func} {s : ChangeSpec} {conds : List PathCond} {ts : List TypeId} {tb : TypeId} {H : Type} {enc : TypeId × Value → H} {L : List (String × DataW Unit)}
    (own : ownKnob C.prog.godebug = none) (started : os.Started) (noInit : C.prog.inits.idxOf? f = none) (hfn : C.prog.funcs[f]? = some fn)
    (witness : ∃ (w : World) (tape : Tape) (i : Input), w.os = os ∧ (w.forCall tape i).Shaped C.prog ∧ i.vars = [] ∧ Input.okWide C.prog (w.forCall tape i) .any w.heap.size f i ∧
      ((s.pre enc C.prog fn conds false (w.forCall tape i).memory i.args ∧ laidMetH C.prog L (w.forCall tape i).memory) ∧ sizedMet enc C.prog fn (OpenSpec.ofChange s) false (w.forCall tape i).memory i.args) ∧ Assume.holds {} C.prog (lone (Frame.enter C.prog f i.args .normal) [] (w.forCall tape i)))
    (laid : laidOutB C.prog = true) (hps : fn.params.toList = ts) (hread : ts.all (fun t => C.prog.readableRec t && decide (t < C.prog.types.size)) = true) (hres : fn.resultTypes = #[tb]) (hbool : C.prog.underlying tb = some .bool) (hvars : s.vars = [])
    (hsays : ∀ ds : List (DataW H), ds.length = ts.length → s.fn H ds = { results := [.lit (.bool true)], args := ds })
    (hcall : ∀ (W : World) (base : Nat) (args : Array Value) (ds : List (DataW H)) (p : List MemPlace), (∀ (j : Nat) t v, ts[j]? = some t → args[j]? = some v → Value.okWide C.prog W .any base t v) →
      DataW.TrodAll enc C.prog W 0 (fun _ => true) true ts args.toList ds p → (∀ x, x ∈ DataW.weightsEach C.prog ts ds → x ≤ reach) → laidMetH C.prog L W →
      Calls C.prog f args W fun e W' => e = .returned (.bool true) ∧ Below W.heap.size W W') :
    ReturnsInHanded {} C os f .any (fun w args => (s.pre enc C.prog fn conds false w args ∧ laidMetH C.prog L w) ∧ sizedMet enc C.prog fn (OpenSpec.ofChange s) false w args) (s.post enc C.prog fn false true false false) := by
  refine returnsInHanded_of_change_and (X := fun w _ => laidMetH C.prog L w) (fun _ _ _ hh h => h.of_heap hh) own started noInit hfn witness ?_
  intro W base args ds gs before hval hW hcnd hwt hL _
  have hW' := hW
  obtain ⟨p, q, hA, hV, rfl, hfz, hnd⟩ := hW
  rw [hvars] at hV
  obtain ⟨rfl, rfl⟩ := trodVars_none hV
  rw [hps] at hA hwt
  have hlen : ∀ {ts : List TypeId} {vs : List Value} {ds : List (DataW H)} {ps : List MemPlace}, DataW.TrodAll enc C.prog W 0 (fun _ => true) true ts vs ds ps → ds.length = ts.length := by
    intro ts
    induction ts with
    | nil => intro vs ds ps h; obtain ⟨_, rfl, _⟩ := trodAll_nil h; rfl
    | cons t ts ih =>
      intro vs ds ps h
      obtain ⟨v, vs1, d, ds1, a, b, rfl, rfl, rfl, _, h2⟩ := trodAll_cons h
      simp [ih h2]
  have hvt : s.plain.varTypes C.prog = [] := by
    have : s.plain.vars = [] := hvars
    unfold DataSpec.varTypes; rw [this]; rfl
  have hw2 : ∀ x, x ∈ DataW.weightsEach C.prog ts ds → x ≤ reach := by
    intro x hx
    rw [List.append_nil, hvt, List.append_nil] at hwt
    have := List.all_eq_true.mp hwt x hx
    exact of_decide_eq_true this
  refine (hcall W base args ds p (fun j t v ht hv => hval j t v (by rw [← Array.getElem?_toList, hps]; exact ht) hv) hA hw2 hL).mono ?_
  intro e W' ⟨he, hb⟩
  have hlt : ∀ x ∈ p, x.block < W.heap.size := fun x hx => hW'.lt x (by simpa using hx)
  refine ⟨.bool true, he, ds, [], p ++ [], [], p, [], hW', ?_, ?_, ?_, hb.frame _, fun h => by cases h⟩
  · rw [List.append_nil, hsays ds (hlen hA), hres]
    exact ⟨[], [], ⟨1, by simp [DataW.trod, Value.cells, hbool]⟩, rfl, rfl⟩
  · rw [List.append_nil, hsays ds (hlen hA), hps]
    refine trodAll_stays laid hb (fun t ht => ?_) hA hlt
    have := List.all_eq_true.mp hread t ht
    simpa using this
  · rw [List.append_nil, hsays ds (hlen hA), hvars]
    rfl
/-- What the row's condition gives the walks: the table's cells. -/
theorem tab_laid {P : Program} {W : World} {nm : String} {t e : TypeId} {tab : List Nat} (hg : P.globalNamed nm = some 0) (ht : (P.globals[0]?).map (·.type) = some t) (hu : P.underlying t = some (.array tab.length e)) (he : P.underlying e = some (.int .u8)) (hc : P.cellsOf e = 1) (hc2 : P.cellsOf t = tab.length) (hpos : 0 < tab.length)
    (hp : ([(nm, (DataW.agg (tab.map fun (v : Nat) => .lit (.int .u8 (v : Int))) : DataW Unit))].all fun x => x.2.handleName?.isNone) = true) (h : laidMetH P [(nm, .agg (tab.map fun (v : Nat) => .lit (.int .u8 (v : Int))))] W) : TabAt 0 tab W ∧ 0 < W.heap.size := by
  rw [MakeChecks.laidMetH_plain _ _ _ hp] at h
  obtain ⟨ps, ⟨g0, t0, cs0, f0, p0, q0, hg0, ht0, hv0, hd0, _⟩, _⟩ := h
  obtain rfl := Option.some.inj (hg.symm.trans hg0)
  obtain rfl := Option.some.inj (ht.symm.trans ht0)
  obtain ⟨xs, m1, rfl, hx1, hlen, hn3, hel⟩ := DataW.trod_array hu hd0
  simp only [Prod.mk.injEq, DataW.agg.injEq] at hx1
  have hcell : ∀ j, j < tab.length → W.cell? ⟨0, j, none⟩ = some (.int .u8 (tab.getD j 0)) := by
    intro j hj
    have h1 := hel j hj
    rw [hc, Nat.mul_one, List.getElem?_eq_getElem (by omega)] at h1
    obtain ⟨n, e1, e2, _⟩ := DataW.trod_int he h1
    have h2 := World.var?_cell hg0 hv0 j
    have h3 : cs0[j]? = some (.int .u8 n) := by
      have h4 := congrArg (fun l => l[0]?) e1
      simp only [List.getElem?_take, List.getElem?_drop, List.getElem?_cons_zero] at h4
      simpa using h4
    rw [h2, h3]
    have h5 : (tab.map fun (v : Nat) => (DataW.lit (.int .u8 (v : Int)) : DataW Unit))[j]? = (xs.map (·.1))[j]? := by rw [hx1.1]
    rw [List.getElem?_map, List.getElem?_map, List.getElem?_eq_getElem hj, List.getElem?_eq_getElem (show j < xs.length by omega)] at h5
    simp only [Option.map_some, Option.some.injEq] at h5
    rw [e2] at h5
    simp only [DataW.lit.injEq, Lit.int.injEq, true_and] at h5
    rw [List.getD_eq_getElem?_getD, List.getElem?_eq_getElem hj]
    simp [← h5]
  refine ⟨hcell, ?_⟩
  have h6 := hcell 0 hpos
  refine Nat.lt_of_not_le fun hz => ?_
  unfold World.cell? at h6
  rw [Array.getElem?_eq_none (show W.heap.size ≤ 0 from hz)] at h6
  simp at h6
theorem tab_fact {W : World} {tab : List Nat} (h : TabAt 0 tab W ∧ 0 < W.heap.size) : (At 0 0 (tab.map fun (v : Nat) => Value.int .u8 (v : Int))).f (okw W) W := by
  refine ⟨h.2, fun j v hj => ?_⟩
  rw [List.getElem?_map] at hj
  cases hq : tab[j]? with
  | none => rw [hq] at hj; cases hj
  | some k =>
    rw [hq] at hj
    injection hj with hj
    subst hj
    have hlt : j < tab.length := by
      refine Nat.lt_of_not_le fun hn => ?_
      rw [List.getElem?_eq_none hn] at hq
      cases hq
    have h1 := h.1 j hlt
    rw [List.getD_eq_getElem?_getD, hq] at h1
    rw [Nat.zero_add]
    exact h1
end Go.Hy
namespace Go.Hy
/-! ### What a row says in a world: dimensions that are so, and dimensions whose opposites are so -/
abbrev Wd : Type := Nat → Prop
def satC (c : Cl) (P N : Wd) : Prop := (∀ i, c.pos.testBit i = true → P i) ∧ ∀ i, c.neg.testBit i = true → N i
def sat (l : List Cl) (P N : Wd) : Prop := ∃ c, c ∈ l ∧ satC c P N
def bitsW (s : Nat) : Wd := fun i => s.testBit i = true
def calmW (P N : Wd) : Prop := ∀ i, ¬ (P i ∧ N i)
theorem or_sub {a b : Nat} : a ||| b = a ↔ ∀ i, b.testBit i = true → a.testBit i = true := by
  constructor
  · intro h i hi
    rw [← h, Nat.testBit_or, hi, Bool.or_true]
  · intro h
    refine Nat.eq_of_testBit_eq fun i => ?_
    rw [Nat.testBit_or]
    cases hb : b.testBit i with
    | false => simp
    | true => rw [h i hb]; rfl
theorem below_sat {a b : Cl} : below a b = true ↔ satC b (bitsW a.pos) (bitsW a.neg) := by
  unfold below satC bitsW
  rw [Bool.and_eq_true, decide_eq_true_eq, decide_eq_true_eq, or_sub, or_sub]
theorem satC_self (c : Cl) : satC c (bitsW c.pos) (bitsW c.neg) := ⟨fun i h => h, fun i h => h⟩
theorem sat_of_below {a b : Cl} {P N : Wd} (h : below a b = true) (hs : satC a P N) : satC b P N := by
  have h1 := below_sat.mp h
  exact ⟨fun i hi => hs.1 i (h1.1 i hi), fun i hi => hs.2 i (h1.2 i hi)⟩
theorem below_refl (c : Cl) : below c c = true := below_sat.mpr (satC_self c)
theorem below_trans {a b c : Cl} (h : below a b = true) (h2 : below b c = true) : below a c = true := below_sat.mpr (sat_of_below h2 (below_sat.mp h))
theorem needless_true {l : List Cl} {c : Cl} (h : needless l c = true) : ∃ d, d ∈ l ∧ c ≠ d ∧ below c d = true := by
  unfold needless at h
  obtain ⟨d, hd, h2⟩ := List.any_eq_true.mp h
  rw [Bool.and_eq_true] at h2
  exact ⟨d, hd, by simpa using h2.1, h2.2⟩
theorem least_cover {l : List Cl} : ∀ (n : Nat) (c : Cl), c.pos + c.neg ≤ n → c ∈ l → ∃ d, d ∈ refLeast l ∧ below c d = true
  | n, c, hn, hc => by
    cases h : needless l c with
    | false => exact ⟨c, refLeast_mem.mpr ⟨hc, h⟩, below_refl c⟩
    | true =>
      obtain ⟨d, hd, hne, hb⟩ := needless_true h
      have h1 : c.pos ||| d.pos = c.pos ∧ c.neg ||| d.neg = c.neg := by
        unfold below at hb
        rw [Bool.and_eq_true, decide_eq_true_eq, decide_eq_true_eq] at hb
        exact hb
      have h2 : d.pos ≤ c.pos := by have := Nat.right_le_or (n := c.pos) (m := d.pos); omega
      have h3 : d.neg ≤ c.neg := by have := Nat.right_le_or (n := c.neg) (m := d.neg); omega
      have h4 : d.pos + d.neg < c.pos + c.neg := by
        refine Nat.lt_of_le_of_ne (by omega) fun he => hne ?_
        have e1 : c.pos = d.pos := by omega
        have e2 : c.neg = d.neg := by omega
        cases c; cases d; simp_all
      obtain ⟨e, he, h5⟩ := least_cover (d.pos + d.neg) d (Nat.le_refl _) hd
      exact ⟨e, he, below_trans hb h5⟩
termination_by n c => c.pos + c.neg
theorem sat_refLeast {l : List Cl} {P N : Wd} : sat (refLeast l) P N ↔ sat l P N := by
  constructor
  · rintro ⟨c, hc, h⟩; exact ⟨c, (refLeast_mem.mp hc).1, h⟩
  · rintro ⟨c, hc, h⟩
    obtain ⟨d, hd, hb⟩ := least_cover _ c (Nat.le_refl _) hc
    exact ⟨d, hd, sat_of_below hb h⟩
theorem sat_least {l : List Cl} {P N : Wd} (h : (leastF l).1 = 0) : sat (leastF l).2 P N ↔ sat l P N := by
  rcases leastF_cases l with ⟨_, _, h2, _⟩ | h2 | h2
  · rw [h2]; exact sat_refLeast
  · rw [h2] at h; cases h
  · rw [h2] at h; cases h
theorem fR_all {l : List Cl} (h : fRight l = true) : l.all right24 = true := by
  unfold fRight at h
  simp only [Bool.and_eq_true] at h
  exact h.1.1.1
theorem clash_iff {c : Cl} : clash c = false ↔ calmW (bitsW c.pos) (bitsW c.neg) := by
  unfold clash calmW bitsW
  rw [decide_eq_false_iff_not, Decidable.not_not]
  constructor
  · rintro h i ⟨h1, h2⟩
    have h3 : (c.pos &&& c.neg).testBit i = true := by rw [Nat.testBit_and, h1, h2]; rfl
    rw [h, Nat.zero_testBit] at h3
    cases h3
  · intro h
    refine Nat.eq_of_testBit_eq fun i => ?_
    rw [Nat.testBit_and, Nat.zero_testBit]
    cases h1 : c.pos.testBit i with
    | false => rfl
    | true => cases h2 : c.neg.testBit i with
      | false => rfl
      | true => exact absurd ⟨h1, h2⟩ (h i)
theorem face_calm {l : List Cl} (h : faceRight l = true) : fRight l = true ∧ ∀ c, c ∈ l → clash c = false := by
  unfold faceRight at h
  rw [Bool.and_eq_true, Bool.not_eq_true'] at h
  refine ⟨h.1, fun c hc => ?_⟩
  cases hq : clash c with
  | false => rfl
  | true => rw [List.any_eq_true.mpr ⟨c, hc, hq⟩] at h; cases h.2
theorem calm_face {l : List Cl} (h : fRight l = true) (h2 : ∀ c, c ∈ l → clash c = false) : faceRight l = true := by
  unfold faceRight
  rw [Bool.and_eq_true, Bool.not_eq_true', h]
  refine ⟨rfl, ?_⟩
  cases hq : l.any clash with
  | false => rfl
  | true => obtain ⟨c, hc, h3⟩ := List.any_eq_true.mp hq; rw [h2 c hc] at h3; cases h3
/-! Joins, meets, opposites. -/
section
variable {f g l : List Cl} {P N : Wd} {a b c : Cl}
theorem sat_nil : ¬ sat [] P N := by rintro ⟨c, hc, _⟩; cases hc
theorem sat_append : sat (f ++ g) P N ↔ sat f P N ∨ sat g P N := by
  unfold sat
  simp only [List.mem_append]
  constructor
  · rintro ⟨c, h | h, h2⟩
    · exact .inl ⟨c, h, h2⟩
    · exact .inr ⟨c, h, h2⟩
  · rintro (⟨c, h, h2⟩ | ⟨c, h, h2⟩)
    · exact ⟨c, .inl h, h2⟩
    · exact ⟨c, .inr h, h2⟩
theorem sat_single : sat [c] P N ↔ satC c P N := by
  unfold sat
  constructor
  · rintro ⟨d, hd, h⟩; rw [List.mem_singleton] at hd; subst hd; exact h
  · intro h; exact ⟨c, List.mem_singleton.mpr rfl, h⟩
theorem satC_cl0 : satC cl0 P N := ⟨fun i hi => by simp [cl0] at hi, fun i hi => by simp [cl0] at hi⟩
theorem sat_one : sat [cl0] P N := sat_single.mpr satC_cl0
theorem satC_meet : satC (meetC a b) P N ↔ satC a P N ∧ satC b P N := by
  unfold satC meetC
  simp only [Nat.testBit_or, Bool.or_eq_true]
  constructor
  · rintro ⟨h1, h2⟩; exact ⟨⟨fun i hi => h1 i (.inl hi), fun i hi => h2 i (.inl hi)⟩, fun i hi => h1 i (.inr hi), fun i hi => h2 i (.inr hi)⟩
  · rintro ⟨h1, h2⟩; exact ⟨fun i hi => hi.elim (h1.1 i) (h2.1 i), fun i hi => hi.elim (h1.2 i) (h2.2 i)⟩
theorem sat_meetL : sat (meetL f g) P N ↔ sat f P N ∧ sat g P N := by
  unfold sat meetL
  simp only [List.mem_flatMap, List.mem_map]
  constructor
  · rintro ⟨c, ⟨a, ha, b, hb, rfl⟩, h⟩
    have h2 := satC_meet.mp h
    exact ⟨⟨a, ha, h2.1⟩, b, hb, h2.2⟩
  · rintro ⟨⟨a, ha, h1⟩, b, hb, h2⟩
    exact ⟨_, ⟨a, ha, b, hb, rfl⟩, satC_meet.mpr ⟨h1, h2⟩⟩
theorem sat_calm (hw : calmW P N) : sat (calmL l) P N ↔ sat l P N := by
  unfold sat calmL
  constructor
  · rintro ⟨c, hc, h⟩; exact ⟨c, (List.mem_filter.mp hc).1, h⟩
  · rintro ⟨c, hc, h⟩
    refine ⟨c, List.mem_filter.mpr ⟨hc, ?_⟩, h⟩
    rw [Bool.not_eq_true', clash_iff]
    rintro i ⟨h1, h2⟩
    exact hw i ⟨h.1 i h1, h.2 i h2⟩
end
theorem bitM_bit {i : Int} {j : Nat} : (bitM i).testBit j = true ↔ (0 ≤ i ∧ i < 24) ∧ (j : Int) = i := by
  unfold bitM
  split
  · rename_i h
    rw [Nat.testBit_two_pow, decide_eq_true_eq]
    omega
  · rename_i h
    rw [Nat.zero_testBit]
    constructor
    · intro h2; cases h2
    · rintro ⟨h2, _⟩; exact absurd h2 h
theorem withoutM_bit {s : Nat} {i : Int} {j : Nat} : (withoutM s i).testBit j = true ↔ j < 24 ∧ s.testBit j = true ∧ (j : Int) ≠ i := by
  unfold withoutM
  split
  · rename_i h
    rw [andNot32_bit, and24_bit, Nat.testBit_two_pow]
    simp only [Bool.and_eq_true, decide_eq_true_eq, Bool.not_eq_true', decide_eq_false_iff_not]
    constructor
    · rintro ⟨⟨_, h2, h3⟩, h4⟩; exact ⟨h2, h3, by omega⟩
    · rintro ⟨h1, h2, h3⟩; exact ⟨⟨by omega, h1, h2⟩, by omega⟩
  · rename_i h
    rw [and24_bit]
    simp only [Bool.and_eq_true, decide_eq_true_eq]
    constructor
    · rintro ⟨h1, h2⟩; exact ⟨h1, h2, by omega⟩
    · rintro ⟨h1, h2, _⟩; exact ⟨h1, h2⟩
theorem right24_bits {c : Cl} (h : right24 c = true) : (∀ i, c.pos.testBit i = true → i < 24) ∧ ∀ i, c.neg.testBit i = true → i < 24 := by
  obtain ⟨h1, h2⟩ := right24_iff.mp h
  have key : ∀ s i : Nat, s < 16777216 → s.testBit i = true → i < 24 := fun s i hs hi => by
    refine Decidable.byContradiction fun hn => ?_
    have h3 : s < 2 ^ i := Nat.lt_of_lt_of_le (show s < 2 ^ 24 by omega) (Nat.pow_le_pow_right (by omega) (by omega))
    rw [Nat.testBit_lt_two_pow h3] at hi
    cases hi
  exact ⟨fun i hi => key _ i h1 hi, fun i hi => key _ i h2 hi⟩
theorem satC_take {c : Cl} {i : Int} {P N : Wd} (hc : right24 c = true) : satC (takeC c i) P N ↔ (∀ j : Nat, c.pos.testBit j = true → (j : Int) ≠ i → P j) ∧ ∀ j : Nat, c.neg.testBit j = true → (j : Int) ≠ i → N j := by
  obtain ⟨h1, h2⟩ := right24_bits hc
  unfold satC takeC
  simp only [withoutM_bit]
  exact ⟨fun h => ⟨fun j hj hn => h.1 j ⟨h1 j hj, hj, hn⟩, fun j hj hn => h.2 j ⟨h2 j hj, hj, hn⟩⟩, fun h => ⟨fun j hj => h.1 j hj.2.1 hj.2.2, fun j hj => h.2 j hj.2.1 hj.2.2⟩⟩
theorem mem_listM {s : Nat} {x : Int} : x ∈ listM s ↔ 0 ≤ x ∧ x < 24 ∧ s.testBit x.toNat = true := listTo_mem
theorem sat_opp {c : Cl} {P N : Wd} (hc : right24 c = true) : sat (oppL c) P N ↔ (∃ i, c.pos.testBit i = true ∧ N i) ∨ ∃ i, c.neg.testBit i = true ∧ P i := by
  obtain ⟨b1, b2⟩ := right24_bits hc
  unfold oppL
  rw [sat_append]
  have one : ∀ (s : Nat) (hs : ∀ i, s.testBit i = true → i < 24) (mk : Nat → Cl) (Q : Wd) (hq : ∀ x : Int, 0 ≤ x → x < 24 → (satC (mk (bitM x)) P N ↔ Q x.toNat)), sat ((listM s).map fun i => mk (bitM i)) P N ↔ ∃ i, s.testBit i = true ∧ Q i := by
    intro s hs mk Q hq
    unfold sat
    simp only [List.mem_map]
    constructor
    · rintro ⟨_, ⟨x, hx, rfl⟩, h⟩
      obtain ⟨x0, x1, x2⟩ := mem_listM.mp hx
      exact ⟨x.toNat, x2, (hq x x0 x1).mp h⟩
    · rintro ⟨i, hi, h⟩
      have h3 := hs i hi
      exact ⟨_, ⟨(i : Int), mem_listM.mpr ⟨by omega, by omega, by simpa using hi⟩, rfl⟩, (hq (i : Int) (by omega) (by omega)).mpr (by simpa using h)⟩
  have e1 := one c.pos b1 (fun s => ⟨0, s⟩) N (fun x x0 x1 => by
    unfold satC
    simp only [Nat.zero_testBit, bitM_bit]
    constructor
    · intro h; exact h.2 x.toNat ⟨⟨x0, x1⟩, by omega⟩
    · intro h; exact ⟨fun i hi => (by cases hi), fun i hi => (show i = x.toNat by omega) ▸ h⟩)
  have e2 := one c.neg b2 (fun s => ⟨s, 0⟩) P (fun x x0 x1 => by
    unfold satC
    simp only [Nat.zero_testBit, bitM_bit]
    constructor
    · intro h; exact h.1 x.toNat ⟨⟨x0, x1⟩, by omega⟩
    · intro h; exact ⟨fun i hi => (show i = x.toNat by omega) ▸ h, fun i hi => (by cases hi)⟩)
  exact or_congr e1 e2
/-! Folds that are told. -/
theorem foldF_inv {g : List Cl → Cl → EL} {L : List Cl} {I : List Cl → List Cl → Prop} (hs : ∀ pre c h, c ∈ L → I pre h → (g h c).1 = 0 → I (pre ++ [c]) (g h c).2) : ∀ (m pre h : List Cl), I pre h → (∀ c, c ∈ m → c ∈ L) → (foldF g h m).1 = 0 → I (pre ++ m) (foldF g h m).2
  | [], pre, h, hi, _, _ => by rw [List.append_nil]; exact hi
  | c :: m, pre, h, hi, hm, h0 => by
    rw [foldF] at h0 ⊢
    by_cases h1 : (g h c).1 = 0
    · rw [bindE_ok h1] at h0 ⊢
      have h2 := foldF_inv hs m (pre ++ [c]) _ (hs pre c h (hm c List.mem_cons_self) hi h1) (fun d hd => hm d (List.mem_cons_of_mem _ hd)) h0
      rwa [List.append_assoc] at h2
    · rw [bindE_bad h1] at h0
      exact absurd h0 h1
theorem bindE_zero {x : EL} {k : List Cl → EL} (h : (bindE x k).1 = 0) : x.1 = 0 ∧ (k x.2).1 = 0 ∧ bindE x k = k x.2 := by
  by_cases h1 : x.1 = 0
  · rw [bindE_ok h1] at h ⊢; exact ⟨h1, h, rfl⟩
  · rw [bindE_bad h1] at h; exact absurd h h1
def coW (P : Wd) : Wd := fun i => ¬ P i
theorem sat_not {f : List Cl} {P N : Wd} (hf : ∀ c, c ∈ f → right24 c = true) (h : (notF f).1 = 0) : sat (notF f).2 P N ↔ ¬ sat f (coW N) (coW P) := by
  have h2 := foldF_inv (g := notStep) (L := f) (I := fun pre h => ∀ P N, sat h P N ↔ ∀ c, c ∈ pre → ¬ satC c (coW N) (coW P)) (fun pre c h hc hi h0 P N => by
    unfold notStep at h0 ⊢
    obtain ⟨a1, a2, a3⟩ := bindE_zero h0
    rw [a3]
    unfold meetF at a2 ⊢
    rw [sat_least a2, sat_meetL, hi]
    unfold oppF at a1 ⊢
    rw [sat_least a1, sat_opp (hf c hc)]
    simp only [List.mem_append, List.mem_singleton, or_imp, forall_and, forall_eq]
    refine and_congr Iff.rfl ?_
    unfold satC coW
    constructor
    · rintro (⟨i, hi, hn⟩ | ⟨i, hi, hn⟩) ⟨h1, h2⟩
      · exact h1 i hi hn
      · exact h2 i hi hn
    · intro h1
      refine Classical.byContradiction fun h2 => h1 ⟨fun i hi hn => h2 (.inl ⟨i, hi, hn⟩), fun i hi hn => h2 (.inr ⟨i, hi, hn⟩)⟩) f [] [cl0] (fun P N => ⟨fun _ c hc => (by cases hc), fun _ => sat_one⟩) (fun c hc => hc) h P N
  rw [List.nil_append] at h2
  unfold notF
  rw [h2]
  unfold sat
  constructor
  · rintro h3 ⟨c, hc, h4⟩; exact h3 c hc h4
  · intro h3 c hc h4; exact h3 ⟨c, hc, h4⟩
/-! A formula in a dimension's place. -/
def ovr (P : Wd) (i : Int) (A : Prop) : Wd := fun j => if (j : Int) = i then A else P j
theorem satC_ovr {c : Cl} {i : Int} {P N : Wd} {A A' : Prop} (hc : right24 c = true) : satC c (ovr P i A) (ovr N i A') ↔ satC (takeC c i) P N ∧ (hasM c.pos i = true → A) ∧ (hasM c.neg i = true → A') := by
  obtain ⟨b1, b2⟩ := right24_bits hc
  rw [satC_take hc]
  unfold satC ovr hasM
  simp only [Bool.and_eq_true, decide_eq_true_eq]
  constructor
  · rintro ⟨h1, h2⟩
    refine ⟨⟨fun j hj hn => ?_, fun j hj hn => ?_⟩, ?_, ?_⟩
    · have := h1 j hj; rwa [if_neg hn] at this
    · have := h2 j hj; rwa [if_neg hn] at this
    · rintro ⟨⟨h3, h4⟩, h5⟩; have := h1 _ h5; rwa [if_pos (by omega)] at this
    · rintro ⟨⟨h3, h4⟩, h5⟩; have := h2 _ h5; rwa [if_pos (by omega)] at this
  · rintro ⟨⟨h1, h2⟩, h3, h4⟩
    refine ⟨fun j hj => ?_, fun j hj => ?_⟩
    · split
      · rename_i h; have := b1 j hj; exact h3 ⟨⟨by omega, by omega⟩, by rw [← h]; simpa using hj⟩
      · rename_i h; exact h1 j hj h
    · split
      · rename_i h; have := b2 j hj; exact h4 ⟨⟨by omega, by omega⟩, by rw [← h]; simpa using hj⟩
      · rename_i h; exact h2 j hj h
theorem right24_take (c : Cl) (i : Int) : right24 (takeC c i) = true := right24_iff.mpr ⟨withoutM_lt _ _, withoutM_lt _ _⟩
end Go.Hy
namespace Go.Hy
theorem sat_of {r : List Cl} {P N : Wd} (hw : calmW P N) (h : (ofF r).1 = 0) : sat (ofF r).2 P N ↔ sat r P N := by
  unfold ofF at h ⊢
  split at h
  · rename_i h1
    rw [if_pos h1, sat_least h, sat_calm hw]
  · cases h
theorem sat_ofZero {r : List Cl} {P N : Wd} (hw : calmW P N) (h : (ofZero r).1 = 0) : sat (ofZero r).2 P N ↔ ¬ sat r (coW N) (coW P) := by
  unfold ofZero at h ⊢
  obtain ⟨a1, a2, a3⟩ := bindE_zero h
  rw [a3, sat_of hw a2]
  unfold notR at a1 ⊢
  split at a1
  · rename_i h1
    rw [if_pos h1, sat_not (fun c hc => List.all_eq_true.mp (fR_all h1) c hc) a1]
  · cases a1
theorem meetA_one {c : Cl} {x : List Cl} : meetA [c] x = leastF (calmL (x.map fun b => meetC c b)) := by
  unfold meetA
  simp
theorem sat_map_meet {c : Cl} {x : List Cl} {P N : Wd} : sat (x.map fun b => meetC c b) P N ↔ satC c P N ∧ sat x P N := by
  have h := sat_meetL (f := [c]) (g := x) (P := P) (N := N)
  rw [sat_single] at h
  rw [← h]
  unfold meetL
  simp
theorem clash_take {c : Cl} {i : Int} (h : clash c = false) : clash (takeC c i) = false := by
  rw [clash_iff] at h ⊢
  rintro j ⟨h1, h2⟩
  exact h j ⟨(withoutM_bit.mp h1).2.1, (withoutM_bit.mp h2).2.1⟩
theorem has_both {c : Cl} {i : Int} (h : clash c = false) (h1 : hasM c.pos i = true) : hasM c.neg i = false := by
  cases h2 : hasM c.neg i with
  | false => rfl
  | true =>
    unfold hasM at h1 h2
    simp only [Bool.and_eq_true] at h1 h2
    exact absurd ⟨h1.2, h2.2⟩ (clash_iff.mp h _)
theorem sat_part {c : Cl} {r : List Cl} {i : Int} {P N : Wd} (hw : calmW P N) (hcl : clash c = false) (h : (facePart i r c).1 = 0) : sat (facePart i r c).2 P N ↔ satC (takeC c i) P N ∧ (hasM c.pos i = true → sat r P N) ∧ (hasM c.neg i = true → ¬ sat r (coW N) (coW P)) := by
  unfold facePart at h ⊢
  split at h
  · rename_i h1
    rw [if_pos h1]
    obtain ⟨a1, a2, a3⟩ := bindE_zero h
    rw [a3]
    rw [meetA_one] at a2 ⊢
    rw [sat_least a2, sat_calm hw, sat_map_meet, sat_of hw a1]
    have h2 := has_both hcl h1
    exact ⟨fun h => ⟨h.1, fun _ => h.2, fun h3 => by rw [h2] at h3; cases h3⟩, fun h => ⟨h.1, h.2.1 h1⟩⟩
  · rename_i h1
    rw [if_neg h1]
    split at h
    · rename_i h2
      rw [if_pos h2]
      obtain ⟨a1, a2, a3⟩ := bindE_zero h
      rw [a3]
      rw [meetA_one] at a2 ⊢
      rw [sat_least a2, sat_calm hw, sat_map_meet, sat_ofZero hw a1]
      exact ⟨fun h => ⟨h.1, fun h3 => absurd h3 h1, fun _ => h.2⟩, fun h => ⟨h.1, h.2.2 h2⟩⟩
    · rename_i h2
      rw [if_neg h2, sat_single]
      exact ⟨fun h => ⟨h, fun h3 => absurd h3 h1, fun h3 => absurd h3 h2⟩, fun h => h.1⟩
theorem part_calm {c : Cl} {r : List Cl} {i : Int} (hcl : clash c = false) (h : (facePart i r c).1 = 0) : ∀ d, d ∈ (facePart i r c).2 → clash d = false := by
  have key : ∀ x : List Cl, (meetA [takeC c i] x).1 = 0 → ∀ d, d ∈ (meetA [takeC c i] x).2 → clash d = false := by
    intro x hx d hd
    rw [meetA_one] at hx hd
    have h2 := leastF_sub hx hd
    unfold calmL at h2
    simpa using (List.mem_filter.mp h2).2
  unfold facePart at h ⊢
  split at h
  · rename_i h1
    rw [if_pos h1]
    obtain ⟨a1, a2, a3⟩ := bindE_zero h
    rw [a3]
    exact key _ a2
  · rename_i h1
    rw [if_neg h1]
    split at h
    · rename_i h2
      rw [if_pos h2]
      obtain ⟨a1, a2, a3⟩ := bindE_zero h
      rw [a3]
      exact key _ a2
    · rename_i h2
      rw [if_neg h2]
      intro d hd
      rw [List.mem_singleton] at hd
      subst hd
      exact clash_take hcl
theorem sat_facePut {f r : List Cl} {i : Int} (h : (facePut f i r).1 = 0) : faceRight f = true ∧ fRight r = true ∧ (0 ≤ i ∧ i < 24) ∧ faceRight (facePut f i r).2 = true ∧ ∀ P N, calmW P N → (sat (facePut f i r).2 P N ↔ sat f (ovr P i (sat r P N)) (ovr N i (¬ sat r (coW N) (coW P)))) := by
  unfold facePut at h ⊢
  split at h
  · cases h
  · rename_i h1
    rw [if_neg h1]
    simp only [Bool.not_eq_false, Bool.and_eq_true] at h1
    obtain ⟨⟨hf, hi⟩, hr⟩ := h1
    have h3 : 0 ≤ i ∧ i < 24 := by unfold isDim at hi; simpa using hi
    obtain ⟨hff, hfc⟩ := face_calm hf
    have hf24 := fR_all hff
    refine ⟨hf, hr, h3, ?_⟩
    have h4 := foldF_inv (g := faceStep i r) (L := f) (I := fun pre h => faceRight h = true ∧ ∀ P N, calmW P N → (sat h P N ↔ ∃ c, c ∈ pre ∧ satC c (ovr P i (sat r P N)) (ovr N i (¬ sat r (coW N) (coW P))))) (fun pre c h hc hi h0 => by
      unfold faceStep at h0 ⊢
      obtain ⟨a1, a2, a3⟩ := bindE_zero h0
      rw [a3]
      unfold joinF at a2 ⊢
      have hcl := hfc c hc
      refine ⟨calm_face (leastF_fR a2) fun d hd => ?_, fun P N hw => ?_⟩
      · rcases List.mem_append.mp (leastF_sub a2 hd) with hd | hd
        · exact (face_calm hi.1).2 d hd
        · exact part_calm hcl a1 d hd
      · rw [sat_least a2, sat_append, hi.2 P N hw, sat_part hw hcl a1]
        have hc24 := List.all_eq_true.mp hf24 c hc
        simp only [List.mem_append, List.mem_singleton]
        constructor
        · rintro (⟨d, hd, hs⟩ | hs)
          · exact ⟨d, .inl hd, hs⟩
          · exact ⟨c, .inr rfl, (satC_ovr hc24).mpr hs⟩
        · rintro ⟨d, hd | hd, hs⟩
          · exact .inl ⟨d, hd, hs⟩
          · subst hd
            exact .inr ((satC_ovr hc24).mp hs)) f [] [] ⟨by decide, fun P N _ => ⟨fun h => absurd h sat_nil, fun ⟨c, hc, _⟩ => (by cases hc)⟩⟩ (fun c hc => hc) h
    rw [List.nil_append] at h4
    exact h4
theorem formPut_fR {f r : List Cl} {i : Int} (h : (formPut f i r).1 = 0) : fRight (formPut f i r).2 = true := by
  unfold formPut at h ⊢
  split at h
  · cases h
  · rename_i h1
    split at h
    · cases h
    · rename_i h2
      rw [if_neg h1, if_neg h2]
      exact foldF_inv (g := putStep i r) (L := f) (I := fun pre h => fRight h = true) (fun pre c h hc hi h0 => by
        unfold putStep at h0 ⊢
        obtain ⟨a1, a2, a3⟩ := bindE_zero h0
        rw [a3]
        obtain ⟨b1, b2, b3⟩ := bindE_zero a2
        rw [b3]
        exact leastF_fR b2) f [] [] (by decide) (fun c hc => hc) h
theorem single_iff {c : Cl} : single c = true ↔ right24 c = true ∧ clash c = false := by
  unfold single
  rw [Bool.and_eq_true, Bool.not_eq_true']
theorem rlLen (l : List Cl) : (refLeast l).length ≤ l.length := by
  have := rlTo_len l l.length
  rwa [rlTo_all] at this
theorem leastF_told {l : List Cl} (h : l.all right24 = true) (h2 : l.length ≤ 64) : (leastF l).1 = 0 := by
  unfold leastF
  rw [if_neg (by simp [h]), if_neg (by have := rlLen l; omega)]
end Go.Hy
namespace Go.Hy
/-! ### Where a clause is so: one dimension behind another one -/
abbrev Stp : Type := Int × List Cl
def stepT (p : Stp) (u : T) : Int × T := walkR (putW p.1 p.2) u 0
def stepsC (c : Cl) : List Stp := ((listM c.pos).map fun i => (i, [cl0])) ++ ((listM c.neg).map fun i => (i, []))
theorem foldT_append {α : Type} {g : α → T → Int × T} : ∀ {l m : List α} {t : T}, foldT g (l ++ m) t = thenT (foldT g l t) fun u => foldT g m u
  | [], m, t => by rw [List.nil_append, foldT, thenT_ok rfl]
  | a :: l, m, t => by
    rw [List.cons_append, foldT, foldT]
    by_cases h : (g a t).1 = 0
    · rw [thenT_ok h, thenT_ok h]; exact foldT_append
    · rw [thenT_bad h, thenT_bad h, thenT_bad (x := ((g a t).1, t0)) h]
theorem foldT_map {α β : Type} {g : α → T → Int × T} {f : β → α} : ∀ {l : List β} {t : T}, foldT g (l.map f) t = foldT (fun b u => g (f b) u) l t
  | [], t => rfl
  | b :: l, t => by rw [List.map_cons, foldT, foldT]; congr 1; funext u; exact foldT_map
theorem under_steps {t : T} {c : Cl} (hf : formedP t = 0) (hc : single c = true) : dimsUnder t c = foldT stepT (stepsC c) t := by
  unfold dimsUnder stepsC
  rw [if_neg (by simp [hf]), if_neg (by simp [hc]), foldT_append, foldT_map]
  congr 1
  funext u
  rw [foldT_map]
  rfl
theorem has_free {f : List Cl} {i : Int} (hf : f.all right24 = true) (h : hasM (fDims f) i = false) {c : Cl} (hc : c ∈ f) (j : Nat) (hj : (c.pos ||| c.neg).testBit j = true) : (j : Int) ≠ i := by
  intro e
  subst e
  obtain ⟨b1, b2⟩ := right24_bits (List.all_eq_true.mp hf c hc)
  have hlt : j < 24 := by
    rw [Nat.testBit_or, Bool.or_eq_true] at hj
    exact hj.elim (b1 j) (b2 j)
  unfold hasM at h
  rw [decide_eq_true (show (0 : Int) ≤ (j : Int) by omega), decide_eq_true (show (j : Int) < 24 by omega)] at h
  simp only [Bool.true_and, Int.toNat_natCast] at h
  rw [fDims_bit.mpr ⟨hlt, c, hc, hj⟩] at h
  cases h
theorem listM_nat {s j : Nat} (hj : j < 24) : (j : Int) ∈ listM s ↔ s.testBit j = true := by
  rw [mem_listM]
  simp only [Int.toNat_natCast]
  constructor
  · rintro ⟨_, _, h⟩; exact h
  · intro h; exact ⟨by omega, by omega, h⟩
end Go.Hy
namespace Go.Hy
def uE : T := .mk 3 0 ⟨#[]⟩ [] [] []
def aE (t u : T) : T := .mk 6 0 ⟨#[]⟩ [] [t, u] []
end Go.Hy
namespace Go.Hy
/-! ### The chapter's examples of dims -/
def lpE (r : List Cl) : T := .mk 21 0 ⟨#[]⟩ r [] []
def hcE : T := .mk 15 0 ⟨#[]⟩ [] [uE, uE] [.mk [⟨1, 0⟩] [uE]]
def hcF : T := .mk 15 0 ⟨#[]⟩ [] [uE, uE] []
theorem ex_dput : dimsPut (lpE [⟨1, 0⟩]) 0 [⟨2, 0⟩] = (0, lpE [⟨2, 0⟩]) := by decide +kernel
theorem ex_dtake : dimsTake (lpE [⟨1, 0⟩, ⟨2, 0⟩]) 0 [] = (0, lpE [⟨1, 0⟩]) := by decide +kernel
theorem ex_dunder : dimsUnder hcE ⟨0, 1⟩ = (0, hcF) := by decide +kernel
theorem ex_dsize : size (lpE [⟨1, 0⟩]) = 1 ∧ size (lpE [⟨1, 0⟩, ⟨2, 0⟩]) = 1 ∧ size hcE = 4 := by decide +kernel
theorem dimsPut_okT {t : T} {i : Int} {r : List Cl} (h : okT t) : okT (dimsPut t i r).2 := by
  unfold dimsPut
  split
  · exact okT_t0
  · exact asRes_okT (okW_put i r) h
theorem thenT_okT {x : Int × T} {k : T → Int × T} (hx : okT x.2) (h : ∀ u, okT u → okT (k u).2) : okT (thenT x k).2 := by
  by_cases h1 : x.1 = 0
  · rw [thenT_ok h1]; exact h _ hx
  · rw [thenT_bad h1]; exact okT_t0
theorem dimsTake_okT {t : T} {i : Int} {r : List Cl} (h : okT t) : okT (dimsTake t i r).2 := by
  unfold dimsTake
  split
  · exact okT_t0
  · split
    · exact okT_t0
    · exact thenT_okT (asRes_okT (okW_put _ _) h) fun u hu => asRes_okT (okW_drop i) hu
theorem dimsUnder_okT {t : T} {c : Cl} (h : okT t) : okT (dimsUnder t c).2 := by
  unfold dimsUnder
  split
  · exact okT_t0
  · split
    · exact okT_t0
    · exact thenT_okT (putsT_okT h) fun u hu => putsT_okT hu
theorem thenT_size {x : Int × T} {k : T → Int × T} {n : Nat} (hn : 1 ≤ n) (hx : size x.2 ≤ n) (h : ∀ u, size u ≤ n → size (k u).2 ≤ n) : size (thenT x k).2 ≤ n := by
  by_cases h1 : x.1 = 0
  · rw [thenT_ok h1]; exact h _ hx
  · rw [thenT_bad h1]; show size t0 ≤ n; rw [size_t0]; exact hn
theorem dimsUnder_size {t : T} {c : Cl} : size (dimsUnder t c).2 ≤ size t := by
  have hp := size_pos' t
  unfold dimsUnder
  split
  · show size t0 ≤ _; rw [size_t0]; exact hp
  · split
    · show size t0 ≤ _; rw [size_t0]; exact hp
    · exact thenT_size hp (putsT_size hp (Nat.le_refl _)) fun u hu => putsT_size hp hu
end Go.Hy
namespace Go.Hy
/-! ### Terms in which a face is never -/
mutual
def neverT : T → Bool
  | .mk _ _ _ _ ks ss => neverL ks || neverB ss
def neverL : List T → Bool
  | [] => false
  | t :: ts => neverT t || neverL ts
def neverB : List Br → Bool
  | [] => false
  | .mk f ks :: bs => (decide (f = []) || neverL ks) || neverB bs
end
theorem neverL_mem : ∀ {ts : List T}, neverL ts = true ↔ ∃ t, t ∈ ts ∧ neverT t = true
  | [] => by simp [neverL]
  | t :: ts => by simp [neverL, neverL_mem (ts := ts)]
theorem neverB_mem : ∀ {bs : List Br}, neverB bs = true ↔ ∃ b, b ∈ bs ∧ (b.face = [] ∨ neverL b.kids = true)
  | [] => by simp [neverB]
  | .mk f ks :: bs => by simp [neverB, neverB_mem (bs := bs), Br.face, Br.kids]
theorem neverT_iff {t : T} : neverT t = true ↔ neverL t.kids = true ∨ neverB t.sys = true := by
  obtain ⟨k, n, nm, r, ks, ss⟩ := t
  simp only [neverT, T.kids, T.sys, Bool.or_eq_true]
theorem never_kid {t : T} {i : Nat} (hi : i < t.kids.length) (h : neverT (t.kids.getD i t0) = true) : neverT t = true := neverT_iff.mpr (.inl (neverL_mem.mpr ⟨_, getD_mem hi, h⟩))
theorem never_face {t : T} {s : Nat} (hs : s < t.sys.length) (h : (t.sys.getD s br0).face = []) : neverT t = true := neverT_iff.mpr (.inr (neverB_mem.mpr ⟨_, getD_mem hs, .inl h⟩))
theorem never_sys {t : T} {s k : Nat} (hs : s < t.sys.length) (hk : k < (t.sys.getD s br0).kids.length) (h : neverT ((t.sys.getD s br0).kids.getD k t0) = true) : neverT t = true := neverT_iff.mpr (.inr (neverB_mem.mpr ⟨_, getD_mem hs, .inr (neverL_mem.mpr ⟨_, getD_mem hk, h⟩)⟩))
theorem neverL_none {ts : List T} (h : ∀ k, k < ts.length → neverT (ts.getD k t0) = false) : neverL ts = false := by
  cases hn : neverL ts with
  | false => rfl
  | true =>
    obtain ⟨t, ht, h2⟩ := neverL_mem.mp hn
    obtain ⟨i, hi, rfl⟩ := List.mem_iff_getElem.mp ht
    have := h i hi
    rw [getD_get (d := t0) hi, h2] at this
    cases this
theorem never_none {t : T} (h1 : ∀ i, i < t.kids.length → neverT (t.kids.getD i t0) = false) (h2 : ∀ s, s < t.sys.length → (t.sys.getD s br0).face ≠ [] ∧ neverL (t.sys.getD s br0).kids = false) : neverT t = false := by
  cases hn : neverT t with
  | false => rfl
  | true =>
    rcases neverT_iff.mp hn with h | h
    · rw [neverL_none h1] at h; cases h
    · obtain ⟨b, hb, h3⟩ := neverB_mem.mp h
      obtain ⟨i, hi, rfl⟩ := List.mem_iff_getElem.mp hb
      have h4 := h2 i hi
      rw [getD_get (d := br0) hi] at h4
      rcases h3 with h3 | h3
      · exact absurd h3 h4.1
      · rw [h4.2] at h3; cases h3
/-! ### One way, and then another one, where no face is never -/
section
variable {CA CB CC : Type} {A : Tr CA} {B : Tr CB} {D : Tr CC} (R : CA → CB → CC → Prop)
structure FuseN : Prop where
  inl : ∀ ca cb cc k n nm r u, R ca cb cc → headOK k n nm r → A.own ca k n nm r = .ok (.inl u) → D.own cc k n nm r = (trav B u cb).bind fun w => .ok (.inl w)
  inr : ∀ ca cb cc k n nm r p, R ca cb cc → headOK k n nm r → A.own ca k n nm r = .ok (.inr p) → B.own cb k p.1 nm p.2 = D.own cc k n nm r
  none : ∀ ca cb cc f, R ca cb cc → faceRight f = true → f ≠ [] → A.face ca f = .ok none → D.face cc f = .ok none
  some : ∀ ca cb cc f f', R ca cb cc → faceRight f = true → f ≠ [] → A.face ca f = .ok (some f') → B.face cb f' = D.face cc f
  kid : ∀ ca cb cc b ca', 0 ≤ b.1 → 0 ≤ b.2 → R ca cb cc → A.kid ca b = .ok ca' → (∃ cb' cc', B.kid cb b = .ok cb' ∧ D.kid cc b = .ok cc' ∧ R ca' cb' cc') ∨ ∃ e, B.kid cb b = .bad e ∧ D.kid cc b = .bad e
variable {R}
end
end Go.Hy
namespace Go.Hy
/-! ### Small formulas in a dimension's place are always told -/
theorem foldF_told {g : List Cl → Cl → EL} {L : List Cl} {I : Nat → List Cl → Prop} (hs : ∀ n c h, c ∈ L → n < L.length → I n h → (g h c).1 = 0 ∧ I (n + 1) (g h c).2) : ∀ (m : List Cl) (n : Nat) (h : List Cl), I n h → (∀ c, c ∈ m → c ∈ L) → n + m.length ≤ L.length → (foldF g h m).1 = 0 ∧ I (n + m.length) (foldF g h m).2
  | [], n, h, hi, _, _ => ⟨rfl, hi⟩
  | c :: m, n, h, hi, hm, hl => by
    rw [List.length_cons] at hl
    obtain ⟨h1, h2⟩ := hs n c h (hm c List.mem_cons_self) (by omega) hi
    rw [foldF, bindE_ok h1]
    obtain ⟨h3, h4⟩ := foldF_told hs m (n + 1) _ h2 (fun d hd => hm d (List.mem_cons_of_mem _ hd)) (by omega)
    refine ⟨h3, ?_⟩
    rw [List.length_cons, show n + (m.length + 1) = n + 1 + m.length by omega]
    exact h4
def tiny (x : EL) : Prop := x.1 = 0 ∧ x.2.length ≤ 1 ∧ x.2.all right24 = true
theorem least_all {l : List Cl} (h : l.all right24 = true) (h0 : (leastF l).1 = 0) : (leastF l).2.all right24 = true ∧ (leastF l).2.length ≤ l.length := by
  rcases leastF_cases l with ⟨_, _, h2, _⟩ | h2 | h2
  · rw [h2]
    exact ⟨List.all_eq_true.mpr fun c hc => List.all_eq_true.mp h c (refLeast_mem.mp hc).1, rlLen l⟩
  · rw [h2] at h0; cases h0
  · rw [h2] at h0; cases h0
theorem tiny_least {l : List Cl} (h : l.all right24 = true) (h2 : l.length ≤ 1) : tiny (leastF l) := by
  have h0 := leastF_told h (by omega)
  obtain ⟨h3, h4⟩ := least_all h h0
  exact ⟨h0, by omega, h3⟩
theorem right24_meet {a b : Cl} (h : right24 a = true) (h2 : right24 b = true) : right24 (meetC a b) = true := by
  obtain ⟨a1, a2⟩ := right24_iff.mp h
  obtain ⟨b1, b2⟩ := right24_iff.mp h2
  exact right24_iff.mpr ⟨Nat.or_lt_two_pow (n := 24) a1 b1, Nat.or_lt_two_pow (n := 24) a2 b2⟩
theorem all_meetL {f g : List Cl} (h : f.all right24 = true) (h2 : g.all right24 = true) : (meetL f g).all right24 = true := List.all_eq_true.mpr fun c hc => by
  obtain ⟨a, ha, hc⟩ := List.mem_flatMap.mp hc
  obtain ⟨b, hb, rfl⟩ := List.mem_map.mp hc
  exact right24_meet (List.all_eq_true.mp h a ha) (List.all_eq_true.mp h2 b hb)
theorem tiny_meet {f g : List Cl} (h : f.all right24 = true) (h2 : g.all right24 = true) (l1 : f.length ≤ 1) (l2 : g.length ≤ 1) : tiny (meetF f g) :=
  tiny_least (all_meetL h h2) (by rw [meetL_len]; exact Nat.le_trans (Nat.mul_le_mul l1 l2) (by omega))
theorem one_all (c : Cl) (i : Int) : [takeC c i].all right24 = true := by simp [right24_take]
theorem all_app {f g : List Cl} (h : f.all right24 = true) (h2 : g.all right24 = true) : (f ++ g).all right24 = true := by rw [List.all_append, h, h2]; rfl
theorem all_calm {f : List Cl} (h : f.all right24 = true) : (calmL f).all right24 = true ∧ (calmL f).length ≤ f.length := ⟨List.all_eq_true.mpr fun c hc => List.all_eq_true.mp h c (List.mem_filter.mp hc).1, List.length_filter_le _ _⟩
theorem formPut_told {f r : List Cl} {i : Int} (hf : fRight f = true) (hi : 0 ≤ i ∧ i < 24) (hr : fRight r = true) (h1 : r.length ≤ 1) (h2 : tiny (notF r)) : (formPut f i r).1 = 0 := by
  unfold formPut
  rw [if_neg (by simp [hf, hr]), if_neg (by unfold isDim; simp; omega)]
  have hr24 := fR_all hr
  refine (foldF_told (g := putStep i r) (L := f) (I := fun n h => h.length ≤ n ∧ h.all right24 = true) (fun n c h hc hn hi => ?_) f 0 [] ⟨Nat.le_refl _, rfl⟩ (fun c hc => hc) (by omega)).1
  have hlen := len_right hf
  have a1 : tiny (putPos i r c) := by
    unfold putPos
    split
    · exact tiny_meet (one_all c i) hr24 (by simp) h1
    · exact ⟨rfl, by simp, one_all c i⟩
  have a2 : tiny (putNeg i r c (putPos i r c).2) := by
    unfold putNeg
    split
    · rw [bindE_ok h2.1]; exact tiny_meet a1.2.2 h2.2.2 a1.2.1 h2.2.1
    · exact ⟨rfl, a1.2⟩
  unfold putStep
  rw [bindE_ok a1.1, bindE_ok a2.1]
  unfold joinF
  have h3 := all_app hi.2 a2.2.2
  have h4 : (leastF (h ++ (putNeg i r c (putPos i r c).2).2)).1 = 0 := leastF_told h3 (by rw [List.length_append]; have := a2.2.1; have := hi.1; omega)
  obtain ⟨h5, h6⟩ := least_all h3 h4
  refine ⟨h4, ?_, h5⟩
  rw [List.length_append] at h6
  have := a2.2.1
  have := hi.1
  omega
theorem notF_right {f : List Cl} (h : (notF f).1 = 0) : fRight (notF f).2 = true :=
  foldF_inv (g := notStep) (L := f) (I := fun pre h => fRight h = true) (fun pre c h hc hi h0 => by
    unfold notStep at h0 ⊢
    obtain ⟨a1, a2, a3⟩ := bindE_zero h0
    rw [a3]
    exact leastF_fR a2) f [] [cl0] (by decide) (fun c hc => hc) h
theorem facePut_told {f r : List Cl} {i : Int} (hf : faceRight f = true) (hi : 0 ≤ i ∧ i < 24) (hr : fRight r = true) (h1 : r.length ≤ 1) (h2 : tiny (notF r)) : (facePut f i r).1 = 0 := by
  unfold facePut
  rw [if_neg (by unfold isDim; simp [hf, hr]; omega)]
  have hr24 := fR_all hr
  have hff := (face_calm hf).1
  have hlen := len_right hff
  refine (foldF_told (g := faceStep i r) (L := f) (I := fun n h => h.length ≤ n ∧ h.all right24 = true) (fun n c h hc hn hi => ?_) f 0 [] ⟨Nat.le_refl _, rfl⟩ (fun c hc => hc) (by omega)).1
  have key : ∀ x : EL, tiny x → tiny (meetA [takeC c i] x.2) := fun x hx => by
    rw [meetA_one]
    have h3 : (x.2.map fun b => meetC (takeC c i) b).all right24 = true := List.all_eq_true.mpr fun d hd => by
      obtain ⟨b, hb, rfl⟩ := List.mem_map.mp hd
      exact right24_meet (right24_take c i) (List.all_eq_true.mp hx.2.2 b hb)
    have h4 := all_calm h3
    exact tiny_least h4.1 (Nat.le_trans h4.2 (by rw [List.length_map]; exact hx.2.1))
  have ofT : ∀ x : List Cl, fRight x = true → x.length ≤ 1 → tiny (ofF x) := fun x hx hl => by
    unfold ofF
    rw [if_pos hx]
    have h4 := all_calm (fR_all hx)
    exact tiny_least h4.1 (Nat.le_trans h4.2 hl)
  have zeroT : tiny (ofZero r) := by
    unfold ofZero notR
    rw [if_pos hr, bindE_ok h2.1]
    exact ofT _ (notF_right h2.1) h2.2.1
  have a1 : tiny (facePart i r c) := by
    unfold facePart
    split
    · rw [bindE_ok (ofT r hr h1).1]; exact key _ (ofT r hr h1)
    · split
      · rw [bindE_ok zeroT.1]; exact key _ zeroT
      · exact ⟨rfl, by simp, one_all c i⟩
  unfold faceStep
  rw [bindE_ok a1.1]
  unfold joinF
  have h3 := all_app hi.2 a1.2.2
  have h4 : (leastF (h ++ (facePart i r c).2)).1 = 0 := leastF_told h3 (by rw [List.length_append]; have := a1.2.1; have := hi.1; omega)
  obtain ⟨h5, h6⟩ := least_all h3 h4
  refine ⟨h4, ?_, h5⟩
  rw [List.length_append] at h6
  have := a1.2.1
  have := hi.1
  omega
theorem tiny_one {o : List Cl} (h : o.all right24 = true) (h2 : o.length ≤ 1) : tiny (bindE (leastF o) fun x => meetF [cl0] x) := by
  have h1 := tiny_least h h2
  rw [bindE_ok h1.1]
  exact tiny_meet (by decide) h1.2.2 (by simp) h1.2.1
theorem tiny_single {c : Cl} (h : (oppL c).length ≤ 1) (h2 : (oppL c).all right24 = true) : tiny (notF [c]) := by
  have h3 := tiny_one h2 h
  have e : notF [c] = bindE (notStep [cl0] c) fun h' => foldF notStep h' [] := rfl
  have e2 : notStep [cl0] c = bindE (leastF (oppL c)) fun x => meetF [cl0] x := rfl
  rw [e, e2, bindE_ok h3.1]
  exact ⟨rfl, h3.2⟩
theorem tiny_not_one : tiny (notF [cl0]) := tiny_single (by decide) (by decide)
theorem tiny_not_nil : tiny (notF []) := ⟨rfl, by decide, by decide⟩
theorem lift_one (d : Int) (hd : 0 ≤ d) : formLift [cl0] 0 d = (0, [cl0]) := by
  have h1 : maskLift 0 0 d = (0, 0) := by
    rw [mask_good (by omega) hd (fun x hx => by have : listM 0 = [] := by decide
                                                rw [this] at hx; cases hx), show listM 0 = [] by decide]
    rfl
  have h2 : clLift cl0 0 d = (0, cl0) := by
    unfold clLift
    rw [if_neg (by decide), show cl0.pos = 0 from rfl, show cl0.neg = 0 from rfl, h1]
    simp [cl0]
  have h3 : foldC (fun c => clLift c 0 d) [cl0] = (0, [cl0]) := by
    rw [foldC_ok (fun j hj => by have : j = 0 := by simpa using hj
                                 subst this; rw [show ([cl0] : List Cl).getD 0 cl0 = cl0 from rfl, h2]), List.map_cons, List.map_nil, h2]
  unfold formLift
  rw [if_neg (by decide), h3, if_neg (by simp)]
  exact leastF_fRight.mp (by decide)
/-- A row of a node that may be. -/
theorem head_cases {k n : Int} {nm : ByteArray} {r : List Cl} (h : headOK k n nm r) : (k = 14 → faceRight r = true) ∧ fRight r = true := by
  obtain ⟨_, _, h3, h4, h5, h6, h7⟩ := h
  refine ⟨h6, ?_⟩
  by_cases e : k = 13 ∨ k = 21 ∨ k = 26
  · exact h5 e
  · by_cases e2 : k = 14
    · exact (face_calm (h6 e2)).1
    · rw [h7 (by omega)]; decide
end Go.Hy
namespace Go.Hy
theorem put_none {P : List Cl → Int → List Cl → EL} {i d : Int} {r f : List Cl} (h : hasM (fDims f) (i + d) = false) : rowPut P i r d f = (0, f) := by
  unfold rowPut
  rw [if_pos h]
end Go.Hy
namespace Go.Hy
/-! ### Which dimensions a row has -/
def inD (D : Nat → Prop) (l : List Cl) : Prop := ∀ c, c ∈ l → ∀ j, c.pos.testBit j = true ∨ c.neg.testBit j = true → D j
section
variable {D D' : Nat → Prop} {f g l r : List Cl} {c : Cl} {i : Int}
theorem inD_sub (h : inD D l) (hs : ∀ c, c ∈ g → c ∈ l) : inD D g := fun c hc => h c (hs c hc)
theorem inD_least (h : inD D l) (h0 : (leastF l).1 = 0) : inD D (leastF l).2 := inD_sub h fun c hc => leastF_sub h0 hc
theorem inD_append (h : inD D f) (h2 : inD D g) : inD D (f ++ g) := fun c hc => (List.mem_append.mp hc).elim (h c) (h2 c)
theorem inD_meetL (h : inD D f) (h2 : inD D g) : inD D (meetL f g) := fun c hc j hj => by
  obtain ⟨a, ha, hc⟩ := List.mem_flatMap.mp hc
  obtain ⟨b, hb, rfl⟩ := List.mem_map.mp hc
  unfold meetC at hj
  simp only [Nat.testBit_or, Bool.or_eq_true] at hj
  rcases hj with (hj | hj) | (hj | hj)
  · exact h a ha j (.inl hj)
  · exact h2 b hb j (.inl hj)
  · exact h a ha j (.inr hj)
  · exact h2 b hb j (.inr hj)
theorem inD_opp (h : ∀ j, c.pos.testBit j = true ∨ c.neg.testBit j = true → D j) : inD D (oppL c) := fun d hd j hj => by
  unfold oppL at hd
  rcases List.mem_append.mp hd with hd | hd
  · obtain ⟨x, hx, rfl⟩ := List.mem_map.mp hd
    obtain ⟨x0, x1, x2⟩ := mem_listM.mp hx
    simp only [Nat.zero_testBit, bitM_bit, Bool.false_eq_true, false_or] at hj
    exact h j (.inl (by rw [show j = x.toNat by omega]; exact x2))
  · obtain ⟨x, hx, rfl⟩ := List.mem_map.mp hd
    obtain ⟨x0, x1, x2⟩ := mem_listM.mp hx
    simp only [Nat.zero_testBit, bitM_bit, Bool.false_eq_true, or_false] at hj
    exact h j (.inr (by rw [show j = x.toNat by omega]; exact x2))
theorem inD_not (h : inD D f) (h0 : (notF f).1 = 0) : inD D (notF f).2 :=
  foldF_inv (g := notStep) (L := f) (I := fun pre h => inD D h) (fun pre c hh hc hi h0 => by
    unfold notStep at h0 ⊢
    obtain ⟨a1, a2, a3⟩ := bindE_zero h0
    rw [a3]
    unfold oppF at a1
    exact inD_least (inD_meetL hi (inD_least (inD_opp (h c hc)) a1)) a2) f [] [cl0] (fun c hc j hj => by
      rw [List.mem_singleton] at hc; subst hc; simp [cl0] at hj) (fun c hc => hc) h0
theorem inD_take (h : ∀ j : Nat, c.pos.testBit j = true ∨ c.neg.testBit j = true → (j : Int) ≠ i → D j) : inD D [takeC c i] := fun d hd j hj => by
  rw [List.mem_singleton] at hd
  subst hd
  unfold takeC at hj
  simp only [withoutM_bit] at hj
  rcases hj with ⟨_, h1, h2⟩ | ⟨_, h1, h2⟩
  · exact h j (.inl h1) h2
  · exact h j (.inr h1) h2
theorem inD_formPut (h : ∀ c, c ∈ f → ∀ j : Nat, c.pos.testBit j = true ∨ c.neg.testBit j = true → (j : Int) ≠ i → D j) (hr : inD D r) (h0 : (formPut f i r).1 = 0) : inD D (formPut f i r).2 := by
  unfold formPut at h0 ⊢
  split at h0
  · cases h0
  · rename_i h1
    split at h0
    · cases h0
    · rename_i h2
      rw [if_neg h1, if_neg h2]
      exact foldF_inv (g := putStep i r) (L := f) (I := fun pre h => inD D h) (fun pre c hh hc hi h0 => by
        unfold putStep at h0 ⊢
        obtain ⟨a1, a2, a3⟩ := bindE_zero h0
        rw [a3]
        obtain ⟨b1, b2, b3⟩ := bindE_zero a2
        rw [b3]
        have ht := inD_take (D := D) (h c hc)
        have e1 : inD D (putPos i r c).2 := by
          unfold putPos at a1 ⊢
          split
          · rename_i h5; rw [if_pos h5] at a1; exact inD_least (inD_meetL ht hr) a1
          · exact ht
        have e2 : inD D (putNeg i r c (putPos i r c).2).2 := by
          unfold putNeg at b1 ⊢
          split
          · rename_i h5
            rw [if_pos h5] at b1
            obtain ⟨d1, d2, d3⟩ := bindE_zero b1
            rw [d3]
            exact inD_least (inD_meetL e1 (inD_not hr d1)) d2
          · exact e1
        exact inD_least (inD_append hi e2) b2) f [] [] (fun c hc => by cases hc) (fun c hc => hc) h0
theorem inD_calm (h : inD D l) : inD D (calmL l) := inD_sub h fun c hc => (List.mem_filter.mp hc).1
theorem inD_facePut (h : ∀ c, c ∈ f → ∀ j : Nat, c.pos.testBit j = true ∨ c.neg.testBit j = true → (j : Int) ≠ i → D j) (hr : inD D r) (h0 : (facePut f i r).1 = 0) : inD D (facePut f i r).2 := by
  unfold facePut at h0 ⊢
  split at h0
  · cases h0
  · rename_i h1
    rw [if_neg h1]
    have hof : ∀ x : List Cl, inD D x → (ofF x).1 = 0 → inD D (ofF x).2 := fun x hx h3 => by
      unfold ofF at h3 ⊢
      split at h3
      · rename_i h4; rw [if_pos h4]; exact inD_least (inD_calm hx) h3
      · cases h3
    have hmeet : ∀ (c : Cl) (x : List Cl), inD D [c] → inD D x → (meetA [c] x).1 = 0 → inD D (meetA [c] x).2 := fun c x hc hx h3 => by
      rw [meetA_one] at h3 ⊢
      refine inD_least (inD_calm ?_) h3
      have h4 := inD_meetL hc hx
      unfold meetL at h4
      simpa using h4
    exact foldF_inv (g := faceStep i r) (L := f) (I := fun pre h => inD D h) (fun pre c hh hc hi h0 => by
      unfold faceStep at h0 ⊢
      obtain ⟨a1, a2, a3⟩ := bindE_zero h0
      rw [a3]
      have ht := inD_take (D := D) (h c hc)
      have e1 : inD D (facePart i r c).2 := by
        unfold facePart at a1 ⊢
        split
        · rename_i h5
          rw [if_pos h5] at a1
          obtain ⟨b1, b2, b3⟩ := bindE_zero a1
          rw [b3]
          exact hmeet _ _ ht (hof _ hr b1) b2
        · rename_i h5
          rw [if_neg h5] at a1
          split
          · rename_i h6
            rw [if_pos h6] at a1
            obtain ⟨b1, b2, b3⟩ := bindE_zero a1
            rw [b3]
            refine hmeet _ _ ht ?_ b2
            unfold ofZero at b1 ⊢
            obtain ⟨d1, d2, d3⟩ := bindE_zero b1
            rw [d3]
            refine hof _ ?_ d2
            unfold notR at d1 ⊢
            split at d1
            · rename_i h7; rw [if_pos h7]; exact inD_not hr d1
            · cases d1
          · exact ht
      exact inD_least (inD_append hi e1) a2) f [] [] (fun c hc => by cases hc) (fun c hc => hc) h0
theorem inD_bits (hl : l.all right24 = true) : inD (fun j => (fDims l).testBit j = true) l := fun c hc j hj => by
  obtain ⟨b1, b2⟩ := right24_bits (List.all_eq_true.mp hl c hc)
  exact fDims_bit.mpr ⟨hj.elim (b1 j) (b2 j), c, hc, by rw [Nat.testBit_or, Bool.or_eq_true]; exact hj⟩
theorem bits_inD (h : inD D l) {j : Nat} (hj : (fDims l).testBit j = true) : D j := by
  obtain ⟨_, c, hc, h2⟩ := fDims_bit.mp hj
  rw [Nat.testBit_or, Bool.or_eq_true] at h2
  exact h c hc j h2
end
/-! ### Steps that put 0 or 1 -/
def bitR (r : List Cl) : Prop := r = [cl0] ∨ r = []
theorem bitR_parts {r : List Cl} (h : bitR r) : fRight r = true ∧ r.length ≤ 1 ∧ tiny (notF r) ∧ (∀ D, inD D r) ∧ ∀ d : Int, 0 ≤ d → formLift r 0 d = (0, r) := by
  rcases h with rfl | rfl
  · exact ⟨by decide, by decide, tiny_not_one, fun D c hc j hj => by rw [List.mem_singleton] at hc; subst hc; simp [cl0] at hj, fun d hd => lift_one d hd⟩
  · exact ⟨by decide, by decide, tiny_not_nil, fun D c hc => (by cases hc), fun d hd => formLift_nil 0 d⟩
/-- What a row is, behind such a step. -/
structure RowStep (i d : Int) (f : List Cl) (x : EL) : Prop where
  told : x.1 = 0
  bits : ∀ j, (fDims x.2).testBit j = true → (fDims f).testBit j = true ∧ (j : Int) ≠ i + d
theorem bit_form {i d : Int} {r f : List Cl} (hr : bitR r) (hf : fRight f = true) (hi : 0 ≤ i) (hd : 0 ≤ d) : RowStep i d f (rowPut formPut i r d f) ∧ fRight (rowPut formPut i r d f).2 = true := by
  obtain ⟨r1, r2, r3, r4, r5⟩ := bitR_parts hr
  unfold rowPut
  split
  · rename_i h
    refine ⟨⟨rfl, fun j hj => ⟨hj, ?_⟩⟩, hf⟩
    obtain ⟨_, c, hc, h2⟩ := fDims_bit.mp hj
    exact has_free (fR_all hf) h hc j h2
  · rename_i h
    have hj : 0 ≤ i + d ∧ i + d < 24 := by
      unfold hasM at h
      simp only [Bool.not_eq_false, Bool.and_eq_true, decide_eq_true_eq] at h
      exact h.1
    rw [r5 d hd, bindE_ok rfl]
    have h0 := formPut_told hf hj r1 r2 r3
    refine ⟨⟨h0, fun j hjj => ?_⟩, formPut_fR h0⟩
    exact bits_inD (inD_formPut (D := fun j => (fDims f).testBit j = true ∧ (j : Int) ≠ i + d) (fun c hc j hb hne => ⟨inD_bits (fR_all hf) c hc j hb, hne⟩) (r4 _) h0) hjj
theorem bit_face {i d : Int} {r f : List Cl} (hr : bitR r) (hf : faceRight f = true) (hi : 0 ≤ i) (hd : 0 ≤ d) : RowStep i d f (rowPut facePut i r d f) ∧ faceRight (rowPut facePut i r d f).2 = true := by
  obtain ⟨r1, r2, r3, r4, r5⟩ := bitR_parts hr
  have h24 := fR_all (face_calm hf).1
  unfold rowPut
  split
  · rename_i h
    refine ⟨⟨rfl, fun j hj => ⟨hj, ?_⟩⟩, hf⟩
    obtain ⟨_, c, hc, h2⟩ := fDims_bit.mp hj
    exact has_free h24 h hc j h2
  · rename_i h
    have hj : 0 ≤ i + d ∧ i + d < 24 := by
      unfold hasM at h
      simp only [Bool.not_eq_false, Bool.and_eq_true, decide_eq_true_eq] at h
      exact h.1
    rw [r5 d hd, bindE_ok rfl]
    have h0 := facePut_told hf hj r1 r2 r3
    refine ⟨⟨h0, fun j hjj => ?_⟩, (sat_facePut h0).2.2.2.1⟩
    exact bits_inD (inD_facePut (D := fun j => (fDims f).testBit j = true ∧ (j : Int) ≠ i + d) (fun c hc j hb hne => ⟨inD_bits h24 c hc j hb, hne⟩) (r4 _) h0) hjj
/-! ### Ways through a term whose rows are told and stay right -/
structure GoodW (W : RowsW) : Prop where
  form : ∀ d f, 0 ≤ d → fRight f = true → (W.form d f).1 = 0 ∧ fRight (W.form d f).2 = true
  face : ∀ d f, 0 ≤ d → faceRight f = true → (W.face d f).1 = 0 ∧ faceRight (W.face d f).2 = true
  nil : ∀ d, W.form d [] = (0, [])
theorem good_bit {i : Int} {r : List Cl} (hr : bitR r) (hi : 0 ≤ i) : GoodW (putW i r) where
  form := fun d f hd hf => ⟨(bit_form hr hf hi hd).1.told, (bit_form hr hf hi hd).2⟩
  face := fun d f hd hf => ⟨(bit_face hr hf hi hd).1.told, (bit_face hr hf hi hd).2⟩
  nil := fun d => put_none (by unfold hasM fDims; simp)
theorem row_right {W : RowsW} (hW : GoodW W) {k n d : Int} {nm : ByteArray} {r : List Cl} (hd : 0 ≤ d) (h : headOK k n nm r) : (W.row k d r).1 = 0 ∧ headOK k n nm (W.row k d r).2 := by
  have h0 := h
  obtain ⟨h1, h2, h3, h4, h5, h6, h7⟩ := h
  obtain ⟨q1, q2⟩ := head_cases h0
  unfold RowsW.row
  by_cases e : k = 14
  · rw [if_pos e]
    obtain ⟨a1, a2⟩ := hW.face d r hd (h6 e)
    exact ⟨a1, h1, h2, fun h => by omega, fun h => by omega, fun h => by omega, fun _ => a2, fun h => by omega⟩
  · rw [if_neg e]
    obtain ⟨a1, a2⟩ := hW.form d r hd q2
    refine ⟨a1, h1, h2, fun h => ⟨?_, (h3 h).2⟩, fun h => ⟨?_, (h4 h).2⟩, fun h => a2, fun h => absurd h e, fun h => ?_⟩
    · rw [(h3 h).1, hW.nil]
    · rw [(h4 h).1, hW.nil]
    · rw [h7 h, hW.nil]
theorem walk_ex {W : RowsW} (hW : GoodW W) : ∀ (t : T) {d : Int}, fineT t → 0 ≤ d → ∃ u, trav (rowsTr W) t d = .ok u := T.ind fun t ih d hf hd => by
  have hhead := (fineT_iff.mp hf).1
  refine trav_ex (rows_own_ok (row_right hW hd hhead).1) (fun b hb => ?_) (fun p hp => ?_)
  · have h1 := (hW.face d b.face hd (fine_face hf hb)).1
    by_cases h2 : (W.face d b.face).2.length = 0
    · exact ⟨none, rows_face_none h1 h2⟩
    · exact ⟨some _, rows_face_some h1 h2⟩
  · have h1 := parts_01 hp
    obtain ⟨u, hu⟩ := ih p hp (fine_part hf hp) (d := d + p.2.2) (by omega)
    exact ⟨_, u, rfl, hu⟩
/-- What such a way leads to. -/
theorem rows_out {W : RowsW} {t u : T} {d : Int} (h : trav (rowsTr W) t d = .ok u) : W.row t.kind d t.r = (0, u.r) ∧ u.kind = t.kind ∧ u.n = t.n ∧ u.name = t.name ∧ (∀ q, q ∈ parts u → ∃ p, p ∈ parts t ∧ p.2 = q.2 ∧ trav (rowsTr W) p.1 (d + p.2.2) = .ok q.1) ∧ ∀ b', b' ∈ u.sys → b'.face ≠ [] ∧ ∃ b, b ∈ t.sys ∧ W.face d b.face = (0, b'.face) := by
  rcases trav_out h with h1 | ⟨p, h1, ⟨k1, k2, k3, k4⟩, h2, h3⟩
  · exact absurd h1 rows_own_inl
  · obtain ⟨a1, a2⟩ := rows_own_inr.mp h1
    refine ⟨by rw [k4]; exact a1, k1, by rw [k2, a2], k3, fun q hq => ?_, fun b' hb' => ?_⟩
    · obtain ⟨p', hp', e, c', hc', h4⟩ := h2 q hq
      rw [rows_kid] at hc'
      injection hc' with hc'
      subst hc'
      exact ⟨p', hp', e, h4⟩
    · obtain ⟨b, hb, h4⟩ := h3 b' hb'
      obtain ⟨h5, h6⟩ := rows_face_some_iff.mp h4
      exact ⟨h6, b, hb, h5⟩
theorem walk_never {W : RowsW} : ∀ (t : T) {u : T} {d : Int}, trav (rowsTr W) t d = .ok u → neverT u = false := T.ind fun t ih u d h => by
  obtain ⟨_, _, _, _, h2, h3⟩ := rows_out h
  refine never_none (fun i hi => ?_) fun s hs => ⟨(h3 _ (getD_mem hs)).1, neverL_none fun k hk => ?_⟩
  · obtain ⟨p, hp, e, h4⟩ := h2 _ (List.mem_of_getElem? (parts_kid u i hi))
    exact ih p hp h4
  · obtain ⟨p, hp, e, h4⟩ := h2 _ (List.mem_of_getElem? (parts_sys u s k hs hk))
    exact ih p hp h4
theorem walk_depth {W : RowsW} : ∀ (t : T) {u : T} {d : Int}, trav (rowsTr W) t d = .ok u → depth u ≤ depth t := T.ind fun t ih u d h => by
  have h0 := depth_pos t
  rw [show depth t = (depth t - 1) + 1 by omega, depth_le_iff]
  obtain ⟨_, _, _, _, h2, _⟩ := rows_out h
  intro q hq
  obtain ⟨p, hp, e, h4⟩ := h2 q hq
  have h5 := ih p hp h4
  have h6 := part_depth hp
  omega
theorem walk_sized {W : RowsW} {t u : T} {d : Int} (h : trav (rowsTr W) t d = .ok u) (hs : sized t = 0) : sized u = 0 := by
  obtain ⟨h3, h4⟩ := sized_zero.mp hs
  exact sized_zero.mpr ⟨Nat.le_trans (walk_depth t h) h3, Nat.le_trans (walk_size h) h4⟩
section
variable {W : RowsW}
mutual
theorem walk_fine (hW : GoodW W) : ∀ {t u : T} {d : Int}, 0 ≤ d → fineT t → trav (rowsTr W) t d = .ok u → fineT u
  | .mk k n nm r ks ss, u, d, hd, h, hu => by
    simp only [fineT] at h
    obtain ⟨h1, h2, h3, h4, h5⟩ := h
    rw [trav_eq] at hu
    simp only [T.kind, T.n, T.name, T.r, T.kids, T.sys] at hu
    obtain ⟨o, h9, hu⟩ := Res1.bind_ok hu
    cases o with
    | inl v => exact absurd h9 rows_own_inl
    | inr p =>
      obtain ⟨a1, a2⟩ := rows_own_inr.mp h9
      obtain ⟨ks', h10, hu⟩ := Res1.bind_ok hu
      obtain ⟨ss', h11, hu⟩ := Res1.bind_ok hu
      injection hu with hu
      subst hu
      simp only [fineT]
      have hr := (row_right hW hd h1).2
      rw [a1] at hr
      refine ⟨by rw [a2]; exact hr, by rw [travL_len h10]; exact h2, fun h => ?_, walkL_fine hW hd h4 h10, walkB_fine hW hd h5 h11⟩
      have h12 := travB_len h11
      rw [h3 h] at h12
      exact List.eq_nil_of_length_eq_zero (Nat.le_zero.mp h12)
theorem walkL_fine (hW : GoodW W) {kd : Int} : ∀ {ts : List T} {i : Nat} {d : Int} {us : List T}, 0 ≤ d → fineL ts → travL (rowsTr W) kd i ts d = .ok us → fineL us
  | [], i, d, us, hd, h, hu => by rw [travL_nil] at hu; injection hu with hu; subst hu; simp only [fineL]
  | t :: ts, i, d, us, hd, h, hu => by
    simp only [fineL] at h
    rw [travL_cons] at hu
    obtain ⟨c', h1, hu⟩ := Res1.bind_ok hu
    obtain ⟨t', h2, hu⟩ := Res1.bind_ok hu
    obtain ⟨ts', h3, hu⟩ := Res1.bind_ok hu
    injection hu with hu
    subst hu
    injection h1 with h1
    subst h1
    have hb := (binds_01 kd i).2.2.1
    simp only [fineL]
    exact ⟨walk_fine hW (by omega) h.1 h2, walkL_fine hW hd h.2 h3⟩
theorem walkS_fine (hW : GoodW W) {kd : Int} : ∀ {ts : List T} {d : Int} {us : List T}, 0 ≤ d → fineL ts → travS (rowsTr W) kd ts d = .ok us → fineL us
  | [], d, us, hd, h, hu => by rw [travS_nil] at hu; injection hu with hu; subst hu; simp only [fineL]
  | t :: ts, d, us, hd, h, hu => by
    simp only [fineL] at h
    rw [travS_cons] at hu
    obtain ⟨c', h1, hu⟩ := Res1.bind_ok hu
    obtain ⟨t', h2, hu⟩ := Res1.bind_ok hu
    obtain ⟨ts', h3, hu⟩ := Res1.bind_ok hu
    injection hu with hu
    subst hu
    injection h1 with h1
    subst h1
    have hb := (more_01 kd).1
    simp only [fineL]
    exact ⟨walk_fine hW (by dsimp only; omega) h.1 h2, walkS_fine hW hd h.2 h3⟩
theorem walkB_fine (hW : GoodW W) {kd : Int} : ∀ {bs : List Br} {d : Int} {us : List Br}, 0 ≤ d → fineB kd bs → travB (rowsTr W) kd bs d = .ok us → fineB kd us
  | [], d, us, hd, h, hu => by rw [travB_nil] at hu; injection hu with hu; subst hu; simp only [fineB]
  | .mk f ks :: bs, d, us, hd, h, hu => by
    simp only [fineB] at h
    obtain ⟨h1, h2, h3, h4⟩ := h
    rw [travB_cons] at hu
    simp only [Br.face, Br.kids] at hu
    obtain ⟨o, h5, hu⟩ := Res1.bind_ok hu
    cases o with
    | none => exact walkB_fine hW hd h4 hu
    | some f' =>
      obtain ⟨e1, _⟩ := rows_face_some_iff.mp h5
      obtain ⟨ks', h6, hu⟩ := Res1.bind_ok hu
      obtain ⟨bs', h7, hu⟩ := Res1.bind_ok hu
      injection hu with hu
      subst hu
      simp only [fineB]
      have hf := (hW.face d f hd h2).2
      rw [e1] at hf
      exact ⟨by rw [travS_len h6]; exact h1, hf, walkS_fine hW hd h3 h6, walkB_fine hW hd h4 h7⟩
end
end
end Go.Hy
namespace Go.Hy
/-! ### Where a clause is so, its dimensions are gone -/
structure SubW (W : RowsW) : Prop extends GoodW W where
  formB : ∀ d f, 0 ≤ d → fRight f = true → ∀ j, (fDims (W.form d f).2).testBit j = true → (fDims f).testBit j = true
  faceB : ∀ d f, 0 ≤ d → faceRight f = true → ∀ j, (fDims (W.face d f).2).testBit j = true → (fDims f).testBit j = true
theorem sub_bit {i : Int} {r : List Cl} (hr : bitR r) (hi : 0 ≤ i) : SubW (putW i r) where
  toGoodW := good_bit hr hi
  formB := fun d f hd hf j hj => ((bit_form hr hf hi hd).1.bits j hj).1
  faceB := fun d f hd hf j hj => ((bit_face hr hf hi hd).1.bits j hj).1
theorem rows_shape {W : RowsW} {t u : T} {d : Int} (h : trav (rowsTr W) t d = .ok u) : u.kids.length = t.kids.length ∧ u.sys.length ≤ t.sys.length ∧ ∀ b', b' ∈ u.sys → ∃ b, b ∈ t.sys ∧ W.face d b.face = (0, b'.face) ∧ b'.kids.length = b.kids.length := by
  rw [trav_eq] at h
  obtain ⟨o, h1, h⟩ := Res1.bind_ok h
  cases o with
  | inl v => exact absurd h1 rows_own_inl
  | inr p =>
    obtain ⟨ks', h2, h⟩ := Res1.bind_ok h
    obtain ⟨ss', h3, h⟩ := Res1.bind_ok h
    injection h with h
    subst h
    refine ⟨travL_len h2, travB_len h3, fun b' hb' => ?_⟩
    obtain ⟨_, b2⟩ := travB_at h3
    obtain ⟨b, hb, h4, h5⟩ := b2 b' hb'
    exact ⟨b, hb, (rows_face_some_iff.mp h4).1, travS_len h5⟩
theorem within_sub {f g : List Cl} {d : Int} (h0 : 0 ≤ d) (h : within f d = true) (hs : ∀ j, (fDims g).testBit j = true → (fDims f).testBit j = true) : within g d = true := by
  rw [within_iff h0] at h ⊢
  intro i hi
  cases hh : (fDims g).testBit i with
  | false => rfl
  | true => have := hs i hh; rw [h i hi] at this; cases this
theorem own_walk {W : RowsW} (hW : SubW W) {t u : T} {c v e : Int} (hc : 0 ≤ c) (he : 0 ≤ e) (h : trav (rowsTr W) t c = .ok u) (ho : ownP t v e = true) : ownP u v e = true := by
  obtain ⟨h1, h2, h3, h4, _, _⟩ := rows_out h
  obtain ⟨s1, s2, s3⟩ := rows_shape h
  rw [own_iff] at ho ⊢
  obtain ⟨o1, o2⟩ := ho
  rw [h2, h3, h4]
  have hnil : t.kind ≠ 14 → t.r.length = 0 → u.r.length = 0 := fun k14 e => by
    unfold RowsW.row at h1
    rw [if_neg k14, List.eq_nil_of_length_eq_zero e, hW.nil] at h1
    injection h1 with _ h1
    rw [← h1]; rfl
  refine ⟨?_, ?_⟩
  · unfold own1 at o1 ⊢
    rw [h2, h3, h4, s1]
    simp only [Bool.or_eq_false_iff, Bool.and_eq_false_iff, decide_eq_false_iff_not] at o1 ⊢
    refine ⟨o1.1, o1.2.imp id fun h => ?_⟩
    omega
  · by_cases k1 : t.kind = 1
    · rw [if_pos k1] at o2 ⊢
      exact ⟨hnil (by omega) o2.1, o2.2⟩
    · rw [if_neg k1] at o2 ⊢
      by_cases k2 : t.kind = 2
      · rw [if_pos k2] at o2 ⊢
        exact ⟨hnil (by omega) o2.1, o2.2⟩
      · rw [if_neg k2] at o2 ⊢
        by_cases k3 : t.kind = 13 ∨ t.kind = 21 ∨ t.kind = 26
        · rw [if_pos k3] at o2 ⊢
          unfold RowsW.row at h1
          rw [if_neg (by omega)] at h1
          have e1 : u.r = (W.form c t.r).2 := by rw [h1]
          rw [e1]
          exact ⟨(hW.form c _ hc o2.1).2, within_sub he o2.2 (hW.formB c _ hc o2.1)⟩
        · rw [if_neg k3] at o2 ⊢
          by_cases k4 : t.kind = 14
          · rw [if_pos k4] at o2 ⊢
            unfold RowsW.row at h1
            rw [if_pos k4] at h1
            have e1 : u.r = (W.face c t.r).2 := by rw [h1]
            rw [e1]
            exact ⟨(hW.face c _ hc o2.1).2, within_sub he o2.2 (hW.faceB c _ hc o2.1)⟩
          · rw [if_neg k4] at o2 ⊢
            refine ⟨fun b' hb' => ?_, hnil k4 o2.2⟩
            obtain ⟨b, hb, e1, e2⟩ := s3 b' hb'
            have := ownB_iff.mp (o2.1 b hb)
            have e3 : b'.face = (W.face c b.face).2 := by rw [e1]
            refine ownB_iff.mpr ⟨⟨by rw [e2, h2]; exact this.1.1, ?_⟩, ?_⟩
            · rw [e3]; exact (hW.face c _ hc this.1.2).2
            · rw [e3]; exact within_sub he this.2 (hW.faceB c _ hc this.1.2)
theorem allP_walk {W : RowsW} (hW : SubW W) {bd : Bool} : ∀ (t : T) {u : T} {c v e : Int}, 0 ≤ c → 0 ≤ e → trav (rowsTr W) t c = .ok u → allP t v e bd = true → allP u v e bd = true := T.ind fun t ih u c v e hc he h ha => by
  rw [all_iff] at ha ⊢
  obtain ⟨a1, a2, a3⟩ := ha
  refine ⟨a1, own_walk hW hc he h a2, fun q hq => ?_⟩
  obtain ⟨p, hp, e1, h4⟩ := (rows_out h).2.2.2.2.1 q hq
  have h1 := parts_01 hp
  rw [← e1]
  exact ih p hp (by omega) (by omega) h4 (a3 p hp)
theorem right_walk {W : RowsW} (hW : SubW W) {t u : T} {v e : Int} (h : trav (rowsTr W) t 0 = .ok u) (hr : rightP t v e = 0) : rightP u v e = 0 := by
  rw [right_zero] at hr ⊢
  obtain ⟨r1, r2, r3, r4, r5⟩ := hr
  exact ⟨r1, r2, r3, walk_sized h r4, allP_walk hW t (Int.le_refl 0) r2 h r5⟩
theorem formed_walk {W : RowsW} (hW : SubW W) {t u : T} (h : trav (rowsTr W) t 0 = .ok u) (hr : formedP t = 0) : formedP u = 0 := by
  rw [formed_fine] at hr ⊢
  exact ⟨walk_sized h hr.1, walk_fine hW.toGoodW (Int.le_refl 0) hr.2 h⟩
/-- Which dimensions are left. -/
theorem walk_dims {i : Int} {r : List Cl} (hr : bitR r) (hi : 0 ≤ i) : ∀ (t : T) {u : T} {c : Int}, 0 ≤ c → fineT t → trav (rowsTr (putW i r)) t c = .ok u → ∀ j, (dimsT u).testBit j = true → (dimsT t).testBit j = true ∧ (j : Int) ≠ i + c := T.ind fun t ih u c hc hf h j hj => by
  obtain ⟨h1, _, _, _, h5, h6⟩ := rows_out h
  have hhead := (fineT_iff.mp hf).1
  obtain ⟨q1, q2⟩ := head_cases hhead
  rcases dims_bit.mp hj with hj | ⟨b', hb', hj⟩ | ⟨q, hq, hj⟩
  · have : (fDims t.r).testBit j = true ∧ (j : Int) ≠ i + c := by
      unfold RowsW.row at h1
      split at h1
      · rename_i h14
        refine (bit_face hr (q1 h14) hi hc).1.bits j ?_
        show (fDims ((putW i r).face c t.r).2).testBit j = true
        rw [h1]; exact hj
      · refine (bit_form hr q2 hi hc).1.bits j ?_
        show (fDims ((putW i r).form c t.r).2).testBit j = true
        rw [h1]; exact hj
    exact ⟨dims_bit.mpr (.inl this.1), this.2⟩
  · obtain ⟨_, b, hb, e1⟩ := h6 b' hb'
    have := (bit_face hr (fine_face hf hb) hi hc).1.bits j (by
      show (fDims ((putW i r).face c b.face).2).testBit j = true
      rw [e1]; exact hj)
    exact ⟨dims_bit.mpr (.inr (.inl ⟨b, hb, this.1⟩)), this.2⟩
  · obtain ⟨p, hp, e1, h4⟩ := h5 q hq
    have h01 := parts_01 hp
    have := ih p hp (by omega) (fine_part hf hp) h4 _ hj
    rw [← e1] at this
    exact ⟨dims_bit.mpr (.inr (.inr ⟨p, hp, this.1⟩)), by omega⟩
/-! ### A way that changes nothing -/
section
variable {C : Type} {A : Tr C}
theorem travL_self {k : Int} {c : C} : ∀ {ts : List T} {i : Nat}, (∀ j, j < ts.length → ∃ c', A.kid c (binds k ((i + j : Nat) : Int)) = .ok c' ∧ trav A (ts.getD j t0) c' = .ok (ts.getD j t0)) → travL A k i ts c = .ok ts
  | [], i, h => travL_nil _ _ _
  | t :: ts, i, h => by
    obtain ⟨c', h1, h2⟩ := h 0 (by simp)
    have h3 := travL_self (ts := ts) (i := i + 1) (fun j hj => by
      have := h (j + 1) (by simpa using hj)
      rw [List.getD_cons_succ, show i + (j + 1) = i + 1 + j by omega] at this
      exact this)
    rw [Nat.add_zero] at h1
    rw [List.getD_cons_zero] at h2
    rw [travL_cons, h1]; simp only [Res1.bind]; rw [h2]; simp only; rw [h3]
theorem travS_self {k : Int} {c : C} : ∀ {ts : List T}, (∀ j, j < ts.length → ∃ c', A.kid c (0, more k) = .ok c' ∧ trav A (ts.getD j t0) c' = .ok (ts.getD j t0)) → travS A k ts c = .ok ts
  | [], h => travS_nil _ _
  | t :: ts, h => by
    obtain ⟨c', h1, h2⟩ := h 0 (by simp)
    have h3 := travS_self (ts := ts) (fun j hj => by
      have := h (j + 1) (by simpa using hj)
      rw [List.getD_cons_succ] at this
      exact this)
    rw [List.getD_cons_zero] at h2
    rw [travS_cons, h1]; simp only [Res1.bind]; rw [h2]; simp only; rw [h3]
theorem travB_self {k : Int} {c : C} : ∀ {bs : List Br}, (∀ b, b ∈ bs → A.face c b.face = .ok (some b.face) ∧ travS A k b.kids c = .ok b.kids) → travB A k bs c = .ok bs
  | [], h => travB_nil _ _
  | b :: bs, h => by
    obtain ⟨h1, h2⟩ := h b List.mem_cons_self
    rw [travB_cons, h1]; simp only [Res1.bind]; rw [h2]; simp only
    rw [travB_self fun b hb => h b (List.mem_cons_of_mem _ hb)]
    cases b; rfl
theorem trav_self {t : T} {c : C} (h1 : A.own c t.kind t.n t.name t.r = .ok (.inr (t.n, t.r))) (h2 : ∀ b, b ∈ t.sys → A.face c b.face = .ok (some b.face)) (h3 : ∀ p, p ∈ parts t → ∃ c', A.kid c p.2 = .ok c' ∧ trav A p.1 c' = .ok p.1) : trav A t c = .ok t := by
  rw [trav_eq, h1]
  simp only [Res1.bind]
  have hk := travL_self (A := A) (k := t.kind) (c := c) (ts := t.kids) (i := 0) (fun j hj => by
    obtain ⟨c', h4, h5⟩ := h3 _ (List.mem_of_getElem? (parts_kid t j hj))
    exact ⟨c', by rw [Nat.zero_add]; exact h4, h5⟩)
  have hs := travB_self (A := A) (k := t.kind) (c := c) (bs := t.sys) (fun b hb => by
    refine ⟨h2 b hb, travS_self fun j hj => ?_⟩
    obtain ⟨s, hs, e⟩ := mem_getD (d := br0) hb
    obtain ⟨c', h4, h5⟩ := h3 _ (List.mem_of_getElem? (parts_sys t s j hs (by rw [e]; exact hj)))
    rw [e] at h5
    exact ⟨c', h4, h5⟩)
  rw [hk]; simp only; rw [hs]
  obtain ⟨k, n, nm, r, ks, ss⟩ := t
  rfl
end
theorem hasM_off {s : Nat} {j : Int} (h : ∀ k : Nat, s.testBit k = true → (k : Int) ≠ j) : hasM s j = false := by
  cases hh : hasM s j with
  | false => rfl
  | true =>
    unfold hasM at hh
    simp only [Bool.and_eq_true, decide_eq_true_eq] at hh
    exact absurd (by omega) (h _ hh.2)
theorem neverT_parts {t : T} (h : neverT t = false) : (∀ b, b ∈ t.sys → b.face ≠ []) ∧ ∀ p, p ∈ parts t → neverT p.1 = false := by
  refine ⟨fun b hb he => ?_, fun p hp => ?_⟩
  · obtain ⟨s, hs, e⟩ := mem_getD (d := br0) hb
    rw [never_face hs (by rw [e]; exact he)] at h; cases h
  · cases hh : neverT p.1 with
    | false => rfl
    | true =>
      rcases part_cases hp with ⟨i, hi, e⟩ | ⟨s, k, hs, hk, e⟩
      · rw [never_kid hi (by rw [e] at hh; exact hh)] at h; cases h
      · rw [never_sys hs hk (by rw [e] at hh; exact hh)] at h; cases h
theorem walk_same {i : Int} {r : List Cl} (hi : 0 ≤ i) : ∀ (t : T) {c : Int}, 0 ≤ c → neverT t = false → (∀ j, (dimsT t).testBit j = true → (j : Int) ≠ i + c) → trav (rowsTr (putW i r)) t c = .ok t := T.ind fun t ih c hc hn hd => by
  obtain ⟨n1, n2⟩ := neverT_parts hn
  have hrow : ∀ P : List Cl → Int → List Cl → EL, ∀ f : List Cl, (∀ j, (fDims f).testBit j = true → (j : Int) ≠ i + c) → rowPut P i r c f = (0, f) := fun P f h => put_none (hasM_off h)
  refine trav_self ?_ (fun b hb => ?_) (fun p hp => ?_)
  · have : (putW i r).row t.kind c t.r = (0, t.r) := by
      unfold RowsW.row
      split
      · exact hrow _ _ fun j hj => hd j (dims_bit.mpr (.inl hj))
      · exact hrow _ _ fun j hj => hd j (dims_bit.mpr (.inl hj))
    rw [rows_own_ok (by rw [this]), this]
  · have : (putW i r).face c b.face = (0, b.face) := hrow _ _ fun j hj => hd j (dims_bit.mpr (.inr (.inl ⟨b, hb, hj⟩)))
    rw [rows_face_some (by rw [this]) (by rw [this]; exact fun h => n1 b hb (List.eq_nil_of_length_eq_zero h)), this]
  · have h01 := parts_01 hp
    refine ⟨_, rfl, ih p hp (by omega) (n2 p hp) fun j hj => ?_⟩
    intro e
    exact hd (j - p.2.2.toNat) (dims_bit.mpr (.inr (.inr ⟨p, hp, by rw [Nat.sub_add_cancel (by omega)]; exact hj⟩))) (by omega)
/-! ### All the steps -/
def bitS (S : List Stp) : Prop := ∀ p, p ∈ S → bitR p.2 ∧ 0 ≤ p.1
theorem bit_steps (c : Cl) : bitS (stepsC c) := fun p hp => by
  unfold stepsC at hp
  rcases List.mem_append.mp hp with hp | hp
  · obtain ⟨x, hx, rfl⟩ := List.mem_map.mp hp
    exact ⟨.inl rfl, (mem_listM.mp hx).1⟩
  · obtain ⟨x, hx, rfl⟩ := List.mem_map.mp hp
    exact ⟨.inr rfl, (mem_listM.mp hx).1⟩
theorem own_wide {t : T} {v e e' : Int} (he : 24 ≤ e') (ho : ownP t v e = true) : ownP t (-1) e' = true := by
  have hw : ∀ l : List Cl, within l e' = true := fun l => within_24 l he
  rw [own_iff] at ho ⊢
  obtain ⟨o1, o2⟩ := ho
  refine ⟨o1, ?_⟩
  by_cases k1 : t.kind = 1
  · rw [if_pos k1] at o2 ⊢
    exact ⟨o2.1, o2.2.1, .inl (by decide)⟩
  · rw [if_neg k1] at o2 ⊢
    by_cases k2 : t.kind = 2
    · rw [if_pos k2] at o2 ⊢; exact o2
    · rw [if_neg k2] at o2 ⊢
      by_cases k3 : t.kind = 13 ∨ t.kind = 21 ∨ t.kind = 26
      · rw [if_pos k3] at o2 ⊢; exact ⟨o2.1, hw _⟩
      · rw [if_neg k3] at o2 ⊢
        by_cases k4 : t.kind = 14
        · rw [if_pos k4] at o2 ⊢; exact ⟨o2.1, hw _⟩
        · rw [if_neg k4] at o2 ⊢
          exact ⟨fun x hx => ownB_iff.mpr ⟨(ownB_iff.mp (o2.1 x hx)).1, hw _⟩, o2.2⟩
theorem all_wide {bd : Bool} : ∀ (t : T) {v e e' : Int}, 24 ≤ e' → allP t v e bd = true → allP t (-1) e' false = true := T.ind fun t ih v e e' he ha => by
  rw [all_iff] at ha ⊢
  obtain ⟨a1, a2, a3⟩ := ha
  refine ⟨by simp, own_wide he a2, fun p hp => ?_⟩
  have h1 := parts_01 hp
  rw [if_pos (by decide), show IntKind.i64.wrap (-1 + 0) = -1 by decide]
  exact ih p hp (by omega) (a3 p hp)
theorem formed_right {t : T} {v e : Int} (h : rightP t v e = 0) : formedP t = 0 := by
  obtain ⟨_, _, _, h4, h5⟩ := right_zero.mp h
  exact formed_zero.mpr ⟨h4, all_wide t (Int.le_refl 24) h5⟩
theorem step_ok {p : Stp} (hp : bitR p.2 ∧ 0 ≤ p.1) {t : T} (hf : formedP t = 0) : ∃ u, stepT p t = (0, u) ∧ trav (rowsTr (putW p.1 p.2)) t 0 = .ok u := by
  obtain ⟨u, hu⟩ := walk_ex (good_bit hp.1 hp.2) t (formed_fine.mp hf).2 (Int.le_refl 0)
  exact ⟨u, by unfold stepT walkR; rw [hu]; rfl, hu⟩
theorem steps_all : ∀ (S : List Stp), bitS S → ∀ (t : T), formedP t = 0 → ∃ u, foldT stepT S t = (0, u) ∧ formedP u = 0 ∧ (∀ v e, rightP t v e = 0 → rightP u v e = 0) ∧ (∀ j, (dimsT u).testBit j = true → (dimsT t).testBit j = true ∧ ∀ p, p ∈ S → (j : Int) ≠ p.1) ∧ (S ≠ [] → neverT u = false)
  | [], _, t, hf => ⟨t, rfl, hf, fun _ _ h => h, fun j hj => ⟨hj, fun p hp => (by cases hp)⟩, fun h => absurd rfl h⟩
  | p :: S, hS, t, hf => by
    have hp := hS p List.mem_cons_self
    obtain ⟨u, e1, e2⟩ := step_ok hp hf
    have hfu := formed_walk (sub_bit hp.1 hp.2) e2 hf
    obtain ⟨w, w1, w2, w3, w4, w5⟩ := steps_all S (fun q hq => hS q (List.mem_cons_of_mem _ hq)) u hfu
    refine ⟨w, by rw [foldT, thenT_ok (by rw [e1]), e1]; exact w1, w2, fun v e h => w3 v e (right_walk (sub_bit hp.1 hp.2) e2 h), fun j hj => ?_, fun _ => ?_⟩
    · obtain ⟨d1, d2⟩ := w4 j hj
      obtain ⟨d3, d4⟩ := walk_dims hp.1 hp.2 t (Int.le_refl 0) (formed_fine.mp hf).2 e2 j d1
      refine ⟨d3, fun q hq => ?_⟩
      rcases List.mem_cons.mp hq with rfl | hq
      · omega
      · exact d2 q hq
    · cases S with
      | nil =>
        rw [foldT] at w1
        injection w1 with _ w1
        rw [← w1]
        exact walk_never t e2
      | cons q S => exact w5 (by simp)
theorem steps_same : ∀ (S : List Stp), bitS S → ∀ {u : T}, neverT u = false → (∀ j, (dimsT u).testBit j = true → ∀ p, p ∈ S → (j : Int) ≠ p.1) → foldT stepT S u = (0, u)
  | [], _, u, _, _ => rfl
  | p :: S, hS, u, hn, hd => by
    have hp := hS p List.mem_cons_self
    have h1 : stepT p u = (0, u) := by
      unfold stepT walkR
      rw [walk_same hp.2 u (Int.le_refl 0) hn fun j hj => by have := hd j hj p List.mem_cons_self; omega]
      rfl
    rw [foldT, thenT_ok (by rw [h1]), h1]
    exact steps_same S (fun q hq => hS q (List.mem_cons_of_mem _ hq)) hn fun j hj q hq => hd j hj q (List.mem_cons_of_mem _ hq)
theorem dims_gone {t : T} {c : Cl} {v d : Int} (hr : rightP t v d = 0) (hc : single c = true) : (dimsUnder t c).1 = 0 ∧ dimsT (dimsUnder t c).2 &&& (c.pos ||| c.neg) = 0 ∧ rightP (dimsUnder t c).2 v d = 0 ∧ dimsUnder (dimsUnder t c).2 c = (0, (dimsUnder t c).2) := by
  have hf := formed_right hr
  obtain ⟨u, h1, h2, h3, h4, h5⟩ := steps_all (stepsC c) (bit_steps c) t hf
  rw [under_steps hf hc, h1]
  refine ⟨rfl, ?_, h3 v d hr, ?_⟩
  · obtain ⟨b1, b2⟩ := right24_bits (single_iff.mp hc).1
    refine Nat.eq_of_testBit_eq fun j => ?_
    rw [Nat.zero_testBit, Nat.testBit_and, Nat.testBit_or]
    cases hj : (dimsT u).testBit j with
    | false => rfl
    | true =>
      obtain ⟨_, h6⟩ := h4 j hj
      cases hp : c.pos.testBit j with
      | true => exact absurd rfl (h6 ((j : Int), [cl0]) (List.mem_append.mpr (.inl (List.mem_map.mpr ⟨_, (listM_nat (b1 j hp)).mpr hp, rfl⟩))))
      | false =>
        cases hn : c.neg.testBit j with
        | true => exact absurd rfl (h6 ((j : Int), []) (List.mem_append.mpr (.inr (List.mem_map.mpr ⟨_, (listM_nat (b2 j hn)).mpr hn, rfl⟩))))
        | false => rfl
  · rw [under_steps h2 hc]
    by_cases hS : stepsC c = []
    · rw [hS]; rfl
    · exact steps_same _ (bit_steps c) (h5 hS) fun j hj => (h4 j hj).2
end Go.Hy
namespace Go.Hy
/-! A call of a closure among operations of any order. -/
section
variable {tn : Bool} {pn : Nat} {P : Program} [Tab P] {f : FuncId} {R : Ending → World → Prop} {B : Base} {n : Fz} {K : List Item} {ops : Array Oper} {i : Nat} {l fin : List Nat} {σ : Nat → Value} {Γ : List Fact} {Ms Ms2 : List Res}
variable {dst : Option Tmp} {ty : TypeId}
theorem v_callC {c : FuncId} {args cap al : List Value} {av : Array Operand} {ts : Array TypeId} {g : Operand} {pre : List Fact} {X : Type} {val : X → Value} {N : X → List Fact} {Ms1 : X → List Res}
    (hc : ∀ (args : Array Value) (w : World), (callFunc c args).run P w = .ok (.enter c args) w) (hsp : Spec P c al.toArray pre [] val N Ms1) (kk : ∀ x, NV tn pn P f R B n K ops fin l (putS σ dst (val x)) (N x ++ Γ) (Ms1 x ++ Ms))
    (hg : ev σ g = .func (.func c) #[] cap.toArray := by rfl) (ha : av.toList.map (ev σ) = args := by rfl) (hal : args ++ cap = al := by rfl) (hpre : ∀ F, F ∈ pre → F ∈ Γ := by first | (simp; done) | (simp +contextual; done)) (hd : dstOk n dst = true := by rfl) : NvT tn pn P f R B n K ops fin i l dst (.call { callee := .value g, args := av, argTypes := ts }) ty σ Γ Ms :=
  nv_call (enterC hg ha hc) (hal ▸ hsp) hpre rfl rfl hd kk
end
end Go.Hy
namespace Go.Hy
open Go.RowKit Go.Shelf
/-! ### A range over a function whose body never leaves the loop, and whose iterator may write what it has captured -/
theorem range_all {F : Fence} {n : Nat} {P : Program} {α : Type} {g : Operand} {ps : Array Tmp} {assign body : Code} {Q : Exit → Act → World → Prop} {a : Act} {w : World}
    (hro : F.round = none) (h1 : 1 ≤ n) {gf : Nat} {lb : Array Value} (hg : a.eval g = .func (.func gf) #[] lb) (hFg : F.fn gf) (eg : ∀ args w, (callFunc gf args).run P w = .ok (.enter gf args) w)
    {encs : α → Array Value} (hps : ∀ x, (encs x).size = ps.size) (I : List α → World → Prop) (Px : List α → α → Prop) (Kp : World → World → Prop)
    (hIp : ∀ (pre : List α) (A : World) (l : Nat) (o o0 : Obj), I pre A → A.heap[l]? = some o0 → o0.isCells = false → w.heap.size ≤ l → I pre (A.putObj l o)) (hIa : ∀ (pre : List α) (A : World) (o : Obj), I pre A → w.heap.size ≤ A.heap.size → I pre (A.alloc o)) (h0 : I [] w)
    (hKt : ∀ {A B C : World}, Kp A B → Kp B C → Kp A C) (hKp : ∀ (A : World) (l : Nat) (o o0 : Obj), A.heap[l]? = some o0 → o0.isCells = false → w.heap.size ≤ l → Kp A (A.putObj l o))
    (xs : List α)
    (hit : ∀ (l : Nat) (J : List α → World → Prop) (W1 : World), (∀ pre W, J pre W → I pre W) →
      (∀ pre A B, J pre A → I pre B → (∀ (k : Nat) (o : Obj), A.heap[k]? = some o → o.isCells = false → B.heap[k]? = some o) → J pre B) →
      (∀ pre x W, J pre W → Px pre x → YieldAt F (n - 1 - 1) P l (encs x) W fun e W' => e = .returned (.bool true) ∧ J (pre ++ [x]) W' ∧ Kp W W') → J [] W1 → (∀ (k : Nat), k < w.heap.size → W1.heap[k]? = w.heap[k]?) →
      CallsIn F (n - 1) P gf (#[.func (.yield l) #[] #[]] ++ lb) W1 fun e W' => (∃ v, e = .returned v) ∧ J xs W')
    (a₁ : α → Act)
    (hassign : ∀ (l : Nat) (x : α) (W : World) (K : Act → World → Prop), K (a₁ x) W →
      assign.wpIn (F.inRound l) (n - 1 - 1) P (Exit.then K (fun _ _ _ => False)) { tmps := (ps.zip (encs x)).foldl (fun t (p, v) => t.setIfInBounds p v) a.tmps, defers := [] } W)
    (hbody : ∀ (l : Nat) (pre : List α) (x : α) (W : World), I pre W → Px pre x →
      body.wpIn (F.inRound l) (n - 1 - 1) P (fun e _ W' => e = .normal ∧ KeepsOthers W W' ∧ Kp W W' ∧ I (pre ++ [x]) W') (a₁ x) W)
    (hdone : ∀ (D : Nat) (W : World), w.heap.size ≤ D → I xs W → W.heap[D]? = some (.deferred (some [])) → Q .normal { a with defers := { target := .collected D, args := #[] } :: a.defers } W) :
    (Code.rangeFunc g ps assign body).wpIn F n P Q a w := by
  refine wpIn_rangeFunc ?_
  intro fn hfn
  rw [hro]
  obtain ⟨rec, hrec⟩ : ∃ rec : LoopState → Option Code → Loop, rec = fun st pe => { state := st, pending := pe, fn, tmps := a.tmps, params := ps, assign, body, defers := w.heap.size } := ⟨_, rfl⟩
  obtain ⟨W1, hW1⟩ : ∃ W1, (w.alloc (.deferred (some []))).alloc (.loop (rec .ready none)) = W1 := ⟨_, rfl⟩
  have hL1 : W1.heap[w.heap.size + 1]? = some (.loop (rec .ready none)) := by
    rw [← hW1]; have := World.alloc_heap_new (w.alloc (.deferred (some []))) (.loop (rec .ready none)); rwa [World.size_alloc] at this
  have hK1 : W1.heap[w.heap.size]? = some (.deferred (some [])) := by
    rw [← hW1]; exact (Below.heap_alloc _ _ _ (by simp)).trans (World.alloc_heap_new w _)
  have hI1 : I [] W1 := by rw [← hW1]; exact hIa _ _ _ (hIa _ _ _ h0 (Nat.le_refl _)) (by simp)
  refine ⟨w.heap.size + 1, [{ target := .collected w.heap.size, args := #[] }], W1, { target := .fn (.func gf) lb, args := #[.func (.yield (w.heap.size + 1)) #[] #[]] }, W1, gf,
    #[.func (.yield (w.heap.size + 1)) #[] #[]] ++ lb, W1, ?_, ?_, ?_, ?_, fun _ => h1, ?_⟩
  · rw [← hW1, hrec]; exact run_enterLoop_outer _ _ _ _ _
  · simp only [resolve, hg]
    simp [go_sem]
  · intro f' hf'; simp [Target.leads] at hf'; subst hf'; exact hFg
  · simp [invoke, go_sem, eg]
  · refine (hit (w.heap.size + 1) (fun pre W => I pre W ∧ W.heap[w.heap.size + 1]? = some (.loop (rec .ready none)) ∧ W.heap[w.heap.size]? = some (.deferred (some []))) W1
      (fun pre W h => h.1) (fun pre A B hA hB hk => ⟨hB, hk _ _ hA.2.1 rfl, hk _ _ hA.2.2 rfl⟩) ?_ ⟨hI1, hL1, hK1⟩ (fun k hk => by rw [← hW1]; exact (Below.heap_alloc _ _ _ (by simp; omega)).trans (Below.heap_alloc _ _ _ hk))).mono ?_
    · rintro pre x W ⟨hi, hl, hk⟩ hpx
      have hlt : w.heap.size + 1 < W.heap.size := (Array.getElem?_eq_some_iff.1 hl).1
      have hy := run_yield (P := P) (args := encs x) hl (by rw [hrec]; exact hps x)
      rw [hrec] at hy
      refine ⟨fn, _, assign, body, hy, roundIn_of_wpIn hfn (hassign _ x W _ ⟨_, run_beginRound hl (by rw [hrec]), ?_⟩)⟩
      have hl2 : (W.putObj (w.heap.size + 1) (.loop { rec .ready none with state := .busy })).heap[w.heap.size + 1]? = some (.loop { rec .ready none with state := .busy }) := World.putObj_heap_same hlt
      have hk2 : (W.putObj (w.heap.size + 1) (.loop { rec .ready none with state := .busy })).heap[w.heap.size]? = some (.deferred (some [])) := (World.putObj_heap_other (by omega)).trans hk
      refine wpIn_mono (hbody _ pre x _ (hIp _ _ _ _ _ hi hl rfl (by omega)) hpx) ?_
      rintro e a3 W3 ⟨rfl, hk3, hkp3, hi3⟩
      have hl3 := hk3.same _ _ hl2 rfl
      have hend := run_endRound (P := P) none hl3
      rw [hrec] at hl3 hend
      refine ⟨_, _, hend, rfl, ⟨hIp _ _ _ _ _ hi3 hl3 rfl (by omega), ?_, ?_⟩, hKt (hKt (hKp _ _ _ _ hl rfl (by omega)) hkp3) (hKp _ _ _ _ hl3 rfl (by omega))⟩
      · rw [hrec]; exact World.putObj_heap_same (Array.getElem?_eq_some_iff.1 hl3).1
      · exact (World.putObj_heap_other (by omega)).trans (hk3.same _ _ hk2 rfl)
    · rintro e W2 ⟨⟨v, rfl⟩, hi, hl, hk⟩
      exact ⟨none, _, by have := run_endLoop (P := P) hl (by rw [hrec]; simp); rw [hrec] at this; exact this, hdone _ _ (Nat.le_refl _) (hIp _ _ _ _ _ hi hl rfl (by omega)) ((World.putObj_heap_other (by omega)).trans hk)⟩
end Go.Hy
