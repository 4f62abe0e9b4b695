/- Contracts of this program's functions and the laws that they need: a separation logic over the machine's rules, one theorem each (partly printed by a program of this repository). -/
import Derived.Shelf.SlSortCmp.WholeK
import Derived.Shelf.SlGeneric
import Derived.Ground.SlsfProg
import Derived.Test.YtpfjlbopkhdebaaGreatDoorProg
import Derived.Tactics2
import Derived.Shelf.SlSortCmp.NoneTotal
import Derived.Test.YtpfjlbopkhdebaaGreatDoorP2
import Derived.Test.YtpfjlbopkhdebaaGreatDoorP3
import Derived.Test.YtpfjlbopkhdebaaGreatDoorP4
import Derived.Test.YtpfjlbopkhdebaaGreatDoorP5
import Derived.Test.YtpfjlbopkhdebaaGreatDoorP6
set_option linter.unusedVariables false
set_option linter.unusedSimpArgs false
set_option linter.unusedSectionVars false
namespace Go.Hy
open Go.Proofs
set_option maxRecDepth 100000
theorem dimension_spec (i : Int) : Spec Tryz.prog 176 #[.int .i64 i] [] [] (fun _ : Unit => .bool (decide (0 ≤ i) && decide (i < 24))) (fun _ => []) (fun _ => []) := by
  refine spec_go (args := [.int .i64 i]) Tryz.func176 Tryz.ntmps176 rfl (by exact Nat.le_of_ble_eq_true rfl) fun B hB => ?_
  refine go_seq ?_; refine go_region ⟨_, Tryz.func176⟩ rfl ?_; refine q0 rfl (o_assign ?_); refine rg_nil ?_; refine go_seq ?_; refine go_region ⟨_, Tryz.func176⟩ rfl ?_; refine q0 rfl (o_move ?_); refine q0 rfl (o_geq ?_); refine q0 rfl (o_move ?_); refine qI rfl rfl rfl wl_ (fun hg5 => o_move ?_) (fun hg5 => ?_)
  · refine qT rfl rfl rfl (o_lss ?_); refine q0 rfl (o_pickT ?_); refine q0 rfl (o_assign ?_); refine rg_nil ?_; refine ret1 Tryz.func176 Tryz.results176 wn_ () (by first | (simp_all; done) | (simp_all; omega)) (fun w hs => hs.none)
  · refine qF rfl rfl rfl ?_; refine q0 rfl (o_pickF ?_); refine q0 rfl (o_assign ?_); refine rg_nil ?_; refine ret1 Tryz.func176 Tryz.results176 wn_ () (by first | (simp_all; done) | (simp_all; omega)) (fun w hs => hs.none)
theorem maskRight_spec (s : Nat) (hs : s < 4294967296) : Spec Tryz.prog 87 #[.int .u32 (s : Int)] [] [] (fun _ : Unit => .bool (decide (s < 16777216))) (fun _ => []) (fun _ => []) := by
  refine spec_go (args := [.int .u32 (s : Int)]) Tryz.func87 Tryz.ntmps87 rfl (by exact Nat.le_of_ble_eq_true rfl) fun B hB => ?_
  refine go_seq ?_; refine go_region ⟨_, Tryz.func87⟩ rfl ?_; refine q0 rfl (o_assign ?_); refine rg_nil ?_; refine go_seq ?_; refine go_region ⟨_, Tryz.func87⟩ rfl ?_; refine q0 rfl (o_move ?_); refine q0 rfl (o_andNotU32 ?_ (b := 16777215)); refine q0 rfl (o_eqI ?_ (b := 0)); refine q0 rfl (o_assign ?_); refine rg_nil ?_; refine ret1 Tryz.func87 Tryz.results87 wn_ () (by rw [andNot_zero hs]) (fun w hs => hs.none)
theorem withoutNone_spec (s : Nat) (hs : s < 4294967296) : Spec Tryz.prog 175 #[.int .u32 (s : Int), .int .i64 (-1)] [] [] (fun _ : Unit => .int .u32 ((s &&& 16777215 : Nat) : Int)) (fun _ => []) (fun _ => []) := by
  refine spec_go (args := [.int .u32 (s : Int), .int .i64 (-1)]) Tryz.func175 Tryz.ntmps175 rfl (by exact Nat.le_of_ble_eq_true rfl) fun B hB => ?_
  refine go_seq ?_; refine go_region ⟨_, Tryz.func175⟩ rfl ?_; refine q0 rfl (o_assign ?_); refine rg_nil ?_; refine go_seq ?_; refine go_region ⟨_, Tryz.func175⟩ rfl ?_; refine q0 rfl (o_move ?_); refine q0 rfl (o_andU32 ?_ (b := 16777215)); refine q0 rfl (o_assign ?_); refine rg_nil ?_; refine go_seq ?_; refine go_seq ?_; refine go_region ⟨_, Tryz.func175⟩ rfl ?_; refine q0 rfl (o_move ?_); refine q0 rfl (o_call Tryz.call176 (dimension_spec (-1)) (fun x8 => ?_)); refine q0 rfl (o_not ?_); refine rg_nil ?_; refine go_condI (fun h9 => ?_) (fun h9 => ?_)
  · refine go_seq ?_; refine go_region ⟨_, Tryz.func175⟩ rfl ?_; refine q0 rfl (o_move ?_); refine q0 rfl (o_assign ?_); refine rg_nil ?_; refine ret1 Tryz.func175 Tryz.results175 wn_ () rfl (fun w hs => hs.none)
  · exact absurd h9 (by decide)
theorem fDims_spec : FDims := by
  intro l a; refine spec_go (args := [sl a l.length]) Tryz.func97 Tryz.ntmps97 rfl (by exact Nat.le_of_ble_eq_true rfl) fun B hB => ?_
  refine go_openCL (l := l) (a := a) (fun hl1 hA1 hU1 => ?_); refine go_seq ?_; refine go_region ⟨_, Tryz.func97⟩ rfl ?_; refine q0 rfl (o_assign ?_); refine rg_nil ?_; refine go_seq ?_; refine go_region ⟨_, Tryz.func97⟩ rfl ?_; refine q0 rfl (o_assign ?_); refine rg_nil ?_; refine go_seq ?_; refine go_seq ?_; refine go_region ⟨_, Tryz.func97⟩ rfl ?_; refine q0 rfl (o_move ?_); refine q0 rfl (o_len ?_); refine q0 rfl (o_move ?_); refine rg_nil ?_; refine go_block ?_; refine go_loopI (X := Nat) (fun i => i ≤ l.length) (fun i => [(3, .int .u32 (orUpto l i : Int)), (6, sl a l.length), (7, .int .i64 (l.length : Int)), (8, .int .i64 (i : Int))]) (fun i => [CL l a]) (fun i => []) (fun i => l.length - i) (0) (Nat.zero_le _) (by exact ⟨rfl, rfl, rfl, rfl, trivial⟩) ?_ ?_
  · exact fun w hs => hs.less (by simp)
  · intro i base0 hi next0; refine go_seq ?_; refine go_region ⟨_, Tryz.func97⟩ rfl ?_; refine q0 rfl (o_lss ?_); refine rg_nil ?_; refine go_seq ?_; refine go_condI (fun h9 => ?_) (fun h9 => ?_)
    · have hlt : i < l.length := by have := of_decide_eq_true h9; omega
      obtain ⟨bk, o, hav⟩ := hA1 (by omega); have hu := hU1 _ (getD_mem (d := cl0) hlt); have hup := orUpto_lt hU1 i; have hor : (l.getD i cl0).pos ||| (l.getD i cl0).neg < 4294967296 := Nat.or_lt_two_pow (n := 32) hu.1 hu.2; refine go_skip ?_; refine go_seq ?_; refine go_block ?_; refine go_seq ?_; refine go_region ⟨_, Tryz.func97⟩ rfl ?_; refine q0 rfl (o_ixN ?_); refine q0 rfl (o_ldC ?_); refine q0 rfl (o_new fun b5 => ?_); refine q0 rfl (o_st ?_); refine rg_nil ?_; refine go_region ⟨_, Tryz.func97⟩ rfl ?_; refine q0 rfl (o_move ?_); refine q0 rfl (o_fa ?_); refine q0 rfl (o_ld ?_); refine q0 rfl (o_fa ?_); refine q0 rfl (o_ld ?_); refine q0 rfl (o_orU32 ?_ (a := (l.getD i cl0).pos) (b := (l.getD i cl0).neg) (ha := hu.1) (hb := hu.2)); refine q0 rfl (o_orU32 ?_ (a := orUpto l i) (b := (l.getD i cl0).pos ||| (l.getD i cl0).neg)); refine q0 rfl (o_assign ?_); refine rg_nil ?_; refine go_inBlock ?_; refine go_region ⟨_, Tryz.func97⟩ rfl ?_; refine q0 rfl (o_add ?_); refine q0 rfl (o_move ?_); refine rg_nil ?_; refine go_state (fun w hs => ?_) (next0 (i + 1) _ hlt (by omega) ⟨by rw [orUpto_succ hlt]; rfl, rfl, rfl, rfl, trivial⟩); exact (hs.less (by simp)).bare
    · have hge : i = l.length := by have := of_decide_eq_false h9; omega
      refine go_exit rfl ?_; refine go_seq ?_; refine go_region ⟨_, Tryz.func97⟩ rfl ?_; refine q0 rfl (o_move ?_); refine q0 rfl (o_call Tryz.call175 (withoutNone_spec (orUpto l i) (orUpto_lt hU1 i)) (fun x21 => ?_)); refine q0 rfl (o_assign ?_); refine rg_nil ?_; refine ret1 Tryz.func97 Tryz.results97 wn_ () (by rw [fDims_eq, ← hge]) (fun w hs => hs.none)
theorem clauseRight_spec (c : Cl) (hc : u32 c) : Spec Tryz.prog 33 #[.agg (clCells c).toArray] [] [] (fun _ : Unit => .bool (right24 c)) (fun _ => []) (fun _ => []) := by
  refine spec_go (args := [.agg (clCells c).toArray]) Tryz.func33 Tryz.ntmps33 rfl (by exact Nat.le_of_ble_eq_true rfl) fun B hB => ?_
  refine go_seq ?_; refine go_region ⟨_, Tryz.func33⟩ rfl ?_; refine q0 rfl (o_box fun b1 => ?_); refine q0 rfl (o_assign ?_); refine rg_nil ?_; refine go_seq ?_; refine go_region ⟨_, Tryz.func33⟩ rfl ?_; refine q0 rfl (o_fa ?_); refine q0 rfl (o_ld ?_); refine q0 rfl (o_call Tryz.call87 (maskRight_spec c.pos hc.1) (fun x5 => ?_)); refine q0 rfl (o_move ?_); refine qI rfl rfl rfl wl_ (fun hg6 => o_fa ?_) (fun hg6 => ?_)
  · refine qT rfl rfl rfl (o_ld ?_); refine qT rfl rfl rfl (o_call Tryz.call87 (maskRight_spec c.neg hc.2) (fun x9 => ?_)); refine q0 rfl (o_pickT ?_); refine q0 rfl (o_assign ?_); refine rg_nil ?_; refine ret1 Tryz.func33 Tryz.results33 wn_ () (by first | (simp_all [right24]; done) | (simp_all [right24]; intros; omega)) (fun w hs => hs.none)
  · refine qF rfl rfl rfl ?_; refine qF rfl rfl rfl ?_; refine q0 rfl (o_pickF ?_); refine q0 rfl (o_assign ?_); refine rg_nil ?_; refine ret1 Tryz.func33 Tryz.results33 wn_ () (by first | (simp_all [right24]; done) | (simp_all [right24]; intros; omega)) (fun w hs => hs.none)
theorem clash_spec (c : Cl) (hc : u32 c) : Spec Tryz.prog 34 #[.agg (clCells c).toArray] [] [] (fun _ : Unit => .bool (clash c)) (fun _ => []) (fun _ => []) := by
  refine spec_go (args := [.agg (clCells c).toArray]) Tryz.func34 Tryz.ntmps34 rfl (by exact Nat.le_of_ble_eq_true rfl) fun B hB => ?_
  refine go_seq ?_; refine go_region ⟨_, Tryz.func34⟩ rfl ?_; refine q0 rfl (o_box fun b1 => ?_); refine q0 rfl (o_assign ?_); refine rg_nil ?_; refine go_seq ?_; refine go_region ⟨_, Tryz.func34⟩ rfl ?_; refine q0 rfl (o_fa ?_); refine q0 rfl (o_ld ?_); refine q0 rfl (o_fa ?_); refine q0 rfl (o_ld ?_); refine q0 rfl (o_andU32 ?_ (a := c.pos) (b := c.neg) (ha := hc.1) (hb := hc.2)); refine q0 rfl (o_neI ?_ (b := 0)); refine q0 rfl (o_assign ?_); refine rg_nil ?_; refine ret1 Tryz.func34 Tryz.results34 wn_ () (by simp only [clash]; congr 1; apply decide_eq_decide.mpr; omega) (fun w hs => hs.none)
theorem meet_spec (c d : Cl) (hc : u32 c) (hd : u32 d) : Spec Tryz.prog 93 #[.agg (clCells c).toArray, .agg (clCells d).toArray] [] [] (fun _ : Unit => .agg (clCells (meetC c d)).toArray) (fun _ => []) (fun _ => []) := by
  refine spec_go (args := [.agg (clCells c).toArray, .agg (clCells d).toArray]) Tryz.func93 Tryz.ntmps93 rfl (by exact Nat.le_of_ble_eq_true rfl) fun B hB => ?_
  refine go_seq ?_; refine go_region ⟨_, Tryz.func93⟩ rfl ?_; refine q0 rfl (o_box fun b2 => ?_); refine q0 rfl (o_box fun b3 => ?_); refine q0 rfl (o_new fun b4 => ?_); refine rg_nil ?_; refine go_seq ?_; refine go_region ⟨_, Tryz.func93⟩ rfl ?_; refine q0 rfl (o_fa ?_); refine q0 rfl (o_ld ?_); refine q0 rfl (o_fa ?_); refine q0 rfl (o_ld ?_); refine q0 rfl (o_orU32 ?_ (a := c.pos) (b := d.pos) (ha := hc.1) (hb := hd.1)); refine q0 rfl (o_fa ?_); refine q0 rfl (o_ld ?_); refine q0 rfl (o_fa ?_); refine q0 rfl (o_ld ?_); refine q0 rfl (o_orU32 ?_ (a := c.neg) (b := d.neg) (ha := hc.2) (hb := hd.2)); refine q0 rfl (o_build (cs := clCells (meetC c d)) ?_); refine q0 rfl (o_st ?_); refine rg_nil ?_; refine retC Tryz.func93 Tryz.results93 () rfl mm_ rfl rfl rfl rfl (fun w hs => hs.none)
theorem below_spec (c d : Cl) (hc : u32 c) (hd : u32 d) : Spec Tryz.prog 169 #[.agg (clCells c).toArray, .agg (clCells d).toArray] [] [] (fun _ : Unit => .bool (below c d)) (fun _ => []) (fun _ => []) := by
  refine spec_go (args := [.agg (clCells c).toArray, .agg (clCells d).toArray]) Tryz.func169 Tryz.ntmps169 rfl (by exact Nat.le_of_ble_eq_true rfl) fun B hB => ?_
  refine go_seq ?_; refine go_region ⟨_, Tryz.func169⟩ rfl ?_; refine q0 rfl (o_box fun b2 => ?_); refine q0 rfl (o_box fun b3 => ?_); refine q0 rfl (o_assign ?_); refine rg_nil ?_; refine go_seq ?_; refine go_draw (pn := 1000000) (tn := false) (A := [0, 0, 3, 0, 15, 31]) (l := [0, 1, 3, 2, 4, 5]) (fin := []) Tab.mixed ⟨_, Tryz.func169⟩ (by rfl) ?_; refine n0 rfl (v_lds ?_); refine n0 rfl (v_lds ?_); refine n0 rfl (v_lds ?_); refine n0 rfl (v_call Tryz.call93 (meet_spec c d hc hd) (fun x7 => ?_)); refine n0 rfl (v_eqC ?_ (c := meetC c d) (c' := c)); refine n0 rfl (v_assign ?_); refine NV.done ?_; refine rg_nil ?_; refine ret1 Tryz.func169 Tryz.results169 wn_ () (by rw [below_meet]) (fun w hs => hs.none)
end Go.Hy
/-
  DERIVED: THE SHELF's CONTRACTS AT THIS DUMP, IN PLAIN WORDS (tools/lay-plain.mjs out of 'TryzSort.lean', which tools/lay-shelf.mjs wrote): THE SAME DECLARATIONS UNDER THE SAME NAMES: 'import', 'namespace', 'open', 'def', 'theorem' AND NOTHING ELSE: no command of the shelf's: FOR A HAND-IN. Each laying: the table of numbers ('.._ren') and one theorem, a field a fact of the dump's own or the kernel's comparison; each contract: ONE APPLICATION.
-/
namespace Go.Proofs
open Go.Shelf
def Tryz.sortL_ren : Go.Shelf.Ren := ⟨fun | 6 => 170 | 15 => 222 | 14 => 221 | 28 => 245 | 29 => 246 | 20 => 237 | 21 => 238 | 22 => 239 | 23 => 240 | 24 => 241 | 25 => 242 | 26 => 243 | 27 => 244 | 46 => 257 | 47 => 258 | 48 => 259 | 49 => 260 | 50 => 261 | 57 => 264 | n => n, fun | 22 => 25 | 24 => 45 | 25 => 177 | 3 => 3 | 39 => 146 | 0 => 0 | 53 => 43 | 55 => 195 | 4 => 4 | 46 => 205 | 45 => 204 | 50 => 209 | 5 => 5 | 9 => 9 | 66 => 213 | 70 => 217 | 76 => 220 | 77 => 163 | n => n, fun | n => n⟩
theorem Tryz.sortL : Go.Proofs.SlLaysF0.n6 Tryz.prog Tryz.sortL_ren := {
  mixed := by kernel_rfl
  f6 := ⟨Tryz.f170.name, by decide, Tryz.func170.trans (congrArg some (by kernel_rfl))⟩
  f14 := ⟨Tryz.f221.name, by decide, Tryz.func221.trans (congrArg some (by kernel_rfl))⟩
  f15 := Tryz.func222.trans (congrArg some (by kernel_rfl))
  f20 := ⟨Tryz.f237.name, by decide, Tryz.func237.trans (congrArg some (by kernel_rfl))⟩
  f21 := ⟨Tryz.f238.name, by decide, Tryz.func238.trans (congrArg some (by kernel_rfl))⟩
  f22 := ⟨Tryz.f239.name, by decide, Tryz.func239.trans (congrArg some (by kernel_rfl))⟩
  f23 := ⟨Tryz.f240.name, by decide, Tryz.func240.trans (congrArg some (by kernel_rfl))⟩
  f24 := ⟨Tryz.f241.name, by decide, Tryz.func241.trans (congrArg some (by kernel_rfl))⟩
  f25 := ⟨Tryz.f242.name, by decide, Tryz.func242.trans (congrArg some (by kernel_rfl))⟩
  f26 := ⟨Tryz.f243.name, by decide, Tryz.func243.trans (congrArg some (by kernel_rfl))⟩
  f27 := ⟨Tryz.f244.name, by decide, Tryz.func244.trans (congrArg some (by kernel_rfl))⟩
  f28 := Tryz.func245.trans (congrArg some (by kernel_rfl))
  f29 := Tryz.func246.trans (congrArg some (by kernel_rfl))
  f46 := ⟨Tryz.f257.name, by decide, Tryz.func257.trans (congrArg some (by kernel_rfl))⟩
  f47 := Tryz.func258.trans (congrArg some (by kernel_rfl))
  f48 := Tryz.func259.trans (congrArg some (by kernel_rfl))
  f49 := ⟨Tryz.f260.name, by decide, Tryz.func260.trans (congrArg some (by kernel_rfl))⟩
  f50 := ⟨Tryz.f261.name, by decide, Tryz.func261.trans (congrArg some (by kernel_rfl))⟩
  f57 := ⟨Tryz.f264.name, by decide, Tryz.func264.trans (congrArg some (by kernel_rfl))⟩
  t0 := Tryz.underlying0
  a0 := Tryz.isAgg0
  z0 := Tryz.sizeOf0
  v0 := Tryz.zeroValue0
  t3 := Tryz.underlying3
  a3 := Tryz.isAgg3
  z3 := Tryz.sizeOf3
  v3 := Tryz.zeroValue3
  t4 := Tryz.underlying4
  a4 := Tryz.isAgg4
  z4 := Tryz.sizeOf4
  v4 := Tryz.zeroValue4
  t5 := Tryz.underlying5
  a5 := Tryz.isAgg5
  z5 := Tryz.sizeOf5
  v5 := Tryz.zeroValue5
  t9 := Tryz.underlying9
  a9 := Tryz.isAgg9
  z9 := Tryz.sizeOf9
  v9 := Tryz.zeroValue9
  t22 := Tryz.underlying25
  a22 := Tryz.isAgg25
  z22 := Tryz.sizeOf25
  v22 := Tryz.zeroValue25
  t25 := Tryz.underlying177
  a25 := Tryz.isAgg177
  z25 := Tryz.sizeOf177
  v25 := Tryz.zeroValue177
  t39 := Tryz.underlying146
  a39 := Tryz.isAgg146
  z39 := Tryz.sizeOf146
  v39 := Tryz.zeroValue146
  t45 := Tryz.underlying204
  a45 := Tryz.isAgg204
  z45 := Tryz.sizeOf204
  v45 := Tryz.zeroValue204
  t46 := Tryz.underlying205
  a46 := Tryz.isAgg205
  z46 := Tryz.sizeOf205
  v46 := Tryz.zeroValue205
  t50 := Tryz.underlying209
  a50 := Tryz.isAgg209
  z50 := Tryz.sizeOf209
  v50 := Tryz.zeroValue209
  t53 := Tryz.underlying43
  a53 := Tryz.isAgg43
  z53 := Tryz.sizeOf43
  v53 := Tryz.zeroValue43
  t55 := Tryz.underlying195
  a55 := Tryz.isAgg195
  z55 := Tryz.sizeOf195
  v55 := Tryz.zeroValue195
  t66 := Tryz.underlying213
  a66 := Tryz.isAgg213
  z66 := Tryz.sizeOf213
  v66 := Tryz.zeroValue213
  t70 := Tryz.underlying217
  a70 := Tryz.isAgg217
  z70 := Tryz.sizeOf217
  v70 := Tryz.zeroValue217
  t76 := Tryz.underlying220
  a76 := Tryz.isAgg220
  z76 := Tryz.sizeOf220
  v76 := Tryz.zeroValue220
  t77 := Tryz.underlying163
  a77 := Tryz.isAgg163
  z77 := Tryz.sizeOf163
  v77 := Tryz.zeroValue163 }
end Go.Proofs
namespace Go.Hy
open Go.Proofs
set_option maxRecDepth 100000
open Go.Shelf Go.RowKit Go.Lib Go.Sort
theorem isNaN_k (a : Int) (W : World) : Calls Tryz.prog 247 #[.int .u32 a] W fun e w' => e = .returned (.bool false) ∧ w' = W := by
  go_enter Tryz.func247, Tryz.ntmps247
  go_wp2
  go_ret
  exact ⟨by simp, rfl⟩
theorem compare_k (a b : Int) (W : World) : Calls Tryz.prog 223 #[.int .u32 a, .int .u32 b] W fun e w' => e = .returned (.int .i64 (compareInt a b)) ∧ w' = W := by
  go_enter Tryz.func223, Tryz.ntmps223
  go_wp2_with (go_at_call 247; refine (isNaN_k _ _).mono ?_; rintro e w' ⟨rfl, rfl⟩)
  all_goals (go_ret; refine ⟨?_, rfl⟩; unfold Lib.compareInt; (repeat' split) <;> first | rfl | (exfalso; omega))
def cmpC (c d : Cl) : Int := if c.pos = d.pos then compareInt c.neg d.neg else compareInt c.pos d.pos
set_option maxHeartbeats 1000000 in
theorem cmp_k (c d : Cl) (W : World) : Calls Tryz.prog 171 #[.agg #[.int .u32 c.pos, .int .u32 c.neg], .agg #[.int .u32 d.pos, .int .u32 d.neg]] W fun e w' => e = .returned (.int .i64 (cmpC c d)) ∧ ∃ q os', w' = grow (W.drewN q) os' := by
  have hcon := fun a b W' => compare_k a b W'
  have e1 : cmpC c d = if (c.pos : Int) = d.pos then compareInt c.neg d.neg else compareInt c.pos d.pos := by unfold cmpC; simp only [Int.ofNat_inj]
  generalize hr : cmpC c d = r at e1 ⊢
  go_enter Tryz.func171, Tryz.ntmps171
  go_wp2_with (go_at_call 223; refine (hcon _ _ _).mono ?_; rintro e w' ⟨rfl, rfl⟩)
  all_goals (go_ret; refine ⟨?_, 0, _, by rw [alloc_eq_grow, alloc_eq_grow, grow_grow]; rfl⟩)
  all_goals (rw [e1]; simp_all)
/-! ### The order of clauses -/
instance : Inhabited Cl := ⟨cl0⟩
theorem cmp_lt (c d : Cl) : ltOf cmpC c d = lessC c d := by
  unfold ltOf cmpC lessC compareInt; by_cases h : c.pos = d.pos
  · simp only [h, if_true]; by_cases h2 : c.neg < d.neg
    · rw [if_pos (by omega)]; simp [h2]
    · rw [if_neg (by omega)]; split <;> simp [h2]
  · simp only [h, if_false]; by_cases h2 : c.pos < d.pos
    · rw [if_pos (by omega)]; simp [h2]
    · rw [if_neg (by omega), if_pos (by omega)]; simp [h2]
theorem cmp_swo : SWO (ltOf cmpC) where
  irrefl x := by rw [cmp_lt]; simp [lessC]
  trans x y z h1 h2 := by
    rw [cmp_lt] at *; simp only [lessC, Bool.or_eq_true, Bool.and_eq_true, decide_eq_true_eq] at *; omega
  ntrans x y z h1 h2 := by
    rw [cmp_lt] at *; simp only [lessC, Bool.or_eq_false_iff, Bool.and_eq_false_iff, decide_eq_false_iff_not] at *; omega
theorem flatK_toList (d : Array Cl) : (flatK clCells 2 d).toList = clFlat d.toList := by
  apply List.ext_getElem?; intro t; have hl : (clFlat d.toList).length = d.size * 2 := by rw [flat_len clCells_len]; simp
  by_cases ht : t < d.size * 2
  · have h1 : (flatK clCells 2 d).toList[t]? = some (clCells d[t / 2]!)[t % 2]! := by
      have hs : t < (flatK clCells 2 d).size := by rw [size_flatK]; exact ht
      rw [Array.getElem?_toList, Array.getElem?_eq_getElem hs]; have := get_flatK clCells 2 d t ht; rw [getElem!_pos _ t hs] at this; rw [this]
    rw [h1]; have hd : t / 2 < d.toList.length := by simp; omega
    have e : d.toList.getD (t / 2) cl0 = d[t / 2]! := by
      have : t / 2 < d.size := by simpa using hd
      rw [getElem!_pos d (t / 2) this, List.getD_eq_getElem?_getD, List.getElem?_eq_getElem hd]; simp
    have h2 : (clCells (d.toList.getD (t / 2) cl0))[t % 2]? = some (clCells d[t / 2]!)[t % 2]! := by
      rw [e]; have : t % 2 < (clCells d[t / 2]!).length := by rw [clCells_len]; omega
      rw [List.getElem?_eq_getElem this, getElem!_pos (clCells d[t / 2]!) (t % 2) this]
    have := flat_at clCells_len cl0 d.toList (t / 2) (t % 2) _ hd h2; rw [show t / 2 * 2 + t % 2 = t by omega] at this; exact this.symm
  · rw [List.getElem?_eq_none (by simp; omega), List.getElem?_eq_none (by omega)]
theorem put_cells (d : Array Cl) (l : List Cl) (rest : List Value) (hs : d.size = l.length) : putCells id 0 (flatK clCells 2 d) (clFlat l ++ rest).toArray = (clFlat d.toList ++ rest).toArray := by
  apply Array.ext_getElem?; intro t; have hl : (clFlat l).length = d.size * 2 := by rw [flat_len clCells_len, hs]
  have hl2 : (clFlat d.toList).length = d.size * 2 := by rw [flat_len clCells_len]; simp
  simp only [putCells, Array.getElem?_mapIdx, List.getElem?_toArray, size_flatK, Nat.zero_add, Nat.zero_le, true_and, Nat.sub_zero, id]; by_cases ht : t < d.size * 2
  · rw [List.getElem?_append_left (by omega), List.getElem?_append_left (by omega)]
    have h1 : (clFlat d.toList)[t]? = some (flatK clCells 2 d)[t]! := by
      rw [← flatK_toList, Array.getElem?_toList]; have hsz : t < (flatK clCells 2 d).size := by rw [size_flatK]; exact ht
      rw [Array.getElem?_eq_getElem hsz, getElem!_pos _ t hsz]
    rw [h1]; obtain ⟨v, hv⟩ : ∃ v, (clFlat l)[t]? = some v := ⟨_, List.getElem?_eq_getElem (by omega)⟩; rw [hv, Option.map_some, if_pos ht]
  · rw [List.getElem?_append_right (by omega), List.getElem?_append_right (by omega), hl, hl2]; cases rest[t - d.size * 2]? with
    | none => rfl
    | some v => rw [Option.map_some, if_neg ht]
/-- slices.SortFunc at clauses, by clause.Cmp: a row of the caller's own. -/
theorem sort_spec (l : List Cl) (g cap : Nat) (rest : List Value) (hn : l.length < 4611686018427387904) :
    Spec Tryz.prog 170 #[.slice (some ⟨g, 0, none⟩) l.length cap, .func (.func 171) #[] #[]] [] [boxR g (clFlat l ++ rest) 45] (fun _ : {l' : List Cl // l'.Perm l ∧ l'.Pairwise fun a b => lessC b a = false} => .tuple #[]) (fun _ => []) (fun x => [boxR g (clFlat x.1 ++ rest) 45]) := by
  intro ok w hok hs; have hg : w.heap[g]? = some (.cells (clFlat l ++ rest).toArray 45 (0, 0)) := hs.res _ List.mem_cons_self w (fun _ _ => rfl); have hlt : g < w.heap.size := (Array.getElem?_eq_some_iff.mp hg).1; have hu : Tryz.prog.underlying 45 = some (.struct (TyF.fC Tryz.prog)) := TyF.uC
  have aE : ∀ w, (isAgg (Tryz.sortL_ren.t 24)).run Tryz.prog w = .ok true w := fun w => by
    show (isAgg 45).run Tryz.prog w = _; simp [isAgg, run_underlying hu]
  have zE : ∀ w, (Go.sizeOf (Tryz.sortL_ren.t 24)).run Tryz.prog w = .ok 2 w := fun w => run_size0 (P := Tryz.prog) (t := 45) rfl w
  have hH : HoldsK clCells 2 w g 0 l.toArray := by
    intro j hj; rw [size_flatK] at hj; have e : (flatK clCells 2 l.toArray).toList = clFlat l := by rw [flatK_toList]
    have hsz : j < (flatK clCells 2 l.toArray).size := by rw [size_flatK]; exact hj
    have h1 : (clFlat l)[j]? = some (flatK clCells 2 l.toArray)[j]! := by
      rw [← e, Array.getElem?_toList, Array.getElem?_eq_getElem hsz, getElem!_pos _ j hsz]
    refine ⟨?_, by simp [World.frozen?, hg]⟩; have hlen : j < (clFlat l).length := (List.getElem?_eq_some_iff.mp h1).1; simp only [World.cell?, hg, Nat.zero_add, Option.isSome_none, Bool.false_eq_true, if_false, List.getElem?_toArray, id]; rw [List.getElem?_append_left hlen]; exact h1
  have hc := AnyQ.slices_SortFunc (P := Tryz.prog) Tryz.sortL 2 aE zE clCells clCells_len (fun x v hv => by
      simp only [clCells, List.mem_cons, List.not_mem_nil, or_false] at hv; rcases hv with rfl | rfl <;> rfl) cmpC cmp_swo 171 #[] g 0 cap l.toArray w Tryz.call171
    (fun m os dk hsz x y => cmp_k x y _) hH hlt (by simpa using hn)
  have hc2 : Calls Tryz.prog 170 #[.slice (some ⟨g, 0, none⟩) l.length cap, .func (.func 171) #[] #[]] w _ := hc; refine hc2.mono ?_; rintro e w' ⟨he, d', n, os, hp, hsd, hw⟩; have hsize : d'.size = l.length := by simpa using hp.1
  have hperm : d'.toList.Perm l := by
    have := hp.2.2; have e1 : d'.extract 0 l.toArray.size = d' := by rw [show l.toArray.size = d'.size by simp [hsize]]; simp
    have e2 : l.toArray.extract 0 l.toArray.size = l.toArray := by simp
    rw [e1, e2] at this; exact this
  have hsorted : d'.toList.Pairwise fun a b => lessC b a = false := by
    rw [List.pairwise_iff_getElem]; intro i j hi hj hij; have hi' : i < d'.size := by simpa using hi
    have hj' : j < d'.size := by simpa using hj
    have := hsd i j (Nat.zero_le _) hij (by simp; omega); rw [cmp_lt, getElem!_pos d' j hj', getElem!_pos d' i hi'] at this; simpa using this
  have hg' : w'.heap[g]? = some (.cells (clFlat d'.toList ++ rest).toArray 45 (0, 0)) := by
    rw [hw]; show ((mapBlock (Go.Sort.ahead w n) g (putCells id 0 (flatK clCells 2 d'))).heap ++ os)[g]? = _; rw [Array.getElem?_append_left (by simp [mapBlock, Go.Sort.ahead]; exact hlt)]; simp only [mapBlock, Go.Sort.ahead, Array.getElem?_modify, if_true, hg, Option.map_some, onCells]; rw [put_cells d' l rest hsize]
  have hold : ∀ b, b < w.heap.size → b ≠ g → w'.heap[b]? = w.heap[b]? := by
    intro b hb hne; rw [hw]; show ((mapBlock (Go.Sort.ahead w n) g (putCells id 0 (flatK clCells 2 d'))).heap ++ os)[b]? = _; rw [Array.getElem?_append_left (by simp [mapBlock, Go.Sort.ahead]; exact hb)]; simp only [mapBlock, Go.Sort.ahead, Array.getElem?_modify, if_neg (Ne.symm hne)]
  have hsz' : w.heap.size ≤ w'.heap.size := by rw [hw]; simp [sortWorldK, putRowK, Go.Sort.ahead]
  refine ⟨⟨d'.toList, hperm, hsorted⟩, he, ?_⟩; have h0 : St ⟨ok, domAll [boxR g (clFlat l ++ rest) 45], w⟩ [] ([boxR g (clFlat l ++ rest) 45]) w := hs
  refine h0.turn (m' := boxR g (clFlat d'.toList ++ rest) 45) ⟨by rw [hw]; rfl, by rw [hw]; rfl, by rw [hw]; rfl, hsz', fun b hb hn => hold b hb hn⟩ (fun w2 hw2 => by
    show w2.heap[g]? = _; rw [hw2 g rfl]; exact hg') (fun b hb => ?_)
  have hb : b = g := hb; subst hb; exact ⟨by omega, .inl rfl⟩
end Go.Hy
namespace Go.Hy
open Go.Proofs
set_option maxRecDepth 100000
theorem permNil {M : List Res} : M.Perm (M ++ []) := by rw [List.append_nil]
theorem index_spec (l : List Cl) (a : SH) (c : FuncId) (cap : List Value) (FΓ : List Fact) (M : List Res) (g : Cl → Bool) (hc : ∀ (args : Array Value) (w : World), (callFunc c args).run Tryz.prog w = .ok (.enter c args) w) (hcl : ∀ x, x ∈ l → Spec Tryz.prog c (keyV x :: cap).toArray FΓ M (fun _ : Unit => .bool (g x)) (fun _ => []) (fun _ => M)) : Spec Tryz.prog 220 #[sl a l.length, .func (.func c) #[] cap.toArray] (CL l a :: FΓ) M (fun _ : Unit => .int .i64 (idxP g l)) (fun _ => []) (fun _ => M) := by
  refine spec_go (args := [sl a l.length, .func (.func c) #[] cap.toArray]) Tryz.func220 Tryz.ntmps220 rfl (by exact Nat.le_of_ble_eq_true rfl) fun B hB => ?_
  refine go_openCL (l := l) (a := a) (fun hl1 hA1 hU1 => ?_); refine go_seq ?_; refine go_region ⟨_, Tryz.func220⟩ rfl ?_; refine q0 rfl (o_assign ?_); refine rg_nil ?_; refine go_seq ?_; refine go_seq ?_; refine go_region ⟨_, Tryz.func220⟩ rfl ?_; refine q0 rfl (o_move ?_); refine q0 rfl (o_len ?_); refine q0 rfl (o_move ?_); refine rg_nil ?_; refine go_block ?_; refine go_loopI (X := Nat) (fun i => i ≤ l.length ∧ ∀ j, j < i → g (l.getD j cl0) = false) (fun i => [(0, sl a l.length), (1, .func (.func c) #[] cap.toArray), (7, .int .i64 (l.length : Int)), (8, .int .i64 (i : Int))]) (fun i => CL l a :: FΓ) (fun i => M) (fun i => l.length - i) (0) (⟨Nat.zero_le _, fun j hj => by omega⟩) (by exact ⟨rfl, rfl, rfl, rfl, trivial⟩) ?_ ?_
  · exact fun w hs => hs
  · intro i base0 ⟨hi, hok⟩ next0; refine go_seq ?_; refine go_region ⟨_, Tryz.func220⟩ rfl ?_; refine q0 rfl (o_lss ?_); refine rg_nil ?_; refine go_seq ?_; refine go_condI (fun h9 => ?_) (fun h9 => ?_)
    · have hlt : i < l.length := by have := of_decide_eq_true h9; omega
      obtain ⟨bk, o, hav⟩ := hA1 (by omega); refine go_skip ?_; refine go_seq ?_; refine go_block ?_; refine go_seq ?_; refine go_region ⟨_, Tryz.func220⟩ rfl ?_; refine q0 rfl (o_move ?_); refine q0 rfl (o_assign ?_); refine rg_nil ?_; refine go_seq ?_; refine go_region ⟨_, Tryz.func220⟩ rfl ?_; refine q0 rfl (o_move ?_); refine q0 rfl (o_move ?_); refine q0 rfl (o_move ?_); refine q0 rfl (o_ixN ?_); refine q0 rfl (o_ldC ?_); refine q0 rfl (o_callC hc (hcl _ (getD_mem hlt)) (cap := cap) (fun x16 => ?_) (hm := permNil)); refine rg_nil ?_; refine go_condI (fun h16 => ?_) (fun h16 => ?_)
      · refine go_seq ?_; refine go_region ⟨_, Tryz.func220⟩ rfl ?_; refine q0 rfl (o_move ?_); refine q0 rfl (o_assign ?_); refine rg_nil ?_; refine ret1 Tryz.func220 Tryz.results220 wn_ () (by rw [idxP_at hlt h16 hok]) (fun w hs => (hs.less (by simp)).dropR)
      · refine go_skip ?_; refine go_inBlock ?_; refine go_region ⟨_, Tryz.func220⟩ rfl ?_; refine q0 rfl (o_add ?_); refine q0 rfl (o_move ?_); refine rg_nil ?_; refine go_state (fun w hs => ?_) (next0 (i + 1) _ ⟨hlt, fun j hj => (by rcases Nat.lt_succ_iff_lt_or_eq.mp hj with h | h; exact hok j h; subst h; exact h16)⟩ (by omega) ⟨rfl, rfl, rfl, rfl, trivial⟩); exact (hs.less (by simp +contextual)).dropR
    · have hge : i = l.length := by have := of_decide_eq_false h9; omega
      refine go_exit rfl ?_; refine go_seq ?_; refine go_region ⟨_, Tryz.func220⟩ rfl ?_; refine q0 rfl (o_assign ?_); refine rg_nil ?_; refine ret1 Tryz.func220 Tryz.results220 wn_ () (by rw [idxP_none (by rw [← hge]; exact hok)]) (fun w hs => hs.less (by simp))
theorem contains_spec (l : List Cl) (a : SH) (c : FuncId) (cap : List Value) (FΓ : List Fact) (M : List Res) (g : Cl → Bool) (hc : ∀ (args : Array Value) (w : World), (callFunc c args).run Tryz.prog w = .ok (.enter c args) w) (hcl : ∀ x, x ∈ l → Spec Tryz.prog c (keyV x :: cap).toArray FΓ M (fun _ : Unit => .bool (g x)) (fun _ => []) (fun _ => M)) : Spec Tryz.prog 166 #[sl a l.length, .func (.func c) #[] cap.toArray] (CL l a :: FΓ) M (fun _ : Unit => .bool (l.any g)) (fun _ => []) (fun _ => M) := by
  refine spec_go (args := [sl a l.length, .func (.func c) #[] cap.toArray]) Tryz.func166 Tryz.ntmps166 rfl (by exact Nat.le_of_ble_eq_true rfl) fun B hB => ?_
  refine go_seq ?_; refine go_region ⟨_, Tryz.func166⟩ rfl ?_; refine q0 rfl (o_assign ?_); refine rg_nil ?_; refine go_seq ?_; refine go_region ⟨_, Tryz.func166⟩ rfl ?_; refine q0 rfl (o_move ?_); refine q0 rfl (o_move ?_); refine q0 rfl (o_call Tryz.call220 (index_spec l a c cap FΓ M g hc hcl) (fun x7 => ?_) (hm := permNil)); refine q0 rfl (o_geq ?_); refine q0 rfl (o_assign ?_); refine rg_nil ?_; refine ret1 Tryz.func166 Tryz.results166 wn_ () (by rw [idxP_nonneg]) (fun w hs => (hs.less (by simp)).dropR)
theorem least11_spec (c d : Cl) (hc : u32 c) (hd : u32 d) (b : Nat) : Spec Tryz.prog 168 #[keyV d, .pointer (some ⟨b, 0, none⟩)] [] [boxR b (clCells c) 45] (fun _ : Unit => .bool (!decide (c = d) && below c d)) (fun _ => []) (fun _ => [boxR b (clCells c) 45]) := by
  refine spec_go (args := [keyV d, .pointer (some ⟨b, 0, none⟩)]) Tryz.func168 Tryz.ntmps168 rfl (by exact Nat.le_of_ble_eq_true rfl) fun B hB => ?_
  refine go_seq ?_; refine go_region ⟨_, Tryz.func168⟩ rfl ?_; refine q0 rfl (o_box fun b2 => ?_); refine q0 rfl (o_assign ?_); refine rg_nil ?_; refine go_seq ?_; refine go_region ⟨_, Tryz.func168⟩ rfl ?_; refine q0 rfl (o_lds ?_); refine q0 rfl (o_lds ?_); refine q0 rfl (o_neC ?_ (c := c) (c' := d)); refine q0 rfl (o_move ?_); refine qI rfl rfl rfl wl_ (fun hg7 => o_lds ?_) (fun hg7 => ?_)
  · refine qT rfl rfl rfl (o_lds ?_); refine qT rfl rfl rfl (o_call Tryz.call169 (below_spec c d hc hd) (fun x10 => ?_)); refine q0 rfl (o_pickT ?_); refine q0 rfl (o_assign ?_); refine rg_nil ?_; refine ret1 Tryz.func168 Tryz.results168 wn_ () (by simp_all) (fun w hs => (hs.less (by simp)).drop)
  · refine qF rfl rfl rfl ?_; refine qF rfl rfl rfl ?_; refine q0 rfl (o_pickF ?_); refine q0 rfl (o_assign ?_); refine rg_nil ?_; refine ret1 Tryz.func168 Tryz.results168 wn_ () (by simp_all) (fun w hs => (hs.less (by simp)).drop)
theorem least1_spec (l : List Cl) (a : SH) (c : Cl) (hc : u32 c) (b : Nat) : Spec Tryz.prog 167 #[keyV c, .pointer (some ⟨b, 0, none⟩)] [CL l a] [boxR b [sl a l.length] 25] (fun _ : Unit => .bool (needless l c)) (fun _ => []) (fun _ => [boxR b [sl a l.length] 25]) := by
  refine spec_go (args := [keyV c, .pointer (some ⟨b, 0, none⟩)]) Tryz.func167 Tryz.ntmps167 rfl (by exact Nat.le_of_ble_eq_true rfl) fun B hB => ?_
  refine go_openCL (l := l) (a := a) (fun hl1 hA1 hU1 => ?_); refine go_seq ?_; refine go_region ⟨_, Tryz.func167⟩ rfl ?_; refine q0 rfl (o_box fun b2 => ?_); refine q0 rfl (o_assign ?_); refine rg_nil ?_; refine go_seq ?_; refine go_region ⟨_, Tryz.func167⟩ rfl ?_; refine q0 rfl (o_ld ?_); refine q0 rfl (o_func ?_); refine q0 rfl (o_call Tryz.call166 (contains_spec l a 168 [.pointer (some ⟨b2, 0, none⟩)] [] [boxR b2 (clCells c) 45] (fun d => !decide (c = d) && below c d) Tryz.call168 (fun d hd => least11_spec c d hc (hU1 d hd) b2)) (fun x6 => ?_)); refine q0 rfl (o_assign ?_); refine rg_nil ?_; refine ret1 Tryz.func167 Tryz.results167 wn_ () rfl (fun w hs => (hs.less (by simp)).drop)
end Go.Hy
namespace Go.Hy
open Go.Proofs
set_option maxRecDepth 100000
theorem clFlat_snoc (l : List Cl) (c : Cl) : clFlat (l ++ [c]) = clFlat l ++ clCells c := by simp [clFlat]
/-- slices.SortFunc at a row of the call's own. -/
theorem sortRow_spec (l : List Cl) (a : SH) (n : Nat) (hn : n = l.length) (hb : n * 8 ≤ reach) :
    Spec Tryz.prog 170 #[sl a n, .func (.func 171) #[] #[]] [] [rowS 2 45 a n (clFlat l)] (fun _ : {l' : List Cl // SortOf l l'} => .tuple #[]) (fun _ => []) (fun x => [rowS 2 45 a n (clFlat x.1)]) := by
  subst hn; intro ok w hok hs; have hown : w.ownsRow 0 45 2 (sl a l.length) l.length (clFlat l) := hs.res _ List.mem_cons_self w (fun _ _ => rfl); rcases hown.2 with ⟨h1, h2⟩ | ⟨g, cap, cur, h1, h2, h3, h4, h5, h6, h7⟩
  · have hl : l = [] := List.eq_nil_of_length_eq_zero h2; subst hl; have hc := AnyF.slices_SortFunc_none (P := Tryz.prog) Tryz.sortL a.1 a.2 (.func (.func 171) #[] #[]) w; have hc2 : Calls Tryz.prog 170 #[sl a 0, .func (.func 171) #[] #[]] w _ := hc; refine hc2.mono ?_; rintro e w' ⟨he, hw⟩; subst hw; exact ⟨⟨[], List.Perm.refl _, List.Pairwise.nil⟩, he, hs⟩
  · obtain ⟨ao, ac⟩ := a; have e1 : ao = some ⟨g, 0, none⟩ := by injection h1
    have e2 : ac = cap := by injection h1
    subst e1; subst e2
    have hfl : cur.toList = clFlat l ++ cur.toList.drop (l.length * 2) := by
      have := List.take_append_drop (l.length * 2) cur.toList; rw [h7] at this; exact this.symm
    have hbox : St ⟨ok, domAll [rowS 2 45 (some ⟨g, 0, none⟩, ac) l.length (clFlat l)], w⟩ [] [boxR g (clFlat l ++ cur.toList.drop (l.length * 2)) 45] w := by
      refine hs.turn (m' := boxR g (clFlat l ++ cur.toList.drop (l.length * 2)) 45) (Chg.refl _ _) (fun w2 hw2 => ?_) (fun b hb => ?_)
      · show w2.heap[g]? = _; rw [hw2 g rfl, ← hfl, Array.toArray_toList]; exact h3
      · have hb : b = g := hb; subst hb; exact ⟨(Array.getElem?_eq_some_iff.mp h3).1, .inl rfl⟩
    have hdom : ∀ b, domAll [rowS 2 45 (some ⟨g, 0, none⟩, ac) l.length (clFlat l)] b ↔ domAll [boxR g (clFlat l ++ cur.toList.drop (l.length * 2)) 45] b := by
      intro b; rw [domAll_cons, domAll_cons]
      have : (rowS 2 45 (some ⟨g, 0, none⟩, ac) l.length (clFlat l)).dom b ↔ b = g := by
        show (sl (some ⟨g, 0, none⟩, ac) l.length).ownBlock = some b ↔ b = g; simp only [sl, Value.ownBlock, Option.some.injEq]; exact eq_comm
      rw [this]; rfl
    have hd2 : domAll [rowS 2 45 (some ⟨g, 0, none⟩, ac) l.length (clFlat l)] = domAll [boxR g (clFlat l ++ cur.toList.drop (l.length * 2)) 45] := funext fun b => propext (hdom b)
    rw [hd2] at hbox; refine (sort_spec l g ac (cur.toList.drop (l.length * 2)) (by unfold reach at hb; omega) ok w (fun b hb => ⟨(hok b hb).1, by rw [← hd2]; exact (hok b hb).2⟩) hbox).mono ?_; rintro e w' ⟨x, he, hs'⟩; refine ⟨⟨x.1, x.2.1, x.2.2⟩, he, ?_⟩; rw [hd2]; have hlen : x.1.length = l.length := x.2.1.length_eq; have hg : w'.heap[g]? = some (.cells (clFlat x.1 ++ cur.toList.drop (l.length * 2)).toArray 45 (0, 0)) := hs'.res _ List.mem_cons_self w' (fun _ _ => rfl); have hfl2 : (clFlat x.1).length = l.length * 2 := by rw [flat_len clCells_len, hlen]
    refine hs'.turn (m' := rowS 2 45 (some ⟨g, 0, none⟩, ac) l.length (clFlat x.1)) (Chg.refl _ _) (fun w2 hw2 => ⟨hfl2, .inr ⟨g, ac, (clFlat x.1 ++ cur.toList.drop (l.length * 2)).toArray, rfl, Nat.zero_le _, ?_, h4, h5, ?_, ?_⟩⟩) (fun b hb => ?_)
    · rw [hw2 g rfl]; exact hg
    · have h8 : cur.toList.length = ac * 2 := by simpa using h6
      simp only [List.size_toArray, List.length_append, List.length_drop, hfl2, h8]; omega
    · rw [← hfl2, List.take_left]
    · have hb : (sl (some ⟨g, 0, none⟩, ac) l.length).ownBlock = some b := hb; simp only [sl, Value.ownBlock, Option.some.injEq] at hb; subst hb; exact ⟨(Array.getElem?_eq_some_iff.mp hg).1, .inl rfl⟩
theorem least_own (l : List Cl) (a : SH) : Spec Tryz.prog 90 #[sl a l.length] [CL l a] [] (fun x : {x : SH × Int × List Cl // LeastIs l x.2} => .tuple #[sl x.1.1 x.1.2.2.length, .int .i64 x.1.2.1]) (fun _ => []) (fun x => [rowS 2 45 x.1.1 x.1.2.2.length (clFlat x.1.2.2)]) := by
  refine spec_go (args := [sl a l.length]) Tryz.func90 Tryz.ntmps90 rfl (by exact Nat.le_of_ble_eq_true rfl) fun B hB => ?_
  refine go_openCL (l := l) (a := a) (fun hl1 hA1 hU1 => ?_); refine go_seq ?_; refine go_region ⟨_, Tryz.func90⟩ rfl ?_; refine q0 rfl (o_assign ?_); refine q0 rfl (o_assign ?_); refine rg_nil ?_; refine go_seq ?_; refine go_region ⟨_, Tryz.func90⟩ rfl ?_; refine q0 rfl (o_makeMap fun b12 => ?_); refine q0 rfl (o_assign ?_); refine rg_nil ?_; refine go_seq ?_; refine go_region ⟨_, Tryz.func90⟩ rfl ?_; refine q0 rfl (o_new fun b5 => ?_); refine rg_nil ?_; refine go_seq ?_; refine go_seq ?_; refine go_region ⟨_, Tryz.func90⟩ rfl ?_; refine q0 rfl (o_move ?_); refine q0 rfl (o_len ?_); refine q0 rfl (o_move ?_); refine rg_nil ?_; refine go_block ?_; refine go_loopI (X := Nat × SH) (fun s => s.1 ≤ l.length ∧ ∀ j, j < s.1 → right24 (l.getD j cl0) = true) (fun s => [(4, .map (some b12)), (5, .pointer (some ⟨b5, 0, none⟩)), (13, sl a l.length), (14, .int .i64 (l.length : Int)), (15, .int .i64 (s.1 : Int))]) (fun s => [CL l a]) (fun s => [mapR b12 (once (l.take s.1)), boxR b5 [sl s.2 (once (l.take s.1)).length] 25, rowS 2 45 s.2 (once (l.take s.1)).length (clFlat (once (l.take s.1)))]) (fun s => l.length - s.1) ((0, (none, 0))) (⟨Nat.zero_le _, fun j hj => absurd hj (Nat.not_lt_zero _)⟩) (by exact ⟨rfl, rfl, rfl, rfl, rfl, trivial⟩) ?_ ?_
  · exact fun w hs => ((hs.less (by simp)).rowS0 2 45).perm (perm2.trans ((List.Perm.swap _ _ _).cons _))
  · intro ⟨i, aO⟩ base0 ⟨hi, hok⟩ next0; dsimp only at hi hok next0 ⊢; refine go_seq ?_; refine go_region ⟨_, Tryz.func90⟩ rfl ?_; refine q0 rfl (o_lss ?_); refine rg_nil ?_; refine go_seq ?_; refine go_condI (fun h16 => ?_) (fun h16 => ?_)
    · have hlt : i < l.length := by have := of_decide_eq_true h16; omega
      obtain ⟨bk, o, hav⟩ := hA1 (by omega); have hu := hU1 _ (getD_mem (d := cl0) hlt); have hol := once_take_len l i; refine go_skip ?_; refine go_seq ?_; refine go_block ?_; refine go_seq ?_; refine go_region ⟨_, Tryz.func90⟩ rfl ?_; refine q0 rfl (o_ixN ?_); refine q0 rfl (o_ldC ?_); refine q0 rfl (o_new fun b7 => ?_); refine q0 rfl (o_st ?_); refine rg_nil ?_; refine go_seq ?_; refine go_seq ?_; refine go_region ⟨_, Tryz.func90⟩ rfl ?_; refine q0 rfl (o_lds ?_); refine q0 rfl (o_call Tryz.call33 (clauseRight_spec (l.getD i cl0) hu) (fun x20 => ?_)); refine q0 rfl (o_not ?_); refine rg_nil ?_; refine go_condI (fun h21 => ?_) (fun h21 => ?_)
      · have hr : right24 (l.getD i cl0) = false := by simpa using h21
        refine go_seq ?_; refine go_region ⟨_, Tryz.func90⟩ rfl ?_; refine q0 rfl (o_assign ?_); refine q0 rfl (o_assign ?_); refine rg_nil ?_; refine ret2 Tryz.func90 Tryz.results90 wn_ wn_ ⟨((none, 0), 2, []), by (unfold LeastIs; rw [all_not hlt hr]; rfl)⟩ rfl (fun w hs => (hs.less (Γ' := []) (by simp)).bare.rowS0 2 45)
      · have hr : right24 (l.getD i cl0) = true := by simpa using h21
        refine go_skip ?_; refine go_seq ?_; refine go_region ⟨_, Tryz.func90⟩ rfl ?_; refine q0 rfl (o_move ?_); refine q0 rfl (o_lds ?_); refine q0 rfl (o_lookupM ?_); refine q0 rfl (o_not ?_); refine rg_nil ?_; refine go_condI (fun h25 => ?_) (fun h25 => ?_)
        · have hnin : l.getD i cl0 ∉ once (l.take i) := by simpa using h25
          refine go_seq ?_; refine go_region ⟨_, Tryz.func90⟩ rfl ?_; refine q0 rfl (o_move ?_); refine q0 rfl (o_lds ?_); refine q0 rfl (o_mapUpd ?_); refine rg_nil ?_; refine go_region ⟨_, Tryz.func90⟩ rfl ?_; refine q0 rfl (o_ld ?_); refine q0 rfl (o_lds ?_); refine q0 rfl (o_lit1 fun b30 => ?_); refine q0 rfl (o_appS (fun a31 => ?_)  ); refine q0 rfl (o_st ?_); refine rg_nil ?_; refine go_inBlock ?_; refine go_region ⟨_, Tryz.func90⟩ rfl ?_; refine q0 rfl (o_add ?_); refine q0 rfl (o_move ?_); refine rg_nil ?_; have hst := once_take_succ hlt; rw [if_neg hnin] at hst; have hlen' : (once (l.take (i + 1))).length = (once (l.take i)).length + 1 := by rw [hst]; simp
          refine go_state (fun w hs => ?_) (next0 (i + 1, a31) _ ⟨hlt, fun j hj => (by rcases Nat.lt_succ_iff_lt_or_eq.mp hj with h | h; exact hok j h; subst h; exact hr)⟩ (by simp only; omega) ⟨rfl, rfl, rfl, rfl, rfl, trivial⟩); dsimp only; rw [hlen', hst, clFlat_snoc]; exact ((hs.less (by simp)).perm perm3).dropR (A := [_, _, _])
        · refine go_skip ?_; refine go_inBlock ?_; refine go_region ⟨_, Tryz.func90⟩ rfl ?_; refine q0 rfl (o_add ?_); refine q0 rfl (o_move ?_); refine rg_nil ?_; have hin : l.getD i cl0 ∈ once (l.take i) := by simpa using h25
          have hst := once_take_succ hlt; rw [if_pos hin] at hst; refine go_state (fun w hs => ?_) (next0 (i + 1, aO) _ ⟨hlt, fun j hj => (by rcases Nat.lt_succ_iff_lt_or_eq.mp hj with h | h; exact hok j h; subst h; exact hr)⟩ (by simp only; omega) ⟨rfl, rfl, rfl, rfl, rfl, trivial⟩); dsimp only; rw [hst]; exact (hs.less (by simp)).drop
    · have hge : i = l.length := by have := of_decide_eq_false h16; omega
      have hall : l.all right24 = true := all_of (by rw [← hge]; exact hok); subst hge; rw [List.take_length]; have hUo : ∀ c, c ∈ once l → u32 c := fun c hc => hU1 c ((once_mem c l).mp hc)
      have hol := once_len l; refine go_state (fun w hs => ((hs.perm perm2).settleCL hB rfl rfl (by omega) hUo)) ?_; refine go_exit rfl ?_; refine go_seq ?_; refine go_region ⟨_, Tryz.func90⟩ rfl ?_; refine q0 rfl (o_func ?_); refine q0 rfl (o_assign ?_); refine rg_nil ?_; refine go_seq ?_; refine go_region ⟨_, Tryz.func90⟩ rfl ?_; refine q0 rfl (o_assign ?_); refine rg_nil ?_; refine go_seq ?_; refine go_seq ?_; refine go_region ⟨_, Tryz.func90⟩ rfl ?_; refine q0 rfl (o_ld ?_); refine q0 rfl (o_len ?_); refine q0 rfl (o_move ?_); refine rg_nil ?_; refine go_block ?_; refine go_loopI (X := Nat × SH) (fun s => s.1 ≤ (once l).length) (fun s => [(8, .func (.func 167) #[] [.pointer (some ⟨b5, 0, none⟩)].toArray), (9, sl s.2 (keptUpto l s.1).length), (34, sl aO (once l).length), (35, .int .i64 ((once l).length : Int)), (36, .int .i64 (s.1 : Int))]) (fun s => [CL (once l) aO]) (fun s => [boxR b5 [sl aO (once l).length] 25, rowS 2 45 s.2 (keptUpto l s.1).length (clFlat (keptUpto l s.1))]) (fun s => (once l).length - s.1) ((0, (none, 0))) (Nat.zero_le _) (by exact ⟨rfl, rfl, rfl, rfl, rfl, trivial⟩) ?_ ?_
      · exact fun w hs => (((hs.less (by simp +contextual)).rowS0 2 45).perm perm2).dropR (A := [_, _])
      · intro ⟨i, aK⟩ base1 hi next1; dsimp only at hi next1 ⊢; refine go_seq ?_; refine go_region ⟨_, Tryz.func90⟩ rfl ?_; refine q0 rfl (o_lss ?_); refine rg_nil ?_; refine go_seq ?_; refine go_condI (fun h37 => ?_) (fun h37 => ?_)
        · have hlt : i < (once l).length := by have := of_decide_eq_true h37; omega
          refine go_openCL (l := once l) (a := aO) (fun _ hA2 _ => ?_); obtain ⟨bk, o, hav⟩ := hA2 (by omega); have hu := hUo _ (getD_mem (d := cl0) hlt); have hkl := keptUpto_len l i; refine go_skip ?_; refine go_seq ?_; refine go_block ?_; refine go_seq ?_; refine go_region ⟨_, Tryz.func90⟩ rfl ?_; refine q0 rfl (o_ixN ?_); refine q0 rfl (o_ldC ?_); refine q0 rfl (o_new fun b11 => ?_); refine q0 rfl (o_st ?_); refine rg_nil ?_; refine go_seq ?_; refine go_region ⟨_, Tryz.func90⟩ rfl ?_; refine q0 rfl (o_move ?_); refine q0 rfl (o_lds ?_); refine q0 rfl (o_callC Tryz.call167 (least1_spec (once l) aO ((once l).getD i cl0) hu b5) (cap := [.pointer (some ⟨b5, 0, none⟩)]) (fun x42 => ?_)); refine q0 rfl (o_not ?_); refine rg_nil ?_; refine go_condI (fun h43 => ?_) (fun h43 => ?_)
          · refine go_region ⟨_, Tryz.func90⟩ rfl ?_; refine q0 rfl (o_move ?_); refine q0 rfl (o_lds ?_); refine q0 rfl (o_lit1 fun b46 => ?_); refine q0 rfl (o_appS (fun a47 => ?_)  ); refine q0 rfl (o_assign ?_); refine rg_nil ?_; refine go_inBlock ?_; refine go_region ⟨_, Tryz.func90⟩ rfl ?_; refine q0 rfl (o_add ?_); refine q0 rfl (o_move ?_); refine rg_nil ?_; have hnd : needless (once l) ((once l).getD i cl0) = false := by simpa using h43
            have hst := keptUpto_succ hlt; rw [hnd, if_neg (by decide)] at hst; have hlen' : (keptUpto l (i + 1)).length = (keptUpto l i).length + 1 := by rw [hst]; simp
            refine go_state (fun w hs => ?_) (next1 (i + 1, a47) _ hlt (by simp only; omega) ⟨rfl, by rw [hlen']; rfl, rfl, rfl, rfl, trivial⟩); dsimp only; rw [hlen', hst, clFlat_snoc]; exact ((hs.less (by simp)).perm perm2).dropR (A := [_, _])
          · refine go_skip ?_; refine go_inBlock ?_; refine go_region ⟨_, Tryz.func90⟩ rfl ?_; refine q0 rfl (o_add ?_); refine q0 rfl (o_move ?_); refine rg_nil ?_; have hnd : needless (once l) ((once l).getD i cl0) = true := by simpa using h43
            have hst := keptUpto_succ hlt; rw [hnd, if_pos rfl] at hst; refine go_state (fun w hs => ?_) (next1 (i + 1, aK) _ hlt (by simp only; omega) ⟨rfl, by rw [hst]; rfl, rfl, rfl, rfl, trivial⟩); dsimp only; rw [hst]; exact (hs.less (by simp)).dropR (A := [_, _])
        · have hge2 : i = (once l).length := by have := of_decide_eq_false h37; omega
          subst hge2; rw [keptUpto_all]; refine go_exit rfl ?_; refine go_seq ?_; refine go_seq ?_; refine go_region ⟨_, Tryz.func90⟩ rfl ?_; refine q0 rfl (o_move ?_); refine q0 rfl (o_len ?_); refine q0 rfl (o_gtr ?_); refine rg_nil ?_; refine go_condI (fun h51 => ?_) (fun h51 => ?_)
          · have h64 : 64 < (kept l).length := by have := of_decide_eq_true h51; omega
            refine go_seq ?_; refine go_region ⟨_, Tryz.func90⟩ rfl ?_; refine q0 rfl (o_assign ?_); refine q0 rfl (o_assign ?_); refine rg_nil ?_; refine ret2 Tryz.func90 Tryz.results90 wn_ wn_ ⟨((none, 0), 3, []), by (unfold LeastIs; rw [hall, if_neg (by decide), if_pos h64])⟩ rfl (fun w hs => (hs.less (Γ' := []) (by simp)).bare.rowS0 2 45)
          · have h64 : ¬ 64 < (kept l).length := by have := of_decide_eq_false h51; omega
            refine go_skip ?_; refine go_seq ?_; refine go_region ⟨_, Tryz.func90⟩ rfl ?_; refine q0 rfl (o_move ?_); refine q0 rfl (o_call Tryz.call170 (sortRow_spec (kept l) aK (kept l).length rfl (by unfold reach; omega)) (fun x53 => ?_)); refine rg_nil ?_; refine go_seq ?_; refine go_region ⟨_, Tryz.func90⟩ rfl ?_; refine q0 rfl (o_move ?_); refine q0 rfl (o_assign ?_); refine q0 rfl (o_assign ?_); refine rg_nil ?_; have hpl : x53.1.length = (kept l).length := x53.2.1.length_eq; refine ret2 Tryz.func90 Tryz.results90 wn_ wn_ ⟨(aK, 0, x53.1), by (unfold LeastIs; rw [hall, if_neg (by decide), if_neg h64]; exact ⟨rfl, x53.2⟩)⟩ (by rw [hpl]; rfl) (fun w hs => ?_); have h := (hs.less (Γ' := []) (by simp)).dropR (A := [_]); rw [← hpl] at h; exact h
theorem least_spec (l : List Cl) (a : SH) : Spec Tryz.prog 90 #[sl a l.length] [CL l a] [] (fun x : {x : SH × Int × List Cl // LeastIs l x.2} => .tuple #[sl x.1.1 x.1.2.2.length, .int .i64 x.1.2.1]) (fun x => [CL x.1.2.2 x.1.1]) (fun _ => []) := fun ok w hok hs => (least_own l a ok w hok hs).mono fun e w' h => by
  obtain ⟨x, he, hs'⟩ := h; have hu := (hs.facts _ List.mem_cons_self).2
  have hx : x.1.2.2.length ≤ 64 ∧ ∀ c, c ∈ x.1.2.2 → u32 c := by
    have h := x.2; unfold LeastIs at h; split at h
    · rw [h]; exact ⟨Nat.zero_le _, fun c hc => by cases hc⟩
    · split at h
      · rw [h]; exact ⟨Nat.zero_le _, fun c hc => by cases hc⟩
      · rename_i h64; exact ⟨by rw [h.2.1.length_eq]; omega, fun c hc => hu c (kept_mem (h.2.1.mem_iff.mp hc))⟩
  exact ⟨x, he, (hs'.settleCL trivial rfl rfl (by unfold reach; omega) hx.2).less (by simp)⟩
end Go.Hy
namespace Go.Hy
open Go.Proofs
set_option maxRecDepth 100000
theorem equal_spec (l m : List Cl) (a b : SH) : Spec Tryz.prog 194 #[sl a l.length, sl b m.length] [CL l a, CL m b] [] (fun _ : Unit => .bool (decide (l = m))) (fun _ => []) (fun _ => []) := by
  refine spec_go (args := [sl a l.length, sl b m.length]) Tryz.func194 Tryz.ntmps194 rfl (by exact Nat.le_of_ble_eq_true rfl) fun B hB => ?_
  refine go_openCL (l := l) (a := a) (fun hl1 hA1 hU1 => ?_); refine go_openCL (l := m) (a := b) (fun hl2 hA2 hU2 => ?_); refine go_seq ?_; refine go_region ⟨_, Tryz.func194⟩ rfl ?_; refine q0 rfl (o_assign ?_); refine rg_nil ?_; refine go_seq ?_; refine go_seq ?_; refine go_region ⟨_, Tryz.func194⟩ rfl ?_; refine q0 rfl (o_move ?_); refine q0 rfl (o_len ?_); refine q0 rfl (o_move ?_); refine q0 rfl (o_len ?_); refine q0 rfl (o_neI ?_); refine rg_nil ?_; refine go_condI (fun h10 => ?_) (fun h10 => ?_)
  · have hne : ¬ l = m := fun e => by subst e; simp at h10
    refine go_seq ?_; refine go_region ⟨_, Tryz.func194⟩ rfl ?_; refine q0 rfl (o_assign ?_); refine rg_nil ?_; refine ret1 Tryz.func194 Tryz.results194 wn_ () (by rw [decide_eq_false hne]) (fun w hs => hs.none)
  · have hlen : l.length = m.length := by simp at h10; omega
    refine go_skip ?_; refine go_seq ?_; refine go_seq ?_; refine go_region ⟨_, Tryz.func194⟩ rfl ?_; refine q0 rfl (o_move ?_); refine q0 rfl (o_len ?_); refine q0 rfl (o_move ?_); refine rg_nil ?_; refine go_block ?_; refine go_loopI (X := Nat) (fun i => i ≤ l.length ∧ ∀ j, j < i → l.getD j cl0 = m.getD j cl0) (fun i => [(0, sl a l.length), (1, sl b m.length), (12, .int .i64 (l.length : Int)), (13, .int .i64 (i : Int))]) (fun i => [CL l a, CL m b]) (fun i => []) (fun i => l.length - i) (0) (⟨Nat.zero_le _, fun j hj => by omega⟩) (by exact ⟨rfl, rfl, rfl, rfl, trivial⟩) ?_ ?_
    · exact fun w hs => hs.less (by simp +contextual)
    · intro i base0 ⟨hi, hok⟩ next0; refine go_seq ?_; refine go_region ⟨_, Tryz.func194⟩ rfl ?_; refine q0 rfl (o_lss ?_); refine rg_nil ?_; refine go_seq ?_; refine go_condI (fun h14 => ?_) (fun h14 => ?_)
      · have hlt : i < l.length := by have := of_decide_eq_true h14; omega
        have hlt2 : i < m.length := by omega
        obtain ⟨bk, o, hav⟩ := hA1 (by omega); obtain ⟨bk2, o2, hav2⟩ := hA2 (by omega); refine go_skip ?_; refine go_seq ?_; refine go_block ?_; refine go_seq ?_; refine go_region ⟨_, Tryz.func194⟩ rfl ?_; refine q0 rfl (o_move ?_); refine q0 rfl (o_assign ?_); refine rg_nil ?_; refine go_seq ?_; refine go_draw (pn := 1000000) (tn := false) (A := [0, 0, 3, 7, 0, 0, 48, 112, 255]) (l := [0, 1, 2, 3, 4, 5, 6, 7, 8]) (fin := []) Tab.mixed ⟨_, Tryz.func194⟩ (by rfl) ?_; refine n0 rfl (v_move ?_); refine n0 rfl (v_move ?_); refine n0 rfl (v_ixN ?_); refine n0 rfl (v_ldC ?_); refine n0 rfl (v_move ?_); refine n0 rfl (v_move ?_); refine n0 rfl (v_ixN ?_); refine n0 rfl (v_ldC ?_); refine n0 rfl (v_neC ?_); refine NV.done ?_; refine rg_nil ?_; refine go_condI (fun h24 => ?_) (fun h24 => ?_)
        · refine go_seq ?_; refine go_region ⟨_, Tryz.func194⟩ rfl ?_; refine q0 rfl (o_assign ?_); refine rg_nil ?_; refine ret1 Tryz.func194 Tryz.results194 wn_ () (by rw [decide_eq_false (fun e => by subst e; simp at h24)]) (fun w hs => hs.none)
        · refine go_skip ?_; refine go_inBlock ?_; refine go_region ⟨_, Tryz.func194⟩ rfl ?_; refine q0 rfl (o_add ?_); refine q0 rfl (o_move ?_); refine rg_nil ?_; have hb : l.getD i cl0 = m.getD i cl0 := by simpa using h24
          refine go_state (fun w hs => ?_) (next0 (i + 1) _ ⟨hlt, fun j hj => (by rcases Nat.lt_succ_iff_lt_or_eq.mp hj with h | h; exact hok j h; subst h; exact hb)⟩ (by omega) ⟨rfl, rfl, rfl, rfl, trivial⟩); exact hs
      · have hge : i = l.length := by have := of_decide_eq_false h14; omega
        refine go_exit rfl ?_; refine go_seq ?_; refine go_region ⟨_, Tryz.func194⟩ rfl ?_; refine q0 rfl (o_assign ?_); refine rg_nil ?_; refine ret1 Tryz.func194 Tryz.results194 wn_ () (by rw [decide_eq_true (list_eq_of hlen (by rw [← hge]; exact hok))]) (fun w hs => hs.none)
end Go.Hy
namespace Go.Hy
open Go.Proofs
set_option maxRecDepth 100000
theorem formRight_spec : FRight := by
  intro l a; refine spec_go (args := [sl a l.length]) Tryz.func137 Tryz.ntmps137 rfl (by exact Nat.le_of_ble_eq_true rfl) fun B hB => ?_
  refine go_know (p := True) (fun _ _ => trivial) (fun _ => ?_); refine go_seq ?_; refine go_region ⟨_, Tryz.func137⟩ rfl ?_; refine q0 rfl (o_assign ?_); refine rg_nil ?_; refine go_seq ?_; refine go_region ⟨_, Tryz.func137⟩ rfl ?_; refine q0 rfl (o_move ?_); refine q0 rfl (o_call Tryz.call90 (least_spec l a) (fun x7 => ?_)); refine q0 rfl (o_move ?_); refine q0 rfl (o_extract ?_); refine q0 rfl (o_extract ?_); refine q0 rfl (o_assign ?_); refine q0 rfl (o_assign ?_); refine rg_nil ?_; refine go_seq ?_; refine go_region ⟨_, Tryz.func137⟩ rfl ?_; refine q0 rfl (o_move ?_); refine q0 rfl (o_eqI ?_); refine q0 rfl (o_move ?_); refine qI rfl rfl rfl wl_ (fun hg12 => o_move ?_) (fun hg12 => ?_)
  · refine qT rfl rfl rfl (o_move ?_); refine qT rfl rfl rfl (o_call Tryz.call194 (equal_spec x7.1.2.2 l x7.1.1 a) (fun x15 => ?_)); refine q0 rfl (o_pickT ?_); refine q0 rfl (o_assign ?_); refine rg_nil ?_; have hlr := least_right x7.2; refine ret1 Tryz.func137 Tryz.results137 wn_ () (by rw [← hlr]; simp_all) (fun w hs => hs.none)
  · refine qF rfl rfl rfl ?_; refine qF rfl rfl rfl ?_; refine q0 rfl (o_pickF ?_); refine q0 rfl (o_assign ?_); refine rg_nil ?_; have hlr := least_right x7.2; refine ret1 Tryz.func137 Tryz.results137 wn_ () (by rw [← hlr]; simp_all) (fun w hs => hs.none)
theorem faceRight_spec : FaceRight := by
  intro l a; refine spec_go (args := [sl a l.length]) Tryz.func88 Tryz.ntmps88 rfl (by exact Nat.le_of_ble_eq_true rfl) fun B hB => ?_
  refine go_openCL (l := l) (a := a) (fun hl1 hA1 hU1 => ?_); refine go_seq ?_; refine go_region ⟨_, Tryz.func88⟩ rfl ?_; refine q0 rfl (o_assign ?_); refine rg_nil ?_; refine go_seq ?_; refine go_region ⟨_, Tryz.func88⟩ rfl ?_; refine q0 rfl (o_move ?_); refine q0 rfl (o_call Tryz.call137 (formRight_spec l a) (fun x4 => ?_)); refine q0 rfl (o_move ?_); refine qI rfl rfl rfl wl_ (fun hg5 => o_move ?_) (fun hg5 => ?_)
  · refine qT rfl rfl rfl (o_call Tryz.call166 (contains_spec l a 34 [] [] [] clash Tryz.call34 (fun x hx => clash_spec x (hU1 x hx))) (fun x7 => ?_)); refine qT rfl rfl rfl (o_not ?_); refine q0 rfl (o_pickT ?_); refine q0 rfl (o_assign ?_); refine rg_nil ?_; refine ret1 Tryz.func88 Tryz.results88 wn_ () (by simp_all [faceRight]) (fun w hs => hs.none)
  · refine qF rfl rfl rfl ?_; refine qF rfl rfl rfl ?_; refine q0 rfl (o_pickF ?_); refine q0 rfl (o_assign ?_); refine rg_nil ?_; refine ret1 Tryz.func88 Tryz.results88 wn_ () (by simp_all [faceRight]) (fun w hs => hs.none)
theorem form_spec : FORM := ⟨formRight_spec, faceRight_spec, fDims_spec⟩
end Go.Hy
namespace Go.Hy
open Go.Proofs
set_option maxRecDepth 100000
theorem pow24 {m : Nat} (h : m ≤ 24) : 2 ^ m ≤ 16777216 := Nat.pow_le_pow_right (n := 2) (j := 24) (by omega) h
theorem below24 (i : Int) (h0 : 0 ≤ i) : Spec Tryz.prog 177 #[.int .i64 (i)] [] [] (fun _ : Unit => .int .u32 (((2 ^ (min i.toNat 24) - 1) : Nat) : Int)) (fun _ : Unit => []) (fun _ : Unit => []) := by
  refine spec_go (args := [.int .i64 (i)]) Tryz.func177 Tryz.ntmps177 rfl (by exact Nat.le_of_ble_eq_true rfl) fun B hB => ?_
  have hp := pow24 (m := min i.toNat 24) (by omega); have hpos : 0 < 2 ^ (min i.toNat 24) := Nat.pow_pos (by omega); refine go_seq ?_; refine go_region ⟨_, Tryz.func177⟩ rfl ?_; refine q0 rfl (o_assign ?_); refine rg_nil ?_; refine go_seq ?_; refine go_region ⟨_, Tryz.func177⟩ rfl ?_; refine q0 rfl (o_move ?_); refine q0 rfl (o_min ?_); refine q0 rfl (o_convI6 ?_ (m := min i.toNat 24) (ha := by split <;> omega)); refine q0 rfl (o_shl6 ?_ (a := 1) (m := min i.toNat 24) (hm := by omega) (hb := by omega)); refine q0 rfl (o_sub6 ?_ (a := 1 * 2 ^ (min i.toNat 24)) (b := 1) (h := by omega) (ha := by omega)); refine q0 rfl (o_conv6U ?_ (a := 1 * 2 ^ (min i.toNat 24) - 1) (ha := by omega)); refine q0 rfl (o_assign ?_); refine rg_nil ?_; refine ret1 Tryz.func177 Tryz.results177 wn_ () (by rw [Nat.one_mul]) (fun w hs => hs.none)
end Go.Hy
namespace Go.Hy
open Go.Proofs
set_option maxRecDepth 100000
theorem maskLift_spec (s : Nat) (f : Int) (b : Int) (hs : s < 4294967296) (hi : in64 f) (hib : in64 b) : Spec Tryz.prog 181 #[.int .u32 ((s : Nat) : Int), .int .i64 (f), .int .i64 (b)] [] [] (fun _ : Unit => .tuple #[.int .u32 (((maskLift s f b).2 : Nat) : Int), .int .i64 ((maskLift s f b).1)]) (fun _ : Unit => []) (fun _ : Unit => []) := by
  refine spec_go (args := [.int .u32 ((s : Nat) : Int), .int .i64 (f), .int .i64 (b)]) Tryz.func181 Tryz.ntmps181 rfl (by exact Nat.le_of_ble_eq_true rfl) fun B hB => ?_
  have hs24 := and24_lt s; have hp := pow24 (m := min f.toNat 24) (by omega); have hpos : 0 < 2 ^ (min f.toNat 24) := Nat.pow_pos (by omega); have hhi : andNot32 (s &&& 16777215) (2 ^ (min f.toNat 24) - 1) < 16777216 := andNot_lt hs24; have hlo : (s &&& 16777215) &&& (2 ^ (min f.toNat 24) - 1) < 16777216 := Nat.lt_of_le_of_lt Nat.and_le_left hs24; refine go_seq ?_; refine go_region ⟨_, Tryz.func181⟩ rfl ?_; refine q0 rfl (o_assign ?_); refine q0 rfl (o_assign ?_); refine rg_nil ?_; refine go_seq ?_; refine go_seq ?_; refine go_cutS ([(0, .int .u32 ((s : Nat) : Int)), (1, .int .i64 (f)), (2, .int .i64 (b)), (15, .bool ((decide (f < 0)) || (decide (b < 0))))]) (fun hK => ?_) (fun base => ?_)
  · refine go_region ⟨_, Tryz.func181⟩ rfl ?_; refine q0 rfl (o_move ?_); refine q0 rfl (o_lss ?_); refine q0 rfl (o_move ?_); refine qI rfl rfl rfl wl_ (fun hg12 => ?_) (fun hg12 => ?_)
    · have g12 : (decide (f < 0)) = false := hg12
      try simp only [sC, bne_iff_ne, beq_iff_eq, ne_eq] at g12
      refine o_move ?_; refine qT rfl rfl rfl (o_lss ?_); refine q0 rfl (o_pickF ?_); refine rg_nil ?_; exact hK _ ⟨rfl, rfl, rfl, dn_, trivial⟩
    · have g12 : (decide (f < 0)) = true := hg12
      try simp only [sC, bne_iff_ne, beq_iff_eq, ne_eq] at g12
      refine qF rfl rfl rfl ?_; refine q0 rfl (o_pickT ?_); refine rg_nil ?_; exact hK _ ⟨rfl, rfl, rfl, dn_, trivial⟩
  · refine go_condI (fun h15 => ?_) (fun h15 => ?_)
    · have c15 : ((decide (f < 0)) || (decide (b < 0))) = true := h15
      try simp only [sC, bne_iff_ne, beq_iff_eq, ne_eq] at c15
      have hg : maskLift s f b = (2, 0) := by rw [maskLift, if_pos (by omega)]
      refine go_seq ?_; refine go_region ⟨_, Tryz.func181⟩ rfl ?_; refine q0 rfl (o_assign ?_); refine q0 rfl (o_assign ?_); refine rg_nil ?_; refine ret2 Tryz.func181 Tryz.results181 wn_ wn_ () (by first | (rw [hg]; done) | (rw [hg]; rfl)) (fun w hs => hs.none)
    · have c15 : ((decide (f < 0)) || (decide (b < 0))) = false := h15
      try simp only [sC, bne_iff_ne, beq_iff_eq, ne_eq] at c15
      have hfb : 0 ≤ f ∧ 0 ≤ b := by omega
      refine go_skip ?_; refine go_seq ?_; refine go_region ⟨_, Tryz.func181⟩ rfl ?_; refine q0 rfl (o_move ?_); refine q0 rfl (o_andU32 ?_ (a := s) (b := 16777215)); refine q0 rfl (o_assign ?_); refine rg_nil ?_; refine go_seq ?_; refine go_region ⟨_, Tryz.func181⟩ rfl ?_; refine q0 rfl (o_move ?_); refine q0 rfl (o_move ?_); refine q0 rfl (o_call Tryz.call177 (below24 f om_) (fun x20 => ?_)); refine q0 rfl (o_andU32 ?_ (a := s &&& 16777215) (b := 2 ^ (min f.toNat 24) - 1) (ha := by omega) (hb := by omega)); refine q0 rfl (o_assign ?_); refine rg_nil ?_; refine go_seq ?_; refine go_region ⟨_, Tryz.func181⟩ rfl ?_; refine q0 rfl (o_move ?_); refine q0 rfl (o_move ?_); refine q0 rfl (o_call Tryz.call177 (below24 f om_) (fun x24 => ?_)); refine q0 rfl (o_andNotU32 ?_ (a := (s &&& 16777215)) (b := (2 ^ (min f.toNat 24) - 1))); refine q0 rfl (o_convU6 ?_ (a := andNot32 (s &&& 16777215) (2 ^ (min f.toNat 24) - 1))); refine q0 rfl (o_assign ?_); refine rg_nil ?_; refine go_seq ?_; refine go_seq ?_; refine go_region ⟨_, Tryz.func181⟩ rfl ?_; refine q0 rfl (o_move ?_); refine q0 rfl (o_eqI ?_ (a := ((andNot32 (s &&& 16777215) (2 ^ (min f.toNat 24) - 1) : Nat) : Int)) (b := 0)); refine rg_nil ?_; refine go_condI (fun h28 => ?_) (fun h28 => ?_)
      · have c28 : (decide (((andNot32 (s &&& 16777215) (2 ^ (min f.toNat 24) - 1) : Nat) : Int) = 0)) = true := h28
        try simp only [sC, bne_iff_ne, beq_iff_eq, ne_eq] at c28
        have hz : andNot32 (s &&& 16777215) (2 ^ (min f.toNat 24) - 1) = 0 := by omega
        have hg : maskLift s f b = (0, (s &&& 16777215) &&& (2 ^ (min f.toNat 24) - 1)) := by rw [maskLift, if_neg (by omega), if_pos hz]
        refine go_seq ?_; refine go_region ⟨_, Tryz.func181⟩ rfl ?_; refine q0 rfl (o_move ?_); refine q0 rfl (o_assign ?_); refine q0 rfl (o_assign ?_); refine rg_nil ?_; refine ret2 Tryz.func181 Tryz.results181 wn_ wn_ () (by first | (rw [hg]; done) | (rw [hg]; rfl)) (fun w hs => hs.none)
      · have c28 : (decide (((andNot32 (s &&& 16777215) (2 ^ (min f.toNat 24) - 1) : Nat) : Int) = 0)) = false := h28
        try simp only [sC, bne_iff_ne, beq_iff_eq, ne_eq] at c28
        have hz : ¬ andNot32 (s &&& 16777215) (2 ^ (min f.toNat 24) - 1) = 0 := by omega
        refine go_skip ?_; refine go_seq ?_; refine go_seq ?_; refine go_cutS ([(2, .int .i64 (b)), (8, .int .u32 ((((s &&& 16777215) &&& (2 ^ (min f.toNat 24) - 1)) : Nat) : Int)), (9, .int .u64 (((andNot32 (s &&& 16777215) (2 ^ (min f.toNat 24) - 1) : Nat) : Int))), (38, .bool ((decide (24 ≤ b)) || (decide (16777215 < ((andNot32 (s &&& 16777215) (2 ^ (min f.toNat 24) - 1) * 2 ^ b.toNat : Nat) : Int)))))]) (fun hK => ?_) (fun base => ?_)
        · refine go_region ⟨_, Tryz.func181⟩ rfl ?_; refine q0 rfl (o_move ?_); refine q0 rfl (o_geq ?_); refine q0 rfl (o_move ?_); refine qI rfl rfl rfl wl_ (fun hg32 => ?_) (fun hg32 => ?_)
          · have g32 : (decide (24 ≤ b)) = false := hg32
            try simp only [sC, bne_iff_ne, beq_iff_eq, ne_eq] at g32
            refine o_move ?_; refine qT rfl rfl rfl (o_move ?_); refine qT rfl rfl rfl (o_convI6 ?_ (m := b.toNat) (ha := by omega)); refine qT rfl rfl rfl (o_shl6 ?_ (a := andNot32 (s &&& 16777215) (2 ^ (min f.toNat 24) - 1)) (m := b.toNat) (hm := by omega) (hb := by have := pow24 (m := b.toNat) (by omega); have h9 := Nat.mul_le_mul (Nat.le_of_lt hhi) this; omega)); refine qT rfl rfl rfl (o_gtr ?_ (a := ((andNot32 (s &&& 16777215) (2 ^ (min f.toNat 24) - 1) * 2 ^ b.toNat : Nat) : Int)) (b := 16777215)); refine q0 rfl (o_pickF ?_); refine rg_nil ?_; exact hK _ ⟨rfl, rfl, rfl, dn_, trivial⟩
          · have g32 : (decide (24 ≤ b)) = true := hg32
            try simp only [sC, bne_iff_ne, beq_iff_eq, ne_eq] at g32
            refine qF rfl rfl rfl ?_; refine qF rfl rfl rfl ?_; refine qF rfl rfl rfl ?_; refine qF rfl rfl rfl ?_; refine q0 rfl (o_pickT ?_); refine rg_nil ?_; exact hK _ ⟨rfl, rfl, rfl, dn_, trivial⟩
        · refine go_condI (fun h38 => ?_) (fun h38 => ?_)
          · have c38 : ((decide (24 ≤ b)) || (decide (16777215 < ((andNot32 (s &&& 16777215) (2 ^ (min f.toNat 24) - 1) * 2 ^ b.toNat : Nat) : Int)))) = true := h38
            try simp only [sC, bne_iff_ne, beq_iff_eq, ne_eq] at c38
            have hg : maskLift s f b = (10, 0) := by rw [maskLift, if_neg (by omega), if_neg hz, if_pos (by omega)]
            refine go_seq ?_; refine go_region ⟨_, Tryz.func181⟩ rfl ?_; refine q0 rfl (o_assign ?_); refine q0 rfl (o_assign ?_); refine rg_nil ?_; refine ret2 Tryz.func181 Tryz.results181 wn_ wn_ () (by first | (rw [hg]; done) | (rw [hg]; rfl)) (fun w hs => hs.none)
          · have c38 : ((decide (24 ≤ b)) || (decide (16777215 < ((andNot32 (s &&& 16777215) (2 ^ (min f.toNat 24) - 1) * 2 ^ b.toNat : Nat) : Int)))) = false := h38
            try simp only [sC, bne_iff_ne, beq_iff_eq, ne_eq] at c38
            have hbig : ¬ (24 ≤ b ∨ 16777215 < andNot32 (s &&& 16777215) (2 ^ (min f.toNat 24) - 1) * 2 ^ b.toNat) := by omega
            have hg : maskLift s f b = (0, ((s &&& 16777215) &&& (2 ^ (min f.toNat 24) - 1)) ||| (andNot32 (s &&& 16777215) (2 ^ (min f.toNat 24) - 1) * 2 ^ b.toNat)) := by rw [maskLift, if_neg (by omega), if_neg hz, if_neg hbig]
            refine go_skip ?_; refine go_seq ?_; refine go_region ⟨_, Tryz.func181⟩ rfl ?_; refine q0 rfl (o_move ?_); refine q0 rfl (o_move ?_); refine q0 rfl (o_move ?_); refine q0 rfl (o_convI6 ?_ (m := b.toNat) (ha := by omega)); refine q0 rfl (o_shl6 ?_ (a := andNot32 (s &&& 16777215) (2 ^ (min f.toNat 24) - 1)) (m := b.toNat) (hm := by omega) (hb := by omega)); refine q0 rfl (o_conv6U ?_ (a := andNot32 (s &&& 16777215) (2 ^ (min f.toNat 24) - 1) * 2 ^ b.toNat) (ha := by omega)); refine q0 rfl (o_orU32 ?_ (a := (s &&& 16777215) &&& (2 ^ (min f.toNat 24) - 1)) (b := andNot32 (s &&& 16777215) (2 ^ (min f.toNat 24) - 1) * 2 ^ b.toNat) (ha := by omega) (hb := by omega)); refine q0 rfl (o_assign ?_); refine q0 rfl (o_assign ?_); refine rg_nil ?_; refine ret2 Tryz.func181 Tryz.results181 wn_ wn_ () (by first | (rw [hg]; done) | (rw [hg]; rfl)) (fun w hs => hs.none)
theorem clLift_spec (c : Cl) (f : Int) (b : Int) (hc : u32 c) (hi : in64 f) (hib : in64 b) : Spec Tryz.prog 109 #[keyV c, .int .i64 (f), .int .i64 (b)] [] [] (fun _ : Unit => .tuple #[keyV ((clLift c f b).2), .int .i64 ((clLift c f b).1)]) (fun _ : Unit => []) (fun _ : Unit => []) := by
  refine spec_go (args := [keyV c, .int .i64 (f), .int .i64 (b)]) Tryz.func109 Tryz.ntmps109 rfl (by exact Nat.le_of_ble_eq_true rfl) fun B hB => ?_
  have hcp := hc.1; have hcn := hc.2; have hp1 := maskLift_lt c.pos f b; have hp2 := maskLift_lt c.neg f b; refine go_seq ?_; refine go_region ⟨_, Tryz.func109⟩ rfl ?_; refine q0 rfl (o_box fun b3 => ?_); refine q0 rfl (o_new fun b6 => ?_); refine q0 rfl (o_assign ?_); refine rg_nil ?_; refine go_seq ?_; refine go_seq ?_; refine go_region ⟨_, Tryz.func109⟩ rfl ?_; refine q0 rfl (o_lds ?_); refine q0 rfl (o_call Tryz.call33 (clauseRight_spec c om_) (fun x12 => ?_)); refine q0 rfl (o_not ?_); refine rg_nil ?_; refine go_condI (fun h13 => ?_) (fun h13 => ?_)
  · have c13 : (!(right24 c)) = true := h13
    try simp only [sC, bne_iff_ne, beq_iff_eq, ne_eq] at c13
    have hg : clLift c f b = (2, cl0) := by rw [clLift, if_pos (by simpa using h13)]
    refine go_seq ?_; refine go_region ⟨_, Tryz.func109⟩ rfl ?_; refine q0 rfl (o_build (cs := [.int .u32 ((((⟨0, 0⟩ : Cl)).pos : Nat) : Int), .int .u32 ((((⟨0, 0⟩ : Cl)).neg : Nat) : Int)]) ?_); refine q0 rfl (o_st ?_); refine q0 rfl (o_assign ?_); refine rg_nil ?_; refine retCT Tryz.func109 Tryz.results109 () rfl mf_ rfl rfl rfl rfl (by rw [hg]; rfl) (fun w hs => hs.none)
  · have c13 : (!(right24 c)) = false := h13
    try simp only [sC, bne_iff_ne, beq_iff_eq, ne_eq] at c13
    have hr : ¬ right24 c = false := by simpa using h13
    refine go_skip ?_; refine go_seq ?_; refine go_region ⟨_, Tryz.func109⟩ rfl ?_; refine q0 rfl (o_fa ?_); refine q0 rfl (o_ld ?_); refine q0 rfl (o_move ?_); refine q0 rfl (o_move ?_); refine q0 rfl (o_call Tryz.call181 (maskLift_spec ((c).pos) f b om_ om_ om_) (fun x20 => ?_)); refine q0 rfl (o_move ?_); refine q0 rfl (o_extract ?_); refine q0 rfl (o_extract ?_); refine q0 rfl (o_assign ?_); refine q0 rfl (o_assign ?_); refine rg_nil ?_; refine go_seq ?_; refine go_seq ?_; refine go_region ⟨_, Tryz.func109⟩ rfl ?_; refine q0 rfl (o_move ?_); refine q0 rfl (o_neI ?_); refine rg_nil ?_; refine go_condI (fun h24 => ?_) (fun h24 => ?_)
    · have c24 : (decide (((maskLift ((c).pos) f b).1) ≠ 0)) = true := h24
      try simp only [sC, bne_iff_ne, beq_iff_eq, ne_eq] at c24
      have hg : clLift c f b = ((maskLift c.pos f b).1, cl0) := by rw [clLift, if_neg hr, if_pos (by simpa using h24)]
      refine go_seq ?_; refine go_region ⟨_, Tryz.func109⟩ rfl ?_; refine q0 rfl (o_build (cs := [.int .u32 ((((⟨0, 0⟩ : Cl)).pos : Nat) : Int), .int .u32 ((((⟨0, 0⟩ : Cl)).neg : Nat) : Int)]) ?_); refine q0 rfl (o_move ?_); refine q0 rfl (o_st ?_); refine q0 rfl (o_assign ?_); refine rg_nil ?_; refine retCT Tryz.func109 Tryz.results109 () rfl mf_ rfl rfl rfl rfl (by rw [hg]; rfl) (fun w hs => hs.none)
    · have c24 : (decide (((maskLift ((c).pos) f b).1) ≠ 0)) = false := h24
      try simp only [sC, bne_iff_ne, beq_iff_eq, ne_eq] at c24
      have hr2 : ¬ (maskLift c.pos f b).1 ≠ 0 := by simpa using h24
      refine go_skip ?_; refine go_seq ?_; refine go_region ⟨_, Tryz.func109⟩ rfl ?_; refine q0 rfl (o_fa ?_); refine q0 rfl (o_ld ?_); refine q0 rfl (o_move ?_); refine q0 rfl (o_move ?_); refine q0 rfl (o_call Tryz.call181 (maskLift_spec ((c).neg) f b om_ om_ om_) (fun x32 => ?_)); refine q0 rfl (o_move ?_); refine q0 rfl (o_extract ?_); refine q0 rfl (o_extract ?_); refine q0 rfl (o_assign ?_); refine q0 rfl (o_assign ?_); refine rg_nil ?_; refine go_seq ?_; refine go_seq ?_; refine go_region ⟨_, Tryz.func109⟩ rfl ?_; refine q0 rfl (o_move ?_); refine q0 rfl (o_neI ?_); refine rg_nil ?_; refine go_condI (fun h36 => ?_) (fun h36 => ?_)
      · have c36 : (decide (((maskLift ((c).neg) f b).1) ≠ 0)) = true := h36
        try simp only [sC, bne_iff_ne, beq_iff_eq, ne_eq] at c36
        have hg : clLift c f b = ((maskLift c.neg f b).1, cl0) := by rw [clLift, if_neg hr, if_neg hr2, if_pos (by simpa using h36)]
        refine go_seq ?_; refine go_region ⟨_, Tryz.func109⟩ rfl ?_; refine q0 rfl (o_build (cs := [.int .u32 ((((⟨0, 0⟩ : Cl)).pos : Nat) : Int), .int .u32 ((((⟨0, 0⟩ : Cl)).neg : Nat) : Int)]) ?_); refine q0 rfl (o_move ?_); refine q0 rfl (o_st ?_); refine q0 rfl (o_assign ?_); refine rg_nil ?_; refine retCT Tryz.func109 Tryz.results109 () rfl mf_ rfl rfl rfl rfl (by rw [hg]; rfl) (fun w hs => hs.none)
      · have c36 : (decide (((maskLift ((c).neg) f b).1) ≠ 0)) = false := h36
        try simp only [sC, bne_iff_ne, beq_iff_eq, ne_eq] at c36
        have hg : clLift c f b = (0, ⟨(maskLift c.pos f b).2, (maskLift c.neg f b).2⟩) := by rw [clLift, if_neg hr, if_neg hr2, if_neg (by simpa using h36)]
        refine go_skip ?_; refine go_seq ?_; refine go_region ⟨_, Tryz.func109⟩ rfl ?_; refine q0 rfl (o_move ?_); refine q0 rfl (o_move ?_); refine q0 rfl (o_build (cs := [.int .u32 ((((⟨(maskLift ((c).pos) f b).2, (maskLift ((c).neg) f b).2⟩ : Cl)).pos : Nat) : Int), .int .u32 ((((⟨(maskLift ((c).pos) f b).2, (maskLift ((c).neg) f b).2⟩ : Cl)).neg : Nat) : Int)]) ?_); refine q0 rfl (o_st ?_); refine q0 rfl (o_assign ?_); refine rg_nil ?_; refine retCT Tryz.func109 Tryz.results109 () rfl mf_ rfl rfl rfl rfl (by rw [hg]; rfl) (fun w hs => hs.none)
theorem forms_spec (l : List CP) (a_l : SH)  : Spec Tryz.prog 106 #[sl a_l (l.length)] [CCF l a_l] [] (fun _ : Unit => .int .i64 ((if l.all (fun p => fRight p.1) then 0 else 2))) (fun _ : Unit => []) (fun _ : Unit => []) := by
  refine spec_go (args := [sl a_l (l.length)]) Tryz.func106 Tryz.ntmps106 rfl (by exact Nat.le_of_ble_eq_true rfl) fun B hB => ?_
  refine go_seq ?_; refine go_region ⟨_, Tryz.func106⟩ rfl ?_; refine q0 rfl (o_assign ?_); refine rg_nil ?_; refine go_seq ?_; refine go_seq ?_; refine go_region ⟨_, Tryz.func106⟩ rfl ?_; refine q0 rfl (o_move ?_); refine q0 rfl (o_len ?_); refine q0 rfl (o_move ?_); refine rg_nil ?_; refine go_block ?_; refine go_loopE (X := Nat) (fun s_ => s_ ≤ l.length ∧ ∀ j, j < s_ → fRight (l.getD j cp0).1 = true) (fun s_ => [(5, sl a_l (l.length)), (6, .int .i64 ((l.length : Int))), (7, .int .i64 ((s_ : Int)))]) (fun s_ G_ => G_) (fun s_ => []) (fun s_ => l.length - s_) (0) (⟨Nat.zero_le _, fun j hj => absurd hj (Nat.not_lt_zero _)⟩) (by exact ⟨rfl, rfl, rfl, trivial⟩) ?_ ?_
  · exact fun w hs => hs
  · intro i base0 ⟨hi, hok⟩ next0; refine go_seq ?_; refine go_region ⟨_, Tryz.func106⟩ rfl ?_; refine q0 rfl (o_lss ?_); refine rg_nil ?_; refine go_seq ?_; refine go_condI (fun h8 => ?_) (fun h8 => ?_)
    · have c8 : (decide ((i : Int) < (l.length : Int))) = true := h8
      try simp only [sC, bne_iff_ne, beq_iff_eq, ne_eq] at c8
      refine go_skip ?_; refine go_seq ?_; refine go_block ?_; refine go_seq ?_; refine go_openRow (l := l) (a := a_l) (bt := 24) (F := cpCells) (E := cpE) (d := cp0) mm_ (fun hl1 hA1 => ?_); refine go_elem (l := l) (a := a_l) (bt := 24) (F := cpCells) (E := cpE) (d := cp0) mm_ i (by omega) ?_; refine go_region ⟨_, Tryz.func106⟩ rfl ?_; obtain ⟨bk2, o2, hav2⟩ := hA1 (by omega); refine q0 rfl (o_ixN ?_ (j := i)); refine q0 rfl (o_ldCC ?_); refine q0 rfl (o_assign ?_); refine rg_nil ?_; refine go_seq ?_; refine go_region ⟨_, Tryz.func106⟩ rfl ?_; refine q0 rfl (o_move ?_); refine q0 rfl (o_call Tryz.call137 (formRight_spec (((l).getD i cp0).1) (((l).getD i cp0).2) ) (fun x12 => ?_)); refine q0 rfl (o_not ?_); refine rg_nil ?_; refine go_condI (fun h13 => ?_) (fun h13 => ?_)
      · have c13 : (!(fRight (((l).getD i cp0).1))) = true := h13
        try simp only [sC, bne_iff_ne, beq_iff_eq, ne_eq] at c13
        refine go_seq ?_; refine go_region ⟨_, Tryz.func106⟩ rfl ?_; refine q0 rfl (o_assign ?_); refine rg_nil ?_; refine ret1 Tryz.func106 Tryz.results106 wn_ () (by rw [if_neg (by rw [all_false_at (d := cp0) (i := i) (by omega) (by simpa using h13)]; decide)]) (fun w hs => hs.none)
      · have c13 : (!(fRight (((l).getD i cp0).1))) = false := h13
        try simp only [sC, bne_iff_ne, beq_iff_eq, ne_eq] at c13
        refine go_skip ?_; refine go_inBlock ?_; refine go_region ⟨_, Tryz.func106⟩ rfl ?_; refine q0 rfl (o_add ?_); refine q0 rfl (o_move ?_); refine rg_nil ?_; refine go_state (fun w hs => ?_) (next0 (i + 1) _ (⟨by omega, fun j hj => by rcases Nat.lt_succ_iff_lt_or_eq.mp hj with h | h; exact hok j h; subst h; simpa using h13⟩) (by omega) ⟨rfl, rfl, rfl, trivial⟩); exact (hs.less (by simp +contextual))
    · have c8 : (decide ((i : Int) < (l.length : Int))) = false := h8
      try simp only [sC, bne_iff_ne, beq_iff_eq, ne_eq] at c8
      refine go_exit rfl ?_; refine go_seq ?_; refine go_region ⟨_, Tryz.func106⟩ rfl ?_; refine q0 rfl (o_assign ?_); refine rg_nil ?_; refine ret1 Tryz.func106 Tryz.results106 wn_ () (by rw [if_pos (all_true_of (d := cp0) (fun j hj => hok j (by omega)))]) (fun w hs => hs.none)
theorem fZero_spec   : Spec Tryz.prog 80 #[] [] [] (fun _ : Unit => sl (none, 0) 0) (fun _ : Unit => []) (fun _ : Unit => []) := by
  refine spec_go (args := []) Tryz.func80 Tryz.ntmps80 rfl (by exact Nat.le_of_ble_eq_true rfl) fun B hB => ?_
  refine go_seq ?_; refine go_region ⟨_, Tryz.func80⟩ rfl ?_; refine q0 rfl (o_assign ?_); refine rg_nil ?_; refine go_seq ?_; refine go_region ⟨_, Tryz.func80⟩ rfl ?_; refine q0 rfl (o_assign ?_); refine rg_nil ?_; refine ret1 Tryz.func80 Tryz.results80 wn_ () (by first | rfl | (simp_all; done) | (simp_all; omega)) (fun w hs => hs.none)
theorem formLift1_spec (l : List Cl) (a : SH) (c : Cl) (g4 : Nat) (f : Int) (g5 : Nat) (b : Int) (hc : u32 c) (hi : in64 f) (hib : in64 b) (hl : l.length * 8 ≤ reach) : Spec Tryz.prog 108 #[sl a (l.length), keyV c, .pointer (some ⟨g4, 0, none⟩), .pointer (some ⟨g5, 0, none⟩)] [At g4 0 [.int .i64 (f)], At g5 0 [.int .i64 (b)]] [rowS 2 45 a (l.length) (clFlat l)] (fun x : SH => .tuple #[sl x (l.length + 1), .int .i64 (clLift c f b).1]) (fun x : SH => []) (fun x : SH => [rowS 2 45 x (l.length + 1) (clFlat (l ++ [(clLift c f b).2]))]) := by
  refine spec_go (args := [sl a (l.length), keyV c, .pointer (some ⟨g4, 0, none⟩), .pointer (some ⟨g5, 0, none⟩)]) Tryz.func108 Tryz.ntmps108 rfl (by exact Nat.le_of_ble_eq_true rfl) fun B hB => ?_
  have hu9 := clLift_u32 c f b; refine go_seq ?_; refine go_region ⟨_, Tryz.func108⟩ rfl ?_; refine q0 rfl (o_box fun b5 => ?_); refine q0 rfl (o_assign ?_); refine q0 rfl (o_assign ?_); refine rg_nil ?_; refine go_seq ?_; refine go_region ⟨_, Tryz.func108⟩ rfl ?_; refine q0 rfl (o_lds ?_); refine q0 rfl (o_ldg ?_); refine q0 rfl (o_ldg ?_); refine q0 rfl (o_call Tryz.call109 (clLift_spec c f b om_ om_ om_) (fun x14 => ?_)); refine q0 rfl (o_move ?_); refine q0 rfl (o_extract ?_); refine q0 rfl (o_extract ?_); refine q0 rfl (o_new fun b8 => ?_); refine q0 rfl (o_st ?_); refine q0 rfl (o_assign ?_); refine rg_nil ?_; refine go_seq ?_; refine go_region ⟨_, Tryz.func108⟩ rfl ?_; refine q0 rfl (o_move ?_); refine q0 rfl (o_lds ?_); refine q0 rfl (o_lit1 fun b19 => ?_); refine q0 rfl (o_appS (fun a20 => ?_) (a := a) (n' := l.length)); refine rg_state (fun w hs => ((hs.perm perm1).drop).snocC (c := ((clLift c f b).2))) ?_; refine q0 rfl (o_move ?_); refine q0 rfl (o_assign ?_); refine q0 rfl (o_assign ?_); refine rg_nil ?_; refine ret2 Tryz.func108 Tryz.results108 wn_ wn_ a20 rfl (fun w hs => ((hs.less (by simp)).dropR (A := [_])))
set_option maxHeartbeats 4000000 in
theorem foldLift_spec (l : List Cl) (a_l : SH) (f b : Int) (g4 g5 : Nat) (hi : in64 f) (hib : in64 b) : Spec Tryz.prog 107 #[sl a_l (l.length), sl (none, 0) (0), .func (.func 108) #[] [.pointer (some ⟨g4, 0, none⟩), .pointer (some ⟨g5, 0, none⟩)].toArray] [CL l a_l, At g4 0 [.int .i64 f], At g5 0 [.int .i64 b]] [rowS 2 45 (none, 0) (0) (clFlat ([]))] (fun x : SH => .tuple #[sl x (foldC (fun c => clLift c f b) l).2.length, .int .i64 (foldC (fun c => clLift c f b) l).1]) (fun x : SH => []) (fun x : SH => [rowS 2 45 x (foldC (fun c => clLift c f b) l).2.length (clFlat (foldC (fun c => clLift c f b) l).2)]) := by
  rw [show (#[sl a_l (l.length), sl (none, 0) (0), .func (.func 108) #[] [.pointer (some ⟨g4, 0, none⟩), .pointer (some ⟨g5, 0, none⟩)].toArray] : Array Value) = ([sl a_l (l.length), sl (none, 0) (0), .func (.func 108) #[] [.pointer (some ⟨g4, 0, none⟩), .pointer (some ⟨g5, 0, none⟩)].toArray] : List Value).toArray from rfl]; refine spec_go Tryz.func107 Tryz.ntmps107 rfl (by exact Nat.le_of_ble_eq_true rfl) fun B hB => ?_
  refine go_openCL (l := l) (a := a_l) (fun hl1 hA1 hU1 => ?_); refine go_seq ?_; refine go_region ⟨_, Tryz.func107⟩ rfl ?_; refine q0 rfl (o_assign ?_); refine q0 rfl (o_assign ?_); refine rg_nil ?_; refine go_seq ?_; refine go_seq ?_; refine go_region ⟨_, Tryz.func107⟩ rfl ?_; refine q0 rfl (o_move ?_); refine q0 rfl (o_len ?_); refine q0 rfl (o_move ?_); refine rg_nil ?_; refine go_block ?_; refine go_loopE (X := Nat × SH) (fun s_ => s_.1 ≤ l.length ∧ ∀ j, j < s_.1 → (clLift (l.getD j cl0) f b).1 = 0) (fun s_ => [(1, sl s_.2 (s_.1)), (2, .func (.func 108) #[] [.pointer (some ⟨g4, 0, none⟩), .pointer (some ⟨g5, 0, none⟩)].toArray), (13, sl a_l (l.length)), (14, .int .i64 ((l.length : Int))), (15, .int .i64 ((s_.1 : Int)))]) (fun s_ G_ => G_) (fun s_ => [rowS 2 45 s_.2 (s_.1) (clFlat ((l.take s_.1).map fun c => (clLift c f b).2))]) (fun s_ => l.length - s_.1) (0, (none, 0)) (⟨Nat.zero_le _, fun j hj => absurd hj (Nat.not_lt_zero _)⟩) (by exact ⟨rfl, rfl, rfl, rfl, rfl, trivial⟩) ?_ ?_
  · exact fun w hs => hs
  · intro ⟨i, a⟩ base0 ⟨hi9, hok⟩ next0; dsimp only at  hi9  hok  next0 ⊢; refine go_seq ?_; refine go_region ⟨_, Tryz.func107⟩ rfl ?_; refine q0 rfl (o_lss ?_); refine rg_nil ?_; refine go_seq ?_; refine go_condI (fun h16 => ?_) (fun h16 => ?_)
    · have c16 : (decide ((i : Int) < (l.length : Int))) = true := h16
      try simp only [sC, bne_iff_ne, beq_iff_eq, ne_eq] at c16
      have hlt9 : ((l.take i).map fun c => (clLift c f b).2).length = i := by rw [List.length_map, List.length_take]; omega
      refine go_skip ?_; refine go_seq ?_; refine go_block ?_; refine go_seq ?_; refine go_region ⟨_, Tryz.func107⟩ rfl ?_; obtain ⟨bk2, o2, hav2⟩ := hA1 (by omega); refine q0 rfl (o_ixN ?_ (j := i)); refine q0 rfl (o_ldC ?_); refine q0 rfl (o_new fun b9 => ?_); refine q0 rfl (o_st ?_); refine rg_nil ?_; refine go_seq ?_; refine go_region ⟨_, Tryz.func107⟩ rfl ?_; refine q0 rfl (o_move ?_); refine q0 rfl (o_move ?_); refine q0 rfl (o_lds ?_); refine q0 rfl (o_callC Tryz.call108 ((by have h := formLift1_spec ((l.take i).map fun c => (clLift c f b).2) a (l.getD i cl0) g4 f g5 b (hU1 _ (getD_mem (by omega))) hi hib (by rw [hlt9]; unfold reach at *; omega); rw [hlt9] at h; exact h)) (cap := [.pointer (some ⟨g4, 0, none⟩), .pointer (some ⟨g5, 0, none⟩)]) (fun x23 => ?_)); refine q0 rfl (o_move ?_); refine q0 rfl (o_extract ?_); refine q0 rfl (o_extract ?_); refine q0 rfl (o_assign ?_); refine q0 rfl (o_assign ?_); refine rg_nil ?_; refine go_seq ?_; refine go_seq ?_; refine go_region ⟨_, Tryz.func107⟩ rfl ?_; refine q0 rfl (o_move ?_); refine q0 rfl (o_neI ?_); refine rg_nil ?_; refine go_condI (fun h27 => ?_) (fun h27 => ?_)
      · have c27 : (decide (((clLift (l.getD i cl0) f b).1) ≠ 0)) = true := h27
        try simp only [sC, bne_iff_ne, beq_iff_eq, ne_eq] at c27
        refine go_seq ?_; refine go_region ⟨_, Tryz.func107⟩ rfl ?_; refine q0 rfl (o_assign ?_); refine rg_nil ?_; refine go_seq ?_; refine go_region ⟨_, Tryz.func107⟩ rfl ?_; refine q0 rfl (o_move ?_); refine q0 rfl (o_move ?_); refine q0 rfl (o_assign ?_); refine q0 rfl (o_assign ?_); refine rg_nil ?_; have hg : (foldC (fun c => clLift c f b) l) = ((clLift (l.getD i cl0) f b).1, []) := foldC_bad (by omega) hok (by simpa using h27); refine ret2 Tryz.func107 Tryz.results107 wn_ wn_ (none, 0) (by rw [hg]; rfl) (fun w hs => by rw [hg]; exact ((hs.less (Γ' := []) (by simp)).bare.rowS0 2 45))
      · have c27 : (decide (((clLift (l.getD i cl0) f b).1) ≠ 0)) = false := h27
        try simp only [sC, bne_iff_ne, beq_iff_eq, ne_eq] at c27
        refine go_skip ?_; refine go_region ⟨_, Tryz.func107⟩ rfl ?_; refine q0 rfl (o_move ?_); refine q0 rfl (o_assign ?_); refine rg_nil ?_; refine go_inBlock ?_; refine go_region ⟨_, Tryz.func107⟩ rfl ?_; refine q0 rfl (o_add ?_); refine q0 rfl (o_move ?_); refine rg_nil ?_; have hst : (l.take (i + 1)).map (fun c => (clLift c f b).2) = (l.take i).map (fun c => (clLift c f b).2) ++ [(clLift (l.getD i cl0) f b).2] := by rw [take_succ_getD (d := cl0) (by omega), List.map_append]; rfl
        refine go_state (fun w hs => ?_) (next0 (i + 1, x23) _ (⟨by omega, fun j hj => by rcases Nat.lt_succ_iff_lt_or_eq.mp hj with h | h; exact hok j h; subst h; simpa using h27⟩) (by omega) ⟨rfl, rfl, rfl, rfl, rfl, trivial⟩); rw [hst]; exact ((hs.less (by simp +contextual)).dropR (A := [_]))
    · have c16 : (decide ((i : Int) < (l.length : Int))) = false := h16
      try simp only [sC, bne_iff_ne, beq_iff_eq, ne_eq] at c16
      refine go_exit rfl ?_; refine go_seq ?_; refine go_region ⟨_, Tryz.func107⟩ rfl ?_; refine q0 rfl (o_move ?_); refine q0 rfl (o_assign ?_); refine q0 rfl (o_assign ?_); refine rg_nil ?_; have he : i = l.length := by omega
      have hg : (foldC (fun c => clLift c f b) l) = (0, l.map fun c => (clLift c f b).2) := foldC_ok (fun j hj => hok j (by omega)); refine ret2 Tryz.func107 Tryz.results107 wn_ wn_ a (by rw [hg, List.length_map, ← he]; rfl) (fun w hs => by rw [hg]; have h := (hs.less (Γ' := []) (by simp)); rw [he, List.take_length] at h; dsimp only; rw [List.length_map]; exact h)
theorem leastRow (l : List Cl) (a : SH) : Spec Tryz.prog 90 #[sl a l.length] [CL l a] [] (fun x : SH => .tuple #[sl x (leastF l).2.length, .int .i64 (leastF l).1]) (fun _ => []) (fun x => [rowS 2 45 x (leastF l).2.length (clFlat (leastF l).2)]) := fun ok w hok hs => (least_own l a ok w hok hs).mono fun e w' h => by
  obtain ⟨x, he, hs'⟩ := h; have hx := leastIs_eq x.2; exact ⟨x.1.1, by rw [he]; show Ending.returned (.tuple #[sl x.1.1 x.1.2.2.length, .int .i64 x.1.2.1]) = Ending.returned (.tuple #[sl x.1.1 (leastF l).2.length, .int .i64 (leastF l).1]); rw [hx], by rw [← hx]; exact hs'⟩
theorem formLift_spec (l : List Cl) (a_l : SH) (f : Int) (b : Int) (hi : in64 f) (hib : in64 b) : Spec Tryz.prog 43 #[sl a_l (l.length), .int .i64 (f), .int .i64 (b)] [CL l a_l] [] (fun x : SH => .tuple #[sl x (formLift l f b).2.length, .int .i64 (formLift l f b).1]) (fun x : SH => []) (fun x : SH => [rowS 2 45 x (formLift l f b).2.length (clFlat (formLift l f b).2)]) := by
  refine spec_go (args := [sl a_l (l.length), .int .i64 (f), .int .i64 (b)]) Tryz.func43 Tryz.ntmps43 rfl (by exact Nat.le_of_ble_eq_true rfl) fun B hB => ?_
  refine go_openCL (l := l) (a := a_l) (fun hl1 hA1 hU1 => ?_); refine go_seq ?_; refine go_region ⟨_, Tryz.func43⟩ rfl ?_; refine q0 rfl (o_box fun b4 => ?_); refine q0 rfl (o_box fun b5 => ?_); refine q0 rfl (o_assign ?_); refine q0 rfl (o_assign ?_); refine rg_nil ?_; refine go_seq ?_; refine go_seq ?_; refine go_region ⟨_, Tryz.func43⟩ rfl ?_; refine q0 rfl (o_move ?_); refine q0 rfl (o_lit1 fun b12 => ?_); refine rg_state (fun w hs => ((((hs.perm perm2).perm perm2).perm perm2).litCC hB mf_)) ?_; refine q0 rfl (o_call Tryz.call106 (forms_spec [(l, a_l)] (some ⟨b12, 0, none⟩, 1)) (fun x13 => ?_)); refine q0 rfl (o_assign ?_); refine rg_nil ?_; refine go_seq ?_; refine go_region ⟨_, Tryz.func43⟩ rfl ?_; refine q0 rfl (o_move ?_); refine q0 rfl (o_neI ?_); refine rg_nil ?_; refine go_condI (fun h15 => ?_) (fun h15 => ?_)
  · have c15 : (decide ((if [(l, a_l)].all (fun p => fRight p.1) then (0 : Int) else 2) ≠ 0)) = true := h15
    try simp only [sC, bne_iff_ne, beq_iff_eq, ne_eq] at c15
    have hg : formLift l f b = (2, []) := by rw [formLift, if_pos (by simpa using h15)]
    have h9 : (if [(l, a_l)].all (fun p => fRight p.1) then (0 : Int) else 2) = 2 := by simpa using h15
    refine go_seq ?_; refine go_region ⟨_, Tryz.func43⟩ rfl ?_; refine q0 rfl (o_move ?_); refine q0 rfl (o_assign ?_); refine q0 rfl (o_assign ?_); refine rg_nil ?_; refine ret2 Tryz.func43 Tryz.results43 wn_ wn_ (none, 0) (by rw [hg]; (conv => lhs; whnf; rw [h9]); rfl) (fun w hs => by rw [hg]; exact ((hs.less (Γ' := []) (by simp)).bare.rowS0 2 45))
  · have c15 : (decide ((if [(l, a_l)].all (fun p => fRight p.1) then (0 : Int) else 2) ≠ 0)) = false := h15
    try simp only [sC, bne_iff_ne, beq_iff_eq, ne_eq] at c15
    have hr : ¬ fRight l = false := by simpa using h15
    refine go_skip ?_; refine go_seq ?_; refine go_ms (Ms' := [boxR b5 [.int .i64 (b)] 3, boxR b4 [.int .i64 (f)] 3]) (by rfl) ?_; refine go_state (fun w hs => ((hs.perm perm1).settleBox hB)) ?_; refine go_state (fun w hs => (hs.settleBox hB)) ?_; refine go_state (fun w hs => hs.rowS0 2 45) ?_; refine go_region ⟨_, Tryz.func43⟩ rfl ?_; refine q0 rfl (o_move ?_); refine q0 rfl (o_call Tryz.call80 (fZero_spec ) (fun x19 => ?_)); refine q0 rfl (o_func ?_); refine q0 rfl (o_call Tryz.call107 (foldLift_spec l a_l f b b4 b5 hi hib) (fun x21 => ?_)); refine q0 rfl (o_move ?_); refine q0 rfl (o_extract ?_); refine q0 rfl (o_extract ?_); refine q0 rfl (o_assign ?_); refine q0 rfl (o_assign ?_); refine rg_nil ?_; refine go_seq ?_; refine go_seq ?_; refine go_region ⟨_, Tryz.func43⟩ rfl ?_; refine q0 rfl (o_move ?_); refine q0 rfl (o_neI ?_); refine rg_nil ?_; refine go_condI (fun h25 => ?_) (fun h25 => ?_)
    · have c25 : (decide (((foldC (fun c => clLift c f b) l).1) ≠ 0)) = true := h25
      try simp only [sC, bne_iff_ne, beq_iff_eq, ne_eq] at c25
      have hg : formLift l f b = ((foldC (fun c => clLift c f b) l).1, []) := by rw [formLift, if_neg hr, if_pos (by simpa using h25)]
      refine go_seq ?_; refine go_region ⟨_, Tryz.func43⟩ rfl ?_; refine q0 rfl (o_move ?_); refine q0 rfl (o_assign ?_); refine q0 rfl (o_assign ?_); refine rg_nil ?_; refine ret2 Tryz.func43 Tryz.results43 wn_ wn_ (none, 0) (by rw [hg]; rfl) (fun w hs => by rw [hg]; exact ((hs.less (Γ' := []) (by simp)).bare.rowS0 2 45))
    · have c25 : (decide (((foldC (fun c => clLift c f b) l).1) ≠ 0)) = false := h25
      try simp only [sC, bne_iff_ne, beq_iff_eq, ne_eq] at c25
      have hg : formLift l f b = leastF (foldC (fun c => clLift c f b) l).2 := by rw [formLift, if_neg hr, if_neg (by simpa using h25)]
      refine go_skip ?_; refine go_seq ?_; refine go_state (fun w hs => (hs.settleCL hB rfl rfl (by have := foldC_len (g := fun c => clLift c f b) (l := l); omega) (foldC_u32 (fun c => clLift_u32 c f b)))) ?_; refine go_region ⟨_, Tryz.func43⟩ rfl ?_; refine q0 rfl (o_move ?_); refine q0 rfl (o_call Tryz.call90 (leastRow (foldC (fun c => clLift c f b) l).2 x21) (fun x28 => ?_)); refine q0 rfl (o_extract ?_); refine q0 rfl (o_extract ?_); refine q0 rfl (o_assign ?_); refine q0 rfl (o_assign ?_); refine rg_nil ?_; refine ret2 Tryz.func43 Tryz.results43 wn_ wn_ x28 (by rw [hg]; rfl) (fun w hs => by rw [hg]; exact (hs.less (by simp)))
end Go.Hy
namespace Go.Hy
open Go.Proofs
set_option maxRecDepth 100000
theorem ones_spec (s : Nat) (hs : s < 4294967296) : Spec Tryz.prog 178 #[.int .u32 ((s : Nat) : Int)] [] [] (fun _ : Unit => .int .i64 (((pop32 s : Nat) : Int))) (fun _ : Unit => []) (fun _ : Unit => []) := by
  refine spec_go (args := [.int .u32 ((s : Nat) : Int)]) Tryz.func178 Tryz.ntmps178 rfl (by exact Nat.le_of_ble_eq_true rfl) fun B hB => ?_
  have p1 := (popTab (s / 2 ^ min 24 32) (by simp; omega)).2; have p2 := (popTab (s / 2 ^ min 16 32 &&& 255) (and255 _)).2; have p3 := (popTab (s / 2 ^ min 8 32 &&& 255) (and255 _)).2; have p4 := (popTab (s &&& 255) (and255 _)).2; refine go_seq ?_; refine go_region ⟨_, Tryz.func178⟩ rfl ?_; refine q0 rfl (o_assign ?_); refine rg_nil ?_; refine go_seq ?_; refine go_draw (pn := 1000000) (tn := false) (A := [0, 1, 3, 0, 8, 24, 56, 127, 0, 256, 768, 1792, 4095, 0, 8192, 24576, 65535, 131071, 262143]) (l := [0, 1, 2, 3, 4, 5, 6, 7, 8, 9, 10, 11, 12, 13, 14, 15, 16, 17, 18]) (fin := []) Tab.mixed ⟨_, Tryz.func178⟩ (by decide +kernel) ?_; refine n0 rfl (v_move ?_); refine n0 rfl (v_shrU32 ?_); refine n0 rfl (v_ixPop ?_ (j := s / 2 ^ min 24 32) (hj := by simp; omega)); refine n0 rfl (v_move ?_); refine n0 rfl (v_shrU32 ?_); refine n0 rfl (v_andU32 ?_ (a := s / 2 ^ min 16 32) (b := 255) (ha := by simp; omega) (hb := by omega)); refine n0 rfl (v_ixPop ?_ (j := s / 2 ^ min 16 32 &&& 255)); refine n0 rfl (v_addU8 ?_ (a := pop8 (s / 2 ^ min 24 32)) (b := pop8 (s / 2 ^ min 16 32 &&& 255)) (h := by omega)); refine n0 rfl (v_move ?_); refine n0 rfl (v_shrU32 ?_); refine n0 rfl (v_andU32 ?_ (a := s / 2 ^ min 8 32) (b := 255) (ha := by simp; omega) (hb := by omega)); refine n0 rfl (v_ixPop ?_ (j := s / 2 ^ min 8 32 &&& 255)); refine n0 rfl (v_addU8 ?_ (a := pop8 (s / 2 ^ min 24 32) + pop8 (s / 2 ^ min 16 32 &&& 255)) (b := pop8 (s / 2 ^ min 8 32 &&& 255)) (h := by omega)); refine n0 rfl (v_move ?_); refine n0 rfl (v_andU32 ?_ (a := s) (b := 255) (ha := by omega) (hb := by omega)); refine n0 rfl (v_ixPop ?_ (j := s &&& 255)); refine n0 rfl (v_addU8 ?_ (a := pop8 (s / 2 ^ min 24 32) + pop8 (s / 2 ^ min 16 32 &&& 255) + pop8 (s / 2 ^ min 8 32 &&& 255)) (b := pop8 (s &&& 255)) (h := by omega)); refine n0 rfl (v_convBI ?_ (a := pop8 (s / 2 ^ min 24 32) + pop8 (s / 2 ^ min 16 32 &&& 255) + pop8 (s / 2 ^ min 8 32 &&& 255) + pop8 (s &&& 255)) (ha := by omega)); refine n0 rfl (v_assign ?_); refine NV.done ?_; refine rg_nil ?_; refine ret1 Tryz.func178 Tryz.results178 wn_ () rfl (fun w hs => hs.none)
theorem maskCount_spec (s : Nat) (hs : s < 4294967296) : Spec Tryz.prog 101 #[.int .u32 ((s : Nat) : Int)] [] [] (fun _ : Unit => .int .i64 (((pop32 (s &&& 16777215) : Nat) : Int))) (fun _ : Unit => []) (fun _ : Unit => []) := by
  refine spec_go (args := [.int .u32 ((s : Nat) : Int)]) Tryz.func101 Tryz.ntmps101 rfl (by exact Nat.le_of_ble_eq_true rfl) fun B hB => ?_
  have h24 := and24_lt s; refine go_seq ?_; refine go_region ⟨_, Tryz.func101⟩ rfl ?_; refine q0 rfl (o_assign ?_); refine rg_nil ?_; refine go_seq ?_; refine go_region ⟨_, Tryz.func101⟩ rfl ?_; refine q0 rfl (o_move ?_); refine q0 rfl (o_andU32 ?_ (a := s) (b := 16777215)); refine q0 rfl (o_call Tryz.call178 (ones_spec (s &&& 16777215) (by omega)) (fun x5 => ?_)); refine q0 rfl (o_assign ?_); refine rg_nil ?_; refine ret1 Tryz.func101 Tryz.results101 wn_ () (by first | rfl | (simp_all; done) | (simp_all; omega)) (fun w hs => hs.none)
end Go.Hy
namespace Go.Hy
open Go.Proofs
set_option maxRecDepth 100000
theorem with_spec (s : Nat) (i : Int) (hs : s < 4294967296) (hi : in64 i) : Spec Tryz.prog 102 #[.int .u32 ((s : Nat) : Int), .int .i64 (i)] [] [] (fun _ : Unit => .int .u32 (((withM s i) : Nat) : Int)) (fun _ : Unit => []) (fun _ : Unit => []) := by
  refine spec_go (args := [.int .u32 ((s : Nat) : Int), .int .i64 (i)]) Tryz.func102 Tryz.ntmps102 rfl (by exact Nat.le_of_ble_eq_true rfl) fun B hB => ?_
  have hs24 := and24_lt s; refine go_seq ?_; refine go_region ⟨_, Tryz.func102⟩ rfl ?_; refine q0 rfl (o_assign ?_); refine rg_nil ?_; refine go_seq ?_; refine go_region ⟨_, Tryz.func102⟩ rfl ?_; refine q0 rfl (o_move ?_); refine q0 rfl (o_andU32 ?_ (a := s) (b := 16777215)); refine q0 rfl (o_assign ?_); refine rg_nil ?_; refine go_seq ?_; refine go_seq ?_; refine go_region ⟨_, Tryz.func102⟩ rfl ?_; refine q0 rfl (o_move ?_); refine q0 rfl (o_call Tryz.call176 (dimension_spec i ) (fun x8 => ?_)); refine q0 rfl (o_not ?_); refine rg_nil ?_; refine go_condI (fun h9 => ?_) (fun h9 => ?_)
  · have c9 : (!(decide (0 ≤ i) && decide (i < 24))) = true := h9
    try simp only [sC, bne_iff_ne, beq_iff_eq, ne_eq] at c9
    refine go_seq ?_; refine go_region ⟨_, Tryz.func102⟩ rfl ?_; refine q0 rfl (o_move ?_); refine q0 rfl (o_assign ?_); refine rg_nil ?_; refine ret1 Tryz.func102 Tryz.results102 wn_ () (by rw [withM, if_neg (by simp at h9; omega)]) (fun w hs => hs.none)
  · have c9 : (!(decide (0 ≤ i) && decide (i < 24))) = false := h9
    try simp only [sC, bne_iff_ne, beq_iff_eq, ne_eq] at c9
    have hp := pow24 (m := i.toNat) (by omega); refine go_skip ?_; refine go_seq ?_; refine go_region ⟨_, Tryz.func102⟩ rfl ?_; refine q0 rfl (o_move ?_); refine q0 rfl (o_move ?_); refine q0 rfl (o_convI6 ?_ (m := i.toNat) (ha := by omega)); refine q0 rfl (o_shlU32 ?_ (a := 1) (m := i.toNat)); refine q0 rfl (o_orU32 ?_ (a := s &&& 16777215) (b := 1 * 2 ^ (min i.toNat 32) % 4294967296) (ha := by omega) (hb := by exact Nat.mod_lt _ (by omega))); refine q0 rfl (o_assign ?_); refine rg_nil ?_; refine ret1 Tryz.func102 Tryz.results102 wn_ () (by rw [withM, if_pos (by omega), show min i.toNat 32 = i.toNat by omega, Nat.one_mul, Nat.mod_eq_of_lt (by omega)]) (fun w hs => hs.none)
theorem without_spec (s : Nat) (i : Int) (hs : s < 4294967296) (hi : in64 i) : Spec Tryz.prog 175 #[.int .u32 ((s : Nat) : Int), .int .i64 (i)] [] [] (fun _ : Unit => .int .u32 (((withoutM s i) : Nat) : Int)) (fun _ : Unit => []) (fun _ : Unit => []) := by
  refine spec_go (args := [.int .u32 ((s : Nat) : Int), .int .i64 (i)]) Tryz.func175 Tryz.ntmps175 rfl (by exact Nat.le_of_ble_eq_true rfl) fun B hB => ?_
  have hs24 := and24_lt s; refine go_seq ?_; refine go_region ⟨_, Tryz.func175⟩ rfl ?_; refine q0 rfl (o_assign ?_); refine rg_nil ?_; refine go_seq ?_; refine go_region ⟨_, Tryz.func175⟩ rfl ?_; refine q0 rfl (o_move ?_); refine q0 rfl (o_andU32 ?_ (a := s) (b := 16777215)); refine q0 rfl (o_assign ?_); refine rg_nil ?_; refine go_seq ?_; refine go_seq ?_; refine go_region ⟨_, Tryz.func175⟩ rfl ?_; refine q0 rfl (o_move ?_); refine q0 rfl (o_call Tryz.call176 (dimension_spec i ) (fun x8 => ?_)); refine q0 rfl (o_not ?_); refine rg_nil ?_; refine go_condI (fun h9 => ?_) (fun h9 => ?_)
  · have c9 : (!(decide (0 ≤ i) && decide (i < 24))) = true := h9
    try simp only [sC, bne_iff_ne, beq_iff_eq, ne_eq] at c9
    refine go_seq ?_; refine go_region ⟨_, Tryz.func175⟩ rfl ?_; refine q0 rfl (o_move ?_); refine q0 rfl (o_assign ?_); refine rg_nil ?_; refine ret1 Tryz.func175 Tryz.results175 wn_ () (by rw [withoutM, if_neg (by simp at h9; omega)]) (fun w hs => hs.none)
  · have c9 : (!(decide (0 ≤ i) && decide (i < 24))) = false := h9
    try simp only [sC, bne_iff_ne, beq_iff_eq, ne_eq] at c9
    have hp := pow24 (m := i.toNat) (by omega); refine go_skip ?_; refine go_seq ?_; refine go_region ⟨_, Tryz.func175⟩ rfl ?_; refine q0 rfl (o_move ?_); refine q0 rfl (o_move ?_); refine q0 rfl (o_convI6 ?_ (m := i.toNat) (ha := by omega)); refine q0 rfl (o_shlU32 ?_ (a := 1) (m := i.toNat)); refine q0 rfl (o_andNotU32 ?_ (a := s &&& 16777215) (b := 1 * 2 ^ (min i.toNat 32) % 4294967296)); refine q0 rfl (o_assign ?_); refine rg_nil ?_; refine ret1 Tryz.func175 Tryz.results175 wn_ () (by rw [withoutM, if_pos (by omega), show min i.toNat 32 = i.toNat by omega, Nat.one_mul, Nat.mod_eq_of_lt (by omega)]) (fun w hs => hs.none)
theorem has24_spec (s : Nat) (i : Int) (hs : s < 4294967296) (hi : in64 i) : Spec Tryz.prog 140 #[.int .u32 ((s : Nat) : Int), .int .i64 (i)] [] [] (fun _ : Unit => .bool ((hasM s i))) (fun _ : Unit => []) (fun _ : Unit => []) := by
  refine spec_go (args := [.int .u32 ((s : Nat) : Int), .int .i64 (i)]) Tryz.func140 Tryz.ntmps140 rfl (by exact Nat.le_of_ble_eq_true rfl) fun B hB => ?_
  refine go_seq ?_; refine go_region ⟨_, Tryz.func140⟩ rfl ?_; refine q0 rfl (o_assign ?_); refine rg_nil ?_; refine go_seq ?_; refine go_cutS ([(4, .bool ((decide (0 ≤ i) && decide (i < 24)) && (decide (((s / 2 ^ (min i.toNat 32) &&& 1 : Nat) : Int) = 1))))]) (fun hK => ?_) (fun base => ?_)
  · refine go_region ⟨_, Tryz.func140⟩ rfl ?_; refine q0 rfl (o_move ?_); refine q0 rfl (o_call Tryz.call176 (dimension_spec i ) (fun x6 => ?_)); refine q0 rfl (o_move ?_); refine qI rfl rfl rfl wl_ (fun hg7 => ?_) (fun hg7 => ?_)
    · have g7 : ((decide (0 ≤ i) && decide (i < 24))) = true := hg7
      try simp only [sC, bne_iff_ne, beq_iff_eq, ne_eq] at g7
      refine o_move ?_; refine qT rfl rfl rfl (o_move ?_); refine qT rfl rfl rfl (o_convI6 ?_ (m := i.toNat) (ha := by omega)); refine qT rfl rfl rfl (o_shrU32 ?_ (a := s) (m := i.toNat)); refine qT rfl rfl rfl (o_andU32 ?_ (a := s / 2 ^ (min i.toNat 32)) (b := 1) (ha := by exact Nat.lt_of_le_of_lt (Nat.div_le_self _ _) hs) (hb := by omega)); refine qT rfl rfl rfl (o_eqI ?_ (a := ((s / 2 ^ (min i.toNat 32) &&& 1 : Nat) : Int)) (b := 1)); refine q0 rfl (o_pickT ?_); refine q0 rfl (o_assign ?_); refine rg_nil ?_; exact hK _ ⟨dn_, trivial⟩
    · have g7 : ((decide (0 ≤ i) && decide (i < 24))) = false := hg7
      try simp only [sC, bne_iff_ne, beq_iff_eq, ne_eq] at g7
      refine qF rfl rfl rfl ?_; refine qF rfl rfl rfl ?_; refine qF rfl rfl rfl ?_; refine qF rfl rfl rfl ?_; refine qF rfl rfl rfl ?_; refine q0 rfl (o_pickF ?_); refine q0 rfl (o_assign ?_); refine rg_nil ?_; exact hK _ ⟨dn_, trivial⟩
  · refine ret1 Tryz.func140 Tryz.results140 wn_ () (by rw [has_bits]) (fun w hs => hs.none)
theorem faceDim_spec (i : Int) (hi : in64 i) : Spec Tryz.prog 199 #[.int .i64 (i)] [] [] (fun _ : Unit => .bool ((isDim i))) (fun _ : Unit => []) (fun _ : Unit => []) := by
  refine spec_go (args := [.int .i64 (i)]) Tryz.func199 Tryz.ntmps199 rfl (by exact Nat.le_of_ble_eq_true rfl) fun B hB => ?_
  have hbl := bitM_lt i; refine go_seq ?_; refine go_region ⟨_, Tryz.func199⟩ rfl ?_; refine q0 rfl (o_assign ?_); refine rg_nil ?_; refine go_seq ?_; refine go_region ⟨_, Tryz.func199⟩ rfl ?_; refine q0 rfl (o_move ?_); refine q0 rfl (o_call Tryz.call102 ((by have h := with_spec 0 i (by omega) hi; rw [withM_zero] at h; exact h)) (fun x4 => ?_)); refine q0 rfl (o_call Tryz.call101 (maskCount_spec (bitM i) (by omega)) (fun x5 => ?_)); refine q0 rfl (o_eqI ?_ (a := ((pop32 (bitM i &&& 16777215) : Nat) : Int)) (b := 1)); refine q0 rfl (o_assign ?_); refine rg_nil ?_; refine ret1 Tryz.func199 Tryz.results199 wn_ () (by rw [pop_dim]) (fun w hs => hs.none)
theorem oneO   : Spec Tryz.prog 79 #[] [] [] (fun x : SH => sl x 1) (fun x : SH => []) (fun x : SH => [rowS 2 45 x 1 (clFlat [cl0])]) := by
  refine spec_go (args := []) Tryz.func79 Tryz.ntmps79 rfl (by exact Nat.le_of_ble_eq_true rfl) fun B hB => ?_
  refine go_seq ?_; refine go_region ⟨_, Tryz.func79⟩ rfl ?_; refine q0 rfl (o_assign ?_); refine rg_nil ?_; refine go_seq ?_; refine go_region ⟨_, Tryz.func79⟩ rfl ?_; refine q0 rfl (o_build (cs := [.int .u32 ((((⟨0, 0⟩ : Cl)).pos : Nat) : Int), .int .u32 ((((⟨0, 0⟩ : Cl)).neg : Nat) : Int)]) ?_); refine q0 rfl (o_lit1 fun b2 => ?_); refine q0 rfl (o_assign ?_); refine rg_nil ?_; refine ret1 Tryz.func79 Tryz.results79 wn_ (some ⟨b2, 0, none⟩, 1) rfl (fun w hs => (((hs.less (Γ' := []) (by simp))).boxRow (sz := 2) (m := 1) rfl (by decide)))
theorem dimO (i : Int) (hi : in64 i) : Spec Tryz.prog 41 #[.int .i64 (i)] [] [] (fun x : SH => .tuple #[sl x (dimF i).2.length, .int .i64 (dimF i).1]) (fun x : SH => []) (fun x : SH => [rowS 2 45 x (dimF i).2.length (clFlat (dimF i).2)]) := by
  refine spec_go (args := [.int .i64 (i)]) Tryz.func41 Tryz.ntmps41 rfl (by exact Nat.le_of_ble_eq_true rfl) fun B hB => ?_
  have hbl := bitM_lt i; refine go_seq ?_; refine go_region ⟨_, Tryz.func41⟩ rfl ?_; refine q0 rfl (o_assign ?_); refine q0 rfl (o_assign ?_); refine rg_nil ?_; refine go_seq ?_; refine go_seq ?_; refine go_region ⟨_, Tryz.func41⟩ rfl ?_; refine q0 rfl (o_move ?_); refine q0 rfl (o_call Tryz.call102 ((by have h := with_spec 0 i (by omega) hi; rw [withM_zero] at h; exact h)) (fun x5 => ?_)); refine q0 rfl (o_call Tryz.call101 (maskCount_spec (bitM i) (by omega)) (fun x6 => ?_)); refine q0 rfl (o_eqI ?_ (a := ((pop32 (bitM i &&& 16777215) : Nat) : Int)) (b := 0)); refine rg_nil ?_; refine go_condI (fun h7 => ?_) (fun h7 => ?_)
  · have c7 : (decide (((pop32 (bitM i &&& 16777215) : Nat) : Int) = 0)) = true := h7
    try simp only [sC, bne_iff_ne, beq_iff_eq, ne_eq] at c7
    have hg : dimF i = (2, []) := by rw [dimF, if_neg (by rw [pop_dim0] at h7; simp at h7; simp [h7])]
    refine go_seq ?_; refine go_region ⟨_, Tryz.func41⟩ rfl ?_; refine q0 rfl (o_assign ?_); refine q0 rfl (o_assign ?_); refine rg_nil ?_; refine ret2 Tryz.func41 Tryz.results41 wn_ wn_ (none, 0) (by rw [hg]; rfl) (fun w hs => by rw [hg]; exact ((hs.less (Γ' := []) (by simp)).bare.rowS0 2 45))
  · have c7 : (decide (((pop32 (bitM i &&& 16777215) : Nat) : Int) = 0)) = false := h7
    try simp only [sC, bne_iff_ne, beq_iff_eq, ne_eq] at c7
    have hg : dimF i = (0, [⟨bitM i, 0⟩]) := by rw [dimF, if_pos (by rw [pop_dim0] at h7; simpa using h7)]
    refine go_skip ?_; refine go_seq ?_; refine go_region ⟨_, Tryz.func41⟩ rfl ?_; refine q0 rfl (o_move ?_); refine q0 rfl (o_call Tryz.call102 ((by have h := with_spec 0 i (by omega) hi; rw [withM_zero] at h; exact h)) (fun x9 => ?_)); refine q0 rfl (o_build (cs := [.int .u32 ((((⟨(bitM i), 0⟩ : Cl)).pos : Nat) : Int), .int .u32 ((((⟨(bitM i), 0⟩ : Cl)).neg : Nat) : Int)]) ?_); refine q0 rfl (o_lit1 fun b11 => ?_); refine q0 rfl (o_assign ?_); refine q0 rfl (o_assign ?_); refine rg_nil ?_; refine ret2 Tryz.func41 Tryz.results41 wn_ wn_ (some ⟨b11, 0, none⟩, 1) (by rw [hg]; rfl) (fun w hs => by rw [hg]; exact (((hs.less (Γ' := []) (by simp))).boxRow (sz := 2) (m := 1) rfl (by decide)))
end Go.Hy
namespace Go.Hy
open Go.Proofs
set_option maxRecDepth 100000
theorem meetO (f : List Cl) (a_f : SH) (g : List Cl) (a_g : SH) (hlf : f.length ≤ 1000) (hlg : g.length ≤ 1000) : Spec Tryz.prog 196 #[sl a_f (f.length), sl a_g (g.length)] [CL f a_f, CL g a_g] [] (fun x : SH => .tuple #[sl x (meetF f g).2.length, .int .i64 (meetF f g).1]) (fun x : SH => []) (fun x : SH => [rowS 2 45 x (meetF f g).2.length (clFlat (meetF f g).2)]) := by
  refine spec_go (args := [sl a_f (f.length), sl a_g (g.length)]) Tryz.func196 Tryz.ntmps196 rfl (by exact Nat.le_of_ble_eq_true rfl) fun B hB => ?_
  refine go_openCL (l := f) (a := a_f) (fun hl1 hA1 hU1 => ?_); refine go_openCL (l := g) (a := a_g) (fun hl2 hA2 hU2 => ?_); refine go_know (p := rowOk f) (fun w hs => rowOk_CL (hs.facts (CL f a_f) (by simp))) (fun hk_f => ?_); refine go_know (p := rowOk g) (fun w hs => rowOk_CL (hs.facts (CL g a_g) (by simp))) (fun hk_g => ?_); refine go_seq ?_; refine go_region ⟨_, Tryz.func196⟩ rfl ?_; refine q0 rfl (o_assign ?_); refine q0 rfl (o_assign ?_); refine rg_nil ?_; refine go_seq ?_; refine go_region ⟨_, Tryz.func196⟩ rfl ?_; refine q0 rfl (o_assign ?_); refine rg_nil ?_; refine go_seq ?_; refine go_seq ?_; refine go_region ⟨_, Tryz.func196⟩ rfl ?_; refine q0 rfl (o_move ?_); refine q0 rfl (o_len ?_); refine q0 rfl (o_move ?_); refine rg_nil ?_; refine go_block ?_; refine go_loopE (X := Nat × SH × List Cl) (fun s_ => s_.1 ≤ f.length ∧ s_.2.2 = meetL (f.take s_.1) g) (fun s_ => [(1, sl a_g (g.length)), (6, sl s_.2.1 (s_.2.2.length)), (11, sl a_f (f.length)), (12, .int .i64 ((f.length : Int))), (13, .int .i64 ((s_.1 : Int)))]) (fun s_ G_ => G_) (fun s_ => [rowS 2 45 s_.2.1 (s_.2.2.length) (clFlat s_.2.2)]) (fun s_ => f.length - s_.1) (0, (none, 0), []) (⟨Nat.zero_le _, rfl⟩) (by exact ⟨rfl, rfl, rfl, rfl, rfl, trivial⟩) ?_ ?_
  · exact fun w hs => (hs.rowS0 2 45)
  · intro ⟨i, a, l⟩ base0 ⟨hi, hl9⟩ next0; dsimp only at  hi  hl9  next0 ⊢; refine go_seq ?_; refine go_region ⟨_, Tryz.func196⟩ rfl ?_; refine q0 rfl (o_lss ?_); refine rg_nil ?_; refine go_seq ?_; refine go_condI (fun h14 => ?_) (fun h14 => ?_)
    · have c14 : (decide ((i : Int) < (f.length : Int))) = true := h14
      try simp only [sC, bne_iff_ne, beq_iff_eq, ne_eq] at c14
      have hui := hk_f.1 _ (getD_mem (d := cl0) (show i < f.length by omega)); refine go_skip ?_; refine go_seq ?_; refine go_block ?_; refine go_seq ?_; refine go_region ⟨_, Tryz.func196⟩ rfl ?_; obtain ⟨bk3, o3, hav3⟩ := hA1 (by (first | assumption | omega)); refine q0 rfl (o_ixN ?_ (j := i)); refine q0 rfl (o_ldC ?_); refine q0 rfl (o_new fun b8 => ?_); refine q0 rfl (o_st ?_); refine rg_nil ?_; refine go_seq ?_; refine go_region ⟨_, Tryz.func196⟩ rfl ?_; refine q0 rfl (o_move ?_); refine q0 rfl (o_len ?_); refine q0 rfl (o_move ?_); refine rg_nil ?_; refine go_block ?_; refine go_loopE (X := Nat × SH × List Cl) (fun s_ => s_.1 ≤ g.length ∧ s_.2.2 = meetL (f.take i) g ++ (g.take s_.1).map fun b => meetC (f.getD i cl0) b) (fun s_ => [(1, sl a_g (g.length)), (6, sl s_.2.1 (s_.2.2.length)), (8, .pointer (some ⟨b8, 0, none⟩)), (11, sl a_f (f.length)), (12, .int .i64 ((f.length : Int))), (13, .int .i64 ((i : Int))), (17, sl a_g (g.length)), (18, .int .i64 ((g.length : Int))), (19, .int .i64 ((s_.1 : Int)))]) (fun s_ G_ => G_) (fun s_ => [boxR b8 (clCells (f.getD i cl0)) 45, rowS 2 45 s_.2.1 (s_.2.2.length) (clFlat s_.2.2)]) (fun s_ => g.length - s_.1) (0, a, l) (⟨Nat.zero_le _, by rw [hl9]; simp⟩) (by exact ⟨rfl, rfl, rfl, rfl, rfl, rfl, rfl, rfl, rfl, trivial⟩) ?_ ?_
      · exact fun w hs => hs
      · intro ⟨k, a2, l2⟩ base1 ⟨hk, hl8⟩ next1; dsimp only at  hk  hl8  next1 ⊢; refine go_seq ?_; refine go_region ⟨_, Tryz.func196⟩ rfl ?_; refine q0 rfl (o_lss ?_); refine rg_nil ?_; refine go_seq ?_; refine go_condI (fun h20 => ?_) (fun h20 => ?_)
        · have c20 : (decide ((k : Int) < (g.length : Int))) = true := h20
          try simp only [sC, bne_iff_ne, beq_iff_eq, ne_eq] at c20
          have huk := hk_g.1 _ (getD_mem (d := cl0) (show k < g.length by omega)); have hum := u32_meet hui huk; have hll : l2.length ≤ 1001000 := by rw [hl8, List.length_append, meetL_len, List.length_map, List.length_take, List.length_take]; have h9 := Nat.mul_le_mul (show min i f.length ≤ 999 by omega) hlg; omega
          refine go_skip ?_; refine go_seq ?_; refine go_block ?_; refine go_seq ?_; refine go_region ⟨_, Tryz.func196⟩ rfl ?_; obtain ⟨bk4, o4, hav4⟩ := hA2 (by (first | assumption | omega)); refine q0 rfl (o_ixN ?_ (j := k)); refine q0 rfl (o_ldC ?_); refine q0 rfl (o_new fun b10 => ?_); refine q0 rfl (o_st ?_); refine rg_nil ?_; refine go_region ⟨_, Tryz.func196⟩ rfl ?_; refine q0 rfl (o_move ?_); refine q0 rfl (o_lds ?_); refine q0 rfl (o_lds ?_); refine q0 rfl (o_call Tryz.call93 (meet_spec (f.getD i cl0) (g.getD k cl0) om_ om_) (fun x26 => ?_)); refine q0 rfl (o_lit1 fun b27 => ?_); refine q0 rfl (o_appS (fun a28 => ?_) (a := a2) (n' := l2.length)); refine rg_state (fun w hs => ((hs.perm perm1).drop).snocC (c := (meetC (f.getD i cl0) (g.getD k cl0)))) ?_; refine q0 rfl (o_assign ?_); refine rg_nil ?_; refine go_inBlock ?_; refine go_region ⟨_, Tryz.func196⟩ rfl ?_; refine q0 rfl (o_add ?_); refine q0 rfl (o_move ?_); refine rg_nil ?_; refine go_state (fun w hs => ?_) (next1 (k + 1, a28, l2 ++ [meetC (f.getD i cl0) (g.getD k cl0)]) _ (⟨by omega, by rw [hl8, take_succ_getD (d := cl0) (l := g) (by omega), List.map_append, List.append_assoc]; rfl⟩) (by (try simp only); omega) ⟨rfl, (by rw [List.length_append]; rfl), rfl, rfl, rfl, rfl, rfl, rfl, rfl, trivial⟩); have e1 : (l2 ++ [meetC (f.getD i cl0) (g.getD k cl0)]).length = l2.length + 1 := by simp
          rw [e1]; exact (((hs.less (by simp +contextual)).perm perm2).dropR (A := [_, _]))
        · have c20 : (decide ((k : Int) < (g.length : Int))) = false := h20
          try simp only [sC, bne_iff_ne, beq_iff_eq, ne_eq] at c20
          have hk9 : k = g.length := by omega
          refine go_exit rfl ?_; refine go_inBlock ?_; refine go_region ⟨_, Tryz.func196⟩ rfl ?_; refine q0 rfl (o_add ?_); refine q0 rfl (o_move ?_); refine rg_nil ?_; refine go_state (fun w hs => ?_) (next0 (i + 1, a2, l2) _ (⟨by omega, by rw [hl8, take_succ_getD (d := cl0) (by omega), meetL_snoc, hk9, List.take_length]⟩) (by (try simp only); omega) ⟨rfl, rfl, rfl, rfl, rfl, trivial⟩); exact (((hs.less (by simp +contextual)).perm perm1).dropR (A := [_]))
    · have c14 : (decide ((i : Int) < (f.length : Int))) = false := h14
      try simp only [sC, bne_iff_ne, beq_iff_eq, ne_eq] at c14
      have hi9 : i = f.length := by omega
      have hlm : l = meetL f g := by rw [hl9, hi9, List.take_length]
      have hlen : l.length ≤ 1000000 := by rw [hlm, meetL_len]; have h9 := Nat.mul_le_mul hlf hlg; omega
      refine go_exit rfl ?_; refine go_seq ?_; refine go_state (fun w hs => (hs.settleCL hB rfl (rfl) (by unfold reach; omega) (fun c hc => u32_meetL hk_f.1 hk_g.1 c (by rw [← hlm]; exact hc)))) ?_; refine go_region ⟨_, Tryz.func196⟩ rfl ?_; refine q0 rfl (o_move ?_); refine q0 rfl (o_call Tryz.call90 (leastRow (l) a) (fun x32 => ?_)); refine q0 rfl (o_extract ?_); refine q0 rfl (o_extract ?_); refine q0 rfl (o_assign ?_); refine q0 rfl (o_assign ?_); refine rg_nil ?_; have hg : meetF f g = leastF l := by rw [hlm]; rfl
      refine ret2 Tryz.func196 Tryz.results196 wn_ wn_ x32 (by rw [hg]; rfl) (fun w hs => by rw [hg]; exact (hs.less (Γ' := []) (by simp)))
theorem joinO (f : List Cl) (a_f : SH) (g : List Cl) (a_g : SH) (hlf : f.length ≤ 1000000) (hlg : g.length ≤ 1000000) : Spec Tryz.prog 198 #[sl a_f (f.length), sl a_g (g.length)] [CL f a_f, CL g a_g] [] (fun x : SH => .tuple #[sl x (joinF f g).2.length, .int .i64 (joinF f g).1]) (fun x : SH => []) (fun x : SH => [rowS 2 45 x (joinF f g).2.length (clFlat (joinF f g).2)]) := by
  refine spec_go (args := [sl a_f (f.length), sl a_g (g.length)]) Tryz.func198 Tryz.ntmps198 rfl (by exact Nat.le_of_ble_eq_true rfl) fun B hB => ?_
  refine go_openCL (l := f) (a := a_f) (fun hl1 hA1 hU1 => ?_); refine go_openCL (l := g) (a := a_g) (fun hl2 hA2 hU2 => ?_); refine go_know (p := rowOk f) (fun w hs => rowOk_CL (hs.facts (CL f a_f) (by simp))) (fun hk_f => ?_); refine go_know (p := rowOk g) (fun w hs => rowOk_CL (hs.facts (CL g a_g) (by simp))) (fun hk_g => ?_); refine go_seq ?_; refine go_region ⟨_, Tryz.func198⟩ rfl ?_; refine q0 rfl (o_assign ?_); refine q0 rfl (o_assign ?_); refine rg_nil ?_; refine go_seq ?_; refine go_region ⟨_, Tryz.func198⟩ rfl ?_; refine q0 rfl (o_lit0 fun b6 => ?_); refine q0 rfl (o_move ?_); refine rg_state (fun w hs => hs.boxRow (sz := 2) (m := 0) rfl (by decide)) ?_; refine q0 rfl (o_appCL (fun a8 => ?_) (by simp) (a := (some ⟨b6, 0, none⟩, 0)) (n' := 0) (b := a_f) (ls := f)); refine rg_state (fun w hs => hs.appFlatC (l := []) (m := f)) ?_; refine q0 rfl (o_move ?_); refine q0 rfl (o_appCL (fun a10 => ?_) (by simp) (a := a8) (n' := 0 + f.length) (b := a_g) (ls := g)); refine rg_state (fun w hs => hs.appFlatC (l := ([] ++ f)) (m := g)) ?_; refine rg_state (fun w hs => (hs.settleCL (l := f ++ g) hB rfl (by simp) (by unfold reach; omega) (u32_join hk_f.1 hk_g.1))) ?_; refine q0 rfl (o_call Tryz.call90 ((by have h := leastRow (f ++ g) a10; rw [show (f ++ g).length = 0 + f.length + g.length by simp] at h; exact h)) (fun x11 => ?_)); refine q0 rfl (o_extract ?_); refine q0 rfl (o_extract ?_); refine q0 rfl (o_assign ?_); refine q0 rfl (o_assign ?_); refine rg_nil ?_; refine ret2 Tryz.func198 Tryz.results198 wn_ wn_ x11 rfl (fun w hs => (hs.less (Γ' := []) (by simp)))
theorem fjoinO (f : List Cl) (a_f : SH) (g : List Cl) (a_g : SH) (hlf : f.length ≤ 1000000) (hlg : g.length ≤ 1000000) : Spec Tryz.prog 133 #[sl a_f (f.length), sl a_g (g.length)] [CL f a_f, CL g a_g] [] (fun x : SH => .tuple #[sl x (joinF f g).2.length, .int .i64 (joinF f g).1]) (fun x : SH => []) (fun x : SH => [rowS 2 45 x (joinF f g).2.length (clFlat (joinF f g).2)]) := by
  refine spec_go (args := [sl a_f (f.length), sl a_g (g.length)]) Tryz.func133 Tryz.ntmps133 rfl (by exact Nat.le_of_ble_eq_true rfl) fun B hB => ?_
  refine go_openCL (l := f) (a := a_f) (fun hl1 hA1 hU1 => ?_); refine go_openCL (l := g) (a := a_g) (fun hl2 hA2 hU2 => ?_); refine go_know (p := rowOk f) (fun w hs => rowOk_CL (hs.facts (CL f a_f) (by simp))) (fun hk_f => ?_); refine go_know (p := rowOk g) (fun w hs => rowOk_CL (hs.facts (CL g a_g) (by simp))) (fun hk_g => ?_); refine go_seq ?_; refine go_region ⟨_, Tryz.func133⟩ rfl ?_; refine q0 rfl (o_assign ?_); refine q0 rfl (o_assign ?_); refine rg_nil ?_; refine go_seq ?_; refine go_region ⟨_, Tryz.func133⟩ rfl ?_; refine q0 rfl (o_lit0 fun b6 => ?_); refine q0 rfl (o_move ?_); refine rg_state (fun w hs => hs.boxRow (sz := 2) (m := 0) rfl (by decide)) ?_; refine q0 rfl (o_appCL (fun a8 => ?_) (by simp) (a := (some ⟨b6, 0, none⟩, 0)) (n' := 0) (b := a_f) (ls := f)); refine rg_state (fun w hs => hs.appFlatC (l := []) (m := f)) ?_; refine q0 rfl (o_move ?_); refine q0 rfl (o_appCL (fun a10 => ?_) (by simp) (a := a8) (n' := 0 + f.length) (b := a_g) (ls := g)); refine rg_state (fun w hs => hs.appFlatC (l := ([] ++ f)) (m := g)) ?_; refine rg_state (fun w hs => (hs.settleCL (l := f ++ g) hB rfl (by simp) (by unfold reach; omega) (u32_join hk_f.1 hk_g.1))) ?_; refine q0 rfl (o_call Tryz.call90 ((by have h := leastRow (f ++ g) a10; rw [show (f ++ g).length = 0 + f.length + g.length by simp] at h; exact h)) (fun x11 => ?_)); refine q0 rfl (o_extract ?_); refine q0 rfl (o_extract ?_); refine q0 rfl (o_assign ?_); refine q0 rfl (o_assign ?_); refine rg_nil ?_; refine ret2 Tryz.func133 Tryz.results133 wn_ wn_ x11 rfl (fun w hs => (hs.less (Γ' := []) (by simp)))
end Go.Hy
namespace Go.Hy
open Go.Proofs
set_option maxRecDepth 100000
theorem oppO (c : Cl) (hc : u32 c) : Spec Tryz.prog 228 #[keyV c] [DBF] [] (fun x : SH => .tuple #[sl x (oppF c).2.length, .int .i64 (oppF c).1]) (fun x : SH => []) (fun x : SH => [rowS 2 45 x (oppF c).2.length (clFlat (oppF c).2)]) := by
  refine spec_go (args := [keyV c]) Tryz.func228 Tryz.ntmps228 rfl (by exact Nat.le_of_ble_eq_true rfl) fun B hB => ?_
  have hc1 := hc.1; have hc2 := hc.2; have hl1 : (listM c.pos).length ≤ 24 := listTo_len _ _; have hl2 : (listM c.neg).length ≤ 24 := listTo_len _ _; refine go_seq ?_; refine go_region ⟨_, Tryz.func228⟩ rfl ?_; refine q0 rfl (o_box fun b1 => ?_); refine q0 rfl (o_assign ?_); refine q0 rfl (o_assign ?_); refine rg_nil ?_; refine go_seq ?_; refine go_region ⟨_, Tryz.func228⟩ rfl ?_; refine q0 rfl (o_assign ?_); refine rg_nil ?_; refine go_seq ?_; refine go_seq ?_; refine go_region ⟨_, Tryz.func228⟩ rfl ?_; refine q0 rfl (o_fa ?_); refine q0 rfl (o_ld ?_); refine q0 rfl (o_call Tryz.call81 (maskListF c.pos hc1) (fun x11 => ?_)); refine q0 rfl (o_len ?_); refine q0 rfl (o_move ?_); refine rg_nil ?_; refine go_openIL (l := (listM c.pos)) (a := x11) (fun hl1 hA1 hU1 => ?_); refine go_block ?_; refine go_loopE (X := Nat × SH × List Cl) (fun s_ => s_.1 ≤ (listM c.pos).length ∧ s_.2.2 = (((listM c.pos).take s_.1).map fun j => (⟨0, bitM j⟩ : Cl))) (fun s_ => [(1, .pointer (some ⟨b1, 0, none⟩)), (4, sl s_.2.1 (s_.2.2.length)), (11, sl x11 (((listM c.pos)).length)), (12, .int .i64 ((((listM c.pos)).length : Int))), (13, .int .i64 ((s_.1 : Int)))]) (fun s_ G_ => G_) (fun s_ => [rowS 2 45 s_.2.1 (s_.2.2.length) (clFlat s_.2.2), boxR b1 (clCells c) 45]) (fun s_ => (listM c.pos).length - s_.1) (0, (none, 0), []) (⟨Nat.zero_le _, rfl⟩) (by exact ⟨rfl, rfl, rfl, rfl, rfl, trivial⟩) ?_ ?_
  · exact fun w hs => (hs.rowS0 2 45)
  · intro ⟨i, a, l⟩ base0 ⟨hi, hl9⟩ next0; dsimp only at  hi  hl9  next0 ⊢; refine go_seq ?_; refine go_region ⟨_, Tryz.func228⟩ rfl ?_; refine q0 rfl (o_lss ?_); refine rg_nil ?_; refine go_seq ?_; refine go_condI (fun h14 => ?_) (fun h14 => ?_)
    · have c14 : (decide ((i : Int) < (((listM c.pos)).length : Int))) = true := h14
      try simp only [sC, bne_iff_ne, beq_iff_eq, ne_eq] at c14
      have hll : l.length ≤ 24 := by rw [hl9, List.length_map, List.length_take]; omega
      have hbl := bitM_lt ((listM c.pos).getD i 0); refine go_skip ?_; refine go_seq ?_; refine go_block ?_; refine go_seq ?_; refine go_region ⟨_, Tryz.func228⟩ rfl ?_; obtain ⟨bk2, o2, hav2⟩ := hA1 (by (first | assumption | omega)); refine q0 rfl (o_ixN ?_ (j := i)); refine q0 rfl (o_ldI ?_); refine q0 rfl (o_assign ?_); refine rg_nil ?_; refine go_region ⟨_, Tryz.func228⟩ rfl ?_; refine q0 rfl (o_move ?_); refine q0 rfl (o_move ?_); refine q0 rfl (o_call Tryz.call102 ((by have h := with_spec 0 ((listM c.pos).getD i 0) (by omega) (listM_in (s := c.pos) (i := i) (by omega)); rw [withM_zero] at h; exact h)) (fun x19 => ?_)); refine q0 rfl (o_build (cs := [.int .u32 ((((⟨0, (bitM ((listM c.pos).getD i 0))⟩ : Cl)).pos : Nat) : Int), .int .u32 ((((⟨0, (bitM ((listM c.pos).getD i 0))⟩ : Cl)).neg : Nat) : Int)]) ?_); refine q0 rfl (o_lit1 fun b21 => ?_); refine q0 rfl (o_appS (fun a22 => ?_) (a := a) (n' := l.length)); refine rg_state (fun w hs => ((hs.perm perm1).drop).snocC (c := (⟨0, (bitM ((listM c.pos).getD i 0))⟩ : Cl))) ?_; refine q0 rfl (o_assign ?_); refine rg_nil ?_; refine go_inBlock ?_; refine go_region ⟨_, Tryz.func228⟩ rfl ?_; refine q0 rfl (o_add ?_); refine q0 rfl (o_move ?_); refine rg_nil ?_; refine go_state (fun w hs => ?_) (next0 (i + 1, a22, l ++ [(⟨0, bitM ((listM c.pos).getD i 0)⟩ : Cl)]) _ (⟨by omega, by rw [hl9, take_succ_getD (d := 0) (by omega), List.map_append]; rfl⟩) (by (try simp only); omega) ⟨rfl, (by rw [List.length_append]; rfl), rfl, rfl, rfl, trivial⟩); have e1 : (l ++ [(⟨0, bitM ((listM c.pos).getD i 0)⟩ : Cl)]).length = l.length + 1 := by simp
      rw [e1]; exact (((hs.less (by simp +contextual)).perm perm1).perm perm1)
    · have c14 : (decide ((i : Int) < (((listM c.pos)).length : Int))) = false := h14
      try simp only [sC, bne_iff_ne, beq_iff_eq, ne_eq] at c14
      have hi9 : i = (listM c.pos).length := by omega
      rw [hi9, List.take_length] at hl9; subst hl9; refine go_exit rfl ?_; refine go_seq ?_; refine go_seq ?_; refine go_region ⟨_, Tryz.func228⟩ rfl ?_; refine q0 rfl (o_fa ?_); refine q0 rfl (o_ld ?_); refine q0 rfl (o_call Tryz.call81 (maskListF c.neg hc2) (fun x26 => ?_)); refine q0 rfl (o_len ?_); refine q0 rfl (o_move ?_); refine rg_nil ?_; refine go_openIL (l := (listM c.neg)) (a := x26) (fun hl3 hA3 hU3 => ?_); refine go_block ?_; refine go_loopE (X := Nat × SH × List Cl) (fun s_ => s_.1 ≤ (listM c.neg).length ∧ s_.2.2 = ((listM c.pos).map fun j => (⟨0, bitM j⟩ : Cl)) ++ (((listM c.neg).take s_.1).map fun j => (⟨bitM j, 0⟩ : Cl))) (fun s_ => [(4, sl s_.2.1 (s_.2.2.length)), (26, sl x26 (((listM c.neg)).length)), (27, .int .i64 ((((listM c.neg)).length : Int))), (28, .int .i64 ((s_.1 : Int)))]) (fun s_ G_ => G_) (fun s_ => [rowS 2 45 s_.2.1 (s_.2.2.length) (clFlat s_.2.2), boxR b1 (clCells c) 45]) (fun s_ => (listM c.neg).length - s_.1) (0, a, ((listM c.pos).map fun j => (⟨0, bitM j⟩ : Cl))) (⟨Nat.zero_le _, by simp⟩) (by exact ⟨rfl, rfl, rfl, rfl, trivial⟩) ?_ ?_
      · exact fun w hs => hs
      · intro ⟨i, a2, l⟩ base1 ⟨hi, hl8⟩ next1; dsimp only at  hi  hl8  next1 ⊢; refine go_seq ?_; refine go_region ⟨_, Tryz.func228⟩ rfl ?_; refine q0 rfl (o_lss ?_); refine rg_nil ?_; refine go_seq ?_; refine go_condI (fun h29 => ?_) (fun h29 => ?_)
        · have c29 : (decide ((i : Int) < (((listM c.neg)).length : Int))) = true := h29
          try simp only [sC, bne_iff_ne, beq_iff_eq, ne_eq] at c29
          have hll : l.length ≤ 48 := by rw [hl8, List.length_append, List.length_map, List.length_map, List.length_take]; omega
          have hbl := bitM_lt ((listM c.neg).getD i 0); refine go_skip ?_; refine go_seq ?_; refine go_block ?_; refine go_seq ?_; refine go_region ⟨_, Tryz.func228⟩ rfl ?_; obtain ⟨bk4, o4, hav4⟩ := hA3 (by (first | assumption | omega)); refine q0 rfl (o_ixN ?_ (j := i)); refine q0 rfl (o_ldI ?_); refine q0 rfl (o_assign ?_); refine rg_nil ?_; refine go_region ⟨_, Tryz.func228⟩ rfl ?_; refine q0 rfl (o_move ?_); refine q0 rfl (o_move ?_); refine q0 rfl (o_call Tryz.call102 ((by have h := with_spec 0 ((listM c.neg).getD i 0) (by omega) (listM_in (s := c.neg) (i := i) (by omega)); rw [withM_zero] at h; exact h)) (fun x34 => ?_)); refine q0 rfl (o_build (cs := [.int .u32 ((((⟨(bitM ((listM c.neg).getD i 0)), 0⟩ : Cl)).pos : Nat) : Int), .int .u32 ((((⟨(bitM ((listM c.neg).getD i 0)), 0⟩ : Cl)).neg : Nat) : Int)]) ?_); refine q0 rfl (o_lit1 fun b36 => ?_); refine q0 rfl (o_appS (fun a37 => ?_) (a := a2) (n' := l.length)); refine rg_state (fun w hs => ((hs.perm perm1).drop).snocC (c := (⟨(bitM ((listM c.neg).getD i 0)), 0⟩ : Cl))) ?_; refine q0 rfl (o_assign ?_); refine rg_nil ?_; refine go_inBlock ?_; refine go_region ⟨_, Tryz.func228⟩ rfl ?_; refine q0 rfl (o_add ?_); refine q0 rfl (o_move ?_); refine rg_nil ?_; refine go_state (fun w hs => ?_) (next1 (i + 1, a37, l ++ [(⟨bitM ((listM c.neg).getD i 0), 0⟩ : Cl)]) _ (⟨by omega, by rw [hl8, take_succ_getD (d := 0) (by omega), List.map_append, List.append_assoc]; rfl⟩) (by (try simp only); omega) ⟨(by rw [List.length_append]; rfl), rfl, rfl, rfl, trivial⟩); have e1 : (l ++ [(⟨bitM ((listM c.neg).getD i 0), 0⟩ : Cl)]).length = l.length + 1 := by simp
          rw [e1]; exact (((hs.less (by simp +contextual)).perm perm1).perm perm1)
        · have c29 : (decide ((i : Int) < (((listM c.neg)).length : Int))) = false := h29
          try simp only [sC, bne_iff_ne, beq_iff_eq, ne_eq] at c29
          have hi8 : i = (listM c.neg).length := by omega
          have hlo : l = oppL c := by rw [hl8, hi8, List.take_length]; rfl
          have hlen := oppL_len c; refine go_exit rfl ?_; refine go_seq ?_; refine go_state (fun w hs => (((hs.perm perm1).perm perm1).settleCL hB rfl (rfl) (by rw [hlo]; unfold reach; omega) (fun d hd => u32_opp c d (by rw [← hlo]; exact hd)))) ?_; refine go_region ⟨_, Tryz.func228⟩ rfl ?_; refine q0 rfl (o_move ?_); refine q0 rfl (o_call Tryz.call90 (leastRow (l) a2) (fun x40 => ?_)); refine q0 rfl (o_extract ?_); refine q0 rfl (o_extract ?_); refine q0 rfl (o_assign ?_); refine q0 rfl (o_assign ?_); refine rg_nil ?_; have hg : oppF c = leastF l := by rw [hlo]; rfl
          refine ret2 Tryz.func228 Tryz.results228 wn_ wn_ x40 (by rw [hg]; rfl) (fun w hs => by rw [hg]; exact ((hs.less (Γ' := []) (by simp)).dropR (A := [_])))
theorem not1O (h : List Cl) (a_h : SH) (c : Cl) (hc : u32 c) (hlh : h.length ≤ 64) : Spec Tryz.prog 227 #[sl a_h (h.length), keyV c] [DBF, CL h a_h] [] (fun x : SH => .tuple #[sl x (notStep h c).2.length, .int .i64 (notStep h c).1]) (fun x : SH => []) (fun x : SH => [rowS 2 45 x (notStep h c).2.length (clFlat (notStep h c).2)]) := by
  refine spec_go (args := [sl a_h (h.length), keyV c]) Tryz.func227 Tryz.ntmps227 rfl (by exact Nat.le_of_ble_eq_true rfl) fun B hB => ?_
  refine go_openCL (l := h) (a := a_h) (fun hl1 hA1 hU1 => ?_); refine go_know (p := rowOk h) (fun w hs => rowOk_CL (hs.facts (CL h a_h) (by simp))) (fun hk_h => ?_); refine go_seq ?_; refine go_region ⟨_, Tryz.func227⟩ rfl ?_; refine q0 rfl (o_box fun b3 => ?_); refine q0 rfl (o_assign ?_); refine q0 rfl (o_assign ?_); refine rg_nil ?_; refine go_seq ?_; refine go_region ⟨_, Tryz.func227⟩ rfl ?_; refine q0 rfl (o_lds ?_); obtain ⟨r1, hr1⟩ : ∃ q9 : EL, q9 = oppF c := ⟨_, rfl⟩; refine q0 rfl (o_call Tryz.call228 (Spec.rowF hr1 (oppO c hc) (okE_opp c)) (fun x10 => ?_)); refine q0 rfl (o_move ?_); refine q0 rfl (o_extract ?_); refine q0 rfl (o_extract ?_); refine q0 rfl (o_assign ?_); refine q0 rfl (o_assign ?_); refine rg_nil ?_; refine go_seq ?_; refine go_seq ?_; refine go_region ⟨_, Tryz.func227⟩ rfl ?_; refine q0 rfl (o_move ?_); refine q0 rfl (o_neI ?_); refine rg_nil ?_; refine go_condI (fun h14 => ?_) (fun h14 => ?_)
  · have c14 : (decide (r1.1 ≠ 0)) = true := h14
    try simp only [sC, bne_iff_ne, beq_iff_eq, ne_eq] at c14
    have hg : notStep h c = (r1.1, []) := by unfold notStep; rw [← hr1]; exact bindE_bad (by simpa using h14)
    refine go_seq ?_; refine go_region ⟨_, Tryz.func227⟩ rfl ?_; refine q0 rfl (o_move ?_); refine q0 rfl (o_assign ?_); refine q0 rfl (o_assign ?_); refine rg_nil ?_; refine ret2 Tryz.func227 Tryz.results227 wn_ wn_ (none, 0) (by rw [hg]; rfl) (fun w hs => by rw [hg]; exact ((hs.less (Γ' := []) (by simp)).bare.rowS0 2 45))
  · have c14 : (decide (r1.1 ≠ 0)) = false := h14
    try simp only [sC, bne_iff_ne, beq_iff_eq, ne_eq] at c14
    have hg2 : notStep h c = meetF h r1.2 := by unfold notStep; rw [← hr1]; exact bindE_ok (by simpa using h14)
    refine go_skip ?_; refine go_seq ?_; refine go_region ⟨_, Tryz.func227⟩ rfl ?_; refine q0 rfl (o_move ?_); refine q0 rfl (o_move ?_); obtain ⟨r2, hr2⟩ : ∃ q9 : EL, q9 = meetF h r1.2 := ⟨_, rfl⟩; refine q0 rfl (o_call Tryz.call196 (Spec.rowH hr2 (meetO h a_h r1.2 x10 (by omega) (by rw [hr1]; exact Nat.le_trans (len_least (oppL c)) (by decide)))) (fun x18 => ?_)); refine q0 rfl (o_extract ?_); refine q0 rfl (o_extract ?_); refine q0 rfl (o_assign ?_); refine q0 rfl (o_assign ?_); refine rg_nil ?_; have hg := hg2.trans hr2.symm; refine ret2 Tryz.func227 Tryz.results227 wn_ wn_ x18 (by rw [hg]; rfl) (fun w hs => by rw [hg]; exact ((hs.less (Γ' := []) (by simp)).dropR (A := [_])))
end Go.Hy
namespace Go.Hy
open Go.Proofs
set_option maxRecDepth 100000
set_option maxHeartbeats 4000000 in
theorem foldNotO (l : List Cl) (a_l : SH) (z : List Cl) (a_z : SH) (hkz : rowOk z) (hlz : z.length ≤ 64) : Spec Tryz.prog 107 #[sl a_l (l.length), sl a_z (z.length), .func (.func 227) #[] #[]] [DBF, CL l a_l] [rowS 2 45 a_z (z.length) (clFlat z)] (fun x : SH => .tuple #[sl x (foldF (notStep) z l).2.length, .int .i64 (foldF (notStep) z l).1]) (fun x : SH => []) (fun x : SH => [rowS 2 45 x (foldF (notStep) z l).2.length (clFlat (foldF (notStep) z l).2)]) := by
  rw [show (#[sl a_l (l.length), sl a_z (z.length), .func (.func 227) #[] #[]] : Array Value) = ([sl a_l (l.length), sl a_z (z.length), .func (.func 227) #[] #[]] : List Value).toArray from rfl]; refine spec_go Tryz.func107 Tryz.ntmps107 rfl (by exact Nat.le_of_ble_eq_true rfl) fun B hB => ?_
  refine go_openCL (l := l) (a := a_l) (fun hl1 hA1 hU1 => ?_); refine go_know (p := rowOk l) (fun w hs => rowOk_CL (hs.facts (CL l a_l) (by simp))) (fun hk_l => ?_); refine go_seq ?_; refine go_region ⟨_, Tryz.func107⟩ rfl ?_; refine q0 rfl (o_assign ?_); refine q0 rfl (o_assign ?_); refine rg_nil ?_; refine go_seq ?_; refine go_seq ?_; refine go_region ⟨_, Tryz.func107⟩ rfl ?_; refine q0 rfl (o_move ?_); refine q0 rfl (o_len ?_); refine q0 rfl (o_move ?_); refine rg_nil ?_; refine go_block ?_; refine go_loopE (X := Nat × SH × List Cl) (fun s_ => s_.1 ≤ l.length ∧ foldF (notStep) z (l.take s_.1) = (0, s_.2.2) ∧ rowOk s_.2.2 ∧ s_.2.2.length ≤ 64) (fun s_ => [(1, sl s_.2.1 (s_.2.2.length)), (2, .func (.func 227) #[] #[]), (13, sl a_l (l.length)), (14, .int .i64 ((l.length : Int))), (15, .int .i64 ((s_.1 : Int)))]) (fun s_ G_ => G_) (fun s_ => [rowS 2 45 s_.2.1 (s_.2.2.length) (clFlat s_.2.2)]) (fun s_ => l.length - s_.1) (0, a_z, z) (⟨Nat.zero_le _, rfl, hkz, hlz⟩) (by exact ⟨rfl, rfl, rfl, rfl, rfl, trivial⟩) ?_ ?_
  · exact fun w hs => hs
  · intro ⟨i, a, hv⟩ base0 ⟨hi9, hf9, hk9, hl9⟩ next0; dsimp only at  hi9  hf9  hk9  hl9  next0 ⊢; refine go_seq ?_; refine go_region ⟨_, Tryz.func107⟩ rfl ?_; refine q0 rfl (o_lss ?_); refine rg_nil ?_; refine go_seq ?_; refine go_condI (fun h16 => ?_) (fun h16 => ?_)
    · have c16 : (decide ((i : Int) < (l.length : Int))) = true := h16
      try simp only [sC, bne_iff_ne, beq_iff_eq, ne_eq] at c16
      have hui := hk_l.1 _ (getD_mem (d := cl0) (show i < l.length by omega)); refine go_skip ?_; refine go_seq ?_; refine go_block ?_; refine go_seq ?_; refine go_region ⟨_, Tryz.func107⟩ rfl ?_; obtain ⟨bk2, o2, hav2⟩ := hA1 (by (first | assumption | omega)); refine q0 rfl (o_ixN ?_ (j := i)); refine q0 rfl (o_ldC ?_); refine q0 rfl (o_new fun b9 => ?_); refine q0 rfl (o_st ?_); refine rg_nil ?_; refine go_seq ?_; refine go_state (fun w hs => ((hs.perm perm1).settleCL hB rfl (rfl) (hk9.2) (hk9.1))) ?_; refine go_region ⟨_, Tryz.func107⟩ rfl ?_; refine q0 rfl (o_move ?_); refine q0 rfl (o_move ?_); refine q0 rfl (o_lds ?_); obtain ⟨r3, hr3⟩ : ∃ q9 : EL, q9 = (notStep) hv (l.getD i cl0) := ⟨_, rfl⟩; refine q0 rfl (o_callC Tryz.call227 (Spec.rowH hr3 (not1O hv a (l.getD i cl0) hui hl9)) (cap := []) (fun x23 => ?_)); refine q0 rfl (o_move ?_); refine q0 rfl (o_extract ?_); refine q0 rfl (o_extract ?_); refine q0 rfl (o_assign ?_); refine q0 rfl (o_assign ?_); refine rg_nil ?_; refine go_seq ?_; refine go_seq ?_; refine go_region ⟨_, Tryz.func107⟩ rfl ?_; refine q0 rfl (o_move ?_); refine q0 rfl (o_neI ?_); refine rg_nil ?_; refine go_condI (fun h27 => ?_) (fun h27 => ?_)
      · have c27 : (decide (r3.1 ≠ 0)) = true := h27
        try simp only [sC, bne_iff_ne, beq_iff_eq, ne_eq] at c27
        refine go_seq ?_; refine go_region ⟨_, Tryz.func107⟩ rfl ?_; refine q0 rfl (o_assign ?_); refine rg_nil ?_; refine go_seq ?_; refine go_region ⟨_, Tryz.func107⟩ rfl ?_; refine q0 rfl (o_move ?_); refine q0 rfl (o_move ?_); refine q0 rfl (o_assign ?_); refine q0 rfl (o_assign ?_); refine rg_nil ?_; have hg : (foldF (notStep) z l) = (r3.1, []) := by rw [foldF_bad (by omega) hf9 (by rw [← hr3]; simpa using h27), ← hr3]
        refine ret2 Tryz.func107 Tryz.results107 wn_ wn_ (none, 0) (by rw [hg]; rfl) (fun w hs => by rw [hg]; exact ((hs.less (Γ' := []) (by simp)).bare.rowS0 2 45))
      · have c27 : (decide (r3.1 ≠ 0)) = false := h27
        try simp only [sC, bne_iff_ne, beq_iff_eq, ne_eq] at c27
        refine go_skip ?_; refine go_region ⟨_, Tryz.func107⟩ rfl ?_; refine q0 rfl (o_move ?_); refine q0 rfl (o_assign ?_); refine rg_nil ?_; refine go_inBlock ?_; refine go_region ⟨_, Tryz.func107⟩ rfl ?_; refine q0 rfl (o_add ?_); refine q0 rfl (o_move ?_); refine rg_nil ?_; refine go_state (fun w hs => ?_) (next0 (i + 1, x23, r3.2) _ (⟨by omega, by rw [foldF_ok (by omega) hf9 (by rw [← hr3]; simpa using h27), ← hr3], by rw [hr3]; exact okE_notStep hk9, by rw [hr3]; exact len_notStep _ _⟩) (by (try simp only); omega) ⟨rfl, rfl, rfl, rfl, rfl, trivial⟩); exact ((hs.less (by simp +contextual)).dropR (A := [_]))
    · have c16 : (decide ((i : Int) < (l.length : Int))) = false := h16
      try simp only [sC, bne_iff_ne, beq_iff_eq, ne_eq] at c16
      refine go_exit rfl ?_; refine go_seq ?_; refine go_region ⟨_, Tryz.func107⟩ rfl ?_; refine q0 rfl (o_move ?_); refine q0 rfl (o_assign ?_); refine q0 rfl (o_assign ?_); refine rg_nil ?_; have hg : (foldF (notStep) z l) = (0, hv) := foldF_all (by omega) hf9; refine ret2 Tryz.func107 Tryz.results107 wn_ wn_ a (by rw [hg]; rfl) (fun w hs => by rw [hg]; exact (hs.less (Γ' := []) (by simp)))
theorem notO (l : List Cl) (a_l : SH)  : Spec Tryz.prog 197 #[sl a_l (l.length)] [DBF, CL l a_l] [] (fun x : SH => .tuple #[sl x (notF l).2.length, .int .i64 (notF l).1]) (fun x : SH => []) (fun x : SH => [rowS 2 45 x (notF l).2.length (clFlat (notF l).2)]) := by
  refine spec_go (args := [sl a_l (l.length)]) Tryz.func197 Tryz.ntmps197 rfl (by exact Nat.le_of_ble_eq_true rfl) fun B hB => ?_
  refine go_openCL (l := l) (a := a_l) (fun hl1 hA1 hU1 => ?_); refine go_seq ?_; refine go_region ⟨_, Tryz.func197⟩ rfl ?_; refine q0 rfl (o_assign ?_); refine q0 rfl (o_assign ?_); refine rg_nil ?_; refine go_seq ?_; refine go_region ⟨_, Tryz.func197⟩ rfl ?_; refine q0 rfl (o_move ?_); refine q0 rfl (o_call Tryz.call79 (oneO) (fun x5 => ?_)); refine q0 rfl (o_call Tryz.call107 (foldNotO l a_l [cl0] x5 rowOk_one0 (by decide)) (fun x6 => ?_)); refine q0 rfl (o_extract ?_); refine q0 rfl (o_extract ?_); refine q0 rfl (o_assign ?_); refine q0 rfl (o_assign ?_); refine rg_nil ?_; refine ret2 Tryz.func197 Tryz.results197 wn_ wn_ x6 rfl (fun w hs => (hs.less (Γ' := []) (by simp)))
theorem notRO (l : List Cl) (a_l : SH)  : Spec Tryz.prog 231 #[sl a_l (l.length)] [DBF, CL l a_l] [] (fun x : SH => .tuple #[sl x (notR l).2.length, .int .i64 (notR l).1]) (fun x : SH => []) (fun x : SH => [rowS 2 45 x (notR l).2.length (clFlat (notR l).2)]) := by
  refine spec_go (args := [sl a_l (l.length)]) Tryz.func231 Tryz.ntmps231 rfl (by exact Nat.le_of_ble_eq_true rfl) fun B hB => ?_
  refine go_openCL (l := l) (a := a_l) (fun hl1 hA1 hU1 => ?_); refine go_seq ?_; refine go_region ⟨_, Tryz.func231⟩ rfl ?_; refine q0 rfl (o_assign ?_); refine q0 rfl (o_assign ?_); refine rg_nil ?_; refine go_seq ?_; refine go_seq ?_; refine go_region ⟨_, Tryz.func231⟩ rfl ?_; refine q0 rfl (o_move ?_); refine q0 rfl (o_lit1 fun b6 => ?_); refine rg_state (fun w hs => (hs.litCC hB mm_)) ?_; refine q0 rfl (o_call Tryz.call106 (forms_spec [(l, a_l)] (some ⟨b6, 0, none⟩, 1)) (fun x7 => ?_)); refine q0 rfl (o_assign ?_); refine rg_nil ?_; refine go_seq ?_; refine go_region ⟨_, Tryz.func231⟩ rfl ?_; refine q0 rfl (o_move ?_); refine q0 rfl (o_neI ?_); refine rg_nil ?_; refine go_condI (fun h9 => ?_) (fun h9 => ?_)
  · have c9 : (decide ((if [(l, a_l)].all (fun p => fRight p.1) then (0 : Int) else 2) ≠ 0)) = true := h9
    try simp only [sC, bne_iff_ne, beq_iff_eq, ne_eq] at c9
    have hg : notR l = (2, []) := by rw [notR, if_neg (by simpa using h9)]
    have h8 : (if [(l, a_l)].all (fun p => fRight p.1) then (0 : Int) else 2) = 2 := by simpa using h9
    refine go_seq ?_; refine go_region ⟨_, Tryz.func231⟩ rfl ?_; refine q0 rfl (o_move ?_); refine q0 rfl (o_assign ?_); refine q0 rfl (o_assign ?_); refine rg_nil ?_; refine ret2 Tryz.func231 Tryz.results231 wn_ wn_ (none, 0) (by rw [hg]; (conv => lhs; whnf; rw [h8]); rfl) (fun w hs => by rw [hg]; exact ((hs.less (Γ' := []) (by simp)).bare.rowS0 2 45))
  · have c9 : (decide ((if [(l, a_l)].all (fun p => fRight p.1) then (0 : Int) else 2) ≠ 0)) = false := h9
    try simp only [sC, bne_iff_ne, beq_iff_eq, ne_eq] at c9
    have hg2 : notR l = notF l := by rw [notR, if_pos (by simpa using h9)]
    refine go_skip ?_; refine go_seq ?_; refine go_region ⟨_, Tryz.func231⟩ rfl ?_; refine q0 rfl (o_move ?_); obtain ⟨r2, hr2⟩ : ∃ q9 : EL, q9 = notF l := ⟨_, rfl⟩; refine q0 rfl (o_call Tryz.call197 (Spec.rowH hr2 (notO l a_l)) (fun x12 => ?_)); refine q0 rfl (o_extract ?_); refine q0 rfl (o_extract ?_); refine q0 rfl (o_assign ?_); refine q0 rfl (o_assign ?_); refine rg_nil ?_; have hg := hg2.trans hr2.symm; refine ret2 Tryz.func231 Tryz.results231 wn_ wn_ x12 (by rw [hg]; rfl) (fun w hs => by rw [hg]; exact (hs.less (Γ' := []) (by simp)))
end Go.Hy
