/- Contracts of this program's functions and the laws that they need: a separation logic over the machine's rules, one theorem each (partly printed by a program of this repository). -/
import Derived.Shelf.SlSortCmp.WholeK
import Derived.Shelf.SlGeneric
import Derived.Ground.SlsfProg
import Derived.Test.YtceegbilhbhibaaGreatProg
import Derived.Tactics2
import Derived.Shelf.SlSortCmp.NoneTotal
import Derived.Test.YtceegbilhbhibaaGreatP3
import Derived.Test.YtceegbilhbhibaaGreatP4
import Derived.Test.YtceegbilhbhibaaGreatP5
import Derived.Test.YtceegbilhbhibaaGreatP6
import Derived.Test.YtceegbilhbhibaaGreatP7
import Derived.Test.YtceegbilhbhibaaGreatP8
namespace Go.Hy
set_option linter.unusedVariables false
set_option linter.unusedSimpArgs false
set_option linter.unusedSectionVars false
open Go.Proofs
set_option linter.unusedVariables false
set_option linter.unusedSimpArgs false
set_option maxRecDepth 100000
theorem rclift (c : Cl) (f : Int) (b : Int) (hc : u32 c) (hf : in64 f) (hb : in64 b) : Spec Tryz.prog 83 #[keyV c, .int .i64 (f), .int .i64 (b)] [] [] (fun _ : Unit => .tuple #[keyV ((clLift c f b).2), .int .i64 ((clLift c f b).1)]) (fun _ : Unit => []) (fun _ : Unit => []) := by
  refine spec_go (args := [keyV c, .int .i64 (f), .int .i64 (b)]) Tryz.func83 Tryz.ntmps83 rfl (by exact Nat.le_of_ble_eq_true rfl) fun B hB => ?_
  have hc1 := hc.1
  have hc2 := hc.2
  have hm1 := maskLift_lt c.pos f b
  have hm2 := maskLift_lt c.neg f b
  refine go_seq ?_
  refine go_region ⟨_, Tryz.func83⟩ rfl ?_
  refine q0 rfl (o_box fun b3 => ?_)
  refine q0 rfl (o_new fun b6 => ?_)
  refine q0 rfl (o_assign ?_)
  refine rg_nil ?_
  refine go_seq ?_
  refine go_seq ?_
  refine go_region ⟨_, Tryz.func83⟩ rfl ?_
  refine q0 rfl (o_lds ?_)
  refine q0 rfl (o_call Tryz.call105 (rcright c om_) (fun x12 => ?_))
  refine q0 rfl (o_not ?_)
  refine rg_nil ?_
  refine go_condI (fun h13 => ?_) (fun h13 => ?_)
  · have c13 : (!(right24 c)) = true := h13
    try simp only [sC, bne_iff_ne, beq_iff_eq, ne_eq] at c13
    have hg : clLift c f b = (2, cl0) := (by unfold clLift; rw [if_pos (by simpa using h13)])
    refine go_seq ?_
    refine go_region ⟨_, Tryz.func83⟩ rfl ?_
    refine q0 rfl (o_build (cs := [.int .u32 ((((⟨0, 0⟩ : Cl)).pos : Nat) : Int), .int .u32 ((((⟨0, 0⟩ : Cl)).neg : Nat) : Int)]) ?_)
    refine q0 rfl (o_st ?_)
    refine q0 rfl (o_assign ?_)
    refine rg_nil ?_
    refine retCT Tryz.func83 Tryz.results83 () rfl mm_ rfl rfl rfl rfl (by rw [hg]; rfl) (fun w hs => hs.none)
  · have c13 : (!(right24 c)) = false := h13
    try simp only [sC, bne_iff_ne, beq_iff_eq, ne_eq] at c13
    have hr : ¬ right24 c = false := (by simpa using h13)
    refine go_skip ?_
    refine go_seq ?_
    refine go_region ⟨_, Tryz.func83⟩ rfl ?_
    refine q0 rfl (o_fa ?_)
    refine q0 rfl (o_ld ?_)
    refine q0 rfl (o_move ?_)
    refine q0 rfl (o_move ?_)
    refine q0 rfl (o_call Tryz.call106 (rmlift ((c).pos) f b om_ om_ om_) (fun x20 => ?_))
    refine q0 rfl (o_move ?_)
    refine q0 rfl (o_extract ?_)
    refine q0 rfl (o_extract ?_)
    refine q0 rfl (o_assign ?_)
    refine q0 rfl (o_assign ?_)
    refine rg_nil ?_
    refine go_seq ?_
    refine go_seq ?_
    refine go_region ⟨_, Tryz.func83⟩ rfl ?_
    refine q0 rfl (o_move ?_)
    refine q0 rfl (o_neI ?_)
    refine rg_nil ?_
    refine go_condI (fun h24 => ?_) (fun h24 => ?_)
    · have c24 : (decide (((maskLift ((c).pos) f b).1) ≠ 0)) = true := h24
      try simp only [sC, bne_iff_ne, beq_iff_eq, ne_eq] at c24
      have hg : clLift c f b = ((maskLift c.pos f b).1, cl0) := (by unfold clLift; rw [if_neg hr, if_pos (by simpa using h24)])
      refine go_seq ?_
      refine go_region ⟨_, Tryz.func83⟩ rfl ?_
      refine q0 rfl (o_build (cs := [.int .u32 ((((⟨0, 0⟩ : Cl)).pos : Nat) : Int), .int .u32 ((((⟨0, 0⟩ : Cl)).neg : Nat) : Int)]) ?_)
      refine q0 rfl (o_move ?_)
      refine q0 rfl (o_st ?_)
      refine q0 rfl (o_assign ?_)
      refine rg_nil ?_
      refine retCT Tryz.func83 Tryz.results83 () rfl mm_ rfl rfl rfl rfl (by rw [hg]; rfl) (fun w hs => hs.none)
    · have c24 : (decide (((maskLift ((c).pos) f b).1) ≠ 0)) = false := h24
      try simp only [sC, bne_iff_ne, beq_iff_eq, ne_eq] at c24
      have hp : ¬ (maskLift c.pos f b).1 ≠ 0 := (by simpa using h24)
      refine go_skip ?_
      refine go_seq ?_
      refine go_region ⟨_, Tryz.func83⟩ rfl ?_
      refine q0 rfl (o_fa ?_)
      refine q0 rfl (o_ld ?_)
      refine q0 rfl (o_move ?_)
      refine q0 rfl (o_move ?_)
      refine q0 rfl (o_call Tryz.call106 (rmlift ((c).neg) f b om_ om_ om_) (fun x32 => ?_))
      refine q0 rfl (o_move ?_)
      refine q0 rfl (o_extract ?_)
      refine q0 rfl (o_extract ?_)
      refine q0 rfl (o_assign ?_)
      refine q0 rfl (o_assign ?_)
      refine rg_nil ?_
      refine go_seq ?_
      refine go_seq ?_
      refine go_region ⟨_, Tryz.func83⟩ rfl ?_
      refine q0 rfl (o_move ?_)
      refine q0 rfl (o_neI ?_)
      refine rg_nil ?_
      refine go_condI (fun h36 => ?_) (fun h36 => ?_)
      · have c36 : (decide (((maskLift ((c).neg) f b).1) ≠ 0)) = true := h36
        try simp only [sC, bne_iff_ne, beq_iff_eq, ne_eq] at c36
        have hg : clLift c f b = ((maskLift c.neg f b).1, cl0) := (by unfold clLift; rw [if_neg hr, if_neg hp, if_pos (by simpa using h36)])
        refine go_seq ?_
        refine go_region ⟨_, Tryz.func83⟩ rfl ?_
        refine q0 rfl (o_build (cs := [.int .u32 ((((⟨0, 0⟩ : Cl)).pos : Nat) : Int), .int .u32 ((((⟨0, 0⟩ : Cl)).neg : Nat) : Int)]) ?_)
        refine q0 rfl (o_move ?_)
        refine q0 rfl (o_st ?_)
        refine q0 rfl (o_assign ?_)
        refine rg_nil ?_
        refine retCT Tryz.func83 Tryz.results83 () rfl mm_ rfl rfl rfl rfl (by rw [hg]; rfl) (fun w hs => hs.none)
      · have c36 : (decide (((maskLift ((c).neg) f b).1) ≠ 0)) = false := h36
        try simp only [sC, bne_iff_ne, beq_iff_eq, ne_eq] at c36
        have hg : clLift c f b = (0, ⟨(maskLift c.pos f b).2, (maskLift c.neg f b).2⟩) := (by unfold clLift; rw [if_neg hr, if_neg hp, if_neg (by simpa using h36)])
        refine go_skip ?_
        refine go_seq ?_
        refine go_region ⟨_, Tryz.func83⟩ rfl ?_
        refine q0 rfl (o_move ?_)
        refine q0 rfl (o_move ?_)
        refine q0 rfl (o_build (cs := [.int .u32 ((((⟨(maskLift ((c).pos) f b).2, (maskLift ((c).neg) f b).2⟩ : Cl)).pos : Nat) : Int), .int .u32 ((((⟨(maskLift ((c).pos) f b).2, (maskLift ((c).neg) f b).2⟩ : Cl)).neg : Nat) : Int)]) ?_)
        refine q0 rfl (o_st ?_)
        refine q0 rfl (o_assign ?_)
        refine rg_nil ?_
        refine retCT Tryz.func83 Tryz.results83 () rfl mm_ rfl rfl rfl rfl (by rw [hg]; rfl) (fun w hs => hs.none)
theorem rflift (l : List Cl) (a_l : SH) (f : Int) (b : Int) (hf : in64 f) (hb : in64 b) : Spec Tryz.prog 61 #[sl a_l (l.length), .int .i64 (f), .int .i64 (b)] [CL l a_l] [] (fun x : SH => .tuple #[sl x (formLift l f b).2.length, .int .i64 (formLift l f b).1]) (fun x : SH => [CL (formLift l f b).2 x]) (fun x : SH => []) := by
  refine spec_go (args := [sl a_l (l.length), .int .i64 (f), .int .i64 (b)]) Tryz.func61 Tryz.ntmps61 rfl (by exact Nat.le_of_ble_eq_true rfl) fun B hB => ?_
  refine go_openCL (l := l) (a := a_l) (fun hl1 hA1 hU1 => ?_)
  refine go_seq ?_
  refine go_region ⟨_, Tryz.func61⟩ rfl ?_
  refine q0 rfl (o_assign ?_)
  refine q0 rfl (o_assign ?_)
  refine rg_nil ?_
  refine go_seq ?_
  refine go_seq ?_
  refine go_region ⟨_, Tryz.func61⟩ rfl ?_
  refine q0 rfl (o_move ?_)
  refine q0 rfl (o_call Tryz.call67 (rfright l a_l ) (fun x13 => ?_))
  refine q0 rfl (o_not ?_)
  refine rg_nil ?_
  refine go_condI (fun h14 => ?_) (fun h14 => ?_)
  · have c14 : (!(fRight l)) = true := h14
    try simp only [sC, bne_iff_ne, beq_iff_eq, ne_eq] at c14
    have hg : formLift l f b = (2, []) := (by unfold formLift; rw [if_pos (by simpa using h14)])
    refine go_seq ?_
    refine go_region ⟨_, Tryz.func61⟩ rfl ?_
    refine q0 rfl (o_assign ?_)
    refine q0 rfl (o_assign ?_)
    refine rg_nil ?_
    refine ret2 Tryz.func61 Tryz.results61 wn_ wn_ (none, 0) (by rw [hg]; rfl) (fun w hs => by rw [hg]; exact (hs.nilCL 0).bare.less (by simp))
  · have c14 : (!(fRight l)) = false := h14
    try simp only [sC, bne_iff_ne, beq_iff_eq, ne_eq] at c14
    have hr : ¬ fRight l = false := (by simpa using h14)
    refine go_skip ?_
    refine go_seq ?_
    refine go_region ⟨_, Tryz.func61⟩ rfl ?_
    refine q0 rfl (o_assign ?_)
    refine rg_nil ?_
    refine go_seq ?_
    refine go_seq ?_
    refine go_region ⟨_, Tryz.func61⟩ rfl ?_
    refine q0 rfl (o_assign ?_)
    refine rg_nil ?_
    refine go_block ?_
    refine go_loopE (X := Nat × SH) (fun s_ => s_.1 ≤ l.length ∧ ∀ j, j < s_.1 → (clLift (l.getD j cl0) f b).1 = 0) (fun s_ => [(0, sl a_l (l.length)), (1, .int .i64 (f)), (2, .int .i64 (b)), (8, sl s_.2 (s_.1)), (9, .int .i64 ((s_.1 : Int)))]) (fun s_ G_ => G_) (fun s_ => [rowS 2 55 s_.2 (s_.1) (clFlat ((l.take s_.1).map fun c => (clLift c f b).2))]) (fun s_ => l.length - s_.1) (0, (none, 0)) (⟨Nat.zero_le _, fun j hj => absurd hj (Nat.not_lt_zero _)⟩) (by exact ⟨rfl, rfl, rfl, rfl, rfl, trivial⟩) ?_ ?_
    · exact fun w hs => (hs.rowS0 2 55)
    · intro ⟨i, a⟩ base0 ⟨hi9, hok⟩ next0
      dsimp only at  hi9  hok  next0 ⊢
      refine go_seq ?_
      refine go_seq ?_
      refine go_region ⟨_, Tryz.func61⟩ rfl ?_
      refine q0 rfl (o_move ?_)
      refine q0 rfl (o_move ?_)
      refine q0 rfl (o_len ?_)
      refine q0 rfl (o_lss ?_)
      refine rg_nil ?_
      refine go_condI (fun h18 => ?_) (fun h18 => ?_)
      · have c18 : (decide ((i : Int) < (l.length : Int))) = true := h18
        try simp only [sC, bne_iff_ne, beq_iff_eq, ne_eq] at c18
        have hu := hU1 _ (getD_mem (d := cl0) (show i < l.length by omega))
        refine go_skip ?_
        refine go_seq ?_
        refine go_block ?_
        refine go_seq ?_
        refine go_region ⟨_, Tryz.func61⟩ rfl ?_
        refine q0 rfl (o_move ?_)
        refine q0 rfl (o_move ?_)
        obtain ⟨bk2, o2, hav2⟩ := hA1 (by omega)
        refine q0 rfl (o_ixN ?_ (j := i))
        refine q0 rfl (o_ldC ?_)
        refine q0 rfl (o_move ?_)
        refine q0 rfl (o_move ?_)
        refine q0 rfl (o_call Tryz.call83 (rclift (l.getD i cl0) f b om_ om_ om_) (fun x28 => ?_))
        refine q0 rfl (o_move ?_)
        refine q0 rfl (o_extract ?_)
        refine q0 rfl (o_extract ?_)
        refine q0 rfl (o_new fun b10 => ?_)
        refine q0 rfl (o_st ?_)
        refine q0 rfl (o_assign ?_)
        refine rg_nil ?_
        refine go_seq ?_
        refine go_seq ?_
        refine go_region ⟨_, Tryz.func61⟩ rfl ?_
        refine q0 rfl (o_move ?_)
        refine q0 rfl (o_neI ?_)
        refine rg_nil ?_
        refine go_condI (fun h32 => ?_) (fun h32 => ?_)
        · have c32 : (decide (((clLift (l.getD i cl0) f b).1) ≠ 0)) = true := h32
          try simp only [sC, bne_iff_ne, beq_iff_eq, ne_eq] at c32
          have hfc : (foldC (fun c => clLift c f b) l) = ((clLift (l.getD i cl0) f b).1, []) := foldC_bad (by omega) hok (by simpa using h32)
          have hg : formLift l f b = ((clLift (l.getD i cl0) f b).1, []) := (by unfold formLift; rw [if_neg hr, if_pos (by rw [hfc]; simpa using h32), hfc])
          refine go_seq ?_
          refine go_region ⟨_, Tryz.func61⟩ rfl ?_
          refine q0 rfl (o_move ?_)
          refine q0 rfl (o_assign ?_)
          refine q0 rfl (o_assign ?_)
          refine rg_nil ?_
          refine ret2 Tryz.func61 Tryz.results61 wn_ wn_ (none, 0) (by rw [hg]; rfl) (fun w hs => by rw [hg]; exact (hs.nilCL 0).bare.less (by simp))
        · have c32 : (decide (((clLift (l.getD i cl0) f b).1) ≠ 0)) = false := h32
          try simp only [sC, bne_iff_ne, beq_iff_eq, ne_eq] at c32
          refine go_skip ?_
          refine go_region ⟨_, Tryz.func61⟩ rfl ?_
          refine q0 rfl (o_move ?_)
          refine q0 rfl (o_lds ?_)
          refine q0 rfl (o_lit1 fun b36 => ?_)
          refine q0 rfl (o_appS (fun a37 => ?_) (a := a) (n' := i))
          refine rg_state (fun w hs => ((hs.perm perm1).drop).snocC (c := ((clLift (l.getD i cl0) f b).2))) ?_
          refine q0 rfl (o_assign ?_)
          refine rg_nil ?_
          refine go_inBlock ?_
          refine go_region ⟨_, Tryz.func61⟩ rfl ?_
          refine q0 rfl (o_move ?_)
          refine q0 rfl (o_add ?_)
          refine q0 rfl (o_assign ?_)
          refine rg_nil ?_
          have hst : (l.take (i + 1)).map (fun c => (clLift c f b).2) = (l.take i).map (fun c => (clLift c f b).2) ++ [(clLift (l.getD i cl0) f b).2] := by rw [take_succ_getD (d := cl0) (by omega), List.map_append]; rfl
          refine go_state (fun w hs => ?_) (next0 (i + 1, a37) _ (⟨by omega, fun j hj => by rcases Nat.lt_succ_iff_lt_or_eq.mp hj with h | h; exact hok j h; subst h; simpa using h32⟩) (by omega) ⟨rfl, rfl, rfl, rfl, rfl, trivial⟩)
          rw [hst]
          exact ((hs.less (by simp +contextual)).dropR (A := [_]))
      · have c18 : (decide ((i : Int) < (l.length : Int))) = false := h18
        try simp only [sC, bne_iff_ne, beq_iff_eq, ne_eq] at c18
        have hie : i = l.length := by omega
        have hfc : (foldC (fun c => clLift c f b) l) = (0, l.map fun c => (clLift c f b).2) := foldC_ok (fun j hj => hok j (by omega))
        have hg : formLift l f b = leastF (l.map fun c => (clLift c f b).2) := (by unfold formLift; rw [if_neg hr, if_neg (by rw [hfc]; simp), hfc])
        have htk : l.take i = l := (by rw [hie, List.take_length])
        have hll : ((l.take i).map fun c => (clLift c f b).2).length = i := (by rw [List.length_map, htk, hie])
        refine go_exit rfl ?_
        refine go_seq ?_
        refine go_state (fun w hs => (hs.settleCL (l := ((l.take i).map fun c => (clLift c f b).2)) hB rfl (by rw [List.length_map, List.length_take]; omega) (by unfold reach at *; omega) (fun c hc => by obtain ⟨d, _, rfl⟩ := List.mem_map.mp hc; exact clLift_u32 d f b))) ?_
        refine go_region ⟨_, Tryz.func61⟩ rfl ?_
        refine q0 rfl (o_move ?_)
        refine q0 rfl (o_call Tryz.call84 ((by have h := rleast ((l.take i).map fun c => (clLift c f b).2) a; rw [hll] at h; exact h)) (fun x39 => ?_))
        refine q0 rfl (o_extract ?_)
        refine q0 rfl (o_extract ?_)
        refine q0 rfl (o_assign ?_)
        refine q0 rfl (o_assign ?_)
        refine rg_nil ?_
        refine ret2 Tryz.func61 Tryz.results61 wn_ wn_ x39 (by rw [hg, htk]; rfl) (fun w hs => by rw [hg, ← htk]; exact hs.bare.less (by rw [htk]; simp))
theorem rrow (l : List Cl) (a_l : SH) (f : Int) (b : Int) (hf : in64 f) (hb : in64 b) : Spec Tryz.prog 52 #[sl a_l (l.length), .int .i64 (f), .int .i64 (b)] [CL l a_l] [] (fun x : SH => .tuple #[sl x (formLift l f b).2.length, .int .i64 (formLift l f b).1]) (fun x : SH => [CL (formLift l f b).2 x]) (fun x : SH => []) := by
  refine spec_go (args := [sl a_l (l.length), .int .i64 (f), .int .i64 (b)]) Tryz.func52 Tryz.ntmps52 rfl (by exact Nat.le_of_ble_eq_true rfl) fun B hB => ?_
  refine go_openCL (l := l) (a := a_l) (fun hl1 hA1 hU1 => ?_)
  refine go_seq ?_
  refine go_region ⟨_, Tryz.func52⟩ rfl ?_
  refine q0 rfl (o_assign ?_)
  refine q0 rfl (o_assign ?_)
  refine rg_nil ?_
  refine go_seq ?_
  refine go_seq ?_
  refine go_region ⟨_, Tryz.func52⟩ rfl ?_
  refine q0 rfl (o_move ?_)
  refine q0 rfl (o_len ?_)
  refine q0 rfl (o_eqI ?_)
  refine rg_nil ?_
  refine go_condI (fun h10 => ?_) (fun h10 => ?_)
  · have c10 : (decide ((l.length : Int) = 0)) = true := h10
    try simp only [sC, bne_iff_ne, beq_iff_eq, ne_eq] at c10
    have hn : l = [] := List.eq_nil_of_length_eq_zero (by have h9 := h10; simp at h9; omega)
    have hg : formLift l f b = (0, []) := (by rw [hn, formLift_nil])
    refine go_seq ?_
    refine go_region ⟨_, Tryz.func52⟩ rfl ?_
    refine q0 rfl (o_assign ?_)
    refine q0 rfl (o_assign ?_)
    refine rg_nil ?_
    refine ret2 Tryz.func52 Tryz.results52 wn_ wn_ (none, 0) (by rw [hg]; rfl) (fun w hs => by rw [hg]; exact (hs.nilCL 0).bare.less (by simp))
  · have c10 : (decide ((l.length : Int) = 0)) = false := h10
    try simp only [sC, bne_iff_ne, beq_iff_eq, ne_eq] at c10
    refine go_skip ?_
    refine go_seq ?_
    refine go_region ⟨_, Tryz.func52⟩ rfl ?_
    refine q0 rfl (o_move ?_)
    refine q0 rfl (o_move ?_)
    refine q0 rfl (o_move ?_)
    refine q0 rfl (o_call Tryz.call61 (rflift l a_l f b om_ om_) (fun x14 => ?_))
    refine q0 rfl (o_extract ?_)
    refine q0 rfl (o_extract ?_)
    refine q0 rfl (o_assign ?_)
    refine q0 rfl (o_assign ?_)
    refine rg_nil ?_
    refine ret2 Tryz.func52 Tryz.results52 wn_ wn_ x14 rfl (fun w hs => hs.bare.less (by simp))
theorem rrowH (l : List Cl) (a : SH) (f b : Int) (hf : in64 f) (hb : in64 b) : Spec Tryz.prog 52 #[sl a l.length, .int .i64 f, .int .i64 b] [CL l a] [] (fun x : {x : (Int × List Cl) × SH // x.1 = formLift l f b} => .tuple #[sl x.1.2 x.1.1.2.length, .int .i64 x.1.1.1]) (fun x => [CL x.1.1.2 x.1.2]) (fun _ => []) :=
  Spec.hide (formLift l f b) (val := fun (r : Int × List Cl) (x : SH) => .tuple #[sl x r.2.length, .int .i64 r.1]) (N := fun (r : Int × List Cl) (x : SH) => [CL r.2 x]) (Ms1 := fun _ _ => []) (rrow l a f b hf hb)
theorem rbad (e : Int) (he : 0 ≤ e ∧ e ≤ 1000000) : Spec Tryz.prog 51 #[.int .i64 (e)] [] [] (fun _ : Unit => .agg (tc (refT e) nul nul nul).toArray) (fun _ : Unit => [RT (refT e) nul nul nul]) (fun _ : Unit => []) := by
  refine spec_go (args := [.int .i64 (e)]) Tryz.func51 Tryz.ntmps51 rfl (by exact Nat.le_of_ble_eq_true rfl) fun B hB => ?_
  refine go_seq ?_
  refine go_region ⟨_, Tryz.func51⟩ rfl ?_
  refine q0 rfl (o_new fun b2 => ?_)
  refine rg_nil ?_
  refine go_seq ?_
  refine go_region ⟨_, Tryz.func51⟩ rfl ?_
  refine q0 rfl (o_move ?_)
  refine q0 rfl (o_neg ?_)
  refine q0 rfl (o_build (cs := [.int .i64 (-e), .int .i64 (0), .string ((ByteArray.mk #[])), sl (none, 0) (0), sl (none, 0) (0), sl (none, 0) (0)]) ?_)
  refine q0 rfl (o_st ?_)
  refine rg_nil ?_
  refine retC Tryz.func51 Tryz.results51 () rfl mm_ rfl rfl rfl rfl (fun w hs => ((hs.leaf (-e) 0 ⟨#[]⟩ (by unfold in64; omega) (in_lit (by omega) (by omega)) (Nat.zero_le _)).bare.less (by simp [refT])))
end Go.Hy
namespace Go.Hy
set_option linter.unusedVariables false
set_option linter.unusedSimpArgs false
set_option linter.unusedSectionVars false
open Go.Proofs
set_option linter.unusedVariables false
set_option linter.unusedSimpArgs false
set_option maxRecDepth 100000
abbrev RLiftF (vb db : Int) (t : T) : Prop := ∀ (vr vk vs : SH) (v d : Int), fineT t → (0 ≤ vb ∧ vb ≤ 1000000) → (0 ≤ db ∧ in64 db) → (0 ≤ v ∧ v + size t ≤ 4000000000) → (0 ≤ d ∧ d + size t ≤ 4000000000) → Spec Tryz.prog 32 #[.agg (tc t vr vk vs).toArray, .int .i64 v, .int .i64 vb, .int .i64 d, .int .i64 db] [RT t vr vk vs] [] (fun x : {x : T × (SH × SH × SH) // x.1 = liftRes vb db t v d} => .agg (tc x.1.1 x.1.2.1 x.1.2.2.1 x.1.2.2.2).toArray) (fun x => [RT x.1.1 x.1.2.1 x.1.2.2.1 x.1.2.2.2]) (fun _ => [])
set_option maxHeartbeats 4000000 in
theorem rlift_walk (t : T) (vr_t vk_t vs_t : SH) (v : Int) (vb : Int) (d : Int) (db : Int) (ihk : ∀ k, k ∈ t.kids → RLiftF vb db k) (ihs : ∀ b, b ∈ t.sys → ∀ k, k ∈ b.kids → RLiftF vb db k) (hf : fineT t) (hvb : 0 ≤ vb ∧ vb ≤ 1000000) (hdb : 0 ≤ db ∧ in64 db) (hv : 0 ≤ v ∧ v + size t ≤ 4000000000) (hd : 0 ≤ d ∧ d + size t ≤ 4000000000) : Spec Tryz.prog 32 #[.agg (tc t vr_t vk_t vs_t).toArray, .int .i64 (v), .int .i64 (vb), .int .i64 (d), .int .i64 (db)] [RT t vr_t vk_t vs_t] [] (fun x : SH × SH × SH => .agg (tc (liftRes vb db t v d) x.1 x.2.1 x.2.2).toArray) (fun x : SH × SH × SH => [RT (liftRes vb db t v d) x.1 x.2.1 x.2.2]) (fun x : SH × SH × SH => []) := by
  refine spec_go (args := [.agg (tc t vr_t vk_t vs_t).toArray, .int .i64 (v), .int .i64 (vb), .int .i64 (d), .int .i64 (db)]) Tryz.func32 Tryz.ntmps32 rfl (by exact Nat.le_of_ble_eq_true rfl) fun B hB => ?_
  refine go_open (t := t) (vr := vr_t) (vk := vk_t) (vs := vs_t) (fun hk1 hn1 hm1 => ?_)
  refine go_openCL (l := (t).r) (a := vr_t) (fun hl2 hA2 hU2 => ?_)
  refine go_openTL (ts := (t).kids) (a := vk_t) (fun VR3 VK3 VS3 hl3 hA3 => ?_)
  refine go_openBL (bs := (t).sys) (a := vs_t) (fun VF4 VK4 hl4 hA4 => ?_)
  have hpz := size_pos' t
  refine go_seq ?_
  refine go_region ⟨_, Tryz.func32⟩ rfl ?_
  refine q0 rfl (o_box fun b5 => ?_)
  refine q0 rfl (o_new fun b10 => ?_)
  refine rg_nil ?_
  refine go_seq ?_
  refine go_state (fun w hs => ((hs.perm perm1).settleBox hB)) ?_
  refine go_region ⟨_, Tryz.func32⟩ rfl ?_
  refine q0 rfl (o_fa ?_)
  refine q0 rfl (o_ldg ?_)
  refine q0 rfl (o_fa ?_)
  refine q0 rfl (o_ldg ?_)
  refine q0 rfl (o_fa ?_)
  refine q0 rfl (o_ldg ?_)
  refine q0 rfl (o_build (cs := [.int .i64 ((t).kind), .int .i64 ((t).n), .string ((t).name), sl (none, 0) (0), sl (none, 0) (0), sl (none, 0) (0)]) ?_)
  refine q0 rfl (o_new fun b11 => ?_)
  refine q0 rfl (o_st ?_)
  refine rg_nil ?_
  refine go_seq ?_
  refine go_seq ?_
  refine go_cutS ([(1, .int .i64 (v)), (2, .int .i64 (vb)), (3, .int .i64 (d)), (4, .int .i64 (db)), (5, .pointer (some ⟨b5, 0, none⟩)), (10, .pointer (some ⟨b10, 0, none⟩)), (11, .pointer (some ⟨b11, 0, none⟩)), (39, .bool ((decide (((t).kind) = 1)) && (decide (v ≤ ((t).n)))))]) (fun hK => ?_) (fun base => ?_)
  · refine go_region ⟨_, Tryz.func32⟩ rfl ?_
    refine q0 rfl (o_fa ?_)
    refine q0 rfl (o_ldg ?_)
    refine q0 rfl (o_eqI ?_)
    refine q0 rfl (o_move ?_)
    refine qI rfl rfl rfl wl_ (fun hg34 => ?_) (fun hg34 => ?_)
    · have g34 : (decide (((t).kind) = 1)) = true := hg34
      try simp only [sC, bne_iff_ne, beq_iff_eq, ne_eq] at g34
      refine o_fa ?_
      refine qT rfl rfl rfl (o_ldg ?_)
      refine qT rfl rfl rfl (o_move ?_)
      refine qT rfl rfl rfl (o_geq ?_)
      refine q0 rfl (o_pickT ?_)
      refine rg_nil ?_
      exact hK _ ⟨rfl, rfl, rfl, rfl, rfl, rfl, rfl, dn_, trivial⟩
    · have g34 : (decide (((t).kind) = 1)) = false := hg34
      try simp only [sC, bne_iff_ne, beq_iff_eq, ne_eq] at g34
      refine qF rfl rfl rfl ?_
      refine qF rfl rfl rfl ?_
      refine qF rfl rfl rfl ?_
      refine q0 rfl (o_pickF ?_)
      refine rg_nil ?_
      exact hK _ ⟨rfl, rfl, rfl, rfl, rfl, rfl, rfl, dn_, trivial⟩
  · refine go_cutR (Ms' := [boxR b11 [.int .i64 ((t).kind), .int .i64 (liftN vb v t.kind t.n), .string ((t).name), sl (none, 0) (0), sl (none, 0) (0), sl (none, 0) (0)] 26, boxR b10 [.int .i64 (0), .int .i64 (0), .string ((ByteArray.mk #[])), sl (none, 0) (0), sl (none, 0) (0), sl (none, 0) (0)] 26]) (¬ (t.kind = 1 ∧ v ≤ t.n ∧ 1000000000 - vb < t.n)) ([(1, .int .i64 (v)), (2, .int .i64 (vb)), (3, .int .i64 (d)), (4, .int .i64 (db)), (5, .pointer (some ⟨b5, 0, none⟩)), (10, .pointer (some ⟨b10, 0, none⟩)), (11, .pointer (some ⟨b11, 0, none⟩))]) (fun hK => ?_) (fun hfar base => ?_)
    · refine go_condI (fun h39 => ?_) (fun h39 => ?_)
      · have c39 : ((decide (((t).kind) = 1)) && (decide (v ≤ ((t).n)))) = true := h39
        try simp only [sC, bne_iff_ne, beq_iff_eq, ne_eq] at c39
        refine go_seq ?_
        refine go_seq ?_
        refine go_region ⟨_, Tryz.func32⟩ rfl ?_
        refine q0 rfl (o_fa ?_)
        refine q0 rfl (o_ldg ?_)
        refine q0 rfl (o_move ?_)
        refine q0 rfl (o_sub ?_)
        refine q0 rfl (o_gtr ?_)
        refine rg_nil ?_
        refine go_condI (fun h44 => ?_) (fun h44 => ?_)
        · have c44 : (decide ((1000000000 - vb) < ((t).n))) = true := h44
          try simp only [sC, bne_iff_ne, beq_iff_eq, ne_eq] at c44
          have hk19 : t.kind = 1 ∧ v ≤ t.n ∧ 1000000000 - vb < t.n := by omega
          have hr0 : t.r = [] := ((fineT_iff.mp hf).1.2.2.1 hk19.1).1
          have hg : liftRes vb db t v d = refT 100 := liftRes_bad (trav_own_bad (lift_own_far (g := []) (by rw [hr0]; exact rowLift_nil _ _) hk19))
          refine go_seq ?_
          refine go_region ⟨_, Tryz.func32⟩ rfl ?_
          refine q0 rfl (o_call Tryz.call51 (rbad 100 om_) (fun x45 => ?_))
          refine q0 rfl (o_st ?_)
          refine rg_nil ?_
          refine retC Tryz.func32 Tryz.results32 (nul, nul, nul) rfl mm_ rfl rfl rfl (by rw [hg]) (fun w hs => by rw [hg]; exact hs.bare.less (by simp))
        · have c44 : (decide ((1000000000 - vb) < ((t).n))) = false := h44
          try simp only [sC, bne_iff_ne, beq_iff_eq, ne_eq] at c44
          refine go_skip ?_
          refine go_region ⟨_, Tryz.func32⟩ rfl ?_
          refine q0 rfl (o_fa ?_)
          refine q0 rfl (o_ldg ?_)
          refine q0 rfl (o_move ?_)
          refine q0 rfl (o_add ?_)
          refine q0 rfl (o_fa ?_)
          refine q0 rfl (o_stc ?_)
          refine rg_nil ?_
          refine go_ms (Ms' := [boxR b11 [.int .i64 ((t).kind), .int .i64 (liftN vb v t.kind t.n), .string ((t).name), sl (none, 0) (0), sl (none, 0) (0), sl (none, 0) (0)] 26, boxR b10 [.int .i64 (0), .int .i64 (0), .string ((ByteArray.mk #[])), sl (none, 0) (0), sl (none, 0) (0), sl (none, 0) (0)] 26]) (by rw [show liftN vb v t.kind t.n = t.n + vb from if_pos (by omega)]; rfl) ?_
          refine go_state (fun w hs => ((hs.perm perm1).perm perm1)) ?_
          exact hK (by omega) _ ⟨rfl, rfl, rfl, rfl, rfl, rfl, rfl, trivial⟩
      · have c39 : ((decide (((t).kind) = 1)) && (decide (v ≤ ((t).n)))) = false := h39
        try simp only [sC, bne_iff_ne, beq_iff_eq, ne_eq] at c39
        refine go_skip ?_
        refine go_ms (Ms' := [boxR b11 [.int .i64 ((t).kind), .int .i64 (liftN vb v t.kind t.n), .string ((t).name), sl (none, 0) (0), sl (none, 0) (0), sl (none, 0) (0)] 26, boxR b10 [.int .i64 (0), .int .i64 (0), .string ((ByteArray.mk #[])), sl (none, 0) (0), sl (none, 0) (0), sl (none, 0) (0)] 26]) (by rw [show liftN vb v t.kind t.n = t.n from if_neg (by omega)]; rfl) ?_
        refine go_state (fun w hs => ((hs.perm perm1).perm perm1)) ?_
        exact hK (by omega) _ ⟨rfl, rfl, rfl, rfl, rfl, rfl, rfl, trivial⟩
    · refine go_seq ?_
      refine go_region ⟨_, Tryz.func32⟩ rfl ?_
      refine q0 rfl (o_fa ?_)
      refine q0 rfl (o_ldg ?_)
      refine q0 rfl (o_move ?_)
      refine q0 rfl (o_move ?_)
      refine q0 rfl (o_call Tryz.call52 (rrowH ((t).r) vr_t d db om_ om_) (fun x56 => ?_))
      refine q0 rfl (o_move ?_)
      refine q0 rfl (o_extract ?_)
      refine q0 rfl (o_extract ?_)
      refine q0 rfl (o_assign ?_)
      refine q0 rfl (o_assign ?_)
      refine rg_nil ?_
      refine go_seq ?_
      refine go_seq ?_
      refine go_region ⟨_, Tryz.func32⟩ rfl ?_
      refine q0 rfl (o_move ?_)
      refine q0 rfl (o_neI ?_)
      refine rg_nil ?_
      refine go_condI (fun h60 => ?_) (fun h60 => ?_)
      · have c60 : (decide (x56.1.1.1 ≠ 0)) = true := h60
        try simp only [sC, bne_iff_ne, beq_iff_eq, ne_eq] at c60
        have hrl := rowLift_form (fine_row hf) hd.1 hdb.1
        rw [← x56.2, if_neg (by simpa using h60)] at hrl
        have hg : liftRes vb db t v d = refT x56.1.1.1 := liftRes_bad (trav_own_bad (lift_own_row hrl))
        refine go_seq ?_
        refine go_region ⟨_, Tryz.func32⟩ rfl ?_
        refine q0 rfl (o_move ?_)
        have hbp := form_pos (l := t.r) (f := d) (b := db)
        have hbl9 := form_le (l := t.r) (f := d) (b := db)
        rw [← x56.2] at hbp hbl9
        refine q0 rfl (o_call Tryz.call51 (rbad x56.1.1.1 om_) (fun x62 => ?_))
        refine q0 rfl (o_st ?_)
        refine rg_nil ?_
        refine retC Tryz.func32 Tryz.results32 (nul, nul, nul) rfl mm_ rfl rfl rfl (by rw [hg]) (fun w hs => by rw [hg]; exact hs.bare.less (by simp))
      · have c60 : (decide (x56.1.1.1 ≠ 0)) = false := h60
        try simp only [sC, bne_iff_ne, beq_iff_eq, ne_eq] at c60
        have hrl := rowLift_form (fine_row hf) hd.1 hdb.1
        rw [← x56.2, if_pos (by simpa using h60)] at hrl
        have hown := lift_own (vb := vb) (v := v) hrl hfar
        refine go_skip ?_
        refine go_seq ?_
        refine go_region ⟨_, Tryz.func32⟩ rfl ?_
        refine q0 rfl (o_move ?_)
        refine q0 rfl (o_fa ?_)
        refine q0 rfl (o_stc ?_)
        refine rg_nil ?_
        refine go_seq ?_
        refine go_seq ?_
        refine go_region ⟨_, Tryz.func32⟩ rfl ?_
        refine q0 rfl (o_assign ?_)
        refine rg_nil ?_
        refine go_block ?_
        refine go_loopE (X := Nat × SH × List TP) (fun s_ => s_.1 ≤ t.kids.length ∧ travL (liftTr vb db) t.kind 0 (t.kids.take s_.1) (v, d) = .ok (s_.2.2.map (·.1))) (fun s_ => [(1, .int .i64 (v)), (2, .int .i64 (vb)), (3, .int .i64 (d)), (4, .int .i64 (db)), (5, .pointer (some ⟨b5, 0, none⟩)), (10, .pointer (some ⟨b10, 0, none⟩)), (11, .pointer (some ⟨b11, 0, none⟩)), (14, .int .i64 ((s_.1 : Int)))]) (fun s_ G_ => AP s_.2.2 :: G_) (fun s_ => [rowS 6 26 s_.2.1 (s_.1) (tpFlat s_.2.2), boxR b11 [.int .i64 (t.kind), .int .i64 ((liftN vb v t.kind t.n)), .string (t.name), sl x56.1.2 ((x56.1.1.2).length), sl s_.2.1 (s_.1), sl (none, 0) (0)] 26, boxR b10 [.int .i64 (0), .int .i64 (0), .string ((ByteArray.mk #[])), sl (none, 0) (0), sl (none, 0) (0), sl (none, 0) (0)] 26]) (fun s_ => t.kids.length - s_.1) (0, (none, 0), []) (⟨by omega, by rw [List.take_zero, travL_nil]; rfl⟩) (by exact ⟨rfl, rfl, rfl, rfl, rfl, rfl, rfl, rfl, trivial⟩) ?_ ?_
        · exact fun w hs => ((hs.rowS0 6 26).apNil)
        · intro ⟨i, a, ps⟩ base0 ⟨hi, hks⟩ next0
          dsimp only at  hi  hks  next0 ⊢
          refine go_seq ?_
          refine go_seq ?_
          refine go_region ⟨_, Tryz.func32⟩ rfl ?_
          refine q0 rfl (o_move ?_)
          refine q0 rfl (o_fa ?_)
          refine q0 rfl (o_ldg ?_)
          refine q0 rfl (o_len ?_)
          refine q0 rfl (o_lss ?_)
          refine rg_nil ?_
          refine go_condI (fun h69 => ?_) (fun h69 => ?_)
          · have c69 : (decide ((i : Int) < ((t).kids.length : Int))) = true := h69
            try simp only [sC, bne_iff_ne, beq_iff_eq, ne_eq] at c69
            have hbi := binds_01 t.kind i
            have hsk := size_kid_lt (t := t) (i := i) (by omega)
            refine go_skip ?_
            refine go_seq ?_
            refine go_block ?_
            refine go_seq ?_
            refine go_region ⟨_, Tryz.func32⟩ rfl ?_
            refine q0 rfl (o_fa ?_)
            refine q0 rfl (o_ldg ?_)
            refine q0 rfl (o_move ?_)
            refine q0 rfl (o_call Tryz.call53 (rbinds_spec ((t).kind) (i : Int) ) (fun x76 => ?_))
            refine q0 rfl (o_move ?_)
            refine q0 rfl (o_extract ?_)
            refine q0 rfl (o_extract ?_)
            refine q0 rfl (o_assign ?_)
            refine q0 rfl (o_assign ?_)
            refine rg_nil ?_
            refine go_seq ?_
            refine go_kid (ts := (t).kids) (a := vk_t) (VR := VR3) (VK := VK3) (VS := VS3) i (by omega) ?_
            refine go_region ⟨_, Tryz.func32⟩ rfl ?_
            refine q0 rfl (o_fa ?_)
            refine q0 rfl (o_ldg ?_)
            refine q0 rfl (o_move ?_)
            obtain ⟨bk5, o5, hav5⟩ := hA3 (by omega)
            refine q0 rfl (o_ixN ?_ (j := i))
            refine q0 rfl (o_ldT ?_)
            refine q0 rfl (o_move ?_)
            refine q0 rfl (o_move ?_)
            refine q0 rfl (o_add ?_)
            refine q0 rfl (o_move ?_)
            refine q0 rfl (o_move ?_)
            refine q0 rfl (o_move ?_)
            refine q0 rfl (o_add ?_)
            refine q0 rfl (o_move ?_)
            refine q0 rfl (o_call Tryz.call32 ((ihk _ (getD_mem (show i < t.kids.length by omega))) (VR3 i) (VK3 i) (VS3 i) (v + ((binds ((t).kind) (i : Int)).1)) (d + ((binds ((t).kind) (i : Int)).2)) (fine_part hf (List.mem_of_getElem? (parts_kid t i (by omega)))) hvb hdb (by omega) (by omega)) (fun x92 => ?_))
            refine q0 rfl (o_new fun b17 => ?_)
            refine q0 rfl (o_st ?_)
            refine rg_nil ?_
            refine go_seq ?_
            refine go_seq ?_
            refine go_region ⟨_, Tryz.func32⟩ rfl ?_
            refine q0 rfl (o_fa ?_)
            refine q0 rfl (o_ld ?_)
            refine q0 rfl (o_lss ?_)
            refine rg_nil ?_
            refine go_condI (fun h95 => ?_) (fun h95 => ?_)
            · have c95 : (decide (((x92.1.1).kind) < 0)) = true := h95
              try simp only [sC, bne_iff_ne, beq_iff_eq, ne_eq] at c95
              obtain ⟨e, he0, he, hr⟩ := (liftRes_alt (vb := vb) (db := db) (v := (v + (binds t.kind i).1)) (d := (d + (binds t.kind i).2)) (fine_part hf (List.mem_of_getElem? (parts_kid t i (by omega))))).resolve_left (fun h9 => (by have h8 := h9.2; rw [← x92.2] at h8; have h7 := (show x92.1.1.kind < 0 from by simpa using h95); omega))
              have hg : liftRes vb db t v d = refT e := liftRes_bad (trav_kid_bad hown (by omega) hks lift_kid he)
              rw [← x92.2] at hr
              refine go_seq ?_
              refine go_region ⟨_, Tryz.func32⟩ rfl ?_
              refine q0 rfl (o_lds ?_)
              refine q0 rfl (o_st ?_)
              refine rg_nil ?_
              refine retC Tryz.func32 Tryz.results32 (x92.1.2.1, x92.1.2.2.1, x92.1.2.2.2) rfl mm_ rfl rfl rfl (by rw [hg, ← hr]; rfl) (fun w hs => by rw [hg, ← hr]; exact hs.bare.less (by simp))
            · have c95 : (decide (((x92.1.1).kind) < 0)) = false := h95
              try simp only [sC, bne_iff_ne, beq_iff_eq, ne_eq] at c95
              have hgk : trav (liftTr vb db) (t.kids.getD i t0) ((v + (binds t.kind i).1), (d + (binds t.kind i).2)) = .ok x92.1.1 := (by rcases (liftRes_alt (vb := vb) (db := db) (v := (v + (binds t.kind i).1)) (d := (d + (binds t.kind i).2)) (fine_part hf (List.mem_of_getElem? (parts_kid t i (by omega))))) with h9 | ⟨e, he0, _, hr⟩; (rw [x92.2]; exact h9.1); (exfalso; have h8 := refT_kind he0; rw [← hr, ← x92.2] at h8; have h7 := (show ¬ x92.1.1.kind < 0 from by simpa using h95); exact h7 h8))
              refine go_skip ?_
              refine go_region ⟨_, Tryz.func32⟩ rfl ?_
              refine q0 rfl (o_fa ?_)
              refine q0 rfl (o_ld ?_)
              refine q0 rfl (o_lds ?_)
              refine q0 rfl (o_lit1 fun b100 => ?_)
              refine q0 rfl (o_appS (fun a101 => ?_) (a := a) (n' := i))
              refine rg_state (fun w hs => ((hs.perm perm1).drop).snocT) ?_
              refine q0 rfl (o_fa ?_)
              refine q0 rfl (o_stc ?_)
              refine rg_nil ?_
              refine go_inBlock ?_
              refine go_region ⟨_, Tryz.func32⟩ rfl ?_
              refine q0 rfl (o_move ?_)
              refine q0 rfl (o_add ?_)
              refine q0 rfl (o_assign ?_)
              refine rg_nil ?_
              refine go_state (fun w hs => ?_) (next0 (i + 1, a101, ps ++ [(x92.1.1, x92.1.2.1, x92.1.2.2.1, x92.1.2.2.2)]) _ (⟨by omega, by rw [List.map_append, List.map_cons, List.map_nil]; exact trav_kid_ok (by omega) hks lift_kid hgk⟩) (by (try simp only); omega) ⟨rfl, rfl, rfl, rfl, rfl, rfl, rfl, rfl, trivial⟩)
              exact ((((((hs.apAdd (ps := ps) (t := x92.1.1) (vr := x92.1.2.1) (vk := x92.1.2.2.1) (vs := x92.1.2.2.2) mm_ mm_).less (by simp +contextual)).perm perm3).perm perm1).perm perm2).dropR (A := [_, _, _]))
          · have c69 : (decide ((i : Int) < ((t).kids.length : Int))) = false := h69
            try simp only [sC, bne_iff_ne, beq_iff_eq, ne_eq] at c69
            have hei : i = t.kids.length := by omega
            rw [hei, List.take_length] at hks
            have hkl : i = ps.length := by have h9 := travL_len hks; rw [List.length_map] at h9; omega
            have hmo := more_01 t.kind
            refine go_exit rfl ?_
            refine go_seq ?_
            refine go_seq ?_
            refine go_region ⟨_, Tryz.func32⟩ rfl ?_
            refine q0 rfl (o_assign ?_)
            refine rg_nil ?_
            refine go_block ?_
            refine go_loopE (X := Nat × SH × List BP) (fun s_ => s_.1 ≤ t.sys.length ∧ travB (liftTr vb db) t.kind (t.sys.take s_.1) (v, d) = .ok (s_.2.2.map (·.1))) (fun s_ => [(1, .int .i64 (v)), (2, .int .i64 (vb)), (3, .int .i64 (d)), (4, .int .i64 (db)), (5, .pointer (some ⟨b5, 0, none⟩)), (10, .pointer (some ⟨b10, 0, none⟩)), (11, .pointer (some ⟨b11, 0, none⟩)), (18, .int .i64 ((s_.1 : Int)))]) (fun s_ G_ => BPs s_.2.2 :: G_) (fun s_ => [rowS 2 58 s_.2.1 (s_.1) (bpFlat s_.2.2), rowS 6 26 a (i) (tpFlat ps), boxR b11 [.int .i64 (t.kind), .int .i64 ((liftN vb v t.kind t.n)), .string (t.name), sl x56.1.2 ((x56.1.1.2).length), sl a (i), sl s_.2.1 (s_.1)] 26, boxR b10 [.int .i64 (0), .int .i64 (0), .string ((ByteArray.mk #[])), sl (none, 0) (0), sl (none, 0) (0), sl (none, 0) (0)] 26]) (fun s_ => t.sys.length - s_.1) (0, (none, 0), []) (⟨by omega, by rw [List.take_zero, travB_nil]; rfl⟩) (by exact ⟨rfl, rfl, rfl, rfl, rfl, rfl, rfl, rfl, trivial⟩) ?_ ?_
            · exact fun w hs => ((hs.rowS0 2 58).bpNil)
            · intro ⟨s, a2, bs⟩ base1 ⟨hs1, hbs⟩ next1
              dsimp only at  hs1  hbs  next1 ⊢
              refine go_seq ?_
              refine go_seq ?_
              refine go_region ⟨_, Tryz.func32⟩ rfl ?_
              refine q0 rfl (o_move ?_)
              refine q0 rfl (o_fa ?_)
              refine q0 rfl (o_ldg ?_)
              refine q0 rfl (o_len ?_)
              refine q0 rfl (o_lss ?_)
              refine rg_nil ?_
              refine go_condI (fun h107 => ?_) (fun h107 => ?_)
              · have c107 : (decide ((s : Int) < ((t).sys.length : Int))) = true := h107
                try simp only [sC, bne_iff_ne, beq_iff_eq, ne_eq] at c107
                have hslt : s < t.sys.length := by omega
                refine go_skip ?_
                refine go_seq ?_
                refine go_block ?_
                refine go_seq ?_
                refine go_branch (bs := (t).sys) (a := vs_t) (VF := VF4) (VK := VK4) s (by omega) ?_
                refine go_openCL (l := (((t).sys).getD s br0).face) (a := VF4 s) (fun hl6 hA6 hU6 => ?_)
                refine go_openTL (ts := (((t).sys).getD s br0).kids) (a := VK4 s) (fun VR7 VK7 VS7 hl7 hA7 => ?_)
                refine go_region ⟨_, Tryz.func32⟩ rfl ?_
                refine q0 rfl (o_fa ?_)
                refine q0 rfl (o_ldg ?_)
                refine q0 rfl (o_move ?_)
                obtain ⟨bk8, o8, hav8⟩ := hA4 (by omega)
                refine q0 rfl (o_ixN ?_ (j := s))
                refine q0 rfl (o_fa ?_)
                refine q0 rfl (o_ldBf ?_)
                refine q0 rfl (o_move ?_)
                refine q0 rfl (o_move ?_)
                refine q0 rfl (o_call Tryz.call52 (rrowH ((((t).sys).getD s br0).face) (VF4 s) d db om_ om_) (fun x119 => ?_))
                refine q0 rfl (o_move ?_)
                refine q0 rfl (o_extract ?_)
                refine q0 rfl (o_extract ?_)
                refine q0 rfl (o_assign ?_)
                refine q0 rfl (o_assign ?_)
                refine rg_nil ?_
                refine go_seq ?_
                refine go_seq ?_
                refine go_region ⟨_, Tryz.func32⟩ rfl ?_
                refine q0 rfl (o_move ?_)
                refine q0 rfl (o_neI ?_)
                refine rg_nil ?_
                refine go_condI (fun h123 => ?_) (fun h123 => ?_)
                · have c123 : (decide (x119.1.1.1 ≠ 0)) = true := h123
                  try simp only [sC, bne_iff_ne, beq_iff_eq, ne_eq] at c123
                  have hrf := rowLift_form (face_row (fine_face hf (getD_mem (d := br0) hslt))) hd.1 hdb.1
                  rw [← x119.2, if_neg (by simpa using h123)] at hrf
                  have hg : liftRes vb db t v d = refT x119.1.1.1 := liftRes_bad (trav_sys_bad hown hks hslt hbs (.inl (lift_face_bad hrf)))
                  refine go_seq ?_
                  refine go_region ⟨_, Tryz.func32⟩ rfl ?_
                  refine q0 rfl (o_move ?_)
                  have hbp := form_pos (l := (t.sys.getD s br0).face) (f := d) (b := db)
                  have hbl9 := form_le (l := (t.sys.getD s br0).face) (f := d) (b := db)
                  rw [← x119.2] at hbp hbl9
                  refine q0 rfl (o_call Tryz.call51 (rbad x119.1.1.1 om_) (fun x125 => ?_))
                  refine q0 rfl (o_st ?_)
                  refine rg_nil ?_
                  refine retC Tryz.func32 Tryz.results32 (nul, nul, nul) rfl mm_ rfl rfl rfl (by rw [hg]) (fun w hs => by rw [hg]; exact hs.bare.less (by simp))
                · have c123 : (decide (x119.1.1.1 ≠ 0)) = false := h123
                  try simp only [sC, bne_iff_ne, beq_iff_eq, ne_eq] at c123
                  have hrf := rowLift_form (face_row (fine_face hf (getD_mem (d := br0) hslt))) hd.1 hdb.1
                  rw [← x119.2, if_pos (by simpa using h123)] at hrf
                  refine go_skip ?_
                  refine go_seq ?_
                  refine go_region ⟨_, Tryz.func32⟩ rfl ?_
                  refine q0 rfl (o_move ?_)
                  refine q0 rfl (o_build (cs := [sl x119.1.2 ((x119.1.1.2).length), sl (none, 0) (0)]) ?_)
                  refine q0 rfl (o_new fun b21 => ?_)
                  refine q0 rfl (o_st ?_)
                  refine rg_nil ?_
                  refine go_seq ?_
                  refine go_seq ?_
                  refine go_region ⟨_, Tryz.func32⟩ rfl ?_
                  refine q0 rfl (o_assign ?_)
                  refine rg_nil ?_
                  refine go_block ?_
                  refine go_loopE (X := Nat × SH × List TP) (fun s_ => s_.1 ≤ (t.sys.getD s br0).kids.length ∧ travS (liftTr vb db) t.kind ((t.sys.getD s br0).kids.take s_.1) (v, d) = .ok (s_.2.2.map (·.1))) (fun s_ => [(1, .int .i64 (v)), (2, .int .i64 (vb)), (3, .int .i64 (d)), (4, .int .i64 (db)), (5, .pointer (some ⟨b5, 0, none⟩)), (10, .pointer (some ⟨b10, 0, none⟩)), (11, .pointer (some ⟨b11, 0, none⟩)), (18, .int .i64 ((s : Int))), (21, .pointer (some ⟨b21, 0, none⟩)), (22, .int .i64 ((s_.1 : Int)))]) (fun s_ G_ => AP s_.2.2 :: G_) (fun s_ => [rowS 6 26 s_.2.1 (s_.1) (tpFlat s_.2.2), boxR b21 [sl x119.1.2 ((x119.1.1.2).length), sl s_.2.1 (s_.1)] 58, rowS 2 58 a2 (s) (bpFlat bs), rowS 6 26 a (i) (tpFlat ps), boxR b11 [.int .i64 (t.kind), .int .i64 ((liftN vb v t.kind t.n)), .string (t.name), sl x56.1.2 ((x56.1.1.2).length), sl a (i), sl a2 (s)] 26, boxR b10 [.int .i64 (0), .int .i64 (0), .string ((ByteArray.mk #[])), sl (none, 0) (0), sl (none, 0) (0), sl (none, 0) (0)] 26]) (fun s_ => (t.sys.getD s br0).kids.length - s_.1) (0, (none, 0), []) (⟨by omega, by rw [List.take_zero, travS_nil]; rfl⟩) (by exact ⟨rfl, rfl, rfl, rfl, rfl, rfl, rfl, rfl, rfl, rfl, trivial⟩) ?_ ?_
                  · exact fun w hs => ((hs.rowS0 6 26).apNil)
                  · intro ⟨k, a3, qs⟩ base2 ⟨hk19, hcs⟩ next2
                    dsimp only at  hk19  hcs  next2 ⊢
                    refine go_seq ?_
                    refine go_seq ?_
                    refine go_region ⟨_, Tryz.func32⟩ rfl ?_
                    refine q0 rfl (o_move ?_)
                    refine q0 rfl (o_fa ?_)
                    refine q0 rfl (o_ldg ?_)
                    refine q0 rfl (o_move ?_)
                    refine q0 rfl (o_ixN ?_ (j := s))
                    refine q0 rfl (o_fa ?_)
                    refine q0 rfl (o_ldBf ?_)
                    refine q0 rfl (o_len ?_)
                    refine q0 rfl (o_lss ?_)
                    refine rg_nil ?_
                    refine go_condI (fun h136 => ?_) (fun h136 => ?_)
                    · have c136 : (decide ((k : Int) < ((((t).sys).getD s br0).kids.length : Int))) = true := h136
                      try simp only [sC, bne_iff_ne, beq_iff_eq, ne_eq] at c136
                      have hsk := size_sys_lt (t := t) hslt (k := k) (by omega)
                      refine go_skip ?_
                      refine go_seq ?_
                      refine go_block ?_
                      refine go_seq ?_
                      refine go_kid (ts := (((t).sys).getD s br0).kids) (a := VK4 s) (VR := VR7) (VK := VK7) (VS := VS7) k (by omega) ?_
                      refine go_draw (pn := 1000000) (tn := false) (A := [0, 1, 0, 7, 15, 31, 0, 127, 255, 0, 0, 0, 0, 4096, 12288, 30720, 0, 131071, 0, 524287]) (l := [0, 1, 2, 3, 4, 5, 6, 7, 8, 9, 10, 11, 12, 13, 16, 14, 15, 17, 18]) (fin := [19]) Tab.mixed ⟨_, Tryz.func32⟩ (by decide +kernel) ?_
                      refine n0 rfl (v_fa ?_)
                      refine n0 rfl (f_ldg ?_)
                      refine n0 rfl (v_move ?_)
                      refine n0 rfl (v_ixN ?_ (j := s))
                      refine n0 rfl (v_fa ?_)
                      refine n0 rfl (v_ldBf ?_)
                      refine n0 rfl (v_move ?_)
                      obtain ⟨bk9, o9, hav9⟩ := hA7 (by omega)
                      refine n0 rfl (v_ixN ?_ (j := k))
                      refine n0 rfl (v_ldT ?_)
                      refine n0 rfl (v_move ?_)
                      refine n0 rfl (v_move ?_)
                      refine n0 rfl (v_move ?_)
                      refine n0 rfl (v_fa ?_)
                      refine n0 rfl (f_ldg ?_)
                      refine n0 rfl (v_move ?_)
                      refine n0 rfl (v_call Tryz.call54 (rmore_spec ((t).kind) ) (fun x153 => ?_))
                      refine n0 rfl (v_add ?_)
                      refine n0 rfl (v_call Tryz.call32 ((ihs _ (getD_mem hslt) _ (getD_mem (show k < (t.sys.getD s br0).kids.length by omega))) (VR7 k) (VK7 k) (VS7 k) v (d + (more ((t).kind))) (fine_part hf (List.mem_of_getElem? (parts_sys t s k hslt (by omega)))) hvb hdb (by omega) (by omega)) (fun x156 => ?_))
                      refine n0 rfl (v_new fun b23 => ?_)
                      refine NV.done ?_
                      refine q0 rfl (o_st ?_)
                      refine rg_nil ?_
                      refine go_seq ?_
                      refine go_seq ?_
                      refine go_region ⟨_, Tryz.func32⟩ rfl ?_
                      refine q0 rfl (o_fa ?_)
                      refine q0 rfl (o_ld ?_)
                      refine q0 rfl (o_lss ?_)
                      refine rg_nil ?_
                      refine go_condI (fun h159 => ?_) (fun h159 => ?_)
                      · have c159 : (decide (((x156.1.1).kind) < 0)) = true := h159
                        try simp only [sC, bne_iff_ne, beq_iff_eq, ne_eq] at c159
                        obtain ⟨e, he0, he, hr⟩ := (liftRes_alt (vb := vb) (db := db) (v := v) (d := (d + more t.kind)) (fine_part hf (List.mem_of_getElem? (parts_sys t s k hslt (by omega))))).resolve_left (fun h9 => (by have h8 := h9.2; rw [← x156.2] at h8; have h7 := (show x156.1.1.kind < 0 from by simpa using h159); omega))
                        have hg : liftRes vb db t v d = refT e := liftRes_bad (trav_sys_bad hown hks hslt hbs (.inr ⟨_, lift_face_ok hrf, travS_at_bad (by omega) hcs lift_kid (by rw [Int.add_zero]; exact he)⟩))
                        rw [← x156.2] at hr
                        refine go_seq ?_
                        refine go_region ⟨_, Tryz.func32⟩ rfl ?_
                        refine q0 rfl (o_lds ?_)
                        refine q0 rfl (o_st ?_)
                        refine rg_nil ?_
                        refine retC Tryz.func32 Tryz.results32 (x156.1.2.1, x156.1.2.2.1, x156.1.2.2.2) rfl mm_ rfl rfl rfl (by rw [hg, ← hr]; rfl) (fun w hs => by rw [hg, ← hr]; exact hs.bare.less (by simp))
                      · have c159 : (decide (((x156.1.1).kind) < 0)) = false := h159
                        try simp only [sC, bne_iff_ne, beq_iff_eq, ne_eq] at c159
                        have hgs : trav (liftTr vb db) ((t.sys.getD s br0).kids.getD k t0) (v, (d + more t.kind)) = .ok x156.1.1 := (by rcases (liftRes_alt (vb := vb) (db := db) (v := v) (d := (d + more t.kind)) (fine_part hf (List.mem_of_getElem? (parts_sys t s k hslt (by omega))))) with h9 | ⟨e, he0, _, hr⟩; (rw [x156.2]; exact h9.1); (exfalso; have h8 := refT_kind he0; rw [← hr, ← x156.2] at h8; have h7 := (show ¬ x156.1.1.kind < 0 from by simpa using h159); exact h7 h8))
                        refine go_skip ?_
                        refine go_region ⟨_, Tryz.func32⟩ rfl ?_
                        refine q0 rfl (o_fa ?_)
                        refine q0 rfl (o_ld ?_)
                        refine q0 rfl (o_lds ?_)
                        refine q0 rfl (o_lit1 fun b164 => ?_)
                        refine q0 rfl (o_appS (fun a165 => ?_) (a := a3) (n' := k))
                        refine rg_state (fun w hs => ((hs.perm perm1).drop).snocT) ?_
                        refine q0 rfl (o_fa ?_)
                        refine q0 rfl (o_stc ?_)
                        refine rg_nil ?_
                        refine go_inBlock ?_
                        refine go_region ⟨_, Tryz.func32⟩ rfl ?_
                        refine q0 rfl (o_move ?_)
                        refine q0 rfl (o_add ?_)
                        refine q0 rfl (o_assign ?_)
                        refine rg_nil ?_
                        refine go_state (fun w hs => ?_) (next2 (k + 1, a165, qs ++ [(x156.1.1, x156.1.2.1, x156.1.2.2.1, x156.1.2.2.2)]) _ (⟨by omega, by rw [List.map_append, List.map_cons, List.map_nil]; exact travS_at_ok (by omega) hcs lift_kid (by rw [Int.add_zero]; exact hgs)⟩) (by (try simp only); omega) ⟨rfl, rfl, rfl, rfl, rfl, rfl, rfl, rfl, rfl, rfl, trivial⟩)
                        exact (((((((((hs.apAdd (ps := qs) (t := x156.1.1) (vr := x156.1.2.1) (vk := x156.1.2.2.1) (vs := x156.1.2.2.2) mm_ mm_).less (by simp +contextual)).perm perm6).perm perm6).perm perm6).perm perm6).perm perm4).perm perm5).dropR (A := [_, _, _, _, _, _]))
                    · have c136 : (decide ((k : Int) < ((((t).sys).getD s br0).kids.length : Int))) = false := h136
                      try simp only [sC, bne_iff_ne, beq_iff_eq, ne_eq] at c136
                      have hek9 : k = (t.sys.getD s br0).kids.length := by omega
                      have hcs2 := hcs
                      rw [hek9, List.take_length] at hcs2
                      have hek : k = (qs.map (·.1)).length := by rw [travS_len hcs2]; exact hek9
                      refine go_ms (Ms' := [rowS 6 26 a3 ((qs.map (·.1)).length) (tpFlat qs), boxR b21 [sl x119.1.2 ((x119.1.1.2).length), sl a3 ((qs.map (·.1)).length)] 58, rowS 2 58 a2 (s) (bpFlat bs), rowS 6 26 a (i) (tpFlat ps), boxR b11 [.int .i64 (t.kind), .int .i64 ((liftN vb v t.kind t.n)), .string (t.name), sl x56.1.2 ((x56.1.1.2).length), sl a (i), sl a2 (s)] 26, boxR b10 [.int .i64 (0), .int .i64 (0), .string ((ByteArray.mk #[])), sl (none, 0) (0), sl (none, 0) (0), sl (none, 0) (0)] 26]) (by rw [hek]) ?_
                      refine go_exit rfl ?_
                      refine go_region ⟨_, Tryz.func32⟩ rfl ?_
                      refine q0 rfl (o_fa ?_)
                      refine q0 rfl (o_ld ?_)
                      refine q0 rfl (o_lds ?_)
                      refine q0 rfl (o_lit1 fun b170 => ?_)
                      refine q0 rfl (o_appS (fun a171 => ?_) (a := a2) (n' := s))
                      refine rg_state (fun w hs => ((hs.perm perm1).drop).snocB (b := (Br.mk x119.1.1.2 (qs.map (·.1)))) (vf := x119.1.2) (vk := a3)) ?_
                      refine q0 rfl (o_fa ?_)
                      refine q0 rfl (o_stc ?_)
                      refine rg_nil ?_
                      refine go_inBlock ?_
                      refine go_region ⟨_, Tryz.func32⟩ rfl ?_
                      refine q0 rfl (o_move ?_)
                      refine q0 rfl (o_add ?_)
                      refine q0 rfl (o_assign ?_)
                      refine rg_nil ?_
                      refine go_state (fun w hs => ?_) (next1 (s + 1, a171, bs ++ [(Br.mk x119.1.1.2 (qs.map (·.1)), x119.1.2, a3)]) _ (⟨by omega, by rw [List.map_append, List.map_cons, List.map_nil]; exact travB_at_ok hslt hbs (lift_face_ok hrf) hcs2⟩) (by (try simp only); omega) ⟨rfl, rfl, rfl, rfl, rfl, rfl, rfl, rfl, trivial⟩)
                      exact ((((((((((((((hs.perm perm5).perm perm5).perm perm5).perm perm4).perm perm4).perm perm5).settleTL (ps := qs) (ts := qs.map (·.1)) hB mm_ rfl rfl (by simp) (by unfold reach at *; omega)).bpAdd (ps := bs) (f := x119.1.1.2) (ks := qs.map (·.1)) (vf := x119.1.2) (vk := a3) mm_ mm_ mm_).less (by simp +contextual)).perm perm4).perm perm1).perm perm4).perm perm3).dropR (A := [_, _, _, _]))
              · have c107 : (decide ((s : Int) < ((t).sys.length : Int))) = false := h107
                try simp only [sC, bne_iff_ne, beq_iff_eq, ne_eq] at c107
                have hes : s = t.sys.length := by omega
                rw [hes, List.take_length] at hbs
                have hbl : s = bs.length := by have h9 := travB_all hbs; rw [List.length_map] at h9; omega
                refine go_exit rfl ?_
                refine go_seq ?_
                refine go_region ⟨_, Tryz.func32⟩ rfl ?_
                refine q0 rfl (o_lds ?_)
                refine q0 rfl (o_st ?_)
                refine rg_nil ?_
                have hg : liftRes vb db t v d = T.mk t.kind (liftN vb v t.kind t.n) t.name x56.1.1.2 (ps.map (·.1)) (bs.map (·.1)) := liftRes_ok (trav_ok_of hown hks hbs)
                refine retC Tryz.func32 Tryz.results32 (x56.1.2, a, a2) rfl mm_ rfl rfl rfl (by rw [hg]; simp only [tc, T.kind, T.n, T.name, T.r, T.kids, T.sys, List.length_map, hkl, hbl]; rfl) (fun w hs => ?_)
                have h2 := (((((hs.perm perm3).perm perm1).perm perm2).perm perm3).settleTL (ps := ps) (ts := ps.map (·.1)) hB mm_ rfl rfl hkl (by unfold reach at *; omega))
                have h3 := (h2.settleBL (ps := bs) (bs := bs.map (·.1)) hB mm_ rfl rfl hbl (by unfold reach at *; omega))
                rw [hg]
                exact ((h3.mkRT (k := t.kind) (n := liftN vb v t.kind t.n) (nm := t.name) (r := x56.1.1.2) (ks := ps.map (·.1)) (ss := bs.map (·.1)) (vr := x56.1.2) (vk := a) (vs := a2) hk1 (by unfold liftN; unfold in64 at *; split <;> omega) hm1 mm_ mm_ mm_).bare.less (by simp))
theorem rliftF {vb db : Int} : ∀ t : T, RLiftF vb db t := T.ind' fun t ihk ihs vr vk vs v d h1 h2 h3 h4 h5 =>
  Spec.hide (liftRes vb db t v d) (val := fun (r : T) (x : SH × SH × SH) => .agg (tc r x.1 x.2.1 x.2.2).toArray) (N := fun (r : T) (x : SH × SH × SH) => [RT r x.1 x.2.1 x.2.2]) (Ms1 := fun _ _ => []) (rlift_walk t vr vk vs v vb d db ihk ihs h1 h2 h3 h4 h5)
end Go.Hy
namespace Go.Hy
set_option linter.unusedVariables false
set_option linter.unusedSimpArgs false
set_option linter.unusedSectionVars false
open Go.Proofs
set_option linter.unusedVariables false
set_option linter.unusedSimpArgs false
set_option maxRecDepth 100000
theorem dimension_spec (i : Int) : Spec Tryz.prog 136 #[.int .i64 i] [] [] (fun _ : Unit => .bool (decide (0 ≤ i) && decide (i < 24))) (fun _ => []) (fun _ => []) := by
  refine spec_go (args := [.int .i64 i]) Tryz.func136 Tryz.ntmps136 rfl (by exact Nat.le_of_ble_eq_true rfl) fun B hB => ?_
  refine go_seq ?_
  refine go_region ⟨_, Tryz.func136⟩ rfl ?_
  refine q0 rfl (o_assign ?_)
  refine rg_nil ?_
  refine go_seq ?_
  refine go_region ⟨_, Tryz.func136⟩ rfl ?_
  refine q0 rfl (o_move ?_)
  refine q0 rfl (o_geq ?_)
  refine q0 rfl (o_move ?_)
  refine qI rfl rfl rfl wl_ (fun hg5 => o_move ?_) (fun hg5 => ?_)
  · refine qT rfl rfl rfl (o_lss ?_)
    refine q0 rfl (o_pickT ?_)
    refine q0 rfl (o_assign ?_)
    refine rg_nil ?_
    refine ret1 Tryz.func136 Tryz.results136 wn_ () (by first | (simp_all; done) | (simp_all; omega)) (fun w hs => hs.none)
  · refine qF rfl rfl rfl ?_
    refine q0 rfl (o_pickF ?_)
    refine q0 rfl (o_assign ?_)
    refine rg_nil ?_
    refine ret1 Tryz.func136 Tryz.results136 wn_ () (by first | (simp_all; done) | (simp_all; omega)) (fun w hs => hs.none)
theorem maskRight_spec (s : Nat) (hs : s < 4294967296) : Spec Tryz.prog 114 #[.int .u32 (s : Int)] [] [] (fun _ : Unit => .bool (decide (s < 16777216))) (fun _ => []) (fun _ => []) := by
  refine spec_go (args := [.int .u32 (s : Int)]) Tryz.func114 Tryz.ntmps114 rfl (by exact Nat.le_of_ble_eq_true rfl) fun B hB => ?_
  refine go_seq ?_
  refine go_region ⟨_, Tryz.func114⟩ rfl ?_
  refine q0 rfl (o_assign ?_)
  refine rg_nil ?_
  refine go_seq ?_
  refine go_region ⟨_, Tryz.func114⟩ rfl ?_
  refine q0 rfl (o_move ?_)
  refine q0 rfl (o_andNotU32 ?_ (b := 16777215))
  refine q0 rfl (o_eqI ?_ (b := 0))
  refine q0 rfl (o_assign ?_)
  refine rg_nil ?_
  refine ret1 Tryz.func114 Tryz.results114 wn_ () (by rw [andNot_zero hs]) (fun w hs => hs.none)
theorem withoutNone_spec (s : Nat) (hs : s < 4294967296) : Spec Tryz.prog 124 #[.int .u32 (s : Int), .int .i64 (-1)] [] [] (fun _ : Unit => .int .u32 ((s &&& 16777215 : Nat) : Int)) (fun _ => []) (fun _ => []) := by
  refine spec_go (args := [.int .u32 (s : Int), .int .i64 (-1)]) Tryz.func124 Tryz.ntmps124 rfl (by exact Nat.le_of_ble_eq_true rfl) fun B hB => ?_
  refine go_seq ?_
  refine go_region ⟨_, Tryz.func124⟩ rfl ?_
  refine q0 rfl (o_assign ?_)
  refine rg_nil ?_
  refine go_seq ?_
  refine go_region ⟨_, Tryz.func124⟩ rfl ?_
  refine q0 rfl (o_move ?_)
  refine q0 rfl (o_andU32 ?_ (b := 16777215))
  refine q0 rfl (o_assign ?_)
  refine rg_nil ?_
  refine go_seq ?_
  refine go_seq ?_
  refine go_region ⟨_, Tryz.func124⟩ rfl ?_
  refine q0 rfl (o_move ?_)
  refine q0 rfl (o_call Tryz.call136 (dimension_spec (-1)) (fun x8 => ?_))
  refine q0 rfl (o_not ?_)
  refine rg_nil ?_
  refine go_condI (fun h9 => ?_) (fun h9 => ?_)
  · refine go_seq ?_
    refine go_region ⟨_, Tryz.func124⟩ rfl ?_
    refine q0 rfl (o_move ?_)
    refine q0 rfl (o_assign ?_)
    refine rg_nil ?_
    refine ret1 Tryz.func124 Tryz.results124 wn_ () rfl (fun w hs => hs.none)
  · exact absurd h9 (by decide)
theorem fDims_spec : FDims := by
  intro l a
  refine spec_go (args := [sl a l.length]) Tryz.func112 Tryz.ntmps112 rfl (by exact Nat.le_of_ble_eq_true rfl) fun B hB => ?_
  refine go_openCL (l := l) (a := a) (fun hl1 hA1 hU1 => ?_)
  refine go_seq ?_
  refine go_region ⟨_, Tryz.func112⟩ rfl ?_
  refine q0 rfl (o_assign ?_)
  refine rg_nil ?_
  refine go_seq ?_
  refine go_region ⟨_, Tryz.func112⟩ rfl ?_
  refine q0 rfl (o_assign ?_)
  refine rg_nil ?_
  refine go_seq ?_
  refine go_seq ?_
  refine go_region ⟨_, Tryz.func112⟩ rfl ?_
  refine q0 rfl (o_move ?_)
  refine q0 rfl (o_len ?_)
  refine q0 rfl (o_move ?_)
  refine rg_nil ?_
  refine go_block ?_
  refine go_loopI (X := Nat) (fun i => i ≤ l.length) (fun i => [(3, .int .u32 (orUpto l i : Int)), (6, sl a l.length), (7, .int .i64 (l.length : Int)), (8, .int .i64 (i : Int))]) (fun i => [CL l a]) (fun i => []) (fun i => l.length - i) (0) (Nat.zero_le _) (by exact ⟨rfl, rfl, rfl, rfl, trivial⟩) ?_ ?_
  · exact fun w hs => hs.less (by simp)
  · intro i base0 hi next0
    refine go_seq ?_
    refine go_region ⟨_, Tryz.func112⟩ rfl ?_
    refine q0 rfl (o_lss ?_)
    refine rg_nil ?_
    refine go_seq ?_
    refine go_condI (fun h9 => ?_) (fun h9 => ?_)
    · have hlt : i < l.length := by have := of_decide_eq_true h9; omega
      obtain ⟨bk, o, hav⟩ := hA1 (by omega)
      have hu := hU1 _ (getD_mem (d := cl0) hlt)
      have hup := orUpto_lt hU1 i
      have hor : (l.getD i cl0).pos ||| (l.getD i cl0).neg < 4294967296 := Nat.or_lt_two_pow (n := 32) hu.1 hu.2
      refine go_skip ?_
      refine go_seq ?_
      refine go_block ?_
      refine go_seq ?_
      refine go_region ⟨_, Tryz.func112⟩ rfl ?_
      refine q0 rfl (o_ixN ?_)
      refine q0 rfl (o_ldC ?_)
      refine q0 rfl (o_new fun b5 => ?_)
      refine q0 rfl (o_st ?_)
      refine rg_nil ?_
      refine go_region ⟨_, Tryz.func112⟩ rfl ?_
      refine q0 rfl (o_move ?_)
      refine q0 rfl (o_fa ?_)
      refine q0 rfl (o_ld ?_)
      refine q0 rfl (o_fa ?_)
      refine q0 rfl (o_ld ?_)
      refine q0 rfl (o_orU32 ?_ (a := (l.getD i cl0).pos) (b := (l.getD i cl0).neg) (ha := hu.1) (hb := hu.2))
      refine q0 rfl (o_orU32 ?_ (a := orUpto l i) (b := (l.getD i cl0).pos ||| (l.getD i cl0).neg))
      refine q0 rfl (o_assign ?_)
      refine rg_nil ?_
      refine go_inBlock ?_
      refine go_region ⟨_, Tryz.func112⟩ rfl ?_
      refine q0 rfl (o_add ?_)
      refine q0 rfl (o_move ?_)
      refine rg_nil ?_
      refine go_state (fun w hs => ?_) (next0 (i + 1) _ hlt (by omega) ⟨by rw [orUpto_succ hlt]; rfl, rfl, rfl, rfl, trivial⟩)
      exact (hs.less (by simp)).bare
    · have hge : i = l.length := by have := of_decide_eq_false h9; omega
      refine go_exit rfl ?_
      refine go_seq ?_
      refine go_region ⟨_, Tryz.func112⟩ rfl ?_
      refine q0 rfl (o_move ?_)
      refine q0 rfl (o_call Tryz.call124 (withoutNone_spec (orUpto l i) (orUpto_lt hU1 i)) (fun x21 => ?_))
      refine q0 rfl (o_assign ?_)
      refine rg_nil ?_
      refine ret1 Tryz.func112 Tryz.results112 wn_ () (by rw [fDims_eq, ← hge]) (fun w hs => hs.none)
theorem clauseRight_spec (c : Cl) (hc : u32 c) : Spec Tryz.prog 97 #[.agg (clCells c).toArray] [] [] (fun _ : Unit => .bool (right24 c)) (fun _ => []) (fun _ => []) := by
  refine spec_go (args := [.agg (clCells c).toArray]) Tryz.func97 Tryz.ntmps97 rfl (by exact Nat.le_of_ble_eq_true rfl) fun B hB => ?_
  refine go_seq ?_
  refine go_region ⟨_, Tryz.func97⟩ rfl ?_
  refine q0 rfl (o_box fun b1 => ?_)
  refine q0 rfl (o_assign ?_)
  refine rg_nil ?_
  refine go_seq ?_
  refine go_region ⟨_, Tryz.func97⟩ rfl ?_
  refine q0 rfl (o_fa ?_)
  refine q0 rfl (o_ld ?_)
  refine q0 rfl (o_call Tryz.call114 (maskRight_spec c.pos hc.1) (fun x5 => ?_))
  refine q0 rfl (o_move ?_)
  refine qI rfl rfl rfl wl_ (fun hg6 => o_fa ?_) (fun hg6 => ?_)
  · refine qT rfl rfl rfl (o_ld ?_)
    refine qT rfl rfl rfl (o_call Tryz.call114 (maskRight_spec c.neg hc.2) (fun x9 => ?_))
    refine q0 rfl (o_pickT ?_)
    refine q0 rfl (o_assign ?_)
    refine rg_nil ?_
    refine ret1 Tryz.func97 Tryz.results97 wn_ () (by first | (simp_all [right24]; done) | (simp_all [right24]; intros; omega)) (fun w hs => hs.none)
  · refine qF rfl rfl rfl ?_
    refine qF rfl rfl rfl ?_
    refine q0 rfl (o_pickF ?_)
    refine q0 rfl (o_assign ?_)
    refine rg_nil ?_
    refine ret1 Tryz.func97 Tryz.results97 wn_ () (by first | (simp_all [right24]; done) | (simp_all [right24]; intros; omega)) (fun w hs => hs.none)
theorem clash_spec (c : Cl) (hc : u32 c) : Spec Tryz.prog 113 #[.agg (clCells c).toArray] [] [] (fun _ : Unit => .bool (clash c)) (fun _ => []) (fun _ => []) := by
  refine spec_go (args := [.agg (clCells c).toArray]) Tryz.func113 Tryz.ntmps113 rfl (by exact Nat.le_of_ble_eq_true rfl) fun B hB => ?_
  refine go_seq ?_
  refine go_region ⟨_, Tryz.func113⟩ rfl ?_
  refine q0 rfl (o_box fun b1 => ?_)
  refine q0 rfl (o_assign ?_)
  refine rg_nil ?_
  refine go_seq ?_
  refine go_region ⟨_, Tryz.func113⟩ rfl ?_
  refine q0 rfl (o_fa ?_)
  refine q0 rfl (o_ld ?_)
  refine q0 rfl (o_fa ?_)
  refine q0 rfl (o_ld ?_)
  refine q0 rfl (o_andU32 ?_ (a := c.pos) (b := c.neg) (ha := hc.1) (hb := hc.2))
  refine q0 rfl (o_neI ?_ (b := 0))
  refine q0 rfl (o_assign ?_)
  refine rg_nil ?_
  refine ret1 Tryz.func113 Tryz.results113 wn_ () (by simp only [clash]; congr 1; apply decide_eq_decide.mpr; omega) (fun w hs => hs.none)
theorem meet_spec (c d : Cl) (hc : u32 c) (hd : u32 d) : Spec Tryz.prog 117 #[.agg (clCells c).toArray, .agg (clCells d).toArray] [] [] (fun _ : Unit => .agg (clCells (meetC c d)).toArray) (fun _ => []) (fun _ => []) := by
  refine spec_go (args := [.agg (clCells c).toArray, .agg (clCells d).toArray]) Tryz.func117 Tryz.ntmps117 rfl (by exact Nat.le_of_ble_eq_true rfl) fun B hB => ?_
  refine go_seq ?_
  refine go_region ⟨_, Tryz.func117⟩ rfl ?_
  refine q0 rfl (o_box fun b2 => ?_)
  refine q0 rfl (o_box fun b3 => ?_)
  refine q0 rfl (o_new fun b4 => ?_)
  refine rg_nil ?_
  refine go_seq ?_
  refine go_region ⟨_, Tryz.func117⟩ rfl ?_
  refine q0 rfl (o_fa ?_)
  refine q0 rfl (o_ld ?_)
  refine q0 rfl (o_fa ?_)
  refine q0 rfl (o_ld ?_)
  refine q0 rfl (o_orU32 ?_ (a := c.pos) (b := d.pos) (ha := hc.1) (hb := hd.1))
  refine q0 rfl (o_fa ?_)
  refine q0 rfl (o_ld ?_)
  refine q0 rfl (o_fa ?_)
  refine q0 rfl (o_ld ?_)
  refine q0 rfl (o_orU32 ?_ (a := c.neg) (b := d.neg) (ha := hc.2) (hb := hd.2))
  refine q0 rfl (o_build (cs := clCells (meetC c d)) ?_)
  refine q0 rfl (o_st ?_)
  refine rg_nil ?_
  refine retC Tryz.func117 Tryz.results117 () rfl mm_ rfl rfl rfl rfl (fun w hs => hs.none)
theorem below_spec (c d : Cl) (hc : u32 c) (hd : u32 d) : Spec Tryz.prog 102 #[.agg (clCells c).toArray, .agg (clCells d).toArray] [] [] (fun _ : Unit => .bool (below c d)) (fun _ => []) (fun _ => []) := by
  refine spec_go (args := [.agg (clCells c).toArray, .agg (clCells d).toArray]) Tryz.func102 Tryz.ntmps102 rfl (by exact Nat.le_of_ble_eq_true rfl) fun B hB => ?_
  refine go_seq ?_
  refine go_region ⟨_, Tryz.func102⟩ rfl ?_
  refine q0 rfl (o_box fun b2 => ?_)
  refine q0 rfl (o_box fun b3 => ?_)
  refine q0 rfl (o_assign ?_)
  refine rg_nil ?_
  refine go_seq ?_
  refine go_draw (pn := 1000000) (tn := false) (A := [0, 0, 3, 0, 15, 31]) (l := [0, 1, 3, 2, 4, 5]) (fin := []) Tab.mixed ⟨_, Tryz.func102⟩ (by rfl) ?_
  refine n0 rfl (v_lds ?_)
  refine n0 rfl (v_lds ?_)
  refine n0 rfl (v_lds ?_)
  refine n0 rfl (v_call Tryz.call117 (meet_spec c d hc hd) (fun x7 => ?_))
  refine n0 rfl (v_eqC ?_ (c := meetC c d) (c' := c))
  refine n0 rfl (v_assign ?_)
  refine NV.done ?_
  refine rg_nil ?_
  refine ret1 Tryz.func102 Tryz.results102 wn_ () (by rw [below_meet]) (fun w hs => hs.none)
end Go.Hy
/-
  DERIVED: THE SHELF's CONTRACTS AT THIS DUMP, IN PLAIN WORDS (tools/lay-plain.mjs out of 'TryzSort.lean', which tools/lay-shelf.mjs wrote): THE SAME DECLARATIONS UNDER THE SAME NAMES: 'import', 'namespace', 'open', 'def', 'theorem' AND NOTHING ELSE: no command of the shelf's: FOR A HAND-IN. Each laying: the table of numbers ('.._ren') and one theorem, a field a fact of the dump's own or the kernel's comparison; each contract: ONE APPLICATION.
-/
namespace Go.Proofs
set_option linter.unusedVariables false
set_option linter.unusedSimpArgs false
set_option linter.unusedSectionVars false
open Go.Shelf
def Tryz.sortL_ren : Go.Shelf.Ren := ⟨fun | 6 => 103 | 15 => 119 | 14 => 118 | 28 => 133 | 29 => 134 | 20 => 125 | 21 => 126 | 22 => 127 | 23 => 128 | 24 => 129 | 25 => 130 | 26 => 131 | 27 => 132 | 46 => 137 | 47 => 138 | 48 => 139 | 49 => 140 | 50 => 141 | 57 => 142 | n => n, fun | 22 => 22 | 24 => 55 | 25 => 115 | 3 => 3 | 39 => 121 | 0 => 0 | 53 => 53 | 55 => 124 | 4 => 4 | 46 => 133 | 45 => 132 | 50 => 137 | 5 => 5 | 9 => 9 | 66 => 142 | 70 => 146 | 76 => 148 | 77 => 77 | n => n, fun | n => n⟩
theorem Tryz.sortL : Go.Proofs.SlLaysF0.n6 Tryz.prog Tryz.sortL_ren := {
  mixed := by kernel_rfl
  f6 := ⟨Tryz.f103.name, by decide, Tryz.func103.trans (congrArg some (by kernel_rfl))⟩
  f14 := ⟨Tryz.f118.name, by decide, Tryz.func118.trans (congrArg some (by kernel_rfl))⟩
  f15 := Tryz.func119.trans (congrArg some (by kernel_rfl))
  f20 := ⟨Tryz.f125.name, by decide, Tryz.func125.trans (congrArg some (by kernel_rfl))⟩
  f21 := ⟨Tryz.f126.name, by decide, Tryz.func126.trans (congrArg some (by kernel_rfl))⟩
  f22 := ⟨Tryz.f127.name, by decide, Tryz.func127.trans (congrArg some (by kernel_rfl))⟩
  f23 := ⟨Tryz.f128.name, by decide, Tryz.func128.trans (congrArg some (by kernel_rfl))⟩
  f24 := ⟨Tryz.f129.name, by decide, Tryz.func129.trans (congrArg some (by kernel_rfl))⟩
  f25 := ⟨Tryz.f130.name, by decide, Tryz.func130.trans (congrArg some (by kernel_rfl))⟩
  f26 := ⟨Tryz.f131.name, by decide, Tryz.func131.trans (congrArg some (by kernel_rfl))⟩
  f27 := ⟨Tryz.f132.name, by decide, Tryz.func132.trans (congrArg some (by kernel_rfl))⟩
  f28 := Tryz.func133.trans (congrArg some (by kernel_rfl))
  f29 := Tryz.func134.trans (congrArg some (by kernel_rfl))
  f46 := ⟨Tryz.f137.name, by decide, Tryz.func137.trans (congrArg some (by kernel_rfl))⟩
  f47 := Tryz.func138.trans (congrArg some (by kernel_rfl))
  f48 := Tryz.func139.trans (congrArg some (by kernel_rfl))
  f49 := ⟨Tryz.f140.name, by decide, Tryz.func140.trans (congrArg some (by kernel_rfl))⟩
  f50 := ⟨Tryz.f141.name, by decide, Tryz.func141.trans (congrArg some (by kernel_rfl))⟩
  f57 := ⟨Tryz.f142.name, by decide, Tryz.func142.trans (congrArg some (by kernel_rfl))⟩
  t0 := Tryz.underlying0
  a0 := Tryz.isAgg0
  z0 := Tryz.sizeOf0
  v0 := Tryz.zeroValue0
  t3 := Tryz.underlying3
  a3 := Tryz.isAgg3
  z3 := Tryz.sizeOf3
  v3 := Tryz.zeroValue3
  t4 := Tryz.underlying4
  a4 := Tryz.isAgg4
  z4 := Tryz.sizeOf4
  v4 := Tryz.zeroValue4
  t5 := Tryz.underlying5
  a5 := Tryz.isAgg5
  z5 := Tryz.sizeOf5
  v5 := Tryz.zeroValue5
  t9 := Tryz.underlying9
  a9 := Tryz.isAgg9
  z9 := Tryz.sizeOf9
  v9 := Tryz.zeroValue9
  t22 := Tryz.underlying22
  a22 := Tryz.isAgg22
  z22 := Tryz.sizeOf22
  v22 := Tryz.zeroValue22
  t25 := Tryz.underlying115
  a25 := Tryz.isAgg115
  z25 := Tryz.sizeOf115
  v25 := Tryz.zeroValue115
  t39 := Tryz.underlying121
  a39 := Tryz.isAgg121
  z39 := Tryz.sizeOf121
  v39 := Tryz.zeroValue121
  t45 := Tryz.underlying132
  a45 := Tryz.isAgg132
  z45 := Tryz.sizeOf132
  v45 := Tryz.zeroValue132
  t46 := Tryz.underlying133
  a46 := Tryz.isAgg133
  z46 := Tryz.sizeOf133
  v46 := Tryz.zeroValue133
  t50 := Tryz.underlying137
  a50 := Tryz.isAgg137
  z50 := Tryz.sizeOf137
  v50 := Tryz.zeroValue137
  t53 := Tryz.underlying53
  a53 := Tryz.isAgg53
  z53 := Tryz.sizeOf53
  v53 := Tryz.zeroValue53
  t55 := Tryz.underlying124
  a55 := Tryz.isAgg124
  z55 := Tryz.sizeOf124
  v55 := Tryz.zeroValue124
  t66 := Tryz.underlying142
  a66 := Tryz.isAgg142
  z66 := Tryz.sizeOf142
  v66 := Tryz.zeroValue142
  t70 := Tryz.underlying146
  a70 := Tryz.isAgg146
  z70 := Tryz.sizeOf146
  v70 := Tryz.zeroValue146
  t76 := Tryz.underlying148
  a76 := Tryz.isAgg148
  z76 := Tryz.sizeOf148
  v76 := Tryz.zeroValue148
  t77 := Tryz.underlying77
  a77 := Tryz.isAgg77
  z77 := Tryz.sizeOf77
  v77 := Tryz.zeroValue77 }
end Go.Proofs
namespace Go.Hy
set_option linter.unusedVariables false
set_option linter.unusedSimpArgs false
set_option linter.unusedSectionVars false
open Go.Proofs
set_option linter.unusedVariables false
set_option linter.unusedSimpArgs false
set_option maxRecDepth 100000
open Go.Shelf Go.RowKit Go.Lib Go.Sort
theorem isNaN_k (a : Int) (W : World) : Calls Tryz.prog 135 #[.int .u32 a] W fun e w' => e = .returned (.bool false) ∧ w' = W := by
  go_enter Tryz.func135, Tryz.ntmps135
  go_wp2
  go_ret
  exact ⟨by simp, rfl⟩
theorem compare_k (a b : Int) (W : World) : Calls Tryz.prog 120 #[.int .u32 a, .int .u32 b] W fun e w' => e = .returned (.int .i64 (compareInt a b)) ∧ w' = W := by
  go_enter Tryz.func120, Tryz.ntmps120
  go_wp2_with (go_at_call 135; refine (isNaN_k _ _).mono ?_; rintro e w' ⟨rfl, rfl⟩)
  all_goals (go_ret; refine ⟨?_, rfl⟩; unfold Lib.compareInt; (repeat' split) <;> first | rfl | (exfalso; omega))
def cmpC (c d : Cl) : Int := if c.pos = d.pos then compareInt c.neg d.neg else compareInt c.pos d.pos
set_option maxHeartbeats 1000000 in
theorem cmp_k (c d : Cl) (W : World) : Calls Tryz.prog 104 #[.agg #[.int .u32 c.pos, .int .u32 c.neg], .agg #[.int .u32 d.pos, .int .u32 d.neg]] W fun e w' => e = .returned (.int .i64 (cmpC c d)) ∧ ∃ q os', w' = grow (W.drewN q) os' := by
  have hcon := fun a b W' => compare_k a b W'
  have e1 : cmpC c d = if (c.pos : Int) = d.pos then compareInt c.neg d.neg else compareInt c.pos d.pos := by unfold cmpC; simp only [Int.ofNat_inj]
  generalize hr : cmpC c d = r at e1 ⊢
  go_enter Tryz.func104, Tryz.ntmps104
  go_wp2_with (go_at_call 120; refine (hcon _ _ _).mono ?_; rintro e w' ⟨rfl, rfl⟩)
  all_goals (go_ret; refine ⟨?_, 0, _, by rw [alloc_eq_grow, alloc_eq_grow, grow_grow]; rfl⟩)
  all_goals (rw [e1]; simp_all)
/-! ### The order of clauses -/
instance : Inhabited Cl := ⟨cl0⟩
theorem cmp_lt (c d : Cl) : ltOf cmpC c d = lessC c d := by
  unfold ltOf cmpC lessC compareInt
  by_cases h : c.pos = d.pos
  · simp only [h, if_true]
    by_cases h2 : c.neg < d.neg
    · rw [if_pos (by omega)]; simp [h2]
    · rw [if_neg (by omega)]
      split <;> simp [h2]
  · simp only [h, if_false]
    by_cases h2 : c.pos < d.pos
    · rw [if_pos (by omega)]; simp [h2]
    · rw [if_neg (by omega), if_pos (by omega)]
      simp [h2]
theorem cmp_swo : SWO (ltOf cmpC) where
  irrefl x := by rw [cmp_lt]; simp [lessC]
  trans x y z h1 h2 := by
    rw [cmp_lt] at *
    simp only [lessC, Bool.or_eq_true, Bool.and_eq_true, decide_eq_true_eq] at *
    omega
  ntrans x y z h1 h2 := by
    rw [cmp_lt] at *
    simp only [lessC, Bool.or_eq_false_iff, Bool.and_eq_false_iff, decide_eq_false_iff_not] at *
    omega
theorem flatK_toList (d : Array Cl) : (flatK clCells 2 d).toList = clFlat d.toList := by
  apply List.ext_getElem?
  intro t
  have hl : (clFlat d.toList).length = d.size * 2 := by rw [flat_len clCells_len]; simp
  by_cases ht : t < d.size * 2
  · have h1 : (flatK clCells 2 d).toList[t]? = some (clCells d[t / 2]!)[t % 2]! := by
      have hs : t < (flatK clCells 2 d).size := by rw [size_flatK]; exact ht
      rw [Array.getElem?_toList, Array.getElem?_eq_getElem hs]
      have := get_flatK clCells 2 d t ht
      rw [getElem!_pos _ t hs] at this
      rw [this]
    rw [h1]
    have hd : t / 2 < d.toList.length := by simp; omega
    have e : d.toList.getD (t / 2) cl0 = d[t / 2]! := by
      have : t / 2 < d.size := by simpa using hd
      rw [getElem!_pos d (t / 2) this, List.getD_eq_getElem?_getD, List.getElem?_eq_getElem hd]; simp
    have h2 : (clCells (d.toList.getD (t / 2) cl0))[t % 2]? = some (clCells d[t / 2]!)[t % 2]! := by
      rw [e]
      have : t % 2 < (clCells d[t / 2]!).length := by rw [clCells_len]; omega
      rw [List.getElem?_eq_getElem this, getElem!_pos (clCells d[t / 2]!) (t % 2) this]
    have := flat_at clCells_len cl0 d.toList (t / 2) (t % 2) _ hd h2
    rw [show t / 2 * 2 + t % 2 = t by omega] at this
    exact this.symm
  · rw [List.getElem?_eq_none (by simp; omega), List.getElem?_eq_none (by omega)]
theorem put_cells (d : Array Cl) (l : List Cl) (rest : List Value) (hs : d.size = l.length) : putCells id 0 (flatK clCells 2 d) (clFlat l ++ rest).toArray = (clFlat d.toList ++ rest).toArray := by
  apply Array.ext_getElem?
  intro t
  have hl : (clFlat l).length = d.size * 2 := by rw [flat_len clCells_len, hs]
  have hl2 : (clFlat d.toList).length = d.size * 2 := by rw [flat_len clCells_len]; simp
  simp only [putCells, Array.getElem?_mapIdx, List.getElem?_toArray, size_flatK, Nat.zero_add, Nat.zero_le, true_and, Nat.sub_zero, id]
  by_cases ht : t < d.size * 2
  · rw [List.getElem?_append_left (by omega), List.getElem?_append_left (by omega)]
    have h1 : (clFlat d.toList)[t]? = some (flatK clCells 2 d)[t]! := by
      rw [← flatK_toList, Array.getElem?_toList]
      have hsz : t < (flatK clCells 2 d).size := by rw [size_flatK]; exact ht
      rw [Array.getElem?_eq_getElem hsz, getElem!_pos _ t hsz]
    rw [h1]
    obtain ⟨v, hv⟩ : ∃ v, (clFlat l)[t]? = some v := ⟨_, List.getElem?_eq_getElem (by omega)⟩
    rw [hv, Option.map_some, if_pos ht]
  · rw [List.getElem?_append_right (by omega), List.getElem?_append_right (by omega), hl, hl2]
    cases rest[t - d.size * 2]? with
    | none => rfl
    | some v => rw [Option.map_some, if_neg ht]
/-- slices.SortFunc at clauses, by clause.Cmp: a row of the caller's own. -/
theorem sort_spec (l : List Cl) (g cap : Nat) (rest : List Value) (hn : l.length < 4611686018427387904) :
    Spec Tryz.prog 103 #[.slice (some ⟨g, 0, none⟩) l.length cap, .func (.func 104) #[] #[]] [] [boxR g (clFlat l ++ rest) 55] (fun _ : {l' : List Cl // l'.Perm l ∧ l'.Pairwise fun a b => lessC b a = false} => .tuple #[]) (fun _ => []) (fun x => [boxR g (clFlat x.1 ++ rest) 55]) := by
  intro ok w hok hs
  have hg : w.heap[g]? = some (.cells (clFlat l ++ rest).toArray 55 (0, 0)) := hs.res _ List.mem_cons_self w (fun _ _ => rfl)
  have hlt : g < w.heap.size := (Array.getElem?_eq_some_iff.mp hg).1
  have hu : Tryz.prog.underlying 55 = some (.struct (TyF.fC Tryz.prog)) := TyF.uC
  have aE : ∀ w, (isAgg (Tryz.sortL_ren.t 24)).run Tryz.prog w = .ok true w := fun w => by
    show (isAgg 55).run Tryz.prog w = _
    simp [isAgg, run_underlying hu]
  have zE : ∀ w, (Go.sizeOf (Tryz.sortL_ren.t 24)).run Tryz.prog w = .ok 2 w := fun w => run_size0 (P := Tryz.prog) (t := 55) rfl w
  have hH : HoldsK clCells 2 w g 0 l.toArray := by
    intro j hj
    rw [size_flatK] at hj
    have e : (flatK clCells 2 l.toArray).toList = clFlat l := by rw [flatK_toList]
    have hsz : j < (flatK clCells 2 l.toArray).size := by rw [size_flatK]; exact hj
    have h1 : (clFlat l)[j]? = some (flatK clCells 2 l.toArray)[j]! := by
      rw [← e, Array.getElem?_toList, Array.getElem?_eq_getElem hsz, getElem!_pos _ j hsz]
    refine ⟨?_, by simp [World.frozen?, hg]⟩
    have hlen : j < (clFlat l).length := (List.getElem?_eq_some_iff.mp h1).1
    simp only [World.cell?, hg, Nat.zero_add, Option.isSome_none, Bool.false_eq_true, if_false, List.getElem?_toArray, id]
    rw [List.getElem?_append_left hlen]; exact h1
  have hc := AnyQ.slices_SortFunc (P := Tryz.prog) Tryz.sortL 2 aE zE clCells clCells_len (fun x v hv => by
      simp only [clCells, List.mem_cons, List.not_mem_nil, or_false] at hv; rcases hv with rfl | rfl <;> rfl) cmpC cmp_swo 104 #[] g 0 cap l.toArray w Tryz.call104
    (fun m os dk hsz x y => cmp_k x y _) hH hlt (by simpa using hn)
  have hc2 : Calls Tryz.prog 103 #[.slice (some ⟨g, 0, none⟩) l.length cap, .func (.func 104) #[] #[]] w _ := hc
  refine hc2.mono ?_
  rintro e w' ⟨he, d', n, os, hp, hsd, hw⟩
  have hsize : d'.size = l.length := by simpa using hp.1
  have hperm : d'.toList.Perm l := by
    have := hp.2.2
    have e1 : d'.extract 0 l.toArray.size = d' := by rw [show l.toArray.size = d'.size by simp [hsize]]; simp
    have e2 : l.toArray.extract 0 l.toArray.size = l.toArray := by simp
    rw [e1, e2] at this
    exact this
  have hsorted : d'.toList.Pairwise fun a b => lessC b a = false := by
    rw [List.pairwise_iff_getElem]
    intro i j hi hj hij
    have hi' : i < d'.size := by simpa using hi
    have hj' : j < d'.size := by simpa using hj
    have := hsd i j (Nat.zero_le _) hij (by simp; omega)
    rw [cmp_lt, getElem!_pos d' j hj', getElem!_pos d' i hi'] at this
    simpa using this
  have hg' : w'.heap[g]? = some (.cells (clFlat d'.toList ++ rest).toArray 55 (0, 0)) := by
    rw [hw]
    show ((mapBlock (Go.Sort.ahead w n) g (putCells id 0 (flatK clCells 2 d'))).heap ++ os)[g]? = _
    rw [Array.getElem?_append_left (by simp [mapBlock, Go.Sort.ahead]; exact hlt)]
    simp only [mapBlock, Go.Sort.ahead, Array.getElem?_modify, if_true, hg, Option.map_some, onCells]
    rw [put_cells d' l rest hsize]
  have hold : ∀ b, b < w.heap.size → b ≠ g → w'.heap[b]? = w.heap[b]? := by
    intro b hb hne
    rw [hw]
    show ((mapBlock (Go.Sort.ahead w n) g (putCells id 0 (flatK clCells 2 d'))).heap ++ os)[b]? = _
    rw [Array.getElem?_append_left (by simp [mapBlock, Go.Sort.ahead]; exact hb)]
    simp only [mapBlock, Go.Sort.ahead, Array.getElem?_modify, if_neg (Ne.symm hne)]
  have hsz' : w.heap.size ≤ w'.heap.size := by rw [hw]; simp [sortWorldK, putRowK, Go.Sort.ahead]
  refine ⟨⟨d'.toList, hperm, hsorted⟩, he, ?_⟩
  have h0 : St ⟨ok, domAll [boxR g (clFlat l ++ rest) 55], w⟩ [] ([boxR g (clFlat l ++ rest) 55]) w := hs
  refine h0.turn (m' := boxR g (clFlat d'.toList ++ rest) 55) ⟨by rw [hw]; rfl, by rw [hw]; rfl, by rw [hw]; rfl, hsz', fun b hb hn => hold b hb hn⟩ (fun w2 hw2 => by
    show w2.heap[g]? = _
    rw [hw2 g rfl]; exact hg') (fun b hb => ?_)
  have hb : b = g := hb
  subst hb
  exact ⟨by omega, .inl rfl⟩
end Go.Hy
namespace Go.Hy
set_option linter.unusedVariables false
set_option linter.unusedSimpArgs false
set_option linter.unusedSectionVars false
open Go.Proofs
set_option linter.unusedVariables false
set_option linter.unusedSimpArgs false
set_option maxRecDepth 100000
theorem permNil {M : List Res} : M.Perm (M ++ []) := by rw [List.append_nil]
theorem index_spec (l : List Cl) (a : SH) (c : FuncId) (cap : List Value) (FΓ : List Fact) (M : List Res) (g : Cl → Bool) (hc : ∀ (args : Array Value) (w : World), (callFunc c args).run Tryz.prog w = .ok (.enter c args) w) (hcl : ∀ x, x ∈ l → Spec Tryz.prog c (keyV x :: cap).toArray FΓ M (fun _ : Unit => .bool (g x)) (fun _ => []) (fun _ => M)) : Spec Tryz.prog 116 #[sl a l.length, .func (.func c) #[] cap.toArray] (CL l a :: FΓ) M (fun _ : Unit => .int .i64 (idxP g l)) (fun _ => []) (fun _ => M) := by
  refine spec_go (args := [sl a l.length, .func (.func c) #[] cap.toArray]) Tryz.func116 Tryz.ntmps116 rfl (by exact Nat.le_of_ble_eq_true rfl) fun B hB => ?_
  refine go_openCL (l := l) (a := a) (fun hl1 hA1 hU1 => ?_)
  refine go_seq ?_
  refine go_region ⟨_, Tryz.func116⟩ rfl ?_
  refine q0 rfl (o_assign ?_)
  refine rg_nil ?_
  refine go_seq ?_
  refine go_seq ?_
  refine go_region ⟨_, Tryz.func116⟩ rfl ?_
  refine q0 rfl (o_move ?_)
  refine q0 rfl (o_len ?_)
  refine q0 rfl (o_move ?_)
  refine rg_nil ?_
  refine go_block ?_
  refine go_loopI (X := Nat) (fun i => i ≤ l.length ∧ ∀ j, j < i → g (l.getD j cl0) = false) (fun i => [(0, sl a l.length), (1, .func (.func c) #[] cap.toArray), (7, .int .i64 (l.length : Int)), (8, .int .i64 (i : Int))]) (fun i => CL l a :: FΓ) (fun i => M) (fun i => l.length - i) (0) (⟨Nat.zero_le _, fun j hj => by omega⟩) (by exact ⟨rfl, rfl, rfl, rfl, trivial⟩) ?_ ?_
  · exact fun w hs => hs
  · intro i base0 ⟨hi, hok⟩ next0
    refine go_seq ?_
    refine go_region ⟨_, Tryz.func116⟩ rfl ?_
    refine q0 rfl (o_lss ?_)
    refine rg_nil ?_
    refine go_seq ?_
    refine go_condI (fun h9 => ?_) (fun h9 => ?_)
    · have hlt : i < l.length := by have := of_decide_eq_true h9; omega
      obtain ⟨bk, o, hav⟩ := hA1 (by omega)
      refine go_skip ?_
      refine go_seq ?_
      refine go_block ?_
      refine go_seq ?_
      refine go_region ⟨_, Tryz.func116⟩ rfl ?_
      refine q0 rfl (o_move ?_)
      refine q0 rfl (o_assign ?_)
      refine rg_nil ?_
      refine go_seq ?_
      refine go_region ⟨_, Tryz.func116⟩ rfl ?_
      refine q0 rfl (o_move ?_)
      refine q0 rfl (o_move ?_)
      refine q0 rfl (o_move ?_)
      refine q0 rfl (o_ixN ?_)
      refine q0 rfl (o_ldC ?_)
      refine q0 rfl (o_callC hc (hcl _ (getD_mem hlt)) (cap := cap) (fun x16 => ?_) (hm := permNil))
      refine rg_nil ?_
      refine go_condI (fun h16 => ?_) (fun h16 => ?_)
      · refine go_seq ?_
        refine go_region ⟨_, Tryz.func116⟩ rfl ?_
        refine q0 rfl (o_move ?_)
        refine q0 rfl (o_assign ?_)
        refine rg_nil ?_
        refine ret1 Tryz.func116 Tryz.results116 wn_ () (by rw [idxP_at hlt h16 hok]) (fun w hs => (hs.less (by simp)).dropR)
      · refine go_skip ?_
        refine go_inBlock ?_
        refine go_region ⟨_, Tryz.func116⟩ rfl ?_
        refine q0 rfl (o_add ?_)
        refine q0 rfl (o_move ?_)
        refine rg_nil ?_
        refine go_state (fun w hs => ?_) (next0 (i + 1) _ ⟨hlt, fun j hj => (by rcases Nat.lt_succ_iff_lt_or_eq.mp hj with h | h; exact hok j h; subst h; exact h16)⟩ (by omega) ⟨rfl, rfl, rfl, rfl, trivial⟩)
        exact (hs.less (by simp +contextual)).dropR
    · have hge : i = l.length := by have := of_decide_eq_false h9; omega
      refine go_exit rfl ?_
      refine go_seq ?_
      refine go_region ⟨_, Tryz.func116⟩ rfl ?_
      refine q0 rfl (o_assign ?_)
      refine rg_nil ?_
      refine ret1 Tryz.func116 Tryz.results116 wn_ () (by rw [idxP_none (by rw [← hge]; exact hok)]) (fun w hs => hs.less (by simp))
theorem contains_spec (l : List Cl) (a : SH) (c : FuncId) (cap : List Value) (FΓ : List Fact) (M : List Res) (g : Cl → Bool) (hc : ∀ (args : Array Value) (w : World), (callFunc c args).run Tryz.prog w = .ok (.enter c args) w) (hcl : ∀ x, x ∈ l → Spec Tryz.prog c (keyV x :: cap).toArray FΓ M (fun _ : Unit => .bool (g x)) (fun _ => []) (fun _ => M)) : Spec Tryz.prog 100 #[sl a l.length, .func (.func c) #[] cap.toArray] (CL l a :: FΓ) M (fun _ : Unit => .bool (l.any g)) (fun _ => []) (fun _ => M) := by
  refine spec_go (args := [sl a l.length, .func (.func c) #[] cap.toArray]) Tryz.func100 Tryz.ntmps100 rfl (by exact Nat.le_of_ble_eq_true rfl) fun B hB => ?_
  refine go_seq ?_
  refine go_region ⟨_, Tryz.func100⟩ rfl ?_
  refine q0 rfl (o_assign ?_)
  refine rg_nil ?_
  refine go_seq ?_
  refine go_region ⟨_, Tryz.func100⟩ rfl ?_
  refine q0 rfl (o_move ?_)
  refine q0 rfl (o_move ?_)
  refine q0 rfl (o_call Tryz.call116 (index_spec l a c cap FΓ M g hc hcl) (fun x7 => ?_) (hm := permNil))
  refine q0 rfl (o_geq ?_)
  refine q0 rfl (o_assign ?_)
  refine rg_nil ?_
  refine ret1 Tryz.func100 Tryz.results100 wn_ () (by rw [idxP_nonneg]) (fun w hs => (hs.less (by simp)).dropR)
theorem least11_spec (c d : Cl) (hc : u32 c) (hd : u32 d) (b : Nat) : Spec Tryz.prog 101 #[keyV d, .pointer (some ⟨b, 0, none⟩)] [] [boxR b (clCells c) 55] (fun _ : Unit => .bool (!decide (c = d) && below c d)) (fun _ => []) (fun _ => [boxR b (clCells c) 55]) := by
  refine spec_go (args := [keyV d, .pointer (some ⟨b, 0, none⟩)]) Tryz.func101 Tryz.ntmps101 rfl (by exact Nat.le_of_ble_eq_true rfl) fun B hB => ?_
  refine go_seq ?_
  refine go_region ⟨_, Tryz.func101⟩ rfl ?_
  refine q0 rfl (o_box fun b2 => ?_)
  refine q0 rfl (o_assign ?_)
  refine rg_nil ?_
  refine go_seq ?_
  refine go_region ⟨_, Tryz.func101⟩ rfl ?_
  refine q0 rfl (o_lds ?_)
  refine q0 rfl (o_lds ?_)
  refine q0 rfl (o_neC ?_ (c := c) (c' := d))
  refine q0 rfl (o_move ?_)
  refine qI rfl rfl rfl wl_ (fun hg7 => o_lds ?_) (fun hg7 => ?_)
  · refine qT rfl rfl rfl (o_lds ?_)
    refine qT rfl rfl rfl (o_call Tryz.call102 (below_spec c d hc hd) (fun x10 => ?_))
    refine q0 rfl (o_pickT ?_)
    refine q0 rfl (o_assign ?_)
    refine rg_nil ?_
    refine ret1 Tryz.func101 Tryz.results101 wn_ () (by simp_all) (fun w hs => (hs.less (by simp)).drop)
  · refine qF rfl rfl rfl ?_
    refine qF rfl rfl rfl ?_
    refine q0 rfl (o_pickF ?_)
    refine q0 rfl (o_assign ?_)
    refine rg_nil ?_
    refine ret1 Tryz.func101 Tryz.results101 wn_ () (by simp_all) (fun w hs => (hs.less (by simp)).drop)
theorem least1_spec (l : List Cl) (a : SH) (c : Cl) (hc : u32 c) (b : Nat) : Spec Tryz.prog 99 #[keyV c, .pointer (some ⟨b, 0, none⟩)] [CL l a] [boxR b [sl a l.length] 22] (fun _ : Unit => .bool (needless l c)) (fun _ => []) (fun _ => [boxR b [sl a l.length] 22]) := by
  refine spec_go (args := [keyV c, .pointer (some ⟨b, 0, none⟩)]) Tryz.func99 Tryz.ntmps99 rfl (by exact Nat.le_of_ble_eq_true rfl) fun B hB => ?_
  refine go_openCL (l := l) (a := a) (fun hl1 hA1 hU1 => ?_)
  refine go_seq ?_
  refine go_region ⟨_, Tryz.func99⟩ rfl ?_
  refine q0 rfl (o_box fun b2 => ?_)
  refine q0 rfl (o_assign ?_)
  refine rg_nil ?_
  refine go_seq ?_
  refine go_region ⟨_, Tryz.func99⟩ rfl ?_
  refine q0 rfl (o_ld ?_)
  refine q0 rfl (o_func ?_)
  refine q0 rfl (o_call Tryz.call100 (contains_spec l a 101 [.pointer (some ⟨b2, 0, none⟩)] [] [boxR b2 (clCells c) 55] (fun d => !decide (c = d) && below c d) Tryz.call101 (fun d hd => least11_spec c d hc (hU1 d hd) b2)) (fun x6 => ?_))
  refine q0 rfl (o_assign ?_)
  refine rg_nil ?_
  refine ret1 Tryz.func99 Tryz.results99 wn_ () rfl (fun w hs => (hs.less (by simp)).drop)
end Go.Hy
namespace Go.Hy
set_option linter.unusedVariables false
set_option linter.unusedSimpArgs false
set_option linter.unusedSectionVars false
open Go.Proofs
set_option linter.unusedVariables false
set_option linter.unusedSimpArgs false
set_option maxRecDepth 100000
theorem clFlat_snoc (l : List Cl) (c : Cl) : clFlat (l ++ [c]) = clFlat l ++ clCells c := by simp [clFlat]
/-- slices.SortFunc at a row of the call's own. -/
theorem sortRow_spec (l : List Cl) (a : SH) (n : Nat) (hn : n = l.length) (hb : n * 8 ≤ reach) :
    Spec Tryz.prog 103 #[sl a n, .func (.func 104) #[] #[]] [] [rowS 2 55 a n (clFlat l)] (fun _ : {l' : List Cl // SortOf l l'} => .tuple #[]) (fun _ => []) (fun x => [rowS 2 55 a n (clFlat x.1)]) := by
  subst hn
  intro ok w hok hs
  have hown : w.ownsRow 0 55 2 (sl a l.length) l.length (clFlat l) := hs.res _ List.mem_cons_self w (fun _ _ => rfl)
  rcases hown.2 with ⟨h1, h2⟩ | ⟨g, cap, cur, h1, h2, h3, h4, h5, h6, h7⟩
  · have hl : l = [] := List.eq_nil_of_length_eq_zero h2
    subst hl
    have hc := AnyF.slices_SortFunc_none (P := Tryz.prog) Tryz.sortL a.1 a.2 (.func (.func 104) #[] #[]) w
    have hc2 : Calls Tryz.prog 103 #[sl a 0, .func (.func 104) #[] #[]] w _ := hc
    refine hc2.mono ?_
    rintro e w' ⟨he, hw⟩
    subst hw
    exact ⟨⟨[], List.Perm.refl _, List.Pairwise.nil⟩, he, hs⟩
  · obtain ⟨ao, ac⟩ := a
    have e1 : ao = some ⟨g, 0, none⟩ := by injection h1
    have e2 : ac = cap := by injection h1
    subst e1; subst e2
    have hfl : cur.toList = clFlat l ++ cur.toList.drop (l.length * 2) := by
      have := List.take_append_drop (l.length * 2) cur.toList
      rw [h7] at this; exact this.symm
    have hbox : St ⟨ok, domAll [rowS 2 55 (some ⟨g, 0, none⟩, ac) l.length (clFlat l)], w⟩ [] [boxR g (clFlat l ++ cur.toList.drop (l.length * 2)) 55] w := by
      refine hs.turn (m' := boxR g (clFlat l ++ cur.toList.drop (l.length * 2)) 55) (Chg.refl _ _) (fun w2 hw2 => ?_) (fun b hb => ?_)
      · show w2.heap[g]? = _
        rw [hw2 g rfl, ← hfl, Array.toArray_toList]; exact h3
      · have hb : b = g := hb
        subst hb
        exact ⟨(Array.getElem?_eq_some_iff.mp h3).1, .inl rfl⟩
    have hdom : ∀ b, domAll [rowS 2 55 (some ⟨g, 0, none⟩, ac) l.length (clFlat l)] b ↔ domAll [boxR g (clFlat l ++ cur.toList.drop (l.length * 2)) 55] b := by
      intro b
      rw [domAll_cons, domAll_cons]
      have : (rowS 2 55 (some ⟨g, 0, none⟩, ac) l.length (clFlat l)).dom b ↔ b = g := by
        show (sl (some ⟨g, 0, none⟩, ac) l.length).ownBlock = some b ↔ b = g
        simp only [sl, Value.ownBlock, Option.some.injEq]
        exact eq_comm
      rw [this]; rfl
    have hd2 : domAll [rowS 2 55 (some ⟨g, 0, none⟩, ac) l.length (clFlat l)] = domAll [boxR g (clFlat l ++ cur.toList.drop (l.length * 2)) 55] := funext fun b => propext (hdom b)
    rw [hd2] at hbox
    refine (sort_spec l g ac (cur.toList.drop (l.length * 2)) (by unfold reach at hb; omega) ok w (fun b hb => ⟨(hok b hb).1, by rw [← hd2]; exact (hok b hb).2⟩) hbox).mono ?_
    rintro e w' ⟨x, he, hs'⟩
    refine ⟨⟨x.1, x.2.1, x.2.2⟩, he, ?_⟩
    rw [hd2]
    have hlen : x.1.length = l.length := x.2.1.length_eq
    have hg : w'.heap[g]? = some (.cells (clFlat x.1 ++ cur.toList.drop (l.length * 2)).toArray 55 (0, 0)) := hs'.res _ List.mem_cons_self w' (fun _ _ => rfl)
    have hfl2 : (clFlat x.1).length = l.length * 2 := by rw [flat_len clCells_len, hlen]
    refine hs'.turn (m' := rowS 2 55 (some ⟨g, 0, none⟩, ac) l.length (clFlat x.1)) (Chg.refl _ _) (fun w2 hw2 => ⟨hfl2, .inr ⟨g, ac, (clFlat x.1 ++ cur.toList.drop (l.length * 2)).toArray, rfl, Nat.zero_le _, ?_, h4, h5, ?_, ?_⟩⟩) (fun b hb => ?_)
    · rw [hw2 g rfl]; exact hg
    · have h8 : cur.toList.length = ac * 2 := by simpa using h6
      simp only [List.size_toArray, List.length_append, List.length_drop, hfl2, h8]
      omega
    · rw [← hfl2, List.take_left]
    · have hb : (sl (some ⟨g, 0, none⟩, ac) l.length).ownBlock = some b := hb
      simp only [sl, Value.ownBlock, Option.some.injEq] at hb
      subst hb
      exact ⟨(Array.getElem?_eq_some_iff.mp hg).1, .inl rfl⟩
theorem least_own (l : List Cl) (a : SH) : Spec Tryz.prog 82 #[sl a l.length] [CL l a] [] (fun x : {x : SH × Int × List Cl // LeastIs l x.2} => .tuple #[sl x.1.1 x.1.2.2.length, .int .i64 x.1.2.1]) (fun _ => []) (fun x => [rowS 2 55 x.1.1 x.1.2.2.length (clFlat x.1.2.2)]) := by
  refine spec_go (args := [sl a l.length]) Tryz.func82 Tryz.ntmps82 rfl (by exact Nat.le_of_ble_eq_true rfl) fun B hB => ?_
  refine go_openCL (l := l) (a := a) (fun hl1 hA1 hU1 => ?_)
  refine go_seq ?_
  refine go_region ⟨_, Tryz.func82⟩ rfl ?_
  refine q0 rfl (o_assign ?_)
  refine q0 rfl (o_assign ?_)
  refine rg_nil ?_
  refine go_seq ?_
  refine go_region ⟨_, Tryz.func82⟩ rfl ?_
  refine q0 rfl (o_makeMap fun b12 => ?_)
  refine q0 rfl (o_assign ?_)
  refine rg_nil ?_
  refine go_seq ?_
  refine go_region ⟨_, Tryz.func82⟩ rfl ?_
  refine q0 rfl (o_new fun b5 => ?_)
  refine rg_nil ?_
  refine go_seq ?_
  refine go_seq ?_
  refine go_region ⟨_, Tryz.func82⟩ rfl ?_
  refine q0 rfl (o_move ?_)
  refine q0 rfl (o_len ?_)
  refine q0 rfl (o_move ?_)
  refine rg_nil ?_
  refine go_block ?_
  refine go_loopI (X := Nat × SH) (fun s => s.1 ≤ l.length ∧ ∀ j, j < s.1 → right24 (l.getD j cl0) = true) (fun s => [(4, .map (some b12)), (5, .pointer (some ⟨b5, 0, none⟩)), (13, sl a l.length), (14, .int .i64 (l.length : Int)), (15, .int .i64 (s.1 : Int))]) (fun s => [CL l a]) (fun s => [mapR b12 (once (l.take s.1)), boxR b5 [sl s.2 (once (l.take s.1)).length] 22, rowS 2 55 s.2 (once (l.take s.1)).length (clFlat (once (l.take s.1)))]) (fun s => l.length - s.1) ((0, (none, 0))) (⟨Nat.zero_le _, fun j hj => absurd hj (Nat.not_lt_zero _)⟩) (by exact ⟨rfl, rfl, rfl, rfl, rfl, trivial⟩) ?_ ?_
  · exact fun w hs => ((hs.less (by simp)).rowS0 2 55).perm (perm2.trans ((List.Perm.swap _ _ _).cons _))
  · intro ⟨i, aO⟩ base0 ⟨hi, hok⟩ next0
    dsimp only at hi hok next0 ⊢
    refine go_seq ?_
    refine go_region ⟨_, Tryz.func82⟩ rfl ?_
    refine q0 rfl (o_lss ?_)
    refine rg_nil ?_
    refine go_seq ?_
    refine go_condI (fun h16 => ?_) (fun h16 => ?_)
    · have hlt : i < l.length := by have := of_decide_eq_true h16; omega
      obtain ⟨bk, o, hav⟩ := hA1 (by omega)
      have hu := hU1 _ (getD_mem (d := cl0) hlt)
      have hol := once_take_len l i
      refine go_skip ?_
      refine go_seq ?_
      refine go_block ?_
      refine go_seq ?_
      refine go_region ⟨_, Tryz.func82⟩ rfl ?_
      refine q0 rfl (o_ixN ?_)
      refine q0 rfl (o_ldC ?_)
      refine q0 rfl (o_new fun b7 => ?_)
      refine q0 rfl (o_st ?_)
      refine rg_nil ?_
      refine go_seq ?_
      refine go_seq ?_
      refine go_region ⟨_, Tryz.func82⟩ rfl ?_
      refine q0 rfl (o_lds ?_)
      refine q0 rfl (o_call Tryz.call97 (clauseRight_spec (l.getD i cl0) hu) (fun x20 => ?_))
      refine q0 rfl (o_not ?_)
      refine rg_nil ?_
      refine go_condI (fun h21 => ?_) (fun h21 => ?_)
      · have hr : right24 (l.getD i cl0) = false := by simpa using h21
        refine go_seq ?_
        refine go_region ⟨_, Tryz.func82⟩ rfl ?_
        refine q0 rfl (o_assign ?_)
        refine q0 rfl (o_assign ?_)
        refine rg_nil ?_
        refine ret2 Tryz.func82 Tryz.results82 wn_ wn_ ⟨((none, 0), 2, []), by (unfold LeastIs; rw [all_not hlt hr]; rfl)⟩ rfl (fun w hs => (hs.less (Γ' := []) (by simp)).bare.rowS0 2 55)
      · have hr : right24 (l.getD i cl0) = true := by simpa using h21
        refine go_skip ?_
        refine go_seq ?_
        refine go_region ⟨_, Tryz.func82⟩ rfl ?_
        refine q0 rfl (o_move ?_)
        refine q0 rfl (o_lds ?_)
        refine q0 rfl (o_lookupM ?_)
        refine q0 rfl (o_not ?_)
        refine rg_nil ?_
        refine go_condI (fun h25 => ?_) (fun h25 => ?_)
        · have hnin : l.getD i cl0 ∉ once (l.take i) := by simpa using h25
          refine go_seq ?_
          refine go_region ⟨_, Tryz.func82⟩ rfl ?_
          refine q0 rfl (o_move ?_)
          refine q0 rfl (o_lds ?_)
          refine q0 rfl (o_mapUpd ?_)
          refine rg_nil ?_
          refine go_region ⟨_, Tryz.func82⟩ rfl ?_
          refine q0 rfl (o_ld ?_)
          refine q0 rfl (o_lds ?_)
          refine q0 rfl (o_lit1 fun b30 => ?_)
          refine q0 rfl (o_appS (fun a31 => ?_)  )
          refine q0 rfl (o_st ?_)
          refine rg_nil ?_
          refine go_inBlock ?_
          refine go_region ⟨_, Tryz.func82⟩ rfl ?_
          refine q0 rfl (o_add ?_)
          refine q0 rfl (o_move ?_)
          refine rg_nil ?_
          have hst := once_take_succ hlt
          rw [if_neg hnin] at hst
          have hlen' : (once (l.take (i + 1))).length = (once (l.take i)).length + 1 := by rw [hst]; simp
          refine go_state (fun w hs => ?_) (next0 (i + 1, a31) _ ⟨hlt, fun j hj => (by rcases Nat.lt_succ_iff_lt_or_eq.mp hj with h | h; exact hok j h; subst h; exact hr)⟩ (by simp only; omega) ⟨rfl, rfl, rfl, rfl, rfl, trivial⟩)
          dsimp only
          rw [hlen', hst, clFlat_snoc]
          exact ((hs.less (by simp)).perm perm3).dropR (A := [_, _, _])
        · refine go_skip ?_
          refine go_inBlock ?_
          refine go_region ⟨_, Tryz.func82⟩ rfl ?_
          refine q0 rfl (o_add ?_)
          refine q0 rfl (o_move ?_)
          refine rg_nil ?_
          have hin : l.getD i cl0 ∈ once (l.take i) := by simpa using h25
          have hst := once_take_succ hlt
          rw [if_pos hin] at hst
          refine go_state (fun w hs => ?_) (next0 (i + 1, aO) _ ⟨hlt, fun j hj => (by rcases Nat.lt_succ_iff_lt_or_eq.mp hj with h | h; exact hok j h; subst h; exact hr)⟩ (by simp only; omega) ⟨rfl, rfl, rfl, rfl, rfl, trivial⟩)
          dsimp only
          rw [hst]
          exact (hs.less (by simp)).drop
    · have hge : i = l.length := by have := of_decide_eq_false h16; omega
      have hall : l.all right24 = true := all_of (by rw [← hge]; exact hok)
      subst hge
      rw [List.take_length]
      have hUo : ∀ c, c ∈ once l → u32 c := fun c hc => hU1 c ((once_mem c l).mp hc)
      have hol := once_len l
      refine go_state (fun w hs => ((hs.perm perm2).settleCL hB rfl rfl (by omega) hUo)) ?_
      refine go_exit rfl ?_
      refine go_seq ?_
      refine go_region ⟨_, Tryz.func82⟩ rfl ?_
      refine q0 rfl (o_func ?_)
      refine q0 rfl (o_assign ?_)
      refine rg_nil ?_
      refine go_seq ?_
      refine go_region ⟨_, Tryz.func82⟩ rfl ?_
      refine q0 rfl (o_assign ?_)
      refine rg_nil ?_
      refine go_seq ?_
      refine go_seq ?_
      refine go_region ⟨_, Tryz.func82⟩ rfl ?_
      refine q0 rfl (o_ld ?_)
      refine q0 rfl (o_len ?_)
      refine q0 rfl (o_move ?_)
      refine rg_nil ?_
      refine go_block ?_
      refine go_loopI (X := Nat × SH) (fun s => s.1 ≤ (once l).length) (fun s => [(8, .func (.func 99) #[] [.pointer (some ⟨b5, 0, none⟩)].toArray), (9, sl s.2 (keptUpto l s.1).length), (34, sl aO (once l).length), (35, .int .i64 ((once l).length : Int)), (36, .int .i64 (s.1 : Int))]) (fun s => [CL (once l) aO]) (fun s => [boxR b5 [sl aO (once l).length] 22, rowS 2 55 s.2 (keptUpto l s.1).length (clFlat (keptUpto l s.1))]) (fun s => (once l).length - s.1) ((0, (none, 0))) (Nat.zero_le _) (by exact ⟨rfl, rfl, rfl, rfl, rfl, trivial⟩) ?_ ?_
      · exact fun w hs => (((hs.less (by simp +contextual)).rowS0 2 55).perm perm2).dropR (A := [_, _])
      · intro ⟨i, aK⟩ base1 hi next1
        dsimp only at hi next1 ⊢
        refine go_seq ?_
        refine go_region ⟨_, Tryz.func82⟩ rfl ?_
        refine q0 rfl (o_lss ?_)
        refine rg_nil ?_
        refine go_seq ?_
        refine go_condI (fun h37 => ?_) (fun h37 => ?_)
        · have hlt : i < (once l).length := by have := of_decide_eq_true h37; omega
          refine go_openCL (l := once l) (a := aO) (fun _ hA2 _ => ?_)
          obtain ⟨bk, o, hav⟩ := hA2 (by omega)
          have hu := hUo _ (getD_mem (d := cl0) hlt)
          have hkl := keptUpto_len l i
          refine go_skip ?_
          refine go_seq ?_
          refine go_block ?_
          refine go_seq ?_
          refine go_region ⟨_, Tryz.func82⟩ rfl ?_
          refine q0 rfl (o_ixN ?_)
          refine q0 rfl (o_ldC ?_)
          refine q0 rfl (o_new fun b11 => ?_)
          refine q0 rfl (o_st ?_)
          refine rg_nil ?_
          refine go_seq ?_
          refine go_region ⟨_, Tryz.func82⟩ rfl ?_
          refine q0 rfl (o_move ?_)
          refine q0 rfl (o_lds ?_)
          refine q0 rfl (o_callC Tryz.call99 (least1_spec (once l) aO ((once l).getD i cl0) hu b5) (cap := [.pointer (some ⟨b5, 0, none⟩)]) (fun x42 => ?_))
          refine q0 rfl (o_not ?_)
          refine rg_nil ?_
          refine go_condI (fun h43 => ?_) (fun h43 => ?_)
          · refine go_region ⟨_, Tryz.func82⟩ rfl ?_
            refine q0 rfl (o_move ?_)
            refine q0 rfl (o_lds ?_)
            refine q0 rfl (o_lit1 fun b46 => ?_)
            refine q0 rfl (o_appS (fun a47 => ?_)  )
            refine q0 rfl (o_assign ?_)
            refine rg_nil ?_
            refine go_inBlock ?_
            refine go_region ⟨_, Tryz.func82⟩ rfl ?_
            refine q0 rfl (o_add ?_)
            refine q0 rfl (o_move ?_)
            refine rg_nil ?_
            have hnd : needless (once l) ((once l).getD i cl0) = false := by simpa using h43
            have hst := keptUpto_succ hlt
            rw [hnd, if_neg (by decide)] at hst
            have hlen' : (keptUpto l (i + 1)).length = (keptUpto l i).length + 1 := by rw [hst]; simp
            refine go_state (fun w hs => ?_) (next1 (i + 1, a47) _ hlt (by simp only; omega) ⟨rfl, by rw [hlen']; rfl, rfl, rfl, rfl, trivial⟩)
            dsimp only
            rw [hlen', hst, clFlat_snoc]
            exact ((hs.less (by simp)).perm perm2).dropR (A := [_, _])
          · refine go_skip ?_
            refine go_inBlock ?_
            refine go_region ⟨_, Tryz.func82⟩ rfl ?_
            refine q0 rfl (o_add ?_)
            refine q0 rfl (o_move ?_)
            refine rg_nil ?_
            have hnd : needless (once l) ((once l).getD i cl0) = true := by simpa using h43
            have hst := keptUpto_succ hlt
            rw [hnd, if_pos rfl] at hst
            refine go_state (fun w hs => ?_) (next1 (i + 1, aK) _ hlt (by simp only; omega) ⟨rfl, by rw [hst]; rfl, rfl, rfl, rfl, trivial⟩)
            dsimp only
            rw [hst]
            exact (hs.less (by simp)).dropR (A := [_, _])
        · have hge2 : i = (once l).length := by have := of_decide_eq_false h37; omega
          subst hge2
          rw [keptUpto_all]
          refine go_exit rfl ?_
          refine go_seq ?_
          refine go_seq ?_
          refine go_region ⟨_, Tryz.func82⟩ rfl ?_
          refine q0 rfl (o_move ?_)
          refine q0 rfl (o_len ?_)
          refine q0 rfl (o_gtr ?_)
          refine rg_nil ?_
          refine go_condI (fun h51 => ?_) (fun h51 => ?_)
          · have h64 : 64 < (kept l).length := by have := of_decide_eq_true h51; omega
            refine go_seq ?_
            refine go_region ⟨_, Tryz.func82⟩ rfl ?_
            refine q0 rfl (o_assign ?_)
            refine q0 rfl (o_assign ?_)
            refine rg_nil ?_
            refine ret2 Tryz.func82 Tryz.results82 wn_ wn_ ⟨((none, 0), 3, []), by (unfold LeastIs; rw [hall, if_neg (by decide), if_pos h64])⟩ rfl (fun w hs => (hs.less (Γ' := []) (by simp)).bare.rowS0 2 55)
          · have h64 : ¬ 64 < (kept l).length := by have := of_decide_eq_false h51; omega
            refine go_skip ?_
            refine go_seq ?_
            refine go_region ⟨_, Tryz.func82⟩ rfl ?_
            refine q0 rfl (o_move ?_)
            refine q0 rfl (o_call Tryz.call103 (sortRow_spec (kept l) aK (kept l).length rfl (by unfold reach; omega)) (fun x53 => ?_))
            refine rg_nil ?_
            refine go_seq ?_
            refine go_region ⟨_, Tryz.func82⟩ rfl ?_
            refine q0 rfl (o_move ?_)
            refine q0 rfl (o_assign ?_)
            refine q0 rfl (o_assign ?_)
            refine rg_nil ?_
            have hpl : x53.1.length = (kept l).length := x53.2.1.length_eq
            refine ret2 Tryz.func82 Tryz.results82 wn_ wn_ ⟨(aK, 0, x53.1), by (unfold LeastIs; rw [hall, if_neg (by decide), if_neg h64]; exact ⟨rfl, x53.2⟩)⟩ (by rw [hpl]; rfl) (fun w hs => ?_)
            have h := (hs.less (Γ' := []) (by simp)).dropR (A := [_])
            rw [← hpl] at h
            exact h
theorem least_spec (l : List Cl) (a : SH) : Spec Tryz.prog 82 #[sl a l.length] [CL l a] [] (fun x : {x : SH × Int × List Cl // LeastIs l x.2} => .tuple #[sl x.1.1 x.1.2.2.length, .int .i64 x.1.2.1]) (fun x => [CL x.1.2.2 x.1.1]) (fun _ => []) := fun ok w hok hs => (least_own l a ok w hok hs).mono fun e w' h => by
  obtain ⟨x, he, hs'⟩ := h
  have hu := (hs.facts _ List.mem_cons_self).2
  have hx : x.1.2.2.length ≤ 64 ∧ ∀ c, c ∈ x.1.2.2 → u32 c := by
    have h := x.2
    unfold LeastIs at h
    split at h
    · rw [h]; exact ⟨Nat.zero_le _, fun c hc => by cases hc⟩
    · split at h
      · rw [h]; exact ⟨Nat.zero_le _, fun c hc => by cases hc⟩
      · rename_i h64
        exact ⟨by rw [h.2.1.length_eq]; omega, fun c hc => hu c (kept_mem (h.2.1.mem_iff.mp hc))⟩
  exact ⟨x, he, (hs'.settleCL trivial rfl rfl (by unfold reach; omega) hx.2).less (by simp)⟩
end Go.Hy
namespace Go.Hy
set_option linter.unusedVariables false
set_option linter.unusedSimpArgs false
set_option linter.unusedSectionVars false
open Go.Proofs
set_option linter.unusedVariables false
set_option linter.unusedSimpArgs false
set_option maxRecDepth 100000
theorem formRight_spec : FRight := by
  intro l a
  refine spec_go (args := [sl a l.length]) Tryz.func94 Tryz.ntmps94 rfl (by exact Nat.le_of_ble_eq_true rfl) fun B hB => ?_
  refine go_know (p := True) (fun _ _ => trivial) (fun _ => ?_)
  refine go_seq ?_
  refine go_region ⟨_, Tryz.func94⟩ rfl ?_
  refine q0 rfl (o_assign ?_)
  refine rg_nil ?_
  refine go_seq ?_
  refine go_region ⟨_, Tryz.func94⟩ rfl ?_
  refine q0 rfl (o_move ?_)
  refine q0 rfl (o_call Tryz.call82 (least_spec l a) (fun x7 => ?_))
  refine q0 rfl (o_move ?_)
  refine q0 rfl (o_extract ?_)
  refine q0 rfl (o_extract ?_)
  refine q0 rfl (o_assign ?_)
  refine q0 rfl (o_assign ?_)
  refine rg_nil ?_
  refine go_seq ?_
  refine go_region ⟨_, Tryz.func94⟩ rfl ?_
  refine q0 rfl (o_move ?_)
  refine q0 rfl (o_eqI ?_)
  refine q0 rfl (o_move ?_)
  refine qI rfl rfl rfl wl_ (fun hg12 => o_move ?_) (fun hg12 => ?_)
  · refine qT rfl rfl rfl (o_move ?_)
    refine qT rfl rfl rfl (o_call Tryz.call111 (equal_spec x7.1.2.2 l x7.1.1 a) (fun x15 => ?_))
    refine q0 rfl (o_pickT ?_)
    refine q0 rfl (o_assign ?_)
    refine rg_nil ?_
    have hlr := least_right x7.2
    refine ret1 Tryz.func94 Tryz.results94 wn_ () (by rw [← hlr]; simp_all) (fun w hs => hs.none)
  · refine qF rfl rfl rfl ?_
    refine qF rfl rfl rfl ?_
    refine q0 rfl (o_pickF ?_)
    refine q0 rfl (o_assign ?_)
    refine rg_nil ?_
    have hlr := least_right x7.2
    refine ret1 Tryz.func94 Tryz.results94 wn_ () (by rw [← hlr]; simp_all) (fun w hs => hs.none)
theorem faceRight_spec : FaceRight := by
  intro l a
  refine spec_go (args := [sl a l.length]) Tryz.func96 Tryz.ntmps96 rfl (by exact Nat.le_of_ble_eq_true rfl) fun B hB => ?_
  refine go_openCL (l := l) (a := a) (fun hl1 hA1 hU1 => ?_)
  refine go_seq ?_
  refine go_region ⟨_, Tryz.func96⟩ rfl ?_
  refine q0 rfl (o_assign ?_)
  refine rg_nil ?_
  refine go_seq ?_
  refine go_region ⟨_, Tryz.func96⟩ rfl ?_
  refine q0 rfl (o_move ?_)
  refine q0 rfl (o_call Tryz.call94 (formRight_spec l a) (fun x4 => ?_))
  refine q0 rfl (o_move ?_)
  refine qI rfl rfl rfl wl_ (fun hg5 => o_move ?_) (fun hg5 => ?_)
  · refine qT rfl rfl rfl (o_call Tryz.call100 (contains_spec l a 113 [] [] [] clash Tryz.call113 (fun x hx => clash_spec x (hU1 x hx))) (fun x7 => ?_))
    refine qT rfl rfl rfl (o_not ?_)
    refine q0 rfl (o_pickT ?_)
    refine q0 rfl (o_assign ?_)
    refine rg_nil ?_
    refine ret1 Tryz.func96 Tryz.results96 wn_ () (by simp_all [faceRight]) (fun w hs => hs.none)
  · refine qF rfl rfl rfl ?_
    refine qF rfl rfl rfl ?_
    refine q0 rfl (o_pickF ?_)
    refine q0 rfl (o_assign ?_)
    refine rg_nil ?_
    refine ret1 Tryz.func96 Tryz.results96 wn_ () (by simp_all [faceRight]) (fun w hs => hs.none)
theorem form_spec : FORM := ⟨formRight_spec, faceRight_spec, fDims_spec⟩
end Go.Hy
namespace Go.Hy
set_option linter.unusedVariables false
set_option linter.unusedSimpArgs false
set_option linter.unusedSectionVars false
open Go.Proofs
set_option linter.unusedVariables false
set_option linter.unusedSimpArgs false
set_option maxRecDepth 100000
theorem pow24 {m : Nat} (h : m ≤ 24) : 2 ^ m ≤ 16777216 := Nat.pow_le_pow_right (n := 2) (j := 24) (by omega) h
theorem below24 (i : Int) (h0 : 0 ≤ i) : Spec Tryz.prog 115 #[.int .i64 (i)] [] [] (fun _ : Unit => .int .u32 (((2 ^ (min i.toNat 24) - 1) : Nat) : Int)) (fun _ : Unit => []) (fun _ : Unit => []) := by
  refine spec_go (args := [.int .i64 (i)]) Tryz.func115 Tryz.ntmps115 rfl (by exact Nat.le_of_ble_eq_true rfl) fun B hB => ?_
  have hp := pow24 (m := min i.toNat 24) (by omega)
  have hpos : 0 < 2 ^ (min i.toNat 24) := Nat.pow_pos (by omega)
  refine go_seq ?_
  refine go_region ⟨_, Tryz.func115⟩ rfl ?_
  refine q0 rfl (o_assign ?_)
  refine rg_nil ?_
  refine go_seq ?_
  refine go_region ⟨_, Tryz.func115⟩ rfl ?_
  refine q0 rfl (o_move ?_)
  refine q0 rfl (o_min ?_)
  refine q0 rfl (o_convI6 ?_ (m := min i.toNat 24) (ha := by split <;> omega))
  refine q0 rfl (o_shl6 ?_ (a := 1) (m := min i.toNat 24) (hm := by omega) (hb := by omega))
  refine q0 rfl (o_sub6 ?_ (a := 1 * 2 ^ (min i.toNat 24)) (b := 1) (h := by omega) (ha := by omega))
  refine q0 rfl (o_conv6U ?_ (a := 1 * 2 ^ (min i.toNat 24) - 1) (ha := by omega))
  refine q0 rfl (o_assign ?_)
  refine rg_nil ?_
  refine ret1 Tryz.func115 Tryz.results115 wn_ () (by rw [Nat.one_mul]) (fun w hs => hs.none)
end Go.Hy
