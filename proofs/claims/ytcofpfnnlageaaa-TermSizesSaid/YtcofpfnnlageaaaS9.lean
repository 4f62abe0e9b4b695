/- Contracts of functions of this program, one theorem each (printed by a program of this repository). -/
import Derived.Test.YtcofpfnnlageaaaHyAuto
import Derived.Test.YtcofpfnnlageaaaHyTab
import Derived.Test.YtcofpfnnlageaaaHyTerm
import Derived.Test.YtcofpfnnlageaaaS8
import Derived.Test.YtcofpfnnlageaaaS6
namespace Go.Hy
set_option linter.unusedVariables false
set_option linter.unusedSimpArgs false
set_option linter.unusedSectionVars false
open Go.Proofs
set_option linter.unusedVariables false
set_option linter.unusedSimpArgs false
set_option maxRecDepth 100000
def varT (n : Int) : T := .mk 1 n ⟨#[]⟩ [] [] []
def lamT (t : T) : T := .mk 5 0 ⟨#[]⟩ [] [t] []
def appT (t u : T) : T := .mk 6 0 ⟨#[]⟩ [] [t, u] []
theorem right_l : rightP (lamT (varT 0)) 0 0 = 0 := by decide +kernel
theorem right_v : rightP (varT 0) 0 0 = 100 := by decide +kernel
theorem size_a : size (appT (varT 1) (lamT (varT 2))) = 4 := by decide +kernel
theorem uses_a1 : uses (appT (varT 1) (lamT (varT 2))) 1 = true := by decide +kernel
theorem uses_a0 : uses (appT (varT 1) (lamT (varT 2))) 0 = false := by decide +kernel
theorem in_lit {n : Int} (h : 0 ≤ n) (h2 : n ≤ 1000) : in64 n := by unfold in64; omega

theorem works10_spec  : Spec Try.prog 17 #[] [] [] (fun _ : Unit => .bool true) (fun _ => []) (fun _ => []) := by
  refine spec_go (args := []) Try.func17 Try.ntmps17 rfl (by exact Nat.le_of_ble_eq_true rfl) fun B hB => ?_
  refine go_seq ?_
  refine go_region ⟨_, Try.func17⟩ rfl ?_
  refine q0 rfl (o_assign ?_)
  refine rg_nil ?_
  refine go_seq ?_
  refine go_region ⟨_, Try.func17⟩ rfl ?_
  refine q0 rfl (o_build (cs := [.int .i64 1, .int .i64 0, .string ⟨#[]⟩, .slice none 0 0, .slice none 0 0, .slice none 0 0]) ?_)
  refine q0 rfl (o_lit1 fun b4 => ?_)
  refine q0 rfl (o_build (cs := [.int .i64 5, .int .i64 0, .string ⟨#[]⟩, .slice none 0 0, sl (some ⟨b4, 0, none⟩, 1) 1, .slice none 0 0]) ?_)
  refine q0 rfl (o_new fun b1 => ?_)
  refine q0 rfl (o_st ?_)
  refine rg_nil ?_
  refine go_seq ?_
  refine go_region ⟨_, Try.func17⟩ rfl ?_
  refine q0 rfl (o_build (cs := [.int .i64 1, .int .i64 1, .string ⟨#[]⟩, .slice none 0 0, .slice none 0 0, .slice none 0 0]) ?_)
  refine q0 rfl (o_build (cs := [.int .i64 1, .int .i64 2, .string ⟨#[]⟩, .slice none 0 0, .slice none 0 0, .slice none 0 0]) ?_)
  refine q0 rfl (o_lit1 fun b8 => ?_)
  refine q0 rfl (o_build (cs := [.int .i64 5, .int .i64 0, .string ⟨#[]⟩, .slice none 0 0, sl (some ⟨b8, 0, none⟩, 1) 1, .slice none 0 0]) ?_)
  refine q0 rfl (o_lit2 fun b10 => ?_)
  refine q0 rfl (o_build (cs := [.int .i64 6, .int .i64 0, .string ⟨#[]⟩, .slice none 0 0, sl (some ⟨b10, 0, none⟩, 2) 2, .slice none 0 0]) ?_)
  refine q0 rfl (o_new fun b2 => ?_)
  refine q0 rfl (o_st ?_)
  refine rg_nil ?_
  refine go_seq ?_
  refine go_state (Γ' := [RT (lamT (varT 0)) nul (some ⟨b4, 0, none⟩, 1) nul, RT (appT (varT 1) (lamT (varT 2))) nul (some ⟨b10, 0, none⟩, 2) nul, RT (varT 0) nul nul nul]) (Ms' := [boxR b2 (tc (appT (varT 1) (lamT (varT 2))) nul (some ⟨b10, 0, none⟩, 2) nul) 31, boxR b1 (tc (lamT (varT 0)) nul (some ⟨b4, 0, none⟩, 1) nul) 31]) (fun w hs => ?_) ?_
  · have g1 := (((hs.perm perm4).leaf 1 0 ⟨#[]⟩ (in_lit (by omega) (by omega)) (in_lit (by omega) (by omega)) (Nat.zero_le _)).lit1T (t := varT 0) (vr := nul) (vk := nul) (vs := nul) hB (by simp [varT]) rfl).node 5 0 [varT 0] (some ⟨b4, 0, none⟩, 1) (in_lit (by omega) (by omega)) (in_lit (by omega) (by omega)) (by simp)
    have g2 := (((g1.perm perm2).leaf 1 2 ⟨#[]⟩ (in_lit (by omega) (by omega)) (in_lit (by omega) (by omega)) (Nat.zero_le _)).lit1T (t := varT 2) (vr := nul) (vk := nul) (vs := nul) hB (by simp [varT]) rfl).node 5 0 [varT 2] (some ⟨b8, 0, none⟩, 1) (in_lit (by omega) (by omega)) (in_lit (by omega) (by omega)) (by simp)
    have g3 := (((g2.perm perm1).leaf 1 1 ⟨#[]⟩ (in_lit (by omega) (by omega)) (in_lit (by omega) (by omega)) (Nat.zero_le _)).lit2T (t := varT 1) (vr := nul) (vk := nul) (vs := nul) (u := lamT (varT 2)) (ur := nul) (uk := (some ⟨b8, 0, none⟩, 1)) (us := nul) hB (by simp [varT]) (by simp [lamT]) rfl).node 6 0 [varT 1, lamT (varT 2)] (some ⟨b10, 0, none⟩, 2) (in_lit (by omega) (by omega)) (in_lit (by omega) (by omega)) (by simp)
    exact g3.less (by simp [lamT, appT, varT])
  refine go_draw (tn := false) (A := [0, 1, 3, 7, 15, 31, 63, 127, 255, 511, 1023, 2047, 4095, 8191, 16383, 32767, 65535, 131071, 262143, 524287, 1048575, 2097151, 4194303, 8388607, 8388607, 25165823, 67108863, 134217727, 268435455]) (l := [0, 1, 2, 3, 4, 5, 6, 7, 8, 9, 10, 11, 12, 13, 14, 15, 16, 17, 18, 19, 20, 21, 22, 23, 24, 25, 26, 27, 28]) (fin := []) Tab.mixed ⟨_, Try.func17⟩ (by rfl) ?_
  refine n0 rfl (v_lds ?_)
  refine n0 rfl (v_call Try.call28 (right_spec (lamT (varT 0)) (.inl (by decide +kernel)) nul (some ⟨b4, 0, none⟩, 1) nul 0 0 (in_lit (by omega) (by omega)) (by decide +kernel)) (fun x13 => ?_))
  refine n0 rfl (v_eqI ?_)
  refine n0 rfl (v_move ?_)
  refine nI rfl rfl rfl (by conv => lhs; whnf) (fun hg15 => v_build (cs := [.int .i64 1, .int .i64 0, .string ⟨#[]⟩, .slice none 0 0, .slice none 0 0, .slice none 0 0]) ?_) (fun hg15 => ?_)
  · refine nT rfl rfl rfl (v_call Try.call28 (right_spec (varT 0) (.inl (by decide +kernel)) nul nul nul 0 0 (in_lit (by omega) (by omega)) (by decide +kernel)) (fun x17 => ?_))
    refine nT rfl rfl rfl (v_eqI ?_)
    refine n0 rfl (v_pickT ?_)
    refine n0 rfl (v_move ?_)
    refine nI rfl rfl rfl (by conv => lhs; whnf) (fun hg20 => v_lds ?_) (fun hg20 => ?_)
    · refine nT rfl rfl rfl (v_call Try.call21 (size_spec (appT (varT 1) (lamT (varT 2))) (by rw [size_a]; omega) nul (some ⟨b10, 0, none⟩, 2) nul) (fun x22 => ?_))
      refine nT rfl rfl rfl (v_eqI ?_)
      refine n0 rfl (v_pickT ?_)
      refine n0 rfl (v_move ?_)
      refine nI rfl rfl rfl (by conv => lhs; whnf) (fun hg25 => v_lds ?_) (fun hg25 => ?_)
      · refine nT rfl rfl rfl (v_call Try.call32 (uses_spec (appT (varT 1) (lamT (varT 2))) 1 nul (some ⟨b10, 0, none⟩, 2) nul (in_lit (by omega) (by omega))) (fun x27 => ?_))
        refine n0 rfl (v_pickT ?_)
        refine n0 rfl (v_move ?_)
        refine nI rfl rfl rfl (by conv => lhs; whnf) (fun hg29 => v_lds ?_) (fun hg29 => ?_)
        · refine nT rfl rfl rfl (v_call Try.call32 (uses_spec (appT (varT 1) (lamT (varT 2))) 0 nul (some ⟨b10, 0, none⟩, 2) nul (in_lit (by omega) (by omega))) (fun x31 => ?_))
          refine nT rfl rfl rfl (v_not ?_)
          refine n0 rfl (v_pickT ?_)
          refine n0 rfl (v_move ?_)
          refine nI rfl rfl rfl (by conv => lhs; whnf) (fun hg34 => v_lds ?_) (fun hg34 => ?_)
          · refine nT rfl rfl rfl (v_lds ?_)
            refine nT rfl rfl rfl (v_call Try.call20 (copy_spec (appT (varT 1) (lamT (varT 2))) nul (some ⟨b10, 0, none⟩, 2) nul) (fun x37 => ?_))
            refine nT rfl rfl rfl (v_call Try.call25 (same_spec (appT (varT 1) (lamT (varT 2))) (appT (varT 1) (lamT (varT 2))) nul (some ⟨b10, 0, none⟩, 2) nul x37.1 x37.2.1 x37.2.2) (fun x38 => ?_))
            refine n0 rfl (v_pickT ?_)
            refine n0 rfl (v_assign ?_)
            refine NV.done ?_
            refine rg_nil ?_
            refine ret1 Try.func17 Try.results17 (by first | ((conv => lhs; whnf); done) | rfl) () (by simp_all [right_l, right_v, size_a, uses_a1, uses_a0]) (fun w hs => hs.none)
          · refine nF rfl rfl rfl ?_
            refine nF rfl rfl rfl ?_
            refine nF rfl rfl rfl ?_
            refine n0 rfl (v_pickF ?_)
            refine n0 rfl (v_assign ?_)
            refine NV.done ?_
            refine rg_nil ?_
            refine ret1 Try.func17 Try.results17 (by first | ((conv => lhs; whnf); done) | rfl) () (by simp_all [right_l, right_v, size_a, uses_a1, uses_a0]) (fun w hs => hs.none)
        · refine nF rfl rfl rfl ?_
          refine nF rfl rfl rfl ?_
          refine n0 rfl (v_pickF ?_)
          refine n0 rfl (v_move ?_)
          refine nF rfl rfl rfl ?_
          refine nF rfl rfl rfl ?_
          refine nF rfl rfl rfl ?_
          refine nF rfl rfl rfl ?_
          refine n0 rfl (v_pickF ?_)
          refine n0 rfl (v_assign ?_)
          refine NV.done ?_
          refine rg_nil ?_
          refine ret1 Try.func17 Try.results17 (by first | ((conv => lhs; whnf); done) | rfl) () (by simp_all [right_l, right_v, size_a, uses_a1, uses_a0]) (fun w hs => hs.none)
      · refine nF rfl rfl rfl ?_
        refine n0 rfl (v_pickF ?_)
        refine n0 rfl (v_move ?_)
        refine nF rfl rfl rfl ?_
        refine nF rfl rfl rfl ?_
        refine nF rfl rfl rfl ?_
        refine n0 rfl (v_pickF ?_)
        refine n0 rfl (v_move ?_)
        refine nF rfl rfl rfl ?_
        refine nF rfl rfl rfl ?_
        refine nF rfl rfl rfl ?_
        refine nF rfl rfl rfl ?_
        refine n0 rfl (v_pickF ?_)
        refine n0 rfl (v_assign ?_)
        refine NV.done ?_
        refine rg_nil ?_
        refine ret1 Try.func17 Try.results17 (by first | ((conv => lhs; whnf); done) | rfl) () (by simp_all [right_l, right_v, size_a, uses_a1, uses_a0]) (fun w hs => hs.none)
    · refine nF rfl rfl rfl ?_
      refine nF rfl rfl rfl ?_
      refine n0 rfl (v_pickF ?_)
      refine n0 rfl (v_move ?_)
      refine nF rfl rfl rfl ?_
      refine nF rfl rfl rfl ?_
      refine n0 rfl (v_pickF ?_)
      refine n0 rfl (v_move ?_)
      refine nF rfl rfl rfl ?_
      refine nF rfl rfl rfl ?_
      refine nF rfl rfl rfl ?_
      refine n0 rfl (v_pickF ?_)
      refine n0 rfl (v_move ?_)
      refine nF rfl rfl rfl ?_
      refine nF rfl rfl rfl ?_
      refine nF rfl rfl rfl ?_
      refine nF rfl rfl rfl ?_
      refine n0 rfl (v_pickF ?_)
      refine n0 rfl (v_assign ?_)
      refine NV.done ?_
      refine rg_nil ?_
      refine ret1 Try.func17 Try.results17 (by first | ((conv => lhs; whnf); done) | rfl) () (by simp_all [right_l, right_v, size_a, uses_a1, uses_a0]) (fun w hs => hs.none)
  · refine nF rfl rfl rfl ?_
    refine nF rfl rfl rfl ?_
    refine n0 rfl (v_pickF ?_)
    refine n0 rfl (v_move ?_)
    refine nF rfl rfl rfl ?_
    refine nF rfl rfl rfl ?_
    refine nF rfl rfl rfl ?_
    refine n0 rfl (v_pickF ?_)
    refine n0 rfl (v_move ?_)
    refine nF rfl rfl rfl ?_
    refine nF rfl rfl rfl ?_
    refine n0 rfl (v_pickF ?_)
    refine n0 rfl (v_move ?_)
    refine nF rfl rfl rfl ?_
    refine nF rfl rfl rfl ?_
    refine nF rfl rfl rfl ?_
    refine n0 rfl (v_pickF ?_)
    refine n0 rfl (v_move ?_)
    refine nF rfl rfl rfl ?_
    refine nF rfl rfl rfl ?_
    refine nF rfl rfl rfl ?_
    refine nF rfl rfl rfl ?_
    refine n0 rfl (v_pickF ?_)
    refine n0 rfl (v_assign ?_)
    refine NV.done ?_
    refine rg_nil ?_
    refine ret1 Try.func17 Try.results17 (by first | ((conv => lhs; whnf); done) | rfl) () (by simp_all [right_l, right_v, size_a, uses_a1, uses_a0]) (fun w hs => hs.none)

def kidInts : List Int := [-1, 0, 0, 0, 2, 1, 2, 2, 2, 1, 1, 3, 1, 3, 2, 2, 1, 1, 1, 0, 0, 0, 4, 1, 0, 0, 1, 5, 2]
def kidTab : List Value := kidInts.map (fun z => .int .i64 z)
def kidPV : List (Nat × Value) := [(0, .int .i64 (-1)), (1, .int .i64 (0)), (2, .int .i64 (0)), (3, .int .i64 (0)), (4, .int .i64 (2)), (5, .int .i64 (1)), (6, .int .i64 (2)), (7, .int .i64 (2)), (8, .int .i64 (2)), (9, .int .i64 (1)), (10, .int .i64 (1)), (11, .int .i64 (3)), (12, .int .i64 (1)), (13, .int .i64 (3)), (14, .int .i64 (2)), (15, .int .i64 (2)), (16, .int .i64 (1)), (17, .int .i64 (1)), (18, .int .i64 (1)), (19, .int .i64 (0)), (20, .int .i64 (0)), (21, .int .i64 (0)), (22, .int .i64 (4)), (23, .int .i64 (1)), (24, .int .i64 (0)), (25, .int .i64 (0)), (26, .int .i64 (1)), (27, .int .i64 (5)), (28, .int .i64 (2))]
theorem kidFill : Instr.fill (fun i => some (i * 1, 1)) (Value.agg #[.int .i64 0, .int .i64 0, .int .i64 0, .int .i64 0, .int .i64 0, .int .i64 0, .int .i64 0, .int .i64 0, .int .i64 0, .int .i64 0, .int .i64 0, .int .i64 0, .int .i64 0, .int .i64 0, .int .i64 0, .int .i64 0, .int .i64 0, .int .i64 0, .int .i64 0, .int .i64 0, .int .i64 0, .int .i64 0, .int .i64 0, .int .i64 0, .int .i64 0, .int .i64 0, .int .i64 0, .int .i64 0, .int .i64 0]).cells kidPV = some kidTab.toArray := by kernel_rfl
theorem kidInts_get : ∀ n : Fin 29, kidInts[n.1]? = some (kidsN (n.1 : Int)) := by decide
theorem kidTab_get (n : Fin 29) : kidTab[n.1]? = some (.int .i64 (kidsN (n.1 : Int))) := by
  unfold kidTab; rw [List.getElem?_map, kidInts_get n]; rfl
theorem kidTab_at {k : Int} (h0 : 0 ≤ k) (h1 : k < 29) : kidTab[0 + k.toNat * 1]? = some (.int .i64 (kidsN k)) := by
  have := kidTab_get ⟨k.toNat, by omega⟩
  simp only [Int.toNat_of_nonneg h0] at this
  rw [Nat.zero_add, Nat.mul_one]; exact this
theorem kidsN_out {k : Int} (h : k < 0 ∨ 28 < k) : kidsN k = -1 := by
  unfold kidsN; repeat rw [if_neg (by omega)]

theorem rkids_spec (k : Int) : Spec Try.prog 14 #[.int .i64 k] [] [] (fun _ : Unit => .int .i64 (kidsN k)) (fun _ => []) (fun _ => []) := by
  refine spec_go (args := [.int .i64 k]) Try.func14 Try.ntmps14 rfl (by exact Nat.le_of_ble_eq_true rfl) fun B hB => ?_
  refine go_seq ?_
  refine go_region ⟨_, Try.func14⟩ rfl ?_
  refine q0 rfl (o_assign ?_)
  refine rg_nil ?_
  refine go_seq ?_
  refine go_region ⟨_, Try.func14⟩ rfl ?_
  refine q0 rfl (o_buildA (pv := kidPV) (cs := kidTab) ?_ (hp := by rfl) (hb := kidFill))
  refine q0 rfl (o_new fun b3 => ?_)
  refine q0 rfl (o_st ?_)
  refine rg_nil ?_
  refine go_seq ?_
  refine go_seq ?_
  refine go_cutS ([(0, .int .i64 k), (3, .pointer (some ⟨b3, 0, none⟩)), (10, .bool (decide (k < 0) || decide (28 < k)))]) (fun hK => ?_) (fun base => ?_)
  · refine go_region ⟨_, Try.func14⟩ rfl ?_
    refine q0 rfl (o_move ?_)
    refine q0 rfl (o_lss ?_)
    refine q0 rfl (o_move ?_)
    refine qI rfl rfl rfl (by conv => lhs; whnf) (fun hg7 => o_move ?_) (fun hg7 => ?_)
    · refine qT rfl rfl rfl (o_gtr ?_)
      refine q0 rfl (o_pickF ?_)
      refine rg_nil ?_
      exact hK _ ⟨rfl, rfl, (by (conv => lhs; whnf); first | (simp_all; done) | (simp_all; omega)), trivial⟩
    · refine qF rfl rfl rfl ?_
      refine q0 rfl (o_pickT ?_)
      refine rg_nil ?_
      exact hK _ ⟨rfl, rfl, (by (conv => lhs; whnf); first | (simp_all; done) | (simp_all; omega)), trivial⟩
  · refine go_condI (fun h10 => ?_) (fun h10 => ?_)
    · have hb : k < 0 ∨ 28 < k := by simpa using h10
      refine go_seq ?_
      refine go_region ⟨_, Try.func14⟩ rfl ?_
      refine q0 rfl (o_assign ?_)
      refine rg_nil ?_
      refine ret1 Try.func14 Try.results14 (by first | ((conv => lhs; whnf); done) | rfl) () (by rw [kidsN_out hb]) (fun w hs => hs.none)
    · have hb : 0 ≤ k ∧ k ≤ 28 := by simpa using h10
      refine go_skip ?_
      refine go_seq ?_
      refine go_region ⟨_, Try.func14⟩ rfl ?_
      refine q0 rfl (o_move ?_)
      refine q0 rfl (o_ixA ?_ (j := k) (m := 29))
      refine q0 rfl (o_ld ?_ (cs := kidTab) (k := 0 + k.toNat * 1) (hk := kidTab_at (by omega) (by omega)))
      refine q0 rfl (o_assign ?_)
      refine rg_nil ?_
      refine ret1 Try.func14 Try.results14 (by first | ((conv => lhs; whnf); done) | rfl) () rfl (fun w hs => hs.none)

theorem termKinds_spec (k i : Int) : Spec Try.prog 3 #[.int .i64 k, .int .i64 i] [] [] (fun _ : Unit => .bool true) (fun _ => []) (fun _ => []) := by
  refine spec_go (args := [.int .i64 k, .int .i64 i]) Try.func3 Try.ntmps3 rfl (by exact Nat.le_of_ble_eq_true rfl) fun B hB => ?_
  refine go_seq ?_
  refine go_region ⟨_, Try.func3⟩ rfl ?_
  refine q0 rfl (o_assign ?_)
  refine rg_nil ?_
  refine go_seq ?_
  refine go_region ⟨_, Try.func3⟩ rfl ?_
  refine q0 rfl (o_move ?_)
  refine q0 rfl (o_move ?_)
  refine q0 rfl (o_call Try.call11 (binds_spec k i) (fun x12 => ?_))
  refine q0 rfl (o_move ?_)
  refine q0 rfl (o_extract ?_)
  refine q0 rfl (o_extract ?_)
  refine q0 rfl (o_assign ?_)
  refine q0 rfl (o_assign ?_)
  refine rg_nil ?_
  refine go_seq ?_
  refine go_region ⟨_, Try.func3⟩ rfl ?_
  refine q0 rfl (o_move ?_)
  refine q0 rfl (o_move ?_)
  refine q0 rfl (o_call Try.call12 (rbinds_spec k i) (fun x18 => ?_))
  refine q0 rfl (o_move ?_)
  refine q0 rfl (o_extract ?_)
  refine q0 rfl (o_extract ?_)
  refine q0 rfl (o_assign ?_)
  refine q0 rfl (o_assign ?_)
  refine rg_nil ?_
  refine go_seq ?_
  refine go_region ⟨_, Try.func3⟩ rfl ?_
  refine q0 rfl (o_move ?_)
  refine q0 rfl (o_call Try.call13 (kids_spec k) (fun x22 => ?_))
  refine q0 rfl (o_move ?_)
  refine q0 rfl (o_call Try.call14 (rkids_spec k) (fun x24 => ?_))
  refine q0 rfl (o_eqI ?_)
  refine q0 rfl (o_move ?_)
  refine qI rfl rfl rfl (by conv => lhs; whnf) (fun hg26 => o_move ?_) (fun hg26 => ?_)
  · refine qT rfl rfl rfl (o_move ?_)
    refine qT rfl rfl rfl (o_eqI ?_)
    refine q0 rfl (o_pickT ?_)
    refine q0 rfl (o_move ?_)
    refine qI rfl rfl rfl (by conv => lhs; whnf) (fun hg31 => o_move ?_) (fun hg31 => ?_)
    · refine qT rfl rfl rfl (o_move ?_)
      refine qT rfl rfl rfl (o_eqI ?_)
      refine q0 rfl (o_pickT ?_)
      refine q0 rfl (o_move ?_)
      refine qI rfl rfl rfl (by conv => lhs; whnf) (fun hg36 => o_move ?_) (fun hg36 => ?_)
      · refine qT rfl rfl rfl (o_call Try.call15 (parts_spec k) (fun x38 => ?_))
        refine qT rfl rfl rfl (o_move ?_)
        refine qT rfl rfl rfl (o_call Try.call16 (rparts_spec k) (fun x40 => ?_))
        refine qT rfl rfl rfl (o_eqI ?_)
        refine q0 rfl (o_pickT ?_)
        refine q0 rfl (o_move ?_)
        refine qI rfl rfl rfl (by conv => lhs; whnf) (fun hg43 => o_call Try.call17 (works10_spec) (fun x44 => ?_)) (fun hg43 => ?_)
        · refine q0 rfl (o_pickT ?_)
          refine q0 rfl (o_assign ?_)
          refine rg_nil ?_
          refine ret1 Try.func3 Try.results3 (by first | ((conv => lhs; whnf); done) | rfl) () (by simp_all) (fun w hs => hs.none)
        · refine q0 rfl (o_pickF ?_)
          refine q0 rfl (o_assign ?_)
          refine rg_nil ?_
          refine ret1 Try.func3 Try.results3 (by first | ((conv => lhs; whnf); done) | rfl) () (by simp_all) (fun w hs => hs.none)
      · refine qF rfl rfl rfl ?_
        refine qF rfl rfl rfl ?_
        refine qF rfl rfl rfl ?_
        refine qF rfl rfl rfl ?_
        refine q0 rfl (o_pickF ?_)
        refine q0 rfl (o_move ?_)
        refine qF rfl rfl rfl ?_
        refine q0 rfl (o_pickF ?_)
        refine q0 rfl (o_assign ?_)
        refine rg_nil ?_
        refine ret1 Try.func3 Try.results3 (by first | ((conv => lhs; whnf); done) | rfl) () (by simp_all) (fun w hs => hs.none)
    · refine qF rfl rfl rfl ?_
      refine qF rfl rfl rfl ?_
      refine q0 rfl (o_pickF ?_)
      refine q0 rfl (o_move ?_)
      refine qF rfl rfl rfl ?_
      refine qF rfl rfl rfl ?_
      refine qF rfl rfl rfl ?_
      refine qF rfl rfl rfl ?_
      refine qF rfl rfl rfl ?_
      refine q0 rfl (o_pickF ?_)
      refine q0 rfl (o_move ?_)
      refine qF rfl rfl rfl ?_
      refine q0 rfl (o_pickF ?_)
      refine q0 rfl (o_assign ?_)
      refine rg_nil ?_
      refine ret1 Try.func3 Try.results3 (by first | ((conv => lhs; whnf); done) | rfl) () (by simp_all) (fun w hs => hs.none)
  · refine qF rfl rfl rfl ?_
    refine qF rfl rfl rfl ?_
    refine q0 rfl (o_pickF ?_)
    refine q0 rfl (o_move ?_)
    refine qF rfl rfl rfl ?_
    refine qF rfl rfl rfl ?_
    refine qF rfl rfl rfl ?_
    refine q0 rfl (o_pickF ?_)
    refine q0 rfl (o_move ?_)
    refine qF rfl rfl rfl ?_
    refine qF rfl rfl rfl ?_
    refine qF rfl rfl rfl ?_
    refine qF rfl rfl rfl ?_
    refine qF rfl rfl rfl ?_
    refine q0 rfl (o_pickF ?_)
    refine q0 rfl (o_move ?_)
    refine qF rfl rfl rfl ?_
    refine q0 rfl (o_pickF ?_)
    refine q0 rfl (o_assign ?_)
    refine rg_nil ?_
    refine ret1 Try.func3 Try.results3 (by first | ((conv => lhs; whnf); done) | rfl) () (by simp_all) (fun w hs => hs.none)

end Go.Hy
