/- Contracts of this program's functions and the laws that they need: a separation logic over the machine's rules, one theorem each (partly printed by a program of this repository). -/
import Derived.Test.YtceegbilhbhibaaGreatP2
import Derived.Test.YtceegbilhbhibaaGreatP3
import Derived.Test.YtceegbilhbhibaaGreatP4
import Derived.Test.YtceegbilhbhibaaGreatP5
set_option linter.unusedVariables false
set_option linter.unusedSimpArgs false
set_option linter.unusedSectionVars false
namespace Go.Hy
open Go.Proofs
set_option maxRecDepth 100000
theorem own_spec (t : T) (hf : plain1 t = true ∨ FORM) (vr vk vs : SH) (vars dims : Int) (hd : 0 ≤ dims) (hl : in64 dims) : Spec Tryz.prog 72 #[.agg (tc t vr vk vs).toArray, .int .i64 vars, .int .i64 dims] [RT t vr vk vs] [] (fun _ : Unit => .bool (ownP t vars dims)) (fun _ => []) (fun _ => []) := by
  refine spec_go (args := [.agg (tc t vr vk vs).toArray, .int .i64 vars, .int .i64 dims]) Tryz.func72 Tryz.ntmps72 rfl (by exact Nat.le_of_ble_eq_true rfl) fun B hB => ?_
  refine go_open (fun hk hn hnm => ?_); refine go_openTL (ts := t.kids) (fun VR VK VS hl1 hA1 => ?_); refine go_openBL (bs := t.sys) (fun VF VK2 hl2 hA2 => ?_); refine go_seq ?_; refine go_region ⟨_, Tryz.func72⟩ rfl ?_; refine q0 rfl (o_box fun b3 => ?_); refine q0 rfl (o_assign ?_); refine rg_nil ?_; refine go_seq ?_; refine go_seq ?_; refine go_cutS ([(1, .int .i64 vars), (2, .int .i64 dims), (3, .pointer (some ⟨b3, 0, none⟩)), (47, .bool (own1 t))]) (fun hK => ?_) (fun base => ?_)
  · refine go_draw (pn := 1000000) (tn := false) (A := [0, 1, 3, 0, 8, 24, 63, 127, 255, 511, 1023, 2047, 4095, 8191, 16383, 32767, 65535, 131071, 262143, 524287, 1048575, 2097151, 4194303, 8388607, 16777215, 33554431, 67108863, 134217727, 268435455, 536870911, 1073741823, 2147483647, 4294967295, 8589934591, 17179869183, 34359738367, 68719476735, 137438953471, 274877906943]) (l := [0, 1, 3, 4, 5, 2, 6, 7, 8, 9, 10, 11, 12, 13, 14, 15, 16, 17, 18, 19, 20, 21, 22, 23, 24, 25, 26, 27, 28, 29, 30, 31, 32, 33, 34, 35, 36, 37, 38]) (fin := []) Tab.mixed ⟨_, Tryz.func72⟩ (by rfl) ?_; refine n0 rfl (v_fa ?_); refine n0 rfl (v_ld ?_); refine n0 rfl (v_fa ?_); refine n0 rfl (v_ld ?_); refine n0 rfl (v_len ?_); refine n0 rfl (v_call Tryz.call91 (kids_spec t.kind) (fun x11 => ?_)); refine n0 rfl (v_neI ?_); refine n0 rfl (v_move ?_); refine nI rfl rfl rfl wl_ (fun hg16 => v_fa ?_) (fun hg16 => ?_)
    · refine nT rfl rfl rfl (v_ld ?_); refine nT rfl rfl rfl (v_neI ?_); refine nT rfl rfl rfl (v_move ?_); refine nI rfl rfl rfl wl_ (fun hg20 => v_fa ?_) (fun hg20 => ?_)
      · refine nT rfl rfl rfl (v_ld ?_); refine nT rfl rfl rfl (v_neI ?_); refine nT rfl rfl rfl (v_pickT ?_); refine n0 rfl (v_pickF ?_); refine n0 rfl (v_move ?_); refine nI rfl rfl rfl wl_ (fun hg26 => v_fa ?_) (fun hg26 => ?_)
        · refine nT rfl rfl rfl (v_ld ?_); refine nT rfl rfl rfl (v_neI ?_); refine nT rfl rfl rfl (v_move ?_); refine nI rfl rfl rfl wl_ (fun hg30 => v_fa ?_) (fun hg30 => ?_)
          · refine nT rfl rfl rfl (v_ld ?_); refine nT rfl rfl rfl (v_neS ?_); refine nT rfl rfl rfl (v_pickT ?_); refine n0 rfl (v_pickF ?_); refine n0 rfl (v_move ?_); refine nI rfl rfl rfl wl_ (fun hg36 => v_fa ?_) (fun hg36 => ?_)
            · refine nT rfl rfl rfl (v_ld ?_); refine nT rfl rfl rfl (v_call Tryz.call92 (parts_spec t.kind) (fun x39 => ?_)); refine nT rfl rfl rfl (v_eqI ?_); refine nT rfl rfl rfl (v_move ?_); refine nI rfl rfl rfl wl_ (fun hg41 => v_fa ?_) (fun hg41 => ?_)
              · refine nT rfl rfl rfl (v_ld ?_); refine nT rfl rfl rfl (v_len ?_); refine nT rfl rfl rfl (v_gtr ?_); refine nT rfl rfl rfl (v_pickT ?_); refine n0 rfl (v_pickF ?_); refine NV.done ?_; refine rg_nil ?_; exact hK _ ⟨rfl, rfl, rfl, (by (conv => lhs; whnf); first | (simp_all [own1]; done) | (simp_all [own1]; omega)), trivial⟩
              · refine nF rfl rfl rfl ?_; refine nF rfl rfl rfl ?_; refine nF rfl rfl rfl ?_; refine nT rfl rfl rfl (v_pickF ?_); refine n0 rfl (v_pickF ?_); refine NV.done ?_; refine rg_nil ?_; exact hK _ ⟨rfl, rfl, rfl, (by (conv => lhs; whnf); first | (simp_all [own1]; done) | (simp_all [own1]; omega)), trivial⟩
            · refine nF rfl rfl rfl ?_; refine nF rfl rfl rfl ?_; refine nF rfl rfl rfl ?_; refine nF rfl rfl rfl ?_; refine nU rfl rfl rfl ?_; refine nU rfl rfl rfl ?_; refine nU rfl rfl rfl ?_; refine nU rfl rfl rfl ?_; refine nF rfl rfl rfl ?_; refine n0 rfl (v_pickT ?_); refine NV.done ?_; refine rg_nil ?_; exact hK _ ⟨rfl, rfl, rfl, (by (conv => lhs; whnf); first | (simp_all [own1]; done) | (simp_all [own1]; omega)), trivial⟩
          · refine nF rfl rfl rfl ?_; refine nF rfl rfl rfl ?_; refine nT rfl rfl rfl (v_pickF ?_); refine n0 rfl (v_pickF ?_); refine n0 rfl (v_move ?_); refine nT rfl rfl rfl (v_fa ?_); refine nT rfl rfl rfl (v_ld ?_); refine nT rfl rfl rfl (v_call Tryz.call92 (parts_spec t.kind) (fun x39 => ?_)); refine nT rfl rfl rfl (v_eqI ?_); refine nT rfl rfl rfl (v_move ?_); refine nI rfl rfl rfl wl_ (fun hg41 => v_fa ?_) (fun hg41 => ?_)
            · refine nT rfl rfl rfl (v_ld ?_); refine nT rfl rfl rfl (v_len ?_); refine nT rfl rfl rfl (v_gtr ?_); refine nT rfl rfl rfl (v_pickT ?_); refine n0 rfl (v_pickF ?_); refine NV.done ?_; refine rg_nil ?_; exact hK _ ⟨rfl, rfl, rfl, (by (conv => lhs; whnf); first | (simp_all [own1]; done) | (simp_all [own1]; omega)), trivial⟩
            · refine nF rfl rfl rfl ?_; refine nF rfl rfl rfl ?_; refine nF rfl rfl rfl ?_; refine nT rfl rfl rfl (v_pickF ?_); refine n0 rfl (v_pickF ?_); refine NV.done ?_; refine rg_nil ?_; exact hK _ ⟨rfl, rfl, rfl, (by (conv => lhs; whnf); first | (simp_all [own1]; done) | (simp_all [own1]; omega)), trivial⟩
        · refine nF rfl rfl rfl ?_; refine nF rfl rfl rfl ?_; refine nF rfl rfl rfl ?_; refine nU rfl rfl rfl ?_; refine nU rfl rfl rfl ?_; refine nU rfl rfl rfl ?_; refine nF rfl rfl rfl ?_; refine n0 rfl (v_pickT ?_); refine n0 rfl (v_move ?_); refine nF rfl rfl rfl ?_; refine nF rfl rfl rfl ?_; refine nF rfl rfl rfl ?_; refine nF rfl rfl rfl ?_; refine nF rfl rfl rfl ?_; refine nU rfl rfl rfl ?_; refine nU rfl rfl rfl ?_; refine nU rfl rfl rfl ?_; refine nU rfl rfl rfl ?_; refine nF rfl rfl rfl ?_; refine n0 rfl (v_pickT ?_); refine NV.done ?_; refine rg_nil ?_; exact hK _ ⟨rfl, rfl, rfl, (by (conv => lhs; whnf); first | (simp_all [own1]; done) | (simp_all [own1]; omega)), trivial⟩
      · refine nF rfl rfl rfl ?_; refine nF rfl rfl rfl ?_; refine nT rfl rfl rfl (v_pickF ?_); refine n0 rfl (v_pickF ?_); refine n0 rfl (v_move ?_); refine nT rfl rfl rfl (v_fa ?_); refine nT rfl rfl rfl (v_ld ?_); refine nT rfl rfl rfl (v_neI ?_); refine nT rfl rfl rfl (v_move ?_); refine nI rfl rfl rfl wl_ (fun hg30 => v_fa ?_) (fun hg30 => ?_)
        · refine nT rfl rfl rfl (v_ld ?_); refine nT rfl rfl rfl (v_neS ?_); refine nT rfl rfl rfl (v_pickT ?_); refine n0 rfl (v_pickF ?_); refine n0 rfl (v_move ?_); refine nI rfl rfl rfl wl_ (fun hg36 => v_fa ?_) (fun hg36 => ?_)
          · refine nT rfl rfl rfl (v_ld ?_); refine nT rfl rfl rfl (v_call Tryz.call92 (parts_spec t.kind) (fun x39 => ?_)); refine nT rfl rfl rfl (v_eqI ?_); refine nT rfl rfl rfl (v_move ?_); refine nI rfl rfl rfl wl_ (fun hg41 => v_fa ?_) (fun hg41 => ?_)
            · refine nT rfl rfl rfl (v_ld ?_); refine nT rfl rfl rfl (v_len ?_); refine nT rfl rfl rfl (v_gtr ?_); refine nT rfl rfl rfl (v_pickT ?_); refine n0 rfl (v_pickF ?_); refine NV.done ?_; refine rg_nil ?_; exact hK _ ⟨rfl, rfl, rfl, (by (conv => lhs; whnf); first | (simp_all [own1]; done) | (simp_all [own1]; omega)), trivial⟩
            · refine nF rfl rfl rfl ?_; refine nF rfl rfl rfl ?_; refine nF rfl rfl rfl ?_; refine nT rfl rfl rfl (v_pickF ?_); refine n0 rfl (v_pickF ?_); refine NV.done ?_; refine rg_nil ?_; exact hK _ ⟨rfl, rfl, rfl, (by (conv => lhs; whnf); first | (simp_all [own1]; done) | (simp_all [own1]; omega)), trivial⟩
          · refine nF rfl rfl rfl ?_; refine nF rfl rfl rfl ?_; refine nF rfl rfl rfl ?_; refine nF rfl rfl rfl ?_; refine nU rfl rfl rfl ?_; refine nU rfl rfl rfl ?_; refine nU rfl rfl rfl ?_; refine nU rfl rfl rfl ?_; refine nF rfl rfl rfl ?_; refine n0 rfl (v_pickT ?_); refine NV.done ?_; refine rg_nil ?_; exact hK _ ⟨rfl, rfl, rfl, (by (conv => lhs; whnf); first | (simp_all [own1]; done) | (simp_all [own1]; omega)), trivial⟩
        · refine nF rfl rfl rfl ?_; refine nF rfl rfl rfl ?_; refine nT rfl rfl rfl (v_pickF ?_); refine n0 rfl (v_pickF ?_); refine n0 rfl (v_move ?_); refine nT rfl rfl rfl (v_fa ?_); refine nT rfl rfl rfl (v_ld ?_); refine nT rfl rfl rfl (v_call Tryz.call92 (parts_spec t.kind) (fun x39 => ?_)); refine nT rfl rfl rfl (v_eqI ?_); refine nT rfl rfl rfl (v_move ?_); refine nI rfl rfl rfl wl_ (fun hg41 => v_fa ?_) (fun hg41 => ?_)
          · refine nT rfl rfl rfl (v_ld ?_); refine nT rfl rfl rfl (v_len ?_); refine nT rfl rfl rfl (v_gtr ?_); refine nT rfl rfl rfl (v_pickT ?_); refine n0 rfl (v_pickF ?_); refine NV.done ?_; refine rg_nil ?_; exact hK _ ⟨rfl, rfl, rfl, (by (conv => lhs; whnf); first | (simp_all [own1]; done) | (simp_all [own1]; omega)), trivial⟩
          · refine nF rfl rfl rfl ?_; refine nF rfl rfl rfl ?_; refine nF rfl rfl rfl ?_; refine nT rfl rfl rfl (v_pickF ?_); refine n0 rfl (v_pickF ?_); refine NV.done ?_; refine rg_nil ?_; exact hK _ ⟨rfl, rfl, rfl, (by (conv => lhs; whnf); first | (simp_all [own1]; done) | (simp_all [own1]; omega)), trivial⟩
    · refine nF rfl rfl rfl ?_; refine nF rfl rfl rfl ?_; refine nF rfl rfl rfl ?_; refine nU rfl rfl rfl ?_; refine nU rfl rfl rfl ?_; refine nU rfl rfl rfl ?_; refine nF rfl rfl rfl ?_; refine n0 rfl (v_pickT ?_); refine n0 rfl (v_move ?_); refine nF rfl rfl rfl ?_; refine nF rfl rfl rfl ?_; refine nF rfl rfl rfl ?_; refine nF rfl rfl rfl ?_; refine nU rfl rfl rfl ?_; refine nU rfl rfl rfl ?_; refine nU rfl rfl rfl ?_; refine nF rfl rfl rfl ?_; refine n0 rfl (v_pickT ?_); refine n0 rfl (v_move ?_); refine nF rfl rfl rfl ?_; refine nF rfl rfl rfl ?_; refine nF rfl rfl rfl ?_; refine nF rfl rfl rfl ?_; refine nF rfl rfl rfl ?_; refine nU rfl rfl rfl ?_; refine nU rfl rfl rfl ?_; refine nU rfl rfl rfl ?_; refine nU rfl rfl rfl ?_; refine nF rfl rfl rfl ?_; refine n0 rfl (v_pickT ?_); refine NV.done ?_; refine rg_nil ?_; exact hK _ ⟨rfl, rfl, rfl, (by (conv => lhs; whnf); first | (simp_all [own1]; done) | (simp_all [own1]; omega)), trivial⟩
  · refine go_condI (fun h47 => ?_) (fun h47 => ?_)
    · refine go_seq ?_; refine go_region ⟨_, Tryz.func72⟩ rfl ?_; refine q0 rfl (o_assign ?_); refine rg_nil ?_; refine ret1 Tryz.func72 Tryz.results72 wn_ () (by simp [ownP, h47]) (fun w hs => hs.none)
    · refine go_skip ?_; refine go_seq ?_; refine go_seq ?_; refine go_region ⟨_, Tryz.func72⟩ rfl ?_; refine q0 rfl (o_fa ?_); refine q0 rfl (o_ld ?_); refine rg_nil ?_; refine go_block ?_; refine go_seq ?_; refine go_region ⟨_, Tryz.func72⟩ rfl ?_; refine q0 rfl (o_eqI ?_); refine q0 rfl (o_assign ?_); refine rg_nil ?_; refine go_condI (fun h50 => ?_) (fun h50 => ?_)
      · refine go_seq ?_; refine go_cutS ([(6, .bool (decide ((t.r.length : Int) = 0) && decide (0 ≤ t.n) && (decide (vars < 0) || decide (t.n < vars))))]) (fun hK => ?_) (fun base => ?_)
        · refine go_region ⟨_, Tryz.func72⟩ rfl ?_; refine q0 rfl (o_fa ?_); refine q0 rfl (o_ld ?_); refine q0 rfl (o_len ?_); refine q0 rfl (o_eqI ?_); refine q0 rfl (o_move ?_); refine qI rfl rfl rfl wl_ (fun hg56 => o_fa ?_) (fun hg56 => ?_)
          · refine qT rfl rfl rfl (o_ld ?_); refine qT rfl rfl rfl (o_geq ?_); refine q0 rfl (o_pickT ?_); refine q0 rfl (o_move ?_); refine qI rfl rfl rfl wl_ (fun hg61 => o_move ?_) (fun hg61 => ?_)
            · refine qT rfl rfl rfl (o_lss ?_); refine qT rfl rfl rfl (o_move ?_); refine qI rfl rfl rfl wl_ (fun hg64 => o_fa ?_) (fun hg64 => ?_)
              · refine qT rfl rfl rfl (o_ld ?_); refine qT rfl rfl rfl (o_move ?_); refine qT rfl rfl rfl (o_lss ?_); refine qT rfl rfl rfl (o_pickF ?_); refine q0 rfl (o_pickT ?_); refine q0 rfl (o_assign ?_); refine rg_nil ?_; exact hK _ ⟨(by (conv => lhs; whnf); first | (simp_all [Bool.and_assoc]; done) | (simp_all [Bool.and_assoc]; omega)), trivial⟩
              · refine qF rfl rfl rfl ?_; refine qF rfl rfl rfl ?_; refine qF rfl rfl rfl ?_; refine qT rfl rfl rfl (o_pickT ?_); refine q0 rfl (o_pickT ?_); refine q0 rfl (o_assign ?_); refine rg_nil ?_; exact hK _ ⟨(by (conv => lhs; whnf); first | (simp_all [Bool.and_assoc]; done) | (simp_all [Bool.and_assoc]; omega)), trivial⟩
            · refine qF rfl rfl rfl ?_; refine qF rfl rfl rfl ?_; refine qU rfl rfl rfl ?_; refine qU rfl rfl rfl ?_; refine qU rfl rfl rfl ?_; refine qU rfl rfl rfl ?_; refine qF rfl rfl rfl ?_; refine q0 rfl (o_pickF ?_); refine q0 rfl (o_assign ?_); refine rg_nil ?_; exact hK _ ⟨(by (conv => lhs; whnf); first | (simp_all [Bool.and_assoc]; done) | (simp_all [Bool.and_assoc]; omega)), trivial⟩
          · refine qF rfl rfl rfl ?_; refine qF rfl rfl rfl ?_; refine q0 rfl (o_pickF ?_); refine q0 rfl (o_move ?_); refine qF rfl rfl rfl ?_; refine qF rfl rfl rfl ?_; refine qF rfl rfl rfl ?_; refine qU rfl rfl rfl ?_; refine qU rfl rfl rfl ?_; refine qU rfl rfl rfl ?_; refine qU rfl rfl rfl ?_; refine qF rfl rfl rfl ?_; refine q0 rfl (o_pickF ?_); refine q0 rfl (o_assign ?_); refine rg_nil ?_; exact hK _ ⟨(by (conv => lhs; whnf); first | (simp_all [Bool.and_assoc]; done) | (simp_all [Bool.and_assoc]; omega)), trivial⟩
        · refine ret1 Tryz.func72 Tryz.results72 wn_ () (by simp_all [ownP, Bool.and_assoc]) (fun w hs => hs.none)
      · refine go_seq ?_; refine go_region ⟨_, Tryz.func72⟩ rfl ?_; refine q0 rfl (o_eqI ?_); refine q0 rfl (o_assign ?_); refine rg_nil ?_; refine go_condI (fun h71 => ?_) (fun h71 => ?_)
        · refine go_seq ?_; refine go_cutS ([(6, .bool (decide ((t.r.length : Int) = 0) && nameOK t.name))]) (fun hK => ?_) (fun base => ?_)
          · refine go_region ⟨_, Tryz.func72⟩ rfl ?_; refine q0 rfl (o_fa ?_); refine q0 rfl (o_ld ?_); refine q0 rfl (o_len ?_); refine q0 rfl (o_eqI ?_); refine q0 rfl (o_move ?_); refine qI rfl rfl rfl wl_ (fun hg77 => o_fa ?_) (fun hg77 => ?_)
            · refine qT rfl rfl rfl (o_ld ?_); refine qT rfl rfl rfl (o_call Tryz.call93 (name_spec t.name hnm) (fun x80 => ?_)); refine q0 rfl (o_pickT ?_); refine q0 rfl (o_assign ?_); refine rg_nil ?_; exact hK _ ⟨(by (conv => lhs; whnf); first | (simp_all [Bool.and_assoc]; done) | (simp_all [Bool.and_assoc]; omega)), trivial⟩
            · refine qF rfl rfl rfl ?_; refine qF rfl rfl rfl ?_; refine q0 rfl (o_pickF ?_); refine q0 rfl (o_assign ?_); refine rg_nil ?_; exact hK _ ⟨(by (conv => lhs; whnf); first | (simp_all [Bool.and_assoc]; done) | (simp_all [Bool.and_assoc]; omega)), trivial⟩
          · refine ret1 Tryz.func72 Tryz.results72 wn_ () (by simp_all [ownP, Bool.and_assoc]) (fun w hs => hs.none)
        · refine go_seq ?_; refine go_seq ?_; refine go_region ⟨_, Tryz.func72⟩ rfl ?_; refine q0 rfl (o_eqI ?_); refine q0 rfl (o_assign ?_); refine rg_nil ?_; refine go_condI (fun h82 => ?_) (fun h82 => ?_)
          · refine go_skip ?_; refine go_condT ?_; refine go_seq ?_; refine go_cutS ([(6, .bool (fRight t.r && within t.r dims))]) (fun hK => ?_) (fun base => ?_)
            · refine go_region ⟨_, Tryz.func72⟩ rfl ?_; refine q0 rfl (o_fa ?_); refine q0 rfl (o_ld ?_); refine q0 rfl (o_call Tryz.call94 ((form_kind hf (by simp_all)).1 t.r vr) (fun x88 => ?_)); refine q0 rfl (o_move ?_); refine qI rfl rfl rfl wl_ (fun hg89 => o_fa ?_) (fun hg89 => ?_)
              · refine qT rfl rfl rfl (o_ld ?_); refine qT rfl rfl rfl (o_move ?_); refine qT rfl rfl rfl (o_call Tryz.call95 (within_spec (form_kind hf (by simp_all)).2.2 t.r vr dims hd hl) (fun x93 => ?_)); refine q0 rfl (o_pickT ?_); refine q0 rfl (o_assign ?_); refine rg_nil ?_; exact hK _ ⟨(by (conv => lhs; whnf); first | (simp_all [Bool.and_assoc]; done) | (simp_all [Bool.and_assoc]; omega)), trivial⟩
              · refine qF rfl rfl rfl ?_; refine qF rfl rfl rfl ?_; refine qF rfl rfl rfl ?_; refine q0 rfl (o_pickF ?_); refine q0 rfl (o_assign ?_); refine rg_nil ?_; exact hK _ ⟨(by (conv => lhs; whnf); first | (simp_all [Bool.and_assoc]; done) | (simp_all [Bool.and_assoc]; omega)), trivial⟩
            · refine ret1 Tryz.func72 Tryz.results72 wn_ () (by simp_all [ownP, Bool.and_assoc]) (fun w hs => hs.none)
          · refine go_seq ?_; refine go_region ⟨_, Tryz.func72⟩ rfl ?_; refine q0 rfl (o_eqI ?_); refine q0 rfl (o_assign ?_); refine rg_nil ?_; refine go_condI (fun h82 => ?_) (fun h82 => ?_)
            · refine go_skip ?_; refine go_condT ?_; refine go_seq ?_; refine go_cutS ([(6, .bool (fRight t.r && within t.r dims))]) (fun hK => ?_) (fun base => ?_)
              · refine go_region ⟨_, Tryz.func72⟩ rfl ?_; refine q0 rfl (o_fa ?_); refine q0 rfl (o_ld ?_); refine q0 rfl (o_call Tryz.call94 ((form_kind hf (by simp_all)).1 t.r vr) (fun x88 => ?_)); refine q0 rfl (o_move ?_); refine qI rfl rfl rfl wl_ (fun hg89 => o_fa ?_) (fun hg89 => ?_)
                · refine qT rfl rfl rfl (o_ld ?_); refine qT rfl rfl rfl (o_move ?_); refine qT rfl rfl rfl (o_call Tryz.call95 (within_spec (form_kind hf (by simp_all)).2.2 t.r vr dims hd hl) (fun x93 => ?_)); refine q0 rfl (o_pickT ?_); refine q0 rfl (o_assign ?_); refine rg_nil ?_; exact hK _ ⟨(by (conv => lhs; whnf); first | (simp_all [Bool.and_assoc]; done) | (simp_all [Bool.and_assoc]; omega)), trivial⟩
                · refine qF rfl rfl rfl ?_; refine qF rfl rfl rfl ?_; refine qF rfl rfl rfl ?_; refine q0 rfl (o_pickF ?_); refine q0 rfl (o_assign ?_); refine rg_nil ?_; exact hK _ ⟨(by (conv => lhs; whnf); first | (simp_all [Bool.and_assoc]; done) | (simp_all [Bool.and_assoc]; omega)), trivial⟩
              · refine ret1 Tryz.func72 Tryz.results72 wn_ () (by simp_all [ownP, Bool.and_assoc]) (fun w hs => hs.none)
            · refine go_region ⟨_, Tryz.func72⟩ rfl ?_; refine q0 rfl (o_eqI ?_); refine q0 rfl (o_assign ?_); refine rg_nil ?_; refine go_condI (fun h82 => ?_) (fun h82 => ?_)
              · refine go_seq ?_; refine go_cutS ([(6, .bool (fRight t.r && within t.r dims))]) (fun hK => ?_) (fun base => ?_)
                · refine go_region ⟨_, Tryz.func72⟩ rfl ?_; refine q0 rfl (o_fa ?_); refine q0 rfl (o_ld ?_); refine q0 rfl (o_call Tryz.call94 ((form_kind hf (by simp_all)).1 t.r vr) (fun x88 => ?_)); refine q0 rfl (o_move ?_); refine qI rfl rfl rfl wl_ (fun hg89 => o_fa ?_) (fun hg89 => ?_)
                  · refine qT rfl rfl rfl (o_ld ?_); refine qT rfl rfl rfl (o_move ?_); refine qT rfl rfl rfl (o_call Tryz.call95 (within_spec (form_kind hf (by simp_all)).2.2 t.r vr dims hd hl) (fun x93 => ?_)); refine q0 rfl (o_pickT ?_); refine q0 rfl (o_assign ?_); refine rg_nil ?_; exact hK _ ⟨(by (conv => lhs; whnf); first | (simp_all [Bool.and_assoc]; done) | (simp_all [Bool.and_assoc]; omega)), trivial⟩
                  · refine qF rfl rfl rfl ?_; refine qF rfl rfl rfl ?_; refine qF rfl rfl rfl ?_; refine q0 rfl (o_pickF ?_); refine q0 rfl (o_assign ?_); refine rg_nil ?_; exact hK _ ⟨(by (conv => lhs; whnf); first | (simp_all [Bool.and_assoc]; done) | (simp_all [Bool.and_assoc]; omega)), trivial⟩
                · refine ret1 Tryz.func72 Tryz.results72 wn_ () (by simp_all [ownP, Bool.and_assoc]) (fun w hs => hs.none)
              · refine go_seq ?_; refine go_region ⟨_, Tryz.func72⟩ rfl ?_; refine q0 rfl (o_eqI ?_); refine q0 rfl (o_assign ?_); refine rg_nil ?_; refine go_condI (fun h95 => ?_) (fun h95 => ?_)
                · refine go_seq ?_; refine go_cutS ([(6, .bool (faceRight t.r && within t.r dims))]) (fun hK => ?_) (fun base => ?_)
                  · refine go_region ⟨_, Tryz.func72⟩ rfl ?_; refine q0 rfl (o_fa ?_); refine q0 rfl (o_ld ?_); refine q0 rfl (o_call Tryz.call96 ((form_kind hf (by simp_all)).2.1 t.r vr) (fun x99 => ?_)); refine q0 rfl (o_move ?_); refine qI rfl rfl rfl wl_ (fun hg100 => o_fa ?_) (fun hg100 => ?_)
                    · refine qT rfl rfl rfl (o_ld ?_); refine qT rfl rfl rfl (o_move ?_); refine qT rfl rfl rfl (o_call Tryz.call95 (within_spec (form_kind hf (by simp_all)).2.2 t.r vr dims hd hl) (fun x104 => ?_)); refine q0 rfl (o_pickT ?_); refine q0 rfl (o_assign ?_); refine rg_nil ?_; exact hK _ ⟨(by (conv => lhs; whnf); first | (simp_all [Bool.and_assoc]; done) | (simp_all [Bool.and_assoc]; omega)), trivial⟩
                    · refine qF rfl rfl rfl ?_; refine qF rfl rfl rfl ?_; refine qF rfl rfl rfl ?_; refine q0 rfl (o_pickF ?_); refine q0 rfl (o_assign ?_); refine rg_nil ?_; exact hK _ ⟨(by (conv => lhs; whnf); first | (simp_all [Bool.and_assoc]; done) | (simp_all [Bool.and_assoc]; omega)), trivial⟩
                  · refine ret1 Tryz.func72 Tryz.results72 wn_ () (by simp_all [ownP, Bool.and_assoc]) (fun w hs => hs.none)
                · refine go_skip ?_; refine go_inBlock ?_; refine go_seq ?_; refine go_seq ?_; refine go_region ⟨_, Tryz.func72⟩ rfl ?_; refine q0 rfl (o_fa ?_); refine q0 rfl (o_ld ?_); refine q0 rfl (o_len ?_); refine q0 rfl (o_move ?_); refine rg_nil ?_; refine go_block ?_; refine go_loopI (X := Nat) (fun i => i ≤ t.sys.length ∧ ∀ j, j < i → ownB t dims (t.sys.getD j br0) = true) (fun i => [(2, .int .i64 dims), (3, .pointer (some ⟨b3, 0, none⟩)), (107, sl vs t.sys.length), (108, .int .i64 (t.sys.length : Int)), (109, .int .i64 (i : Int))]) (fun i => BLx t.sys vs VF VK2 :: RT t vr vk vs :: []) (fun i => [boxR b3 (tc t vr vk vs) 26]) (fun i => t.sys.length - i) (0) (⟨Nat.zero_le _, fun j hj => by omega⟩) (by exact ⟨rfl, rfl, rfl, rfl, rfl, trivial⟩) ?_ ?_
                  · exact fun w hs => hs.less (by simp +contextual)
                  · intro i base0 ⟨hi, hok⟩ next0; refine go_seq ?_; refine go_region ⟨_, Tryz.func72⟩ rfl ?_; refine q0 rfl (o_lss ?_); refine rg_nil ?_; refine go_seq ?_; refine go_condI (fun h110 => ?_) (fun h110 => ?_)
                    · have hlt : i < t.sys.length := by have := of_decide_eq_true h110; omega
                      obtain ⟨bk, o, hav⟩ := hA2 (by omega); refine go_skip ?_; refine go_seq ?_; refine go_block ?_; refine go_seq ?_; refine go_region ⟨_, Tryz.func72⟩ rfl ?_; refine q0 rfl (o_ixN ?_); refine q0 rfl (o_ldB ?_); refine q0 rfl (o_new fun b8 => ?_); refine q0 rfl (o_st ?_); refine rg_nil ?_; refine go_seq ?_; refine go_branch i hlt ?_; refine go_cutS ([(2, .int .i64 dims), (3, .pointer (some ⟨b3, 0, none⟩)), (107, sl vs t.sys.length), (108, .int .i64 (t.sys.length : Int)), (109, .int .i64 (i : Int)), (132, .bool (!(ownB t dims (t.sys.getD i br0))))]) (fun hK => ?_) (fun base => ?_)
                      · refine go_draw (pn := 1000000) (tn := false) (A := [0, 1, 3, 0, 8, 24, 63, 127, 255, 511, 1023, 2047, 4095, 8191, 16383, 32767, 16383, 131071, 262143, 524287]) (l := [0, 1, 2, 3, 4, 5, 6, 7, 8, 9, 10, 11, 12, 13, 14, 15, 16, 17, 18, 19]) (fin := []) Tab.mixed ⟨_, Tryz.func72⟩ (by rfl) ?_; refine n0 rfl (v_fa ?_); refine n0 rfl (v_ld ?_); refine n0 rfl (v_len ?_); refine n0 rfl (v_fa ?_); refine n0 rfl (v_ld ?_); refine n0 rfl (v_call Tryz.call92 (parts_spec t.kind) (fun x118 => ?_)); refine n0 rfl (v_neI ?_); refine n0 rfl (v_move ?_); refine nI rfl rfl rfl wl_ (fun hg120 => v_fa ?_) (fun hg120 => ?_)
                        · refine nT rfl rfl rfl (v_ld ?_); refine nT rfl rfl rfl (v_call Tryz.call96 ((form_sys hf hlt).2.1 _ (VF i)) (fun x123 => ?_)); refine nT rfl rfl rfl (v_not ?_); refine n0 rfl (v_pickF ?_); refine n0 rfl (v_move ?_); refine nI rfl rfl rfl wl_ (fun hg126 => v_fa ?_) (fun hg126 => ?_)
                          · refine nT rfl rfl rfl (v_ld ?_); refine nT rfl rfl rfl (v_move ?_); refine nT rfl rfl rfl (v_call Tryz.call95 (within_spec (form_sys hf hlt).2.2 _ (VF i) dims hd hl) (fun x130 => ?_)); refine nT rfl rfl rfl (v_not ?_); refine n0 rfl (v_pickF ?_); refine NV.done ?_; refine rg_nil ?_; exact hK _ ⟨rfl, rfl, rfl, rfl, rfl, (by (conv => lhs; whnf); first | (simp_all [ownB]; done) | (simp_all [ownB]; omega)), trivial⟩
                          · refine nF rfl rfl rfl ?_; refine nF rfl rfl rfl ?_; refine nF rfl rfl rfl ?_; refine nF rfl rfl rfl ?_; refine n0 rfl (v_pickT ?_); refine NV.done ?_; refine rg_nil ?_; exact hK _ ⟨rfl, rfl, rfl, rfl, rfl, (by (conv => lhs; whnf); first | (simp_all [ownB]; done) | (simp_all [ownB]; omega)), trivial⟩
                        · refine nF rfl rfl rfl ?_; refine nF rfl rfl rfl ?_; refine nF rfl rfl rfl ?_; refine n0 rfl (v_pickT ?_); refine n0 rfl (v_move ?_); refine nF rfl rfl rfl ?_; refine nF rfl rfl rfl ?_; refine nF rfl rfl rfl ?_; refine nF rfl rfl rfl ?_; refine nF rfl rfl rfl ?_; refine n0 rfl (v_pickT ?_); refine NV.done ?_; refine rg_nil ?_; exact hK _ ⟨rfl, rfl, rfl, rfl, rfl, (by (conv => lhs; whnf); first | (simp_all [ownB]; done) | (simp_all [ownB]; omega)), trivial⟩
                      · refine go_condI (fun h132 => ?_) (fun h132 => ?_)
                        · refine go_seq ?_; refine go_region ⟨_, Tryz.func72⟩ rfl ?_; refine q0 rfl (o_assign ?_); refine rg_nil ?_; have ha := all_getD_not hlt (by simpa using h132); refine ret1 Tryz.func72 Tryz.results72 wn_ () (by rw [ownP, ha]; clear hok ha h132; simp_all [Bool.and_assoc]) (fun w hs => hs.none)
                        · refine go_skip ?_; refine go_inBlock ?_; refine go_region ⟨_, Tryz.func72⟩ rfl ?_; refine q0 rfl (o_add ?_); refine q0 rfl (o_move ?_); refine rg_nil ?_; have hb : ownB t dims (t.sys.getD i br0) = true := by simpa using h132
                          refine go_state (fun w hs => ?_) (next0 (i + 1) _ ⟨hlt, fun j hj => (by rcases Nat.lt_succ_iff_lt_or_eq.mp hj with h | h; exact hok j h; subst h; exact hb)⟩ (by omega) ⟨rfl, rfl, rfl, rfl, rfl, trivial⟩); exact (hs.less (by simp +contextual)).drop
                    · have hge : i = t.sys.length := by have := of_decide_eq_false h110; omega
                      refine go_exit rfl ?_; refine go_seq ?_; refine go_region ⟨_, Tryz.func72⟩ rfl ?_; refine q0 rfl (o_fa ?_); refine q0 rfl (o_ld ?_); refine q0 rfl (o_len ?_); refine q0 rfl (o_eqI ?_); refine q0 rfl (o_assign ?_); refine rg_nil ?_; have ha := all_getD (t := t) (g := ownB t dims) (by rw [← hge]; exact hok); refine ret1 Tryz.func72 Tryz.results72 wn_ () (by rw [ownP, ha]; clear hok ha; simp_all [Bool.and_assoc]) (fun w hs => hs.none)
abbrev AllAt (t : T) : Prop := (plainT t = true ∨ FORM) → ∀ (vars dims : Int) (bound : Bool) vr vk vs, in64 vars → 0 ≤ dims → dims + depth t ≤ 1152921504606846976 → Spec Tryz.prog 58 #[.agg (tc t vr vk vs).toArray, .int .i64 vars, .int .i64 dims, .bool bound] [RT t vr vk vs] [] (fun _ : Unit => .bool (allP t vars dims bound)) (fun _ => []) (fun _ => [])
abbrev AllCap (b1 b2 b3 : Nat) : List Value := [.pointer (some ⟨b1, 0, none⟩), .pointer (some ⟨b2, 0, none⟩), .pointer (some ⟨b3, 0, none⟩)]
abbrev AllM (b1 b2 b3 : Nat) (vars dims : Int) (bound : Bool) : List Res := [boxR b1 [.int .i64 vars] 3, boxR b2 [.int .i64 dims] 3, boxR b3 [.bool bound] 4]
def bindsIn (v d : Int) : Prop := 0 ≤ v ∧ v ≤ 1 ∧ 0 ≤ d ∧ d ≤ 1
theorem binds_in (k i : Int) : bindsIn (binds k i).1 (binds k i).2 := by
  unfold binds bindsIn; repeat (split; (simp))
  simp
theorem parts_in {t : T} {k : T} {v d : Int} (h : (k, v, d) ∈ parts t) : bindsIn v d := by
  have hk : ∀ (kind : Int) (i : Nat) (ks : List T), (k, v, d) ∈ kidParts kind i ks → bindsIn v d := by
    intro kind i ks
    induction ks generalizing i with
    | nil => intro h; simp [kidParts] at h
    | cons a ks ih =>
      intro h; simp only [kidParts, List.mem_cons] at h; rcases h with h | h
      · have e : (v, d) = binds kind i := (Prod.mk.inj h).2; have := binds_in kind i; rw [← e] at this; exact this
      · exact ih _ h
  have hs : ∀ (kind : Int) (bs : List Br), (k, v, d) ∈ sysParts kind bs → bindsIn v d := by
    intro kind bs
    induction bs with
    | nil => intro h; simp [sysParts] at h
    | cons b bs ih =>
      intro h; simp only [sysParts, List.mem_append, List.mem_map] at h; rcases h with ⟨a, ha, e⟩ | h
      · have e2 := (Prod.mk.inj e).2; have e3 := (Prod.mk.inj e2); rw [← e3.1, ← e3.2]; unfold bindsIn more; split <;> simp
      · exact ih h
  unfold parts at h; rcases List.mem_append.mp h with h | h
  · exact hk _ _ _ h
  · exact hs _ _ h
theorem depth_mem {t : T} {p : Part} (h : p ∈ parts t) : depth p.1 < depth t := by
  obtain ⟨m, hm⟩ := List.mem_iff_getElem?.mp h; exact depth_part hm
theorem all1_walk (k : T) (vr vk vs : SH) (b1 b2 b3 : Nat) (vars dims v d : Int) (bound : Bool) (hv : in64 vars) (h0 : 0 ≤ dims) (hvd : bindsIn v d) (hl : dims + 1 + depth k ≤ 1152921504606846976) (hp : plainT k = true ∨ FORM) (ih : AllAt k) : Spec Tryz.prog 74 #[.agg (tc k vr vk vs).toArray, .int .i64 v, .int .i64 d, .pointer (some ⟨b1, 0, none⟩), .pointer (some ⟨b2, 0, none⟩), .pointer (some ⟨b3, 0, none⟩)] [RT k vr vk vs] (AllM b1 b2 b3 vars dims bound) (fun _ : Unit => .bool (allP k (IntKind.i64.wrap (vars + if vars < 0 then 0 else v)) (dims + d) bound)) (fun _ => []) (fun _ => AllM b1 b2 b3 vars dims bound) := by
  refine spec_go (args := [.agg (tc k vr vk vs).toArray, .int .i64 v, .int .i64 d, .pointer (some ⟨b1, 0, none⟩), .pointer (some ⟨b2, 0, none⟩), .pointer (some ⟨b3, 0, none⟩)]) Tryz.func74 Tryz.ntmps74 rfl (by exact Nat.le_of_ble_eq_true rfl) fun B hB => ?_
  obtain ⟨hv0, hv1, hd0, hd1⟩ := hvd; refine go_seq ?_; refine go_region ⟨_, Tryz.func74⟩ rfl ?_; refine q0 rfl (o_box fun b6 => ?_); refine q0 rfl (o_assign ?_); refine rg_nil ?_; refine go_seq ?_; refine go_seq ?_; refine go_region ⟨_, Tryz.func74⟩ rfl ?_; refine q0 rfl (o_ld ?_); refine q0 rfl (o_lss ?_); refine rg_nil ?_; refine go_cutS ([(1, .int .i64 (if vars < 0 then 0 else v)), (2, .int .i64 d), (3, .pointer (some ⟨b1, 0, none⟩)), (4, .pointer (some ⟨b2, 0, none⟩)), (5, .pointer (some ⟨b3, 0, none⟩)), (6, .pointer (some ⟨b6, 0, none⟩))]) (fun hK => ?_) (fun base => ?_)
  · refine go_condI (fun h11 => ?_) (fun h11 => ?_)
    · refine go_region ⟨_, Tryz.func74⟩ rfl ?_; refine q0 rfl (o_assign ?_); refine rg_nil ?_; exact hK _ ⟨(by first | (rw [if_pos (of_decide_eq_true h11)]; rfl) | (rw [if_neg (of_decide_eq_false h11)]; rfl)), rfl, rfl, rfl, rfl, rfl, trivial⟩
    · refine go_skip ?_; exact hK _ ⟨(by first | (rw [if_pos (of_decide_eq_true h11)]; rfl) | (rw [if_neg (of_decide_eq_false h11)]; rfl)), rfl, rfl, rfl, rfl, rfl, trivial⟩
  · refine go_seq ?_; refine go_region ⟨_, Tryz.func74⟩ rfl ?_; refine q0 rfl (o_lds ?_); refine q0 rfl (o_ld ?_); refine q0 rfl (o_move ?_); refine q0 rfl (o_addW ?_); refine q0 rfl (o_ld ?_); refine q0 rfl (o_move ?_); refine q0 rfl (o_add ?_); refine q0 rfl (o_ld ?_); refine q0 rfl (o_call Tryz.call58 (ih hp (IntKind.i64.wrap (vars + if vars < 0 then 0 else v)) (dims + d) bound vr vk vs (wrap_in _) (by omega) (by omega)) (fun x20 => ?_)); refine q0 rfl (o_assign ?_); refine rg_nil ?_; refine ret1 Tryz.func74 Tryz.results74 wn_ () rfl (fun w hs => (hs.less (by simp)).drop)
theorem all_walk (t : T) (hp : plainT t = true ∨ FORM) (ih : ∀ p, p ∈ parts t → AllAt p.1) (vars dims : Int) (bound : Bool) (vr vk vs : SH) (hv : in64 vars) (h0 : 0 ≤ dims) (hl : dims + depth t ≤ 1152921504606846976) : Spec Tryz.prog 58 #[.agg (tc t vr vk vs).toArray, .int .i64 vars, .int .i64 dims, .bool bound] [RT t vr vk vs] [] (fun _ : Unit => .bool (allP t vars dims bound)) (fun _ => []) (fun _ => []) := by
  refine spec_go (args := [.agg (tc t vr vk vs).toArray, .int .i64 vars, .int .i64 dims, .bool bound]) Tryz.func58 Tryz.ntmps58 rfl (by exact Nat.le_of_ble_eq_true rfl) fun B hB => ?_
  refine go_seq ?_; refine go_region ⟨_, Tryz.func58⟩ rfl ?_; refine q0 rfl (o_box fun b4 => ?_); refine q0 rfl (o_box fun b5 => ?_); refine q0 rfl (o_box fun b6 => ?_); refine q0 rfl (o_box fun b7 => ?_); refine q0 rfl (o_assign ?_); refine rg_nil ?_; refine go_seq ?_; refine go_seq ?_; refine go_cutS ([(4, .pointer (some ⟨b4, 0, none⟩)), (5, .pointer (some ⟨b5, 0, none⟩)), (6, .pointer (some ⟨b6, 0, none⟩)), (7, .pointer (some ⟨b7, 0, none⟩)), (20, .bool ((bound && decide (24 < dims)) || !(ownP t vars dims)))]) (fun hK => ?_) (fun base => ?_)
  · refine go_region ⟨_, Tryz.func58⟩ rfl ?_; refine q0 rfl (o_ld ?_); refine q0 rfl (o_move ?_); refine qI rfl rfl rfl wl_ (fun hg10 => o_ld ?_) (fun hg10 => ?_)
    · refine qT rfl rfl rfl (o_gtr ?_); refine q0 rfl (o_pickT ?_); refine q0 rfl (o_move ?_); refine qI rfl rfl rfl wl_ (fun hg14 => o_lds ?_) (fun hg14 => ?_)
      · refine qT rfl rfl rfl (o_ld ?_); refine qT rfl rfl rfl (o_ld ?_); refine qT rfl rfl rfl (o_call Tryz.call72 (own_spec t (plain_node hp) vr vk vs vars dims h0 (by unfold in64; omega)) (fun x18 => ?_)); refine qT rfl rfl rfl (o_not ?_); refine q0 rfl (o_pickF ?_); refine rg_nil ?_; exact hK _ ⟨rfl, rfl, rfl, rfl, (by (conv => lhs; whnf); first | (simp_all [Bool.and_assoc]; done) | (simp_all [Bool.and_assoc]; omega)), trivial⟩
      · refine qF rfl rfl rfl ?_; refine qF rfl rfl rfl ?_; refine qF rfl rfl rfl ?_; refine qF rfl rfl rfl ?_; refine q0 rfl (o_pickT ?_); refine rg_nil ?_; exact hK _ ⟨rfl, rfl, rfl, rfl, (by (conv => lhs; whnf); first | (simp_all [Bool.and_assoc]; done) | (simp_all [Bool.and_assoc]; omega)), trivial⟩
    · refine qF rfl rfl rfl ?_; refine q0 rfl (o_pickF ?_); refine q0 rfl (o_move ?_); refine qT rfl rfl rfl (o_lds ?_); refine qT rfl rfl rfl (o_ld ?_); refine qT rfl rfl rfl (o_ld ?_); refine qT rfl rfl rfl (o_call Tryz.call72 (own_spec t (plain_node hp) vr vk vs vars dims h0 (by unfold in64; omega)) (fun x18 => ?_)); refine qT rfl rfl rfl (o_not ?_); refine q0 rfl (o_pickF ?_); refine rg_nil ?_; exact hK _ ⟨rfl, rfl, rfl, rfl, (by (conv => lhs; whnf); first | (simp_all [Bool.and_assoc]; done) | (simp_all [Bool.and_assoc]; omega)), trivial⟩
  · refine go_condI (fun h20 => ?_) (fun h20 => ?_)
    · refine go_seq ?_; refine go_region ⟨_, Tryz.func58⟩ rfl ?_; refine q0 rfl (o_assign ?_); refine rg_nil ?_; refine ret1 Tryz.func58 Tryz.results58 wn_ () (by rw [allP_eq, h20]; rfl) (fun w hs => hs.none)
    · refine go_skip ?_; refine go_seq ?_; refine go_region ⟨_, Tryz.func58⟩ rfl ?_; refine q0 rfl (o_lds ?_); refine q0 rfl (o_func ?_); have hE := each_bool t vr vk vs 74 (AllCap b5 b6 b7) [] (AllM b5 b6 b7 vars dims bound) (fun p => allP p.1 (IntKind.i64.wrap (vars + if vars < 0 then 0 else p.2.1)) (dims + p.2.2) bound) Tryz.call74 (fun k v d hm vr vk vs => all1_walk k vr vk vs b5 b6 b7 vars dims v d bound hv h0 (parts_in hm) (by have := depth_mem hm; simp only at this; omega) (plain_part hp hm) (ih _ hm)); refine q0 rfl (o_call Tryz.call73 (hE) (fun x23 => ?_)); refine q0 rfl (o_assign ?_); refine rg_nil ?_; refine ret1 Tryz.func58 Tryz.results58 wn_ () (by rw [allP_eq, h20]; rfl) (fun w hs => hs.none)
theorem all_spec : ∀ t : T, AllAt t := T.ind fun t ih hp vars dims bound vr vk vs hv h0 hl => all_walk t hp ih vars dims bound vr vk vs hv h0 hl
theorem right_spec (t : T) (hp : plainT t = true ∨ FORM) (vr vk vs : SH) (vars dims : Int) (hv : in64 vars) (hsz : size t ≤ 1152921504606846) : Spec Tryz.prog 38 #[.agg (tc t vr vk vs).toArray, .int .i64 vars, .int .i64 dims] [RT t vr vk vs] [] (fun _ : Unit => .int .i64 (rightP t vars dims)) (fun _ => []) (fun _ => []) := by
  refine spec_go (args := [.agg (tc t vr vk vs).toArray, .int .i64 vars, .int .i64 dims]) Tryz.func38 Tryz.ntmps38 rfl (by exact Nat.le_of_ble_eq_true rfl) fun B hB => ?_
  have hds := depth_le_size t; refine go_seq ?_; refine go_region ⟨_, Tryz.func38⟩ rfl ?_; refine q0 rfl (o_box fun b3 => ?_); refine q0 rfl (o_assign ?_); refine rg_nil ?_; refine go_seq ?_; refine go_seq ?_; refine go_cutS ([(1, .int .i64 vars), (2, .int .i64 dims), (3, .pointer (some ⟨b3, 0, none⟩)), (17, .bool (decide (vars < 0) || decide (dims < 0) || decide (24 < dims)))]) (fun hK => ?_) (fun base => ?_)
  · refine go_region ⟨_, Tryz.func38⟩ rfl ?_; refine q0 rfl (o_move ?_); refine q0 rfl (o_lss ?_); refine q0 rfl (o_move ?_); refine qI rfl rfl rfl wl_ (fun hg10 => o_move ?_) (fun hg10 => ?_)
    · refine qT rfl rfl rfl (o_lss ?_); refine q0 rfl (o_pickF ?_); refine q0 rfl (o_move ?_); refine qI rfl rfl rfl wl_ (fun hg14 => o_move ?_) (fun hg14 => ?_)
      · refine qT rfl rfl rfl (o_gtr ?_); refine q0 rfl (o_pickF ?_); refine rg_nil ?_; exact hK _ ⟨rfl, rfl, rfl, (by (conv => lhs; whnf); first | (simp_all [Bool.and_assoc]; done) | (simp_all [Bool.and_assoc]; omega)), trivial⟩
      · refine qF rfl rfl rfl ?_; refine q0 rfl (o_pickT ?_); refine rg_nil ?_; exact hK _ ⟨rfl, rfl, rfl, (by (conv => lhs; whnf); first | (simp_all [Bool.and_assoc]; done) | (simp_all [Bool.and_assoc]; omega)), trivial⟩
    · refine qF rfl rfl rfl ?_; refine q0 rfl (o_pickT ?_); refine q0 rfl (o_move ?_); refine qF rfl rfl rfl ?_; refine qF rfl rfl rfl ?_; refine q0 rfl (o_pickT ?_); refine rg_nil ?_; exact hK _ ⟨rfl, rfl, rfl, (by (conv => lhs; whnf); first | (simp_all [Bool.and_assoc]; done) | (simp_all [Bool.and_assoc]; omega)), trivial⟩
  · refine go_condI (fun h17 => ?_) (fun h17 => ?_)
    · refine go_seq ?_; refine go_region ⟨_, Tryz.func38⟩ rfl ?_; refine q0 rfl (o_assign ?_); refine rg_nil ?_; refine ret1 Tryz.func38 Tryz.results38 wn_ () (by rw [rightP, if_pos h17]) (fun w hs => hs.none)
    · have hb : 0 ≤ vars ∧ 0 ≤ dims ∧ dims ≤ 24 := by simp at h17; omega
      refine go_skip ?_; refine go_seq ?_; refine go_seq ?_; refine go_region ⟨_, Tryz.func38⟩ rfl ?_; refine q0 rfl (o_lds ?_); refine q0 rfl (o_call Tryz.call57 (sized_spec t vr vk vs) (fun x19 => ?_)); refine q0 rfl (o_assign ?_); refine rg_nil ?_; refine go_seq ?_; refine go_region ⟨_, Tryz.func38⟩ rfl ?_; refine q0 rfl (o_move ?_); refine q0 rfl (o_neI ?_); refine rg_nil ?_; refine go_condI (fun h21 => ?_) (fun h21 => ?_)
      · have hs := of_decide_eq_true h21; refine go_seq ?_; refine go_region ⟨_, Tryz.func38⟩ rfl ?_; refine q0 rfl (o_move ?_); refine q0 rfl (o_assign ?_); refine rg_nil ?_; refine ret1 Tryz.func38 Tryz.results38 wn_ () (by rw [rightP, if_neg (by rw [h17]; simp), if_pos hs]) (fun w hs => hs.none)
      · have hs := of_decide_eq_false h21; refine go_skip ?_; refine go_seq ?_; refine go_seq ?_; refine go_region ⟨_, Tryz.func38⟩ rfl ?_; refine q0 rfl (o_lds ?_); refine q0 rfl (o_move ?_); refine q0 rfl (o_move ?_); refine q0 rfl (o_call Tryz.call58 (all_spec t hp vars dims true vr vk vs hv (by omega) (by omega)) (fun x26 => ?_)); refine q0 rfl (o_not ?_); refine rg_nil ?_; refine go_condI (fun h27 => ?_) (fun h27 => ?_)
        · refine go_seq ?_; refine go_region ⟨_, Tryz.func38⟩ rfl ?_; refine q0 rfl (o_assign ?_); refine rg_nil ?_; refine ret1 Tryz.func38 Tryz.results38 wn_ () (by rw [rightP, if_neg (by rw [h17]; simp), if_neg hs]; simp_all) (fun w hs => hs.none)
        · refine go_skip ?_; refine go_seq ?_; refine go_region ⟨_, Tryz.func38⟩ rfl ?_; refine q0 rfl (o_assign ?_); refine rg_nil ?_; refine ret1 Tryz.func38 Tryz.results38 wn_ () (by rw [rightP, if_neg (by rw [h17]; simp), if_neg hs]; simp_all) (fun w hs => hs.none)
theorem formed_spec (t : T) (hp : plainT t = true ∨ FORM) (vr vk vs : SH) (hsz : size t ≤ 1152921504606846) : Spec Tryz.prog 47 #[.agg (tc t vr vk vs).toArray] [RT t vr vk vs] [] (fun _ : Unit => .int .i64 (formedP t)) (fun _ => []) (fun _ => []) := by
  refine spec_go (args := [.agg (tc t vr vk vs).toArray]) Tryz.func47 Tryz.ntmps47 rfl (by exact Nat.le_of_ble_eq_true rfl) fun B hB => ?_
  have hds := depth_le_size t; refine go_seq ?_; refine go_region ⟨_, Tryz.func47⟩ rfl ?_; refine q0 rfl (o_box fun b1 => ?_); refine q0 rfl (o_assign ?_); refine rg_nil ?_; refine go_seq ?_; refine go_seq ?_; refine go_region ⟨_, Tryz.func47⟩ rfl ?_; refine q0 rfl (o_lds ?_); refine q0 rfl (o_call Tryz.call57 (sized_spec t vr vk vs) (fun x5 => ?_)); refine q0 rfl (o_assign ?_); refine rg_nil ?_; refine go_seq ?_; refine go_region ⟨_, Tryz.func47⟩ rfl ?_; refine q0 rfl (o_move ?_); refine q0 rfl (o_neI ?_); refine rg_nil ?_; refine go_condI (fun h7 => ?_) (fun h7 => ?_)
  · have hs := of_decide_eq_true h7; refine go_seq ?_; refine go_region ⟨_, Tryz.func47⟩ rfl ?_; refine q0 rfl (o_move ?_); refine q0 rfl (o_assign ?_); refine rg_nil ?_; refine ret1 Tryz.func47 Tryz.results47 wn_ () (by rw [formedP, if_pos hs]) (fun w hs => hs.none)
  · have hs := of_decide_eq_false h7; refine go_skip ?_; refine go_seq ?_; refine go_seq ?_; refine go_region ⟨_, Tryz.func47⟩ rfl ?_; refine q0 rfl (o_lds ?_); refine q0 rfl (o_call Tryz.call58 (all_spec t hp (-1) 24 false vr vk vs (by unfold in64; omega) (by omega) (by omega)) (fun x10 => ?_)); refine q0 rfl (o_not ?_); refine rg_nil ?_; refine go_condI (fun h11 => ?_) (fun h11 => ?_)
    · refine go_seq ?_; refine go_region ⟨_, Tryz.func47⟩ rfl ?_; refine q0 rfl (o_assign ?_); refine rg_nil ?_; refine ret1 Tryz.func47 Tryz.results47 wn_ () (by rw [formedP, if_neg hs]; simp_all) (fun w hs => hs.none)
    · refine go_skip ?_; refine go_seq ?_; refine go_region ⟨_, Tryz.func47⟩ rfl ?_; refine q0 rfl (o_assign ?_); refine rg_nil ?_; refine ret1 Tryz.func47 Tryz.results47 wn_ () (by rw [formedP, if_neg hs]; simp_all) (fun w hs => hs.none)
end Go.Hy
namespace Go.Hy
theorem foldl_size (l : List Part) (a : Nat) : l.foldl (fun a p => a + size p.1) a = a + (l.map fun p => size p.1).sum := by
  induction l generalizing a with
  | nil => simp
  | cons b l ih => rw [List.foldl_cons, ih]; simp; omega
theorem size_sum (t : T) : size t = 1 + ((parts t).map fun p => size p.1).sum := by rw [size_eq, foldl_size]
theorem size_kids_sys (t : T) : size t = 1 + (t.kids.map size).sum + ((t.sys.map fun b => b.kids.map size).flatten).sum := by
  rw [size_sum, parts_map, List.sum_append]; omega
theorem wrap_id {n : Int} (h : in64 n) : IntKind.i64.wrap n = n := by rw [IntKind.wrap_i64]; unfold in64 at h; omega
theorem sized_zero {t : T} : sized t = 0 ↔ depth t ≤ 200 ∧ size t ≤ 20000 := by
  unfold sized
  split
  · simp; omega
  · split
    · simp; omega
    · simp; omega
theorem right_zero {t : T} {v d : Int} : rightP t v d = 0 ↔ 0 ≤ v ∧ 0 ≤ d ∧ d ≤ 24 ∧ sized t = 0 ∧ allP t v d true = true := by
  unfold rightP
  split
  · rename_i h
    simp only [Bool.or_eq_true, decide_eq_true_eq] at h
    constructor
    · intro h2; cases h2
    · intro h2; omega
  · rename_i h
    simp only [Bool.or_eq_true, decide_eq_true_eq] at h
    split
    · rename_i h2; constructor
      · intro h3; exact absurd h3 h2
      · intro h3; exact absurd h3.2.2.2.1 h2
    · rename_i h2
      have h2 : sized t = 0 := by simpa using h2
      split
      · rename_i h3; simp only [h2, h3, and_self, and_true, true_iff]; omega
      · rename_i h3; simp only [h3]; constructor
        · intro h4; cases h4
        · intro h4; exact absurd h4.2.2.2.2 (by decide)
theorem formed_zero {t : T} : formedP t = 0 ↔ sized t = 0 ∧ allP t (-1) 24 false = true := by
  unfold formedP
  split
  · rename_i h; constructor
    · intro h2; exact absurd h2 h
    · intro h2; exact absurd h2.1 h
  · rename_i h
    have h : sized t = 0 := by simpa using h
    split
    · rename_i h3; simp [h, h3]
    · rename_i h3; simp [h3]
theorem depth_kid {t k : T} (hk : k ∈ t.kids) : depth k < depth t := by obtain ⟨p, hp, e⟩ := kid_mem_parts hk; exact e ▸ depth_mem hp
end Go.Hy
namespace Go.Hy
theorem and24_lt (s : Nat) : s &&& 16777215 < 16777216 := by rw [and24]; exact Nat.mod_lt _ (by decide)
theorem fDims_lt (l : List Cl) : fDims l < 16777216 := by rw [fDims_eq]; exact and24_lt _
end Go.Hy
namespace Go.Hy
theorem size_pos' (t : T) : 1 ≤ size t := by
  rw [size_eq]
  have : ∀ (l : List Part) (a : Nat), a ≤ l.foldl (fun a p => a + size p.1) a := by
    intro l
    induction l with
    | nil => intro a; exact Nat.le_refl _
    | cons p l ih => intro a; exact Nat.le_trans (Nat.le_add_right _ _) (ih _)
  exact this _ _
end Go.Hy
namespace Go.Hy
theorem binds_01 (k i : Int) : 0 ≤ (binds k i).1 ∧ (binds k i).1 ≤ 1 ∧ 0 ≤ (binds k i).2 ∧ (binds k i).2 ≤ 1 := by
  unfold binds
  repeat (first | split | (refine ⟨?_, ?_, ?_, ?_⟩ <;> simp))
theorem parts_01 {t : T} {p : Part} (h : p ∈ parts t) : 0 ≤ p.2.1 ∧ p.2.1 ≤ 1 ∧ 0 ≤ p.2.2 ∧ p.2.2 ≤ 1 := by
  unfold parts at h
  rcases List.mem_append.mp h with h | h
  · have : ∀ (ks : List T) (i : Nat), p ∈ kidParts t.kind i ks → 0 ≤ p.2.1 ∧ p.2.1 ≤ 1 ∧ 0 ≤ p.2.2 ∧ p.2.2 ≤ 1 := by
      intro ks
      induction ks with
      | nil => intro i h; simp [kidParts] at h
      | cons k ks ih =>
        intro i h
        rcases List.mem_cons.mp h with e | h
        · subst e; exact binds_01 _ _
        · exact ih _ h
    exact this _ _ h
  · have : ∀ (bs : List Br), p ∈ sysParts t.kind bs → 0 ≤ p.2.1 ∧ p.2.1 ≤ 1 ∧ 0 ≤ p.2.2 ∧ p.2.2 ≤ 1 := by
      intro bs
      induction bs with
      | nil => intro h; simp [sysParts] at h
      | cons b bs ih =>
        intro h
        rcases List.mem_append.mp h with h | h
        · obtain ⟨k, _, e⟩ := List.mem_map.mp h
          subst e
          show 0 ≤ (0 : Int) ∧ (0 : Int) ≤ 1 ∧ 0 ≤ more t.kind ∧ more t.kind ≤ 1
          unfold more
          split <;> omega
        · exact ih h
    exact this _ h
theorem size_part_lt {t : T} {p : Part} (h : p ∈ parts t) : size p.1 < size t := by
  obtain ⟨m, hm, e⟩ := List.mem_iff_getElem.mp h
  have h1 := size_part (t := t) (m := m) (p := p) (by rw [List.getElem?_eq_getElem hm, e])
  have h2 : 1 ≤ sizeUpto t m := by
    unfold sizeUpto pfold
    have : ∀ (l : List Part) (a : Nat), a ≤ l.foldl (fun a p => a + size p.1) a := by
      intro l
      induction l with
      | nil => intro a; exact Nat.le_refl _
      | cons p l ih => intro a; exact Nat.le_trans (Nat.le_add_right _ _) (ih _)
    exact this _ _
  omega
end Go.Hy
namespace Go.Hy
@[simp] theorem qE_def (q : QP) : qE q = RT q.1.1 q.1.2.1 q.1.2.2.1 q.1.2.2.2 := rfl
@[simp] theorem ipE_def (q : IP) : ipE q = IL q.1 q.2 := rfl
end Go.Hy
namespace Go.Hy
section
variable {α : Type} {B : Base} {Γ : List Fact} {Ms : List Res} {w : World} {E : α → Fact} {l : List α}
end
end Go.Hy
namespace Go.Hy
/-! ### Lifting: masks, clauses, formulas -/
def maskLift (s : Nat) (f b : Int) : Int × Nat :=
  if f < 0 ∨ b < 0 then (2, 0) else
  if andNot32 (s &&& 16777215) (2 ^ (min f.toNat 24) - 1) = 0 then (0, (s &&& 16777215) &&& (2 ^ (min f.toNat 24) - 1)) else
  if 24 ≤ b ∨ 16777215 < andNot32 (s &&& 16777215) (2 ^ (min f.toNat 24) - 1) * 2 ^ b.toNat then (10, 0) else
  (0, ((s &&& 16777215) &&& (2 ^ (min f.toNat 24) - 1)) ||| (andNot32 (s &&& 16777215) (2 ^ (min f.toNat 24) - 1) * 2 ^ b.toNat))
theorem andNot32_bit (a b i : Nat) : (andNot32 a b).testBit i = (decide (i < 32) && a.testBit i && !b.testBit i) := by
  unfold andNot32
  rw [BitVec.testBit_toNat]
  by_cases h : i < 32
  · rw [BitVec.getLsbD_and, BitVec.getLsbD_not, BitVec.getLsbD_ofNat, BitVec.getLsbD_ofNat]
    simp [h]
  · have : (BitVec.ofNat 32 a &&& ~~~BitVec.ofNat 32 b).getLsbD i = false := BitVec.getLsbD_of_ge _ _ (by omega)
    rw [this]; simp [h]
theorem and24_bit (s i : Nat) : (s &&& 16777215).testBit i = (decide (i < 24) && s.testBit i) := by
  rw [and24, Nat.testBit_mod_two_pow]
theorem mask_bit (m i : Nat) : (2 ^ m - 1).testBit i = decide (i < m) := Nat.testBit_two_pow_sub_one m i
theorem andNot_lt {q m : Nat} (h : q < 16777216) : andNot32 q m < 16777216 := by
  refine Nat.lt_pow_two_of_testBit (n := 24) _ (fun i hi => ?_)
  rw [andNot32_bit, Nat.testBit_lt_two_pow (x := q) (Nat.lt_of_lt_of_le h (Nat.pow_le_pow_right (n := 2) (by decide) hi))]
  simp
theorem maskLift_lt (s : Nat) (f b : Int) : (maskLift s f b).2 < 16777216 := by
  unfold maskLift
  split
  · decide
  · split
    · exact Nat.lt_of_le_of_lt Nat.and_le_left (and24_lt s)
    · split
      · decide
      · refine Nat.or_lt_two_pow (n := 24) ?_ ?_
        · exact Nat.lt_of_le_of_lt Nat.and_le_left (and24_lt s)
        · rename_i h; simp only [not_or] at h; have := h.2; omega
def clLift (c : Cl) (f b : Int) : Int × Cl :=
  if right24 c = false then (2, cl0) else
  if (maskLift c.pos f b).1 ≠ 0 then ((maskLift c.pos f b).1, cl0) else
  if (maskLift c.neg f b).1 ≠ 0 then ((maskLift c.neg f b).1, cl0) else
  (0, ⟨(maskLift c.pos f b).2, (maskLift c.neg f b).2⟩)
theorem clLift_u32 (c : Cl) (f b : Int) : u32 (clLift c f b).2 := by
  have h1 := maskLift_lt c.pos f b
  have h2 := maskLift_lt c.neg f b
  unfold clLift
  split
  · exact ⟨(by decide : (0 : Nat) < 4294967296), (by decide : (0 : Nat) < 4294967296)⟩
  · split
    · exact ⟨(by decide : (0 : Nat) < 4294967296), (by decide : (0 : Nat) < 4294967296)⟩
    · split
      · exact ⟨(by decide : (0 : Nat) < 4294967296), (by decide : (0 : Nat) < 4294967296)⟩
      · exact ⟨by show (maskLift c.pos f b).2 < _; omega, by show (maskLift c.neg f b).2 < _; omega⟩
/-! Formulas, clause by clause. -/
def foldC (g : Cl → Int × Cl) (l : List Cl) : Int × List Cl := match l.find? (fun c => (g c).1 ≠ 0) with
  | some c => ((g c).1, [])
  | none => (0, l.map fun c => (g c).2)
theorem foldC_bad {g : Cl → Int × Cl} {l : List Cl} {i : Nat} (hi : i < l.length) (h0 : ∀ j, j < i → (g (l.getD j cl0)).1 = 0) (h : (g (l.getD i cl0)).1 ≠ 0) : foldC g l = ((g (l.getD i cl0)).1, []) := by
  have : l.find? (fun c => (g c).1 ≠ 0) = some (l.getD i cl0) := by
    rw [List.find?_eq_some_iff_getElem]
    rw [getD_get (d := cl0) hi] at h ⊢
    refine ⟨by simpa using h, i, hi, rfl, fun j hj => ?_⟩
    have := h0 j hj
    rw [getD_get (d := cl0) (by omega)] at this
    simp [this]
  rw [foldC, this]
theorem foldC_ok {g : Cl → Int × Cl} {l : List Cl} (h0 : ∀ j, j < l.length → (g (l.getD j cl0)).1 = 0) : foldC g l = (0, l.map fun c => (g c).2) := by
  have : l.find? (fun c => (g c).1 ≠ 0) = none := by
    rw [List.find?_eq_none]
    intro x hx
    obtain ⟨j, hj, e⟩ := List.mem_iff_getElem.mp hx
    have := h0 j hj
    rw [getD_get (d := cl0) hj, e] at this
    simp [this]
  rw [foldC, this]
theorem foldC_iff {g : Cl → Int × Cl} {l : List Cl} : (foldC g l).1 = 0 ↔ ∀ c, c ∈ l → (g c).1 = 0 := by
  unfold foldC
  cases h : l.find? (fun c => (g c).1 ≠ 0) with
  | none =>
    rw [List.find?_eq_none] at h
    simp only [true_iff]
    intro c hc
    simpa using h c hc
  | some c =>
    have h1 := List.find?_some h
    have h2 := List.mem_of_find?_eq_some h
    simp only
    refine ⟨fun h3 => ?_, fun h3 => h3 c h2⟩
    simp at h1; exact absurd h3 h1
theorem foldC_map {g : Cl → Int × Cl} {l : List Cl} (h : (foldC g l).1 = 0) : foldC g l = (0, l.map fun c => (g c).2) :=
  foldC_ok fun j hj => foldC_iff.mp h _ (getD_mem hj)
theorem leastF_fRight {l : List Cl} : fRight l = true ↔ leastF l = (0, l) := by
  rw [← leastF_right, Bool.and_eq_true, decide_eq_true_eq, decide_eq_true_eq]
  constructor
  · rintro ⟨h1, h2⟩; exact Prod.ext h1 h2
  · intro h; rw [h]; exact ⟨rfl, rfl⟩
def formLift (l : List Cl) (f b : Int) : Int × List Cl :=
  if fRight l = false then (2, []) else
  if (foldC (fun c => clLift c f b) l).1 ≠ 0 then ((foldC (fun c => clLift c f b) l).1, []) else leastF (foldC (fun c => clLift c f b) l).2
def rowLift (by_ : Int) (l : List Cl) (f : Int) : Res1 (List Cl) :=
  if by_ = 0 ∨ 24 ≤ f then .ok l else if (formLift l f by_).1 = 0 then .ok (formLift l f by_).2 else .bad (formLift l f by_).1
/-! ### Terms -/
def liftTr (vb db : Int) : Tr (Int × Int) where
  own c k n _ r := (rowLift db r c.2).bind fun r' => if k = 1 ∧ c.1 ≤ n then (if 1000000000 - vb < n then .bad 100 else .ok (.inr (n + vb, r'))) else .ok (.inr (n, r'))
  face c f := (rowLift db f c.2).bind fun f' => .ok (some f')
  kid c b := .ok (c.1 + b.1, c.2 + b.2)
section
variable {C : Type} {A : Tr C} {t : T} {c : C} {e : Int}
theorem trav_own_bad (h : A.own c t.kind t.n t.name t.r = .bad e) : trav A t c = .bad e := by rw [trav_eq, h]; rfl
theorem trav_kid_bad {p : Int × List Cl} {i : Nat} {l : List T} (h : A.own c t.kind t.n t.name t.r = .ok (.inr p)) (hi : i < t.kids.length) (hl : travL A t.kind 0 (t.kids.take i) c = .ok l) {c' : C} (hc : A.kid c (binds t.kind i) = .ok c') (hb : trav A (t.kids.getD i t0) c' = .bad e) : trav A t c = .bad e := by
  have h1 : travL A t.kind 0 (t.kids.take (i + 1)) c = .bad e := by
    rw [take_succ_getD (d := t0) hi, travL_snoc, hl]
    simp only [Res1.bind, List.length_take, Nat.zero_add, Nat.min_eq_left (Nat.le_of_lt hi)]
    rw [hc]; simp only; rw [hb]
  have h2 := travL_bad (m := t.kids.drop (i + 1)) h1
  rw [List.take_append_drop] at h2
  rw [trav_eq, h]; simp only [Res1.bind]; rw [h2]
theorem trav_kid_ok {k : Int} {ts : List T} {i : Nat} {l : List T} {u : T} (hi : i < ts.length) (hl : travL A k 0 (ts.take i) c = .ok l) {c' : C} (hc : A.kid c (binds k i) = .ok c') (hb : trav A (ts.getD i t0) c' = .ok u) : travL A k 0 (ts.take (i + 1)) c = .ok (l ++ [u]) := by
  rw [take_succ_getD (d := t0) hi, travL_snoc, hl]
  simp only [Res1.bind, List.length_take, Nat.zero_add, Nat.min_eq_left (Nat.le_of_lt hi)]
  rw [hc]; simp only; rw [hb]
theorem travS_at_bad {k : Int} {ts : List T} {i : Nat} {l : List T} (hi : i < ts.length) (hl : travS A k (ts.take i) c = .ok l) {c' : C} (hc : A.kid c (0, more k) = .ok c') (hb : trav A (ts.getD i t0) c' = .bad e) : travS A k ts c = .bad e := by
  have h1 : travS A k (ts.take (i + 1)) c = .bad e := by
    rw [take_succ_getD (d := t0) hi, travS_snoc, hl]
    simp only [Res1.bind]
    rw [hc]; simp only; rw [hb]
  have h2 := travS_bad (m := ts.drop (i + 1)) h1
  rwa [List.take_append_drop] at h2
theorem travS_at_ok {k : Int} {ts : List T} {i : Nat} {l : List T} {u : T} (hi : i < ts.length) (hl : travS A k (ts.take i) c = .ok l) {c' : C} (hc : A.kid c (0, more k) = .ok c') (hb : trav A (ts.getD i t0) c' = .ok u) : travS A k (ts.take (i + 1)) c = .ok (l ++ [u]) := by
  rw [take_succ_getD (d := t0) hi, travS_snoc, hl]
  simp only [Res1.bind]
  rw [hc]; simp only; rw [hb]
theorem trav_sys_bad {p : Int × List Cl} {s : Nat} {l : List T} {bs : List Br} (h : A.own c t.kind t.n t.name t.r = .ok (.inr p)) (hl : travL A t.kind 0 t.kids c = .ok l) (hs : s < t.sys.length) (hb : travB A t.kind (t.sys.take s) c = .ok bs) (hf : A.face c (t.sys.getD s br0).face = .bad e ∨ ∃ f', A.face c (t.sys.getD s br0).face = .ok (some f') ∧ travS A t.kind (t.sys.getD s br0).kids c = .bad e) : trav A t c = .bad e := by
  have h1 : travB A t.kind (t.sys.take (s + 1)) c = .bad e := by
    rw [take_succ_getD (d := br0) hs, travB_snoc, hb]
    simp only [Res1.bind]
    rcases hf with hf | ⟨f', hf, h2⟩
    · rw [hf]
    · rw [hf]; simp only; rw [h2]
  have h2 := travB_bad (m := t.sys.drop (s + 1)) h1
  rw [List.take_append_drop] at h2
  rw [trav_eq, h]; simp only [Res1.bind]; rw [hl]; simp only; rw [h2]
theorem travB_at_ok {k : Int} {ss : List Br} {s : Nat} {bs : List Br} {f' : List Cl} {ks : List T} (hs : s < ss.length) (hb : travB A k (ss.take s) c = .ok bs) (hf : A.face c (ss.getD s br0).face = .ok (some f')) (hk : travS A k (ss.getD s br0).kids c = .ok ks) : travB A k (ss.take (s + 1)) c = .ok (bs ++ [.mk f' ks]) := by
  rw [take_succ_getD (d := br0) hs, travB_snoc, hb]
  simp only [Res1.bind]
  rw [hf]; simp only; rw [hk]
theorem trav_ok_of {p : Int × List Cl} {l : List T} {bs : List Br} (h : A.own c t.kind t.n t.name t.r = .ok (.inr p)) (hl : travL A t.kind 0 t.kids c = .ok l) (hb : travB A t.kind t.sys c = .ok bs) : trav A t c = .ok (.mk t.kind p.1 t.name p.2 l bs) := by
  rw [trav_eq, h]; simp only [Res1.bind]; rw [hl]; simp only; rw [hb]
end
theorem foldC_u32 {g : Cl → Int × Cl} {l : List Cl} (h : ∀ c, u32 (g c).2) : ∀ c, c ∈ (foldC g l).2 → u32 c := by
  intro c hc
  unfold foldC at hc
  split at hc
  · cases hc
  · obtain ⟨d, _, rfl⟩ := List.mem_map.mp hc; exact h d
theorem foldC_len {g : Cl → Int × Cl} {l : List Cl} : (foldC g l).2.length ≤ l.length := by
  unfold foldC
  split <;> simp
theorem more_01 (k : Int) : 0 ≤ more k ∧ more k ≤ 1 := by unfold more; split <;> omega
theorem size_kid_lt {t : T} {i : Nat} (h : i < t.kids.length) : size (t.kids.getD i t0) < size t := by
  obtain ⟨p, hp, e⟩ := kid_mem_parts (getD_mem (d := t0) h); exact e ▸ size_part_lt hp
theorem size_sys_lt {t : T} {s k : Nat} (h : s < t.sys.length) (h2 : k < (t.sys.getD s br0).kids.length) : size ((t.sys.getD s br0).kids.getD k t0) < size t := by
  obtain ⟨p, hp, e⟩ := sys_mem_parts (getD_mem (d := br0) h) (getD_mem (d := t0) h2); exact e ▸ size_part_lt hp
/-- What a lifted node becomes. -/
def liftN (vb : Int) (v : Int) (k n : Int) : Int := if k = 1 ∧ v ≤ n then n + vb else n
theorem lift_own {vb db v d : Int} {t : T} {g : List Cl} (hg : rowLift db t.r d = .ok g) (h : ¬ (t.kind = 1 ∧ v ≤ t.n ∧ 1000000000 - vb < t.n)) : (liftTr vb db).own (v, d) t.kind t.n t.name t.r = .ok (.inr (liftN vb v t.kind t.n, g)) := by
  simp only [liftTr, hg, Res1.bind, liftN]
  split
  · rename_i h1
    rw [if_neg (fun h2 => h ⟨h1.1, h1.2, h2⟩)]
  · rfl
theorem lift_own_row {vb db v d : Int} {t : T} {e : Int} (hg : rowLift db t.r d = .bad e) : (liftTr vb db).own (v, d) t.kind t.n t.name t.r = .bad e := by
  simp only [liftTr, hg, Res1.bind]
theorem lift_own_far {vb db v d : Int} {t : T} {g : List Cl} (hg : rowLift db t.r d = .ok g) (h : t.kind = 1 ∧ v ≤ t.n ∧ 1000000000 - vb < t.n) : (liftTr vb db).own (v, d) t.kind t.n t.name t.r = .bad 100 := by
  simp only [liftTr, hg, Res1.bind]
  rw [if_pos ⟨h.1, h.2.1⟩, if_pos h.2.2]
theorem lift_face_ok {vb db v d : Int} {f g : List Cl} (hg : rowLift db f d = .ok g) : (liftTr vb db).face (v, d) f = .ok (some g) := by simp only [liftTr, hg, Res1.bind]
theorem lift_face_bad {vb db v d : Int} {f : List Cl} {e : Int} (hg : rowLift db f d = .bad e) : (liftTr vb db).face (v, d) f = .bad e := by simp only [liftTr, hg, Res1.bind]
theorem lift_kid {vb db v d : Int} {b : Int × Int} : (liftTr vb db).kid (v, d) b = .ok (v + b.1, d + b.2) := rfl
theorem travB_all {vb db : Int} {k : Int} {c : Int × Int} : ∀ {l l' : List Br}, travB (liftTr vb db) k l c = .ok l' → l'.length = l.length
  | [], l', h => by rw [travB_nil] at h; injection h with h; subst h; rfl
  | a :: l, l', h => by
    rw [travB_cons] at h
    obtain ⟨o, ho, h⟩ := Res1.bind_ok h
    obtain ⟨g, _, hg⟩ := Res1.bind_ok (x := rowLift db a.face c.2) ho
    injection hg with hg
    subst hg
    obtain ⟨ks', _, h⟩ := Res1.bind_ok h
    obtain ⟨bs', h3, h⟩ := Res1.bind_ok h
    injection h with h
    subst h
    simp [travB_all h3]
/-! ### What is guarded -/
theorem h0_er : h0.er = t0 := by simp [h0, HT.er, HT.erL, HT.erB, t0]
theorem St.h0R {B : Base} {Γ : List Fact} {Ms : List Res} {w : World} (y : Tys) (hs : St B Γ Ms w) : St B Γ (bigR (treeR y h0) :: Ms) w := by
  have h1 := ((((hs.bigNil).bigNil).rowS0 2 y.b).rowS0 6 y.t).rowS0 2 y.c
  exact St.joinT (y := y) (k := 0) (n := 0) (nm := ByteArray.mk #[]) (r := []) (v := nul) (u := nul) (x := nul) (ks := []) (ss := []) rfl rfl rfl rfl rfl rfl (by simpa [kidsR, brsR] using h1)
def guardRes (t : T) (ns : List Int) (r : Res1 T) : Int × T := if formedP t ≠ 0 then (formedP t, t0) else if ns.all (fun n => decide (0 ≤ n)) = false then (2, t0) else match r with
  | .ok u => (0, u)
  | .bad e => (e, t0)
theorem guard_form {t : T} {ns : List Int} {r : Res1 T} (h : formedP t ≠ 0) : guardRes t ns r = (formedP t, t0) := by unfold guardRes; rw [if_pos h]
theorem guard_neg {t : T} {ns : List Int} {r : Res1 T} (h : formedP t = 0) (h2 : ns.all (fun n => decide (0 ≤ n)) = false) : guardRes t ns r = (2, t0) := by unfold guardRes; rw [if_neg (by simp [h]), if_pos h2]
theorem guard_ok {t u : T} {ns : List Int} {r : Res1 T} (h : formedP t = 0) (h2 : ns.all (fun n => decide (0 ≤ n)) = true) (hr : r = .ok u) : guardRes t ns r = (0, u) := by unfold guardRes; rw [if_neg (by simp [h]), if_neg (by simp [h2]), hr]
theorem guard_bad {t : T} {e : Int} {ns : List Int} {r : Res1 T} (h : formedP t = 0) (h2 : ns.all (fun n => decide (0 ≤ n)) = true) (hr : r = .bad e) : guardRes t ns r = (e, t0) := by unfold guardRes; rw [if_neg (by simp [h]), if_neg (by simp [h2]), hr]
/-! ### A tree of the caller's own, known for good -/
theorem Spec.settleT {P : Program} {k : FuncId} {args : Array Value} {pre : List Fact} (y : Tys) {u : T} (g : Value → Value) (h : Spec P k args pre [] (fun x : {h : HT // h.er = u} => g (.agg (tc u x.1.vr x.1.vk x.1.vs).toArray)) (fun _ => []) (fun x => [bigR (treeR y x.1)])) (hok : ∀ ok w, St ⟨ok, domAll [], w⟩ pre [] w → okT u) :
    Spec P k args pre [] (fun x : SH × SH × SH => g (.agg (tc u x.1 x.2.1 x.2.2).toArray)) (fun x => [RT u x.1 x.2.1 x.2.2]) (fun _ => []) := fun ok w hk hs => (h ok w hk hs).mono fun e w' hh => by
  obtain ⟨x, he, hs'⟩ := hh
  have h1 : St ⟨ok, domAll [], w⟩ [] (treeR y x.1 ++ []) w' := hs'.unpack
  have h2 := St.settleT y trivial x.1 (by rw [x.2]; exact hok ok w hs) h1
  rw [x.2] at h2
  exact ⟨(x.1.vr, x.1.vk, x.1.vs), he, h2⟩
theorem SpecR.settleT {P : Program} {Te : TypeId} {k : FuncId} {args : Array Value} {pre : List Fact} (y : Tys) {r : Res1 T} (h : SpecR P Te k args pre r (fun (u : T) => fun x : {h : HT // h.er = u} => .agg (tc u x.1.vr x.1.vk x.1.vs).toArray) (fun _ _ => []) (fun (u : T) => fun x : {h : HT // h.er = u} => [bigR (treeR y x.1)])) (hok : ∀ u, r = .ok u → ∀ ok w, St ⟨ok, domAll [], w⟩ pre [] w → okT u) :
    SpecR P Te k args pre r (fun (u : T) => fun x : SH × SH × SH => .agg (tc u x.1 x.2.1 x.2.2).toArray) (fun u x => [RT u x.1 x.2.1 x.2.2]) (fun _ _ => []) := ⟨fun u hu => Spec.settleT y (fun v => v) (h.1 u hu) (hok u hu), h.2⟩
abbrev rowOk (l : List Cl) : Prop := (∀ c, c ∈ l → u32 c) ∧ l.length * 8 ≤ reach
section
variable {C : Type} {A : Tr C}
mutual
theorem trav_okT (ho : ∀ c k n nm r p, in64 k → in64 n → rowOk r → A.own c k n nm r = .ok (.inr p) → in64 p.1 ∧ rowOk p.2) (hi : ∀ c k n nm r u, A.own c k n nm r = .ok (.inl u) → okT u) (hf : ∀ c f f', rowOk f → A.face c f = .ok (some f') → rowOk f') : ∀ (t : T) (c : C) (u : T), okT t → trav A t c = .ok u → okT u
  | .mk k n nm r ks ss, c, u, h, hu => by
    simp only [okT] at h
    obtain ⟨h1, h2, h3, h4, h5, h6, h7, h8⟩ := h
    rw [trav_eq] at hu
    simp only [T.kind, T.n, T.name, T.r, T.kids, T.sys] at hu
    obtain ⟨o, h9, hu⟩ := Res1.bind_ok hu
    cases o with
    | inl v => injection hu with hu; subst hu; exact hi _ _ _ _ _ _ h9
    | inr p =>
      obtain ⟨ks', h10, hu⟩ := Res1.bind_ok hu
      obtain ⟨ss', h11, hu⟩ := Res1.bind_ok hu
      injection hu with hu
      subst hu
      obtain ⟨p1, p2⟩ := ho _ _ _ _ _ _ h1 h2 h4 h9
      simp only [okT]
      exact ⟨h1, p1, h3, p2, by rw [travL_len h10]; exact h5, Nat.le_trans (Nat.mul_le_mul_right _ (travB_len h11)) h6, travL_okT ho hi hf ks 0 c ks' h7 h10, travB_okT ho hi hf ss c ss' h8 h11⟩
theorem travL_okT (ho : ∀ c k n nm r p, in64 k → in64 n → rowOk r → A.own c k n nm r = .ok (.inr p) → in64 p.1 ∧ rowOk p.2) (hi : ∀ c k n nm r u, A.own c k n nm r = .ok (.inl u) → okT u) (hf : ∀ c f f', rowOk f → A.face c f = .ok (some f') → rowOk f') {kd : Int} : ∀ (ts : List T) (i : Nat) (c : C) (us : List T), okL ts → travL A kd i ts c = .ok us → okL us
  | [], i, c, us, h, hu => by rw [travL_nil] at hu; injection hu with hu; subst hu; simp only [okL]
  | t :: ts, i, c, us, h, hu => by
    simp only [okL] at h
    rw [travL_cons] at hu
    obtain ⟨c', _, hu⟩ := Res1.bind_ok hu
    obtain ⟨t', h2, hu⟩ := Res1.bind_ok hu
    obtain ⟨ts', h3, hu⟩ := Res1.bind_ok hu
    injection hu with hu
    subst hu
    simp only [okL]
    exact ⟨trav_okT ho hi hf t c' t' h.1 h2, travL_okT ho hi hf ts (i + 1) c ts' h.2 h3⟩
theorem travS_okT (ho : ∀ c k n nm r p, in64 k → in64 n → rowOk r → A.own c k n nm r = .ok (.inr p) → in64 p.1 ∧ rowOk p.2) (hi : ∀ c k n nm r u, A.own c k n nm r = .ok (.inl u) → okT u) (hf : ∀ c f f', rowOk f → A.face c f = .ok (some f') → rowOk f') {kd : Int} : ∀ (ts : List T) (c : C) (us : List T), okL ts → travS A kd ts c = .ok us → okL us
  | [], c, us, h, hu => by rw [travS_nil] at hu; injection hu with hu; subst hu; simp only [okL]
  | t :: ts, c, us, h, hu => by
    simp only [okL] at h
    rw [travS_cons] at hu
    obtain ⟨c', _, hu⟩ := Res1.bind_ok hu
    obtain ⟨t', h2, hu⟩ := Res1.bind_ok hu
    obtain ⟨ts', h3, hu⟩ := Res1.bind_ok hu
    injection hu with hu
    subst hu
    simp only [okL]
    exact ⟨trav_okT ho hi hf t c' t' h.1 h2, travS_okT ho hi hf ts c ts' h.2 h3⟩
theorem travB_okT (ho : ∀ c k n nm r p, in64 k → in64 n → rowOk r → A.own c k n nm r = .ok (.inr p) → in64 p.1 ∧ rowOk p.2) (hi : ∀ c k n nm r u, A.own c k n nm r = .ok (.inl u) → okT u) (hf : ∀ c f f', rowOk f → A.face c f = .ok (some f') → rowOk f') {kd : Int} : ∀ (bs : List Br) (c : C) (us : List Br), okB bs → travB A kd bs c = .ok us → okB us
  | [], c, us, h, hu => by rw [travB_nil] at hu; injection hu with hu; subst hu; simp only [okB]
  | .mk f ks :: bs, c, us, h, hu => by
    simp only [okB] at h
    obtain ⟨h1, h2, h3, h4⟩ := h
    rw [travB_cons] at hu
    simp only [Br.face, Br.kids] at hu
    obtain ⟨o, h5, hu⟩ := Res1.bind_ok hu
    cases o with
    | none => exact travB_okT ho hi hf bs c us h4 hu
    | some f' =>
      obtain ⟨ks', h6, hu⟩ := Res1.bind_ok hu
      obtain ⟨bs', h7, hu⟩ := Res1.bind_ok hu
      injection hu with hu
      subst hu
      simp only [okB]
      exact ⟨hf _ _ _ h1 h5, by rw [travS_len h6]; exact h2, travS_okT ho hi hf ks c ks' h3 h6, travB_okT ho hi hf bs c bs' h4 h7⟩
end
end
theorem rowOk_nil : rowOk [] := ⟨fun c hc => (by cases hc), by unfold reach; decide⟩
theorem leastF_ok {l : List Cl} (h : ∀ c, c ∈ l → u32 c) : rowOk (leastF l).2 := by
  unfold leastF
  split
  · exact rowOk_nil
  · split
    · exact rowOk_nil
    · rename_i h64
      exact ⟨fun c hc => h c (refLeast_mem.mp hc).1, by show (refLeast l).length * 8 ≤ reach; unfold reach; omega⟩
theorem formLift_ok (l : List Cl) (f b : Int) : rowOk (formLift l f b).2 := by
  unfold formLift
  split
  · exact rowOk_nil
  · split
    · exact rowOk_nil
    · exact leastF_ok (foldC_u32 (fun c => clLift_u32 c f b))
theorem rowLift_ok {l g : List Cl} {f b : Int} (h : rowOk l) (hg : rowLift b l f = .ok g) : rowOk g := by
  unfold rowLift at hg
  split at hg
  · injection hg with hg; subst hg; exact h
  · split at hg
    · injection hg with hg; subst hg; exact formLift_ok l f b
    · cases hg
theorem lift_okT {vb db : Int} (hv : 0 ≤ vb ∧ vb ≤ 1000000) {t u : T} {c : Int × Int} (h : okT t) (hu : trav (liftTr vb db) t c = .ok u) : okT u := by
  refine trav_okT (A := liftTr vb db) ?_ ?_ ?_ t c u h hu
  · intro c k n nm r p _ hn hr ho
    obtain ⟨g, hg, ho⟩ := Res1.bind_ok (x := rowLift db r c.2) ho
    have hgo := rowLift_ok hr hg
    split at ho
    · rename_i h1
      split at ho
      · cases ho
      · injection ho with ho; injection ho with ho; subst ho
        exact ⟨by unfold in64 at *; dsimp only; omega, hgo⟩
    · injection ho with ho; injection ho with ho; subst ho
      exact ⟨hn, hgo⟩
  · intro c k n nm r u ho
    obtain ⟨g, hg, ho⟩ := Res1.bind_ok (x := rowLift db r c.2) ho
    split at ho
    · split at ho
      · cases ho
      · injection ho with ho; cases ho
    · injection ho with ho; cases ho
  · intro c f f' hr ho
    obtain ⟨g, hg, ho⟩ := Res1.bind_ok (x := rowLift db f c.2) ho
    injection ho with ho; injection ho with ho; subst ho
    exact rowLift_ok hr hg
theorem okT_t0 : okT t0 := by simp [t0, okT, okL, okB, in64, cap47, reach]; decide
theorem guard_okT' {t : T} {ns : List Int} {r : Res1 T} (h : ns.all (fun n => decide (0 ≤ n)) = true → ∀ u, r = .ok u → okT u) : okT (guardRes t ns r).2 := by
  unfold guardRes
  split
  · exact okT_t0
  · split
    · exact okT_t0
    · rename_i ha
      cases r with
      | ok u => exact h (by simpa using ha) u rfl
      | bad e => exact okT_t0
/-! ### lift.Vars, lift.Dims, lift.Both -/
abbrev varsR (t : T) (f b : Int) : Res1 T := trav (liftTr b 0) t (if 2000000000 < f then 2000000000 else f, 0)
abbrev dimsR (t : T) (f b : Int) : Res1 T := trav (liftTr 0 b) t (0, if 24 < f then 24 else f)
def most (b : Int) : Int := IntKind.i64.wrap (1000000 - b)
theorem most_in (b : Int) : in64 (most b) := by
  have h : most b = (1000000 - b + 9223372036854775808) % 18446744073709551616 - 9223372036854775808 := by
    unfold most; rw [IntKind.wrap_i64]
  unfold in64; rw [h]; omega
theorem most_le {b : Int} (hb : in64 b) (h0 : 0 ≤ b) (h : 0 ≤ most b) : b ≤ 1000000 := by
  have h1 : most b = (1000000 - b + 9223372036854775808) % 18446744073709551616 - 9223372036854775808 := by
    unfold most; rw [IntKind.wrap_i64]
  unfold in64 at hb; omega
def varsRes (t : T) (f b : Int) : Int × T := guardRes t [f, b, most b] (varsR t f b)
def dimsRes (t : T) (f b : Int) : Int × T := guardRes t [f, b] (dimsR t f b)
/-! ### What is lifted keeps its form -/
theorem lift_own_inl {vb db : Int} {c : Int × Int} {k n : Int} {nm : ByteArray} {r : List Cl} {u : T} : (liftTr vb db).own c k n nm r ≠ .ok (.inl u) := by
  intro ho
  obtain ⟨g, hg, ho⟩ := Res1.bind_ok (x := rowLift db r c.2) ho
  split at ho
  · split at ho
    · cases ho
    · injection ho with ho; cases ho
  · injection ho with ho; cases ho
mutual
theorem lift_size {vb db : Int} : ∀ {t u : T} {c : Int × Int}, trav (liftTr vb db) t c = .ok u → size u = size t
  | .mk k n nm r ks ss, u, c, hu => by
    rw [trav_eq] at hu
    simp only [T.kind, T.n, T.name, T.r, T.kids, T.sys] at hu
    obtain ⟨o, h9, hu⟩ := Res1.bind_ok hu
    cases o with
    | inl v => exact absurd h9 lift_own_inl
    | inr p =>
      obtain ⟨ks', h10, hu⟩ := Res1.bind_ok hu
      obtain ⟨ss', h11, hu⟩ := Res1.bind_ok hu
      injection hu with hu
      subst hu
      rw [size_kids_sys, size_kids_sys]
      simp only [T.kids, T.sys]
      rw [liftL_size h10, liftB_size h11]
theorem liftL_size {vb db k : Int} : ∀ {ts us : List T} {i : Nat} {c : Int × Int}, travL (liftTr vb db) k i ts c = .ok us → us.map size = ts.map size
  | [], us, i, c, hu => by rw [travL_nil] at hu; injection hu with hu; subst hu; rfl
  | t :: ts, us, i, c, hu => by
    rw [travL_cons] at hu
    obtain ⟨c', _, hu⟩ := Res1.bind_ok hu
    obtain ⟨t', h2, hu⟩ := Res1.bind_ok hu
    obtain ⟨ts', h3, hu⟩ := Res1.bind_ok hu
    injection hu with hu
    subst hu
    simp only [List.map_cons]
    rw [lift_size h2, liftL_size h3]
theorem liftS_size {vb db k : Int} : ∀ {ts us : List T} {c : Int × Int}, travS (liftTr vb db) k ts c = .ok us → us.map size = ts.map size
  | [], us, c, hu => by rw [travS_nil] at hu; injection hu with hu; subst hu; rfl
  | t :: ts, us, c, hu => by
    rw [travS_cons] at hu
    obtain ⟨c', _, hu⟩ := Res1.bind_ok hu
    obtain ⟨t', h2, hu⟩ := Res1.bind_ok hu
    obtain ⟨ts', h3, hu⟩ := Res1.bind_ok hu
    injection hu with hu
    subst hu
    simp only [List.map_cons]
    rw [lift_size h2, liftS_size h3]
theorem liftB_size {vb db k : Int} : ∀ {bs us : List Br} {c : Int × Int}, travB (liftTr vb db) k bs c = .ok us → (us.map fun b => b.kids.map size) = bs.map fun b => b.kids.map size
  | [], us, c, hu => by rw [travB_nil] at hu; injection hu with hu; subst hu; rfl
  | .mk f ks :: bs, us, c, hu => by
    rw [travB_cons] at hu
    simp only [Br.face, Br.kids] at hu
    obtain ⟨o, h5, hu⟩ := Res1.bind_ok hu
    obtain ⟨g, _, h6⟩ := Res1.bind_ok (x := rowLift db f c.2) h5
    injection h6 with h6
    subst h6
    obtain ⟨ks', h7, hu⟩ := Res1.bind_ok hu
    obtain ⟨bs', h8, hu⟩ := Res1.bind_ok hu
    injection hu with hu
    subst hu
    show (ks'.map size :: (bs'.map fun b => b.kids.map size)) = (ks.map size :: (bs.map fun b => b.kids.map size))
    rw [liftS_size h7, liftB_size h8]
end
end Go.Hy
namespace Go.Hy
/-! ### More variables, more dimensions; what a term has that may be -/
theorem all_iff {t : T} {v d : Int} {b : Bool} : allP t v d b = true ↔ (¬ (b = true ∧ 24 < d)) ∧ ownP t v d = true ∧ ∀ p, p ∈ parts t → allP p.1 (IntKind.i64.wrap (v + if v < 0 then 0 else p.2.1)) (d + p.2.2) b = true := by
  rw [allP_eq, Bool.and_eq_true, List.all_eq_true]
  simp only [Bool.not_eq_true', Bool.or_eq_false_iff, Bool.and_eq_false_iff, decide_eq_false_iff_not, Bool.not_eq_false']
  constructor
  · rintro ⟨⟨h1, h2⟩, h3⟩
    refine ⟨?_, h2, h3⟩
    rintro ⟨h4, h5⟩
    rcases h1 with h1 | h1
    · rw [h1] at h4; cases h4
    · exact h1 h5
  · rintro ⟨h1, h2, h3⟩
    refine ⟨⟨?_, h2⟩, h3⟩
    cases b
    · exact .inl rfl
    · exact .inr (fun h => h1 ⟨rfl, h⟩)
/-- What a node of itself must be, row by row. -/
theorem own_iff {t : T} {v d : Int} : ownP t v d = true ↔ own1 t = false ∧
    (if t.kind = 1 then t.r.length = 0 ∧ 0 ≤ t.n ∧ (v < 0 ∨ t.n < v)
     else if t.kind = 2 then t.r.length = 0 ∧ nameOK t.name = true
     else if t.kind = 13 ∨ t.kind = 21 ∨ t.kind = 26 then fRight t.r = true ∧ within t.r d = true
     else if t.kind = 14 then faceRight t.r = true ∧ within t.r d = true
     else (∀ x, x ∈ t.sys → ownB t d x = true) ∧ t.r.length = 0) := by
  unfold ownP
  rw [Bool.and_eq_true, Bool.not_eq_true']
  apply and_congr Iff.rfl
  split
  · simp only [Bool.and_eq_true, decide_eq_true_eq, Bool.or_eq_true, and_assoc]; constructor <;> (rintro ⟨h1, h2⟩; exact ⟨by omega, h2⟩)
  · split
    · simp only [Bool.and_eq_true, decide_eq_true_eq]; constructor <;> (rintro ⟨h1, h2⟩; exact ⟨by omega, h2⟩)
    · split
      · simp only [Bool.and_eq_true]
      · split
        · simp only [Bool.and_eq_true]
        · simp only [Bool.and_eq_true, decide_eq_true_eq, List.all_eq_true]; constructor <;> (rintro ⟨h1, h2⟩; exact ⟨h1, by omega⟩)
theorem within_iff {l : List Cl} {d : Int} (h0 : 0 ≤ d) : within l d = true ↔ ∀ i : Nat, d ≤ (i : Int) → (fDims l).testBit i = false := by
  have hlt := fDims_lt l
  unfold within
  rw [Bool.or_eq_true, decide_eq_true_eq, decide_eq_true_eq]
  by_cases h24 : 24 ≤ d
  · constructor
    · intro _ i hi
      exact Nat.testBit_lt_two_pow (Nat.lt_of_lt_of_le hlt (Nat.pow_le_pow_right (n := 2) (by omega) (show 24 ≤ i by omega)))
    · intro _; exact .inl h24
  · have hm : min d.toNat 32 = d.toNat := by omega
    rw [hm]
    constructor
    · rintro (h | h) i hi
      · exact absurd h h24
      · have h1 : fDims l / 2 ^ d.toNat = 0 := by omega
        have h2 : fDims l < 2 ^ d.toNat := by
          have := Nat.div_eq_zero_iff.mp h1
          have hp : 0 < 2 ^ d.toNat := Nat.pow_pos (by omega)
          omega
        exact Nat.testBit_lt_two_pow (Nat.lt_of_lt_of_le h2 (Nat.pow_le_pow_right (n := 2) (by omega) (by omega)))
    · intro h
      right
      have h2 : fDims l < 2 ^ d.toNat := Nat.lt_pow_two_of_testBit _ (fun i hi => h i (by omega))
      rw [Nat.div_eq_of_lt h2]; rfl
theorem sys_nil {t : T} (h : own1 t = false) (hp : partsN t.kind = 0) : t.sys = [] := by
  unfold own1 at h
  simp only [Bool.or_eq_false_iff, Bool.and_eq_false_iff, decide_eq_false_iff_not] at h
  rcases h.2 with h2 | h2
  · exact absurd hp h2
  · exact List.eq_nil_of_length_eq_zero (by omega)
end Go.Hy
namespace Go.Hy
/-! ### The document's check of all nodes -/
theorem listTo_sorted (s n : Nat) : (listTo s n).Pairwise fun a b => a < b := by
  unfold listTo
  rw [List.pairwise_map]
  refine (List.Pairwise.filter _ List.pairwise_lt_range).imp (fun h => by omega)
theorem last_max {l : List Int} (hs : l.Pairwise fun a b => a < b) {x : Int} (hx : x ∈ l) : x ≤ l.getD (l.length - 1) 0 := by
  obtain ⟨j, hj, e⟩ := List.mem_iff_getElem.mp hx
  have hs := List.pairwise_iff_getElem.mp hs
  have hl : l.length - 1 < l.length := by omega
  rw [getD_get (d := (0 : Int)) hl]
  rcases Nat.lt_or_ge j (l.length - 1) with h2 | h2
  · have := hs j (l.length - 1) hj hl h2
    rw [e] at this
    exact Int.le_of_lt this
  · have hje : j = l.length - 1 := by omega
    subst hje
    exact Int.le_of_eq e.symm
/-- Has a formula dimensions below so many alone, by its last one? -/
def lowP (l : List Cl) (d : Int) : Bool := decide (((listM (fDims l)).length : Int) = 0) || decide ((listM (fDims l)).getD ((listM (fDims l)).length - 1) 0 < d)
theorem low_within {l : List Cl} {d : Int} (h0 : 0 ≤ d) : lowP l d = within l d := by
  rw [Bool.eq_iff_iff, within_iff h0]
  unfold lowP
  rw [Bool.or_eq_true, decide_eq_true_eq, decide_eq_true_eq]
  have hlt := fDims_lt l
  constructor
  · intro h i hi
    apply Bool.eq_false_iff.mpr
    intro hb
    have hi24 : i < 24 := by
      apply Classical.byContradiction
      intro hc
      have := Nat.testBit_lt_two_pow (Nat.lt_of_lt_of_le hlt (Nat.pow_le_pow_right (n := 2) (by omega) (show 24 ≤ i by omega)))
      rw [this] at hb; cases hb
    have hm : ((i : Nat) : Int) ∈ listM (fDims l) := listTo_mem.mpr ⟨by omega, by omega, by simpa using hb⟩
    rcases h with h | h
    · have : listM (fDims l) = [] := List.eq_nil_of_length_eq_zero (by omega)
      rw [this] at hm; cases hm
    · have := last_max (l := listM (fDims l)) (listTo_sorted (fDims l) 24) hm
      omega
  · intro h
    by_cases hn : (listM (fDims l)).length = 0
    · exact .inl (by omega)
    · right
      have hmem : (listM (fDims l)).getD ((listM (fDims l)).length - 1) 0 ∈ listM (fDims l) := getD_mem (by omega)
      have hx := listTo_mem.mp hmem
      apply Classical.byContradiction
      intro hc
      have := h ((listM (fDims l)).getD ((listM (fDims l)).length - 1) 0).toNat (by omega)
      rw [this] at hx; cases hx.2.2
/-- The checks ahead of a node's parts. -/
structure Ahead (t : T) (v d : Int) (b : Bool) : Prop where
  bound : ¬ (b = true ∧ 24 < d)
  kids : kidsN t.kind = (t.kids.length : Int)
  sys : partsN t.kind = 0 → t.sys.length = 0
  n1 : if t.kind = 1 then 0 ≤ t.n ∧ (v < 0 ∨ t.n < v) else t.n = 0
  nm : if t.kind = 2 then nameOK t.name = true else (t.name.toList == (ByteArray.mk #[]).toList) = true
  r : if t.kind = 13 ∨ t.kind = 21 ∨ t.kind = 26 then fRight t.r = true else if t.kind = 14 then faceRight t.r = true else t.r.length = 0
  low : within t.r d = true
theorem ahead_own {t : T} {v d : Int} {b : Bool} (h : Ahead t v d b) (hs : ∀ x, x ∈ t.sys → ownB t d x = true) : ownP t v d = true := by
  rw [own_iff]
  have h1 := h.n1; have h2 := h.nm; have h3 := h.r
  refine ⟨?_, ?_⟩
  · simp only [own1, Bool.or_eq_false_iff, Bool.and_eq_false_iff, decide_eq_false_iff_not, Bool.not_eq_false']
    refine ⟨⟨⟨fun hc => hc h.kids, ?_⟩, ?_⟩, ?_⟩
    · by_cases hk : t.kind = 1
      · exact .inl (fun hc => hc hk)
      · rw [if_neg hk] at h1; exact .inr (fun hc => hc h1)
    · by_cases hk : t.kind = 2
      · exact .inl (fun hc => hc hk)
      · rw [if_neg hk] at h2; exact .inr h2
    · by_cases hk : partsN t.kind = 0
      · have := h.sys hk; exact .inr (by omega)
      · exact .inl hk
  · by_cases k1 : t.kind = 1
    · rw [if_pos k1] at h1 ⊢
      rw [if_neg (by omega), if_neg (by omega)] at h3
      exact ⟨h3, h1⟩
    · rw [if_neg k1]
      by_cases k2 : t.kind = 2
      · rw [if_pos k2] at h2 ⊢
        rw [if_neg (by omega), if_neg (by omega)] at h3
        exact ⟨h3, h2⟩
      · rw [if_neg k2]
        by_cases k3 : t.kind = 13 ∨ t.kind = 21 ∨ t.kind = 26
        · rw [if_pos k3] at h3 ⊢; exact ⟨h3, h.low⟩
        · rw [if_neg k3] at h3 ⊢
          by_cases k4 : t.kind = 14
          · rw [if_pos k4] at h3 ⊢; exact ⟨h3, h.low⟩
          · rw [if_neg k4] at h3 ⊢; exact ⟨hs, h3⟩
theorem own_ahead {t : T} {v d : Int} {b : Bool} (h0 : ¬ (b = true ∧ 24 < d)) (hd : 0 ≤ d) (h : ownP t v d = true) : Ahead t v d b := by
  rw [own_iff] at h
  obtain ⟨h1, h2⟩ := h
  have hsys := fun hp => sys_nil h1 hp
  simp only [own1, Bool.or_eq_false_iff, Bool.and_eq_false_iff, decide_eq_false_iff_not, Bool.not_eq_false', ne_eq, Decidable.not_not] at h1
  obtain ⟨⟨⟨a1, a2⟩, a3⟩, a4⟩ := h1
  have hwn : t.r.length = 0 → within t.r d = true := fun hr => by
    rw [List.eq_nil_of_length_eq_zero hr, within_iff hd]; intro i _; simp [fDims]
  refine ⟨h0, a1, fun hp => by rw [hsys hp]; rfl, ?_, ?_, ?_, ?_⟩
  · by_cases k1 : t.kind = 1
    · rw [if_pos k1] at h2 ⊢; exact h2.2
    · rw [if_neg k1]; exact a2.resolve_left k1
  · by_cases k2 : t.kind = 2
    · rw [if_neg (by omega), if_pos k2] at h2
      rw [if_pos k2]; exact h2.2
    · rw [if_neg k2]; exact a3.resolve_left k2
  · split at h2
    · rw [if_neg (by omega), if_neg (by omega)]; exact h2.1
    · split at h2
      · rw [if_neg (by omega), if_neg (by omega)]; exact h2.1
      · split at h2
        · rename_i k; rw [if_pos k]; exact h2.1
        · rename_i k; rw [if_neg k]
          split at h2
          · rename_i k; rw [if_pos k]; exact h2.1
          · rename_i k; rw [if_neg k]; exact h2.2
  · split at h2
    · exact hwn h2.1
    · split at h2
      · exact hwn h2.1
      · split at h2
        · exact h2.2
        · split at h2
          · exact h2.2
          · exact hwn h2.2
def kidOK (t : T) (v d : Int) (b : Bool) (i : Nat) : Bool := allP (t.kids.getD i t0) (IntKind.i64.wrap (v + if v < 0 then 0 else (binds t.kind i).1)) (d + (binds t.kind i).2) b
def brOK (t : T) (v d : Int) (b : Bool) (x : Br) : Bool := ownB t d x && x.kids.all fun k => allP k v (d + more t.kind) b
theorem ownB_sys {t : T} {v d : Int} (h : ownP t v d = true) : ∀ x, x ∈ t.sys → ownB t d x = true := by
  rw [own_iff] at h
  have h2 := h.2
  have hs := fun hp => sys_nil h.1 hp
  split at h2
  · rename_i k; rw [hs (by rw [k]; decide)]; intro x hx; cases hx
  · split at h2
    · rename_i k; rw [hs (by rw [k]; decide)]; intro x hx; cases hx
    · split at h2
      · rename_i k; rw [hs (by rcases k with k | k | k <;> rw [k] <;> decide)]; intro x hx; cases hx
      · split at h2
        · rename_i k; rw [hs (by rw [k]; decide)]; intro x hx; cases hx
        · exact h2.1
/-- All nodes: the checks ahead, the kids, the branches. -/
theorem all_steps {t : T} {v d : Int} {b : Bool} (hv : in64 v) (hd : 0 ≤ d) : allP t v d b = true ↔ Ahead t v d b ∧ (∀ i, i < t.kids.length → kidOK t v d b i = true) ∧ ∀ i, i < t.sys.length → brOK t v d b (t.sys.getD i br0) = true := by
  rw [all_iff]
  constructor
  · rintro ⟨h1, h2, h3⟩
    refine ⟨own_ahead h1 hd h2, fun i hi => ?_, fun i hi => ?_⟩
    · exact h3 _ (parts_mem (parts_kid t i hi))
    · unfold brOK
      rw [Bool.and_eq_true, List.all_eq_true]
      refine ⟨ownB_sys h2 _ (getD_mem hi), fun k hk => ?_⟩
      obtain ⟨j, hj, e⟩ := List.mem_iff_getElem.mp hk
      have := h3 _ (parts_mem (parts_sys t i j hi hj))
      simp only at this
      rw [show (if v < 0 then (0 : Int) else 0) = 0 by split <;> rfl, Int.add_zero, wrap_id hv] at this
      rwa [getD_get (d := t0) hj, e] at this
  · rintro ⟨h1, h2, h3⟩
    have hb : ∀ x, x ∈ t.sys → brOK t v d b x = true := fun x hx => by
      obtain ⟨i, hi, e⟩ := List.mem_iff_getElem.mp hx
      have := h3 i hi
      rwa [getD_get (d := br0) hi, e] at this
    refine ⟨h1.bound, ahead_own h1 (fun x hx => by have := hb x hx; unfold brOK at this; rw [Bool.and_eq_true] at this; exact this.1), fun p hp => ?_⟩
    obtain ⟨m, hm⟩ := List.mem_iff_getElem?.mp hp
    have hlt : m < (parts t).length := (List.getElem?_eq_some_iff.mp hm).1
    rcases Nat.lt_or_ge m t.kids.length with hmk | hmk
    · rw [parts_kid t m hmk] at hm
      injection hm with hm
      subst hm
      exact h2 m hmk
    · unfold parts at hp hm
      rw [List.getElem?_append_right (by rw [kidParts_length]; exact hmk)] at hm
      have hp2 : p ∈ sysParts t.kind t.sys := List.mem_iff_getElem?.mpr ⟨_, hm⟩
      have key : ∀ (bs : List Br), (∀ x, x ∈ bs → x ∈ t.sys) → p ∈ sysParts t.kind bs → allP p.1 (IntKind.i64.wrap (v + if v < 0 then 0 else p.2.1)) (d + p.2.2) b = true := by
        intro bs
        induction bs with
        | nil => intro _ h; simp [sysParts] at h
        | cons x bs ih =>
          intro hx h
          simp only [sysParts, List.mem_append, List.mem_map] at h
          rcases h with ⟨k, hk, e⟩ | h
          · subst e
            simp only
            rw [show (if v < 0 then (0 : Int) else 0) = 0 by split <;> rfl, Int.add_zero, wrap_id hv]
            have := hb x (hx x List.mem_cons_self)
            unfold brOK at this
            rw [Bool.and_eq_true, List.all_eq_true] at this
            exact this.2 k hk
          · exact ih (fun y hy => hx y (List.mem_cons_of_mem _ hy)) h
      exact key t.sys (fun _ h => h) hp2
theorem all_no1 {t : T} {v d : Int} {b : Bool} (hv : in64 v) (hd : 0 ≤ d) (hn : ¬ Ahead t v d b) : allP t v d b = false := Bool.eq_false_iff.mpr fun h => hn ((all_steps hv hd).mp h).1
theorem all_no2 {t : T} {v d : Int} {b : Bool} (hv : in64 v) (hd : 0 ≤ d) {i : Nat} (hi : i < t.kids.length) (hn : kidOK t v d b i = false) : allP t v d b = false := Bool.eq_false_iff.mpr fun h => by
  have h9 := ((all_steps hv hd).mp h).2.1 i hi
  rw [hn] at h9; cases h9
theorem all_no3 {t : T} {v d : Int} {b : Bool} (hv : in64 v) (hd : 0 ≤ d) {i : Nat} (hi : i < t.sys.length) (hn : brOK t v d b (t.sys.getD i br0) = false) : allP t v d b = false := Bool.eq_false_iff.mpr fun h => by
  have h9 := ((all_steps hv hd).mp h).2.2 i hi
  rw [hn] at h9; cases h9
end Go.Hy
namespace Go.Hy
theorem part_cases {t : T} {p : Part} (hp : p ∈ parts t) : (∃ i, i < t.kids.length ∧ p = (t.kids.getD i t0, binds t.kind (i : Int))) ∨ ∃ s k, s < t.sys.length ∧ k < (t.sys.getD s br0).kids.length ∧ p = ((t.sys.getD s br0).kids.getD k t0, 0, more t.kind) := by
  unfold parts at hp
  rcases List.mem_append.mp hp with hp | hp
  · left
    have key : ∀ (ks : List T) (s : Nat), p ∈ kidParts t.kind s ks → ∃ i, i < ks.length ∧ p = (ks.getD i t0, binds t.kind ((s + i : Nat) : Int)) := by
      intro ks
      induction ks with
      | nil => intro s h; simp [kidParts] at h
      | cons k ks ih =>
        intro s h
        simp only [kidParts, List.mem_cons] at h
        rcases h with h | h
        · exact ⟨0, by simp, by simpa using h⟩
        · obtain ⟨i, hi, e⟩ := ih (s + 1) h
          exact ⟨i + 1, by simpa using hi, by rw [e]; simp only [List.getD_cons_succ]; rw [show s + 1 + i = s + (i + 1) by omega]⟩
    obtain ⟨i, hi, e⟩ := key t.kids 0 hp
    exact ⟨i, hi, by rw [e]; simp⟩
  · right
    have key : ∀ (bs : List Br), p ∈ sysParts t.kind bs → ∃ s k, s < bs.length ∧ k < (bs.getD s br0).kids.length ∧ p = ((bs.getD s br0).kids.getD k t0, 0, more t.kind) := by
      intro bs
      induction bs with
      | nil => intro h; simp [sysParts] at h
      | cons b bs ih =>
        intro h
        simp only [sysParts, List.mem_append, List.mem_map] at h
        rcases h with ⟨k, hk, e⟩ | h
        · obtain ⟨j, hj, e2⟩ := List.mem_iff_getElem.mp hk
          exact ⟨0, j, by simp, by simpa using hj, by rw [← e]; simp only [List.getD_cons_zero]; rw [getD_get (d := t0) hj, e2]⟩
        · obtain ⟨s, k, h1, h2, e⟩ := ih h
          exact ⟨s + 1, k, by simpa using h1, by simpa using h2, by rw [e]; simp⟩
    exact key t.sys hp
end Go.Hy
namespace Go.Hy
/-! ### A term of which every node is as it may be -/
def headOK (k n : Int) (nm : ByteArray) (r : List Cl) : Prop :=
  (k ≠ 1 → n = 0) ∧ (k ≠ 2 → nm.toList = (ByteArray.mk #[]).toList) ∧ (k = 1 → r = [] ∧ 0 ≤ n) ∧ (k = 2 → r = [] ∧ nameOK nm = true) ∧ (k = 13 ∨ k = 21 ∨ k = 26 → fRight r = true) ∧ (k = 14 → faceRight r = true) ∧ (k ≠ 13 ∧ k ≠ 21 ∧ k ≠ 26 ∧ k ≠ 14 → r = [])
mutual
def fineT : T → Prop
  | .mk k n nm r ks ss => headOK k n nm r ∧ kidsN k = (ks.length : Int) ∧ (partsN k = 0 → ss = []) ∧ fineL ks ∧ fineB k ss
def fineL : List T → Prop
  | [] => True
  | t :: ts => fineT t ∧ fineL ts
def fineB (k : Int) : List Br → Prop
  | [] => True
  | .mk f ks :: bs => (ks.length : Int) = partsN k ∧ faceRight f = true ∧ fineL ks ∧ fineB k bs
end
theorem partsN_zero {k : Int} (h : k = 1 ∨ k = 2 ∨ k = 13 ∨ k = 21 ∨ k = 26 ∨ k = 14) : partsN k = 0 := by
  unfold partsN
  rcases h with h | h | h | h | h | h <;> subst h <;> decide
theorem within_24 (l : List Cl) {d : Int} (h : 24 ≤ d) : within l d = true := by unfold within; rw [decide_eq_true h]; rfl
theorem len_nil {α : Type} {l : List α} : ((l.length : Int) = 0) ↔ l = [] := by
  constructor
  · intro h; exact List.eq_nil_of_length_eq_zero (by omega)
  · rintro rfl; rfl
theorem own24_iff {k n : Int} {nm : ByteArray} {r : List Cl} {ks : List T} {ss : List Br} {d : Int} (hd : 24 ≤ d) : ownP (.mk k n nm r ks ss) (-1) d = true ↔ headOK k n nm r ∧ kidsN k = (ks.length : Int) ∧ (partsN k = 0 → ss = []) ∧ ∀ b, b ∈ ss → (b.kids.length : Int) = partsN k ∧ faceRight b.face = true := by
  have hB : ∀ b : Br, ownB (.mk k n nm r ks ss) d b = (decide ((b.kids.length : Int) = partsN k) && faceRight b.face) := fun b => by
    unfold ownB; rw [within_24 _ hd, Bool.and_true]; rfl
  have hL : (0 : Int) < (ss.length : Int) ↔ ss ≠ [] := by
    constructor
    · intro h e; subst e; simp at h
    · intro h; have := List.length_pos_iff.mpr h; omega
  have hs : ∀ p : Bool, (ss.all (ownB (.mk k n nm r ks ss) d) = true) ↔ ∀ b, b ∈ ss → (b.kids.length : Int) = partsN k ∧ faceRight b.face = true := fun _ => by
    rw [List.all_eq_true]
    exact forall_congr' fun b => forall_congr' fun _ => by rw [hB]; simp
  unfold ownP own1 headOK
  simp only [T.kind, T.n, T.name, T.r, T.kids, T.sys, within_24 _ hd, Bool.and_true, Bool.and_eq_true, Bool.not_eq_true', Bool.or_eq_false_iff, Bool.and_eq_false_iff, decide_eq_false_iff_not, Decidable.not_not, ne_eq, Int.not_lt, Bool.not_eq_false', beq_iff_eq]
  constructor
  · rintro ⟨⟨⟨⟨h1, h2⟩, h3⟩, h4⟩, h5⟩
    replace h1 : kidsN k = (ks.length : Int) := Decidable.not_not.mp (of_decide_eq_false h1)
    replace h2 : k = 1 ∨ n = 0 := h2.imp (fun h => Decidable.not_not.mp (of_decide_eq_false h)) (fun h => Decidable.not_not.mp (of_decide_eq_false h))
    replace h3 : k = 2 ∨ nm.toList = (ByteArray.mk #[]).toList := h3.imp (fun h => Decidable.not_not.mp (of_decide_eq_false h)) id
    replace h4 : ¬ partsN k = 0 ∨ ¬ (0 : Int) < (ss.length : Int) := h4.imp (fun h => of_decide_eq_false h) (fun h => of_decide_eq_false h)
    have hss : partsN k = 0 → ss = [] := by
      intro h
      rcases h4 with h4 | h4
      · exact absurd h h4
      · exact List.eq_nil_of_length_eq_zero (by omega)
    split at h5
    · rename_i hk
      have he := hss (partsN_zero (by omega))
      subst he
      simp only [Bool.and_eq_true, decide_eq_true_eq] at h5
      exact ⟨⟨by omega, fun _ => h3.resolve_left (by omega), fun _ => ⟨len_nil.mp (of_decide_eq_true h5.1.1), of_decide_eq_true h5.1.2⟩, by omega, by omega, by omega, fun _ => len_nil.mp (of_decide_eq_true h5.1.1)⟩, h1, hss, fun b hb => by cases hb⟩
    · split at h5
      · rename_i hk1 hk
        have he := hss (partsN_zero (by omega))
        subst he
        simp only [Bool.and_eq_true, decide_eq_true_eq] at h5
        exact ⟨⟨by omega, fun h => absurd hk h, by omega, fun _ => ⟨len_nil.mp (of_decide_eq_true h5.1), h5.2⟩, by omega, by omega, fun _ => len_nil.mp (of_decide_eq_true h5.1)⟩, h1, hss, fun b hb => by cases hb⟩
      · split at h5
        · rename_i hk1 hk2 hk
          have he := hss (partsN_zero (by omega))
          subst he
          exact ⟨⟨by omega, fun _ => h3.resolve_left (by omega), by omega, by omega, fun _ => h5, by omega, by omega⟩, h1, hss, fun b hb => by cases hb⟩
        · split at h5
          · rename_i hk1 hk2 hk3 hk
            have he := hss (partsN_zero (by omega))
            subst he
            exact ⟨⟨by omega, fun _ => h3.resolve_left (by omega), by omega, by omega, by omega, fun _ => h5, by omega⟩, h1, hss, fun b hb => by cases hb⟩
          · rename_i hk1 hk2 hk3 hk4
            simp only [Bool.and_eq_true, decide_eq_true_eq] at h5
            exact ⟨⟨by omega, fun _ => h3.resolve_left (by omega), by omega, by omega, by omega, by omega, fun _ => len_nil.mp (of_decide_eq_true h5.2)⟩, h1, hss, (hs true).mp h5.1⟩
  · rintro ⟨⟨a1, a2, a3, a4, a5, a6, a7⟩, b1, b2, b3⟩
    refine ⟨⟨⟨⟨decide_eq_false (Decidable.not_not.mpr b1), ?_⟩, ?_⟩, ?_⟩, ?_⟩
    · by_cases h : k = 1
      · exact .inl (decide_eq_false (Decidable.not_not.mpr h))
      · exact .inr (decide_eq_false (Decidable.not_not.mpr (a1 h)))
    · by_cases h : k = 2
      · exact .inl (decide_eq_false (Decidable.not_not.mpr h))
      · exact .inr (a2 h)
    · by_cases h : partsN k = 0
      · exact .inr (decide_eq_false (by rw [b2 h]; decide))
      · exact .inl (decide_eq_false h)
    · split
      · rename_i h; simp [(a3 h).1, (a3 h).2]
      · split
        · rename_i h; simp [(a4 h).1, (a4 h).2]
        · split
          · rename_i h; exact a5 h
          · split
            · rename_i h; exact a6 h
            · rename_i h1 h2 h3 h4
              rw [Bool.and_eq_true, (hs true)]
              exact ⟨b3, by simp [a7 (by omega)]⟩
theorem fineL_iff : ∀ {ts : List T}, fineL ts ↔ ∀ t, t ∈ ts → fineT t
  | [] => by simp [fineL]
  | t :: ts => by simp [fineL, fineL_iff (ts := ts)]
theorem fineB_iff {k : Int} : ∀ {bs : List Br}, fineB k bs ↔ ∀ b, b ∈ bs → (b.kids.length : Int) = partsN k ∧ faceRight b.face = true ∧ fineL b.kids
  | [] => by simp [fineB]
  | .mk f ks :: bs => by
    simp only [fineB, fineB_iff (bs := bs), List.forall_mem_cons, Br.kids, Br.face]
    constructor
    · rintro ⟨h1, h2, h3, h4⟩; exact ⟨⟨h1, h2, h3⟩, h4⟩
    · rintro ⟨⟨h1, h2, h3⟩, h4⟩; exact ⟨h1, h2, h3, h4⟩
theorem fineT_iff {t : T} : fineT t ↔ headOK t.kind t.n t.name t.r ∧ kidsN t.kind = (t.kids.length : Int) ∧ (partsN t.kind = 0 → t.sys = []) ∧ fineL t.kids ∧ fineB t.kind t.sys := by
  obtain ⟨k, n, nm, r, ks, ss⟩ := t
  simp only [fineT, T.kind, T.n, T.name, T.r, T.kids, T.sys]
theorem fine_parts {t : T} : fineT t ↔ (∀ d : Int, 24 ≤ d → ownP t (-1) d = true) ∧ ∀ p, p ∈ parts t → fineT p.1 := by
  rw [fineT_iff, fineL_iff, fineB_iff]
  have ho : ∀ d : Int, 24 ≤ d → (ownP t (-1) d = true ↔ headOK t.kind t.n t.name t.r ∧ kidsN t.kind = (t.kids.length : Int) ∧ (partsN t.kind = 0 → t.sys = []) ∧ ∀ b, b ∈ t.sys → (b.kids.length : Int) = partsN t.kind ∧ faceRight b.face = true) := by
    intro d hd
    obtain ⟨k, n, nm, r, ks, ss⟩ := t
    exact own24_iff hd
  constructor
  · rintro ⟨h1, h2, h3, h4, h5⟩
    refine ⟨fun d hd => (ho d hd).mpr ⟨h1, h2, h3, fun b hb => ⟨(h5 b hb).1, (h5 b hb).2.1⟩⟩, fun p hp => ?_⟩
    rcases part_cases hp with ⟨i, hi, rfl⟩ | ⟨s, k, hs, hk, rfl⟩
    · exact h4 _ (getD_mem hi)
    · exact fineL_iff.mp (h5 _ (getD_mem hs)).2.2 _ (getD_mem hk)
  · rintro ⟨h1, h2⟩
    obtain ⟨a1, a2, a3, a4⟩ := (ho 24 (by omega)).mp (h1 24 (by omega))
    refine ⟨a1, a2, a3, fun k hk => ?_, fun b hb => ⟨(a4 b hb).1, (a4 b hb).2, fineL_iff.mpr fun k hk => ?_⟩⟩
    · obtain ⟨p, hp, e⟩ := kid_mem_parts hk; exact e ▸ h2 p hp
    · obtain ⟨p, hp, e⟩ := sys_mem_parts hb hk; exact e ▸ h2 p hp
theorem all_fine : ∀ (t : T) (d : Int), 24 ≤ d → (allP t (-1) d false = true ↔ fineT t) := T.ind fun t ih d hd => by
  rw [all_iff, fine_parts]
  have hw : ∀ p : Part, IntKind.i64.wrap (-1 + if (-1 : Int) < 0 then 0 else p.2.1) = -1 := fun p => by rw [if_pos (by decide)]; decide
  constructor
  · rintro ⟨_, h2, h3⟩
    refine ⟨fun d' hd' => ?_, fun p hp => ?_⟩
    · obtain ⟨k, n, nm, r, ks, ss⟩ := t
      exact (own24_iff hd').mpr ((own24_iff hd).mp h2)
    · have h4 := h3 p hp
      rw [hw] at h4
      have h5 := parts_01 hp
      exact (ih p hp (d + p.2.2) (by omega)).mp h4
  · rintro ⟨h1, h2⟩
    refine ⟨by simp, h1 d hd, fun p hp => ?_⟩
    rw [hw]
    have h5 := parts_01 hp
    exact (ih p hp (d + p.2.2) (by omega)).mpr (h2 p hp)
theorem formed_fine {t : T} : formedP t = 0 ↔ sized t = 0 ∧ fineT t := by rw [formed_zero, all_fine t 24 (by omega)]
/-! ### What a way keeps -/
section
variable {C : Type} {A : Tr C}
mutual
theorem trav_fine (ho : ∀ c k n nm r p, headOK k n nm r → A.own c k n nm r = .ok (.inr p) → headOK k p.1 nm p.2) (hi : ∀ c k n nm r u, headOK k n nm r → A.own c k n nm r = .ok (.inl u) → fineT u) (hf : ∀ c f f', faceRight f = true → A.face c f = .ok (some f') → faceRight f' = true) : ∀ {t : T} {c : C} {u : T}, fineT t → trav A t c = .ok u → fineT u
  | .mk k n nm r ks ss, c, u, h, hu => by
    simp only [fineT] at h
    obtain ⟨h1, h2, h3, h4, h5⟩ := h
    rw [trav_eq] at hu
    simp only [T.kind, T.n, T.name, T.r, T.kids, T.sys] at hu
    obtain ⟨o, h9, hu⟩ := Res1.bind_ok hu
    cases o with
    | inl v => injection hu with hu; subst hu; exact hi _ _ _ _ _ _ h1 h9
    | inr p =>
      obtain ⟨ks', h10, hu⟩ := Res1.bind_ok hu
      obtain ⟨ss', h11, hu⟩ := Res1.bind_ok hu
      injection hu with hu
      subst hu
      simp only [fineT]
      refine ⟨ho _ _ _ _ _ _ h1 h9, by rw [travL_len h10]; exact h2, fun h => ?_, travL_fine ho hi hf h4 h10, travB_fine ho hi hf h5 h11⟩
      have h12 := travB_len h11
      rw [h3 h] at h12
      exact List.eq_nil_of_length_eq_zero (Nat.le_zero.mp h12)
theorem travL_fine (ho : ∀ c k n nm r p, headOK k n nm r → A.own c k n nm r = .ok (.inr p) → headOK k p.1 nm p.2) (hi : ∀ c k n nm r u, headOK k n nm r → A.own c k n nm r = .ok (.inl u) → fineT u) (hf : ∀ c f f', faceRight f = true → A.face c f = .ok (some f') → faceRight f' = true) {kd : Int} : ∀ {ts : List T} {i : Nat} {c : C} {us : List T}, fineL ts → travL A kd i ts c = .ok us → fineL us
  | [], i, c, us, h, hu => by rw [travL_nil] at hu; injection hu with hu; subst hu; simp only [fineL]
  | t :: ts, i, c, us, h, hu => by
    simp only [fineL] at h
    rw [travL_cons] at hu
    obtain ⟨c', _, hu⟩ := Res1.bind_ok hu
    obtain ⟨t', h2, hu⟩ := Res1.bind_ok hu
    obtain ⟨ts', h3, hu⟩ := Res1.bind_ok hu
    injection hu with hu
    subst hu
    simp only [fineL]
    exact ⟨trav_fine ho hi hf h.1 h2, travL_fine ho hi hf h.2 h3⟩
theorem travS_fine (ho : ∀ c k n nm r p, headOK k n nm r → A.own c k n nm r = .ok (.inr p) → headOK k p.1 nm p.2) (hi : ∀ c k n nm r u, headOK k n nm r → A.own c k n nm r = .ok (.inl u) → fineT u) (hf : ∀ c f f', faceRight f = true → A.face c f = .ok (some f') → faceRight f' = true) {kd : Int} : ∀ {ts : List T} {c : C} {us : List T}, fineL ts → travS A kd ts c = .ok us → fineL us
  | [], c, us, h, hu => by rw [travS_nil] at hu; injection hu with hu; subst hu; simp only [fineL]
  | t :: ts, c, us, h, hu => by
    simp only [fineL] at h
    rw [travS_cons] at hu
    obtain ⟨c', _, hu⟩ := Res1.bind_ok hu
    obtain ⟨t', h2, hu⟩ := Res1.bind_ok hu
    obtain ⟨ts', h3, hu⟩ := Res1.bind_ok hu
    injection hu with hu
    subst hu
    simp only [fineL]
    exact ⟨trav_fine ho hi hf h.1 h2, travS_fine ho hi hf h.2 h3⟩
theorem travB_fine (ho : ∀ c k n nm r p, headOK k n nm r → A.own c k n nm r = .ok (.inr p) → headOK k p.1 nm p.2) (hi : ∀ c k n nm r u, headOK k n nm r → A.own c k n nm r = .ok (.inl u) → fineT u) (hf : ∀ c f f', faceRight f = true → A.face c f = .ok (some f') → faceRight f' = true) {kd : Int} : ∀ {bs : List Br} {c : C} {us : List Br}, fineB kd bs → travB A kd bs c = .ok us → fineB kd us
  | [], c, us, h, hu => by rw [travB_nil] at hu; injection hu with hu; subst hu; simp only [fineB]
  | .mk f ks :: bs, c, us, h, hu => by
    simp only [fineB] at h
    obtain ⟨h1, h2, h3, h4⟩ := h
    rw [travB_cons] at hu
    simp only [Br.face, Br.kids] at hu
    obtain ⟨o, h5, hu⟩ := Res1.bind_ok hu
    cases o with
    | none => exact travB_fine ho hi hf h4 hu
    | some f' =>
      obtain ⟨ks', h6, hu⟩ := Res1.bind_ok hu
      obtain ⟨bs', h7, hu⟩ := Res1.bind_ok hu
      injection hu with hu
      subst hu
      simp only [fineB]
      exact ⟨by rw [travS_len h6]; exact h1, hf _ _ _ h2 h5, travS_fine ho hi hf h3 h6, travB_fine ho hi hf h4 h7⟩
end
end
/-! ### One way, and then another one -/
section
variable {CA CB CC : Type} {A : Tr CA} {B : Tr CB} {D : Tr CC} (R : CA → CB → CC → Prop)
structure Fuse : Prop where
  inl : ∀ ca cb cc k n nm r u, R ca cb cc → headOK k n nm r → A.own ca k n nm r = .ok (.inl u) → D.own cc k n nm r = (trav B u cb).bind fun w => .ok (.inl w)
  inr : ∀ ca cb cc k n nm r p, R ca cb cc → headOK k n nm r → A.own ca k n nm r = .ok (.inr p) → B.own cb k p.1 nm p.2 = D.own cc k n nm r
  none : ∀ ca cb cc f, R ca cb cc → faceRight f = true → A.face ca f = .ok none → D.face cc f = .ok none
  some : ∀ ca cb cc f f', R ca cb cc → faceRight f = true → A.face ca f = .ok (some f') → B.face cb f' = D.face cc f
  kid : ∀ ca cb cc b ca', 0 ≤ b.1 → 0 ≤ b.2 → R ca cb cc → A.kid ca b = .ok ca' → (∃ cb' cc', B.kid cb b = .ok cb' ∧ D.kid cc b = .ok cc' ∧ R ca' cb' cc') ∨ ∃ e, B.kid cb b = .bad e ∧ D.kid cc b = .bad e
variable {R}
end
/-! ### Where one way is told, another one is -/
section
variable {CA CC : Type} {A : Tr CA} {D : Tr CC} (R : CA → CC → Prop)
structure Told : Prop where
  inl : ∀ ca cc k n nm r u, R ca cc → headOK k n nm r → A.own ca k n nm r = .ok (.inl u) → ∃ w, D.own cc k n nm r = .ok (.inl w)
  inr : ∀ ca cc k n nm r p, R ca cc → headOK k n nm r → A.own ca k n nm r = .ok (.inr p) → ∃ w, D.own cc k n nm r = .ok w
  none : ∀ ca cc f, R ca cc → faceRight f = true → A.face ca f = .ok none → D.face cc f = .ok none
  some : ∀ ca cc f f', R ca cc → faceRight f = true → A.face ca f = .ok (some f') → ∃ w, D.face cc f = .ok w
  kid : ∀ ca cc b ca', R ca cc → A.kid ca b = .ok ca' → ∃ cc', D.kid cc b = .ok cc' ∧ R ca' cc'
variable {R}
theorem Res1.bind_ex {α β : Type} {x : Res1 α} {k : α → Res1 β} (h : ∃ a, x = .ok a) (h2 : ∀ a, x = .ok a → ∃ b, k a = .ok b) : ∃ b, x.bind k = .ok b := by
  obtain ⟨a, ha⟩ := h
  obtain ⟨b, hb⟩ := h2 a ha
  exact ⟨b, by rw [ha]; exact hb⟩
mutual
theorem told (F : Told (A := A) (D := D) R) : ∀ {t u : T} {ca : CA} {cc : CC}, fineT t → R ca cc → trav A t ca = .ok u → ∃ w, trav D t cc = .ok w
  | .mk k n nm r ks ss, u, ca, cc, h, hr, hu => by
    simp only [fineT] at h
    obtain ⟨h1, h2, h3, h4, h5⟩ := h
    rw [trav_eq] at hu
    simp only [T.kind, T.n, T.name, T.r, T.kids, T.sys] at hu
    obtain ⟨o, h9, hu⟩ := Res1.bind_ok hu
    rw [trav_eq]
    simp only [T.kind, T.n, T.name, T.r, T.kids, T.sys]
    cases o with
    | inl v =>
      obtain ⟨w, hw⟩ := F.inl _ _ _ _ _ _ _ hr h1 h9
      exact ⟨w, by rw [hw]; rfl⟩
    | inr p =>
      obtain ⟨ks', h10, hu⟩ := Res1.bind_ok hu
      obtain ⟨ss', h11, hu⟩ := Res1.bind_ok hu
      refine Res1.bind_ex (F.inr _ _ _ _ _ _ _ hr h1 h9) (fun o _ => ?_)
      cases o with
      | inl v => exact ⟨v, rfl⟩
      | inr q =>
        refine Res1.bind_ex (toldL F h4 hr h10) (fun a _ => Res1.bind_ex (toldB F h5 hr h11) (fun b _ => ⟨_, rfl⟩))
theorem toldL (F : Told (A := A) (D := D) R) {kd : Int} : ∀ {ts us : List T} {i : Nat} {ca : CA} {cc : CC}, fineL ts → R ca cc → travL A kd i ts ca = .ok us → ∃ w, travL D kd i ts cc = .ok w
  | [], us, i, ca, cc, h, hr, hu => ⟨[], travL_nil _ _ _⟩
  | t :: ts, us, i, ca, cc, h, hr, hu => by
    simp only [fineL] at h
    rw [travL_cons] at hu
    obtain ⟨c', h1, hu⟩ := Res1.bind_ok hu
    obtain ⟨t', h2, hu⟩ := Res1.bind_ok hu
    obtain ⟨ts', h3, hu⟩ := Res1.bind_ok hu
    obtain ⟨cc', e2, hr'⟩ := F.kid _ _ _ _ hr h1
    rw [travL_cons]
    refine Res1.bind_ex ⟨cc', e2⟩ (fun a9 ha => ?_)
    rw [e2] at ha
    injection ha with ha
    subst ha
    exact Res1.bind_ex (told F h.1 hr' h2) (fun a _ => Res1.bind_ex (toldL F h.2 hr h3) (fun b _ => ⟨_, rfl⟩))
theorem toldS (F : Told (A := A) (D := D) R) {kd : Int} : ∀ {ts us : List T} {ca : CA} {cc : CC}, fineL ts → R ca cc → travS A kd ts ca = .ok us → ∃ w, travS D kd ts cc = .ok w
  | [], us, ca, cc, h, hr, hu => ⟨[], travS_nil _ _⟩
  | t :: ts, us, ca, cc, h, hr, hu => by
    simp only [fineL] at h
    rw [travS_cons] at hu
    obtain ⟨c', h1, hu⟩ := Res1.bind_ok hu
    obtain ⟨t', h2, hu⟩ := Res1.bind_ok hu
    obtain ⟨ts', h3, hu⟩ := Res1.bind_ok hu
    obtain ⟨cc', e2, hr'⟩ := F.kid _ _ _ _ hr h1
    rw [travS_cons]
    refine Res1.bind_ex ⟨cc', e2⟩ (fun a9 ha => ?_)
    rw [e2] at ha
    injection ha with ha
    subst ha
    exact Res1.bind_ex (told F h.1 hr' h2) (fun a _ => Res1.bind_ex (toldS F h.2 hr h3) (fun b _ => ⟨_, rfl⟩))
theorem toldB (F : Told (A := A) (D := D) R) {kd : Int} : ∀ {bs us : List Br} {ca : CA} {cc : CC}, fineB kd bs → R ca cc → travB A kd bs ca = .ok us → ∃ w, travB D kd bs cc = .ok w
  | [], us, ca, cc, h, hr, hu => ⟨[], travB_nil _ _⟩
  | .mk f ks :: bs, us, ca, cc, h, hr, hu => by
    simp only [fineB] at h
    obtain ⟨h1, h2, h3, h4⟩ := h
    rw [travB_cons] at hu
    simp only [Br.face, Br.kids] at hu
    obtain ⟨o, h5, hu⟩ := Res1.bind_ok hu
    rw [travB_cons]
    simp only [Br.face, Br.kids]
    cases o with
    | none =>
      rw [F.none _ _ _ hr h2 h5]
      exact toldB F h4 hr hu
    | some f' =>
      obtain ⟨ks', h6, hu⟩ := Res1.bind_ok hu
      obtain ⟨bs', h7, hu⟩ := Res1.bind_ok hu
      refine Res1.bind_ex (F.some _ _ _ _ hr h2 h5) (fun o _ => ?_)
      cases o with
      | none => exact toldB F h4 hr h7
      | some q => exact Res1.bind_ex (toldS F h3 hr h6) (fun a _ => Res1.bind_ex (toldB F h4 hr h7) (fun b _ => ⟨_, rfl⟩))
end
end
end Go.Hy
namespace Go.Hy
theorem formed_size {t : T} (h : formedP t = 0) : size t ≤ 20000 := by
  unfold formedP at h
  split at h
  · rename_i hs; exact absurd h hs
  · rename_i hs
    simp only [ne_eq, Decidable.not_not, sized] at hs
    split at hs
    · cases hs
    · split at hs
      · cases hs
      · omega
end Go.Hy
namespace Go.Hy
/-! ### Masks, bit by bit -/
theorem maskLift_bit {s : Nat} {f b : Int} (h : (maskLift s f b).1 = 0) (i : Nat) : 0 ≤ f ∧ 0 ≤ b ∧ (maskLift s f b).2.testBit i = ((decide (i < min f.toNat 24) && (s &&& 16777215).testBit i) || (decide (min f.toNat 24 + b.toNat ≤ i) && (s &&& 16777215).testBit (i - b.toNat))) := by
  by_cases h0 : f < 0 ∨ b < 0
  · rw [maskLift, if_pos h0] at h; cases h
  · have hq : ∀ j, (s &&& 16777215).testBit j = true → j < 24 := fun j hj => by rw [and24_bit, Bool.and_eq_true, decide_eq_true_eq] at hj; exact hj.1
    refine ⟨by omega, by omega, ?_⟩
    generalize hF : min f.toNat 24 = F at *
    by_cases h1 : andNot32 (s &&& 16777215) (2 ^ (min f.toNat 24) - 1) = 0
    · rw [maskLift, if_neg h0, if_pos h1]
      show ((s &&& 16777215) &&& (2 ^ (min f.toNat 24) - 1)).testBit i = _
      rw [hF] at h1 ⊢
      rw [Nat.testBit_and, mask_bit]
      have h2 : (decide (F + b.toNat ≤ i) && (s &&& 16777215).testBit (i - b.toNat)) = false := by
        cases h3 : (s &&& 16777215).testBit (i - b.toNat) with
        | false => rw [Bool.and_false]
        | true =>
          rw [Bool.and_true]
          refine decide_eq_false (fun h4 => ?_)
          have h5 : (andNot32 (s &&& 16777215) (2 ^ F - 1)).testBit (i - b.toNat) = true := by
            rw [andNot32_bit, mask_bit, h3, decide_eq_true (by have := hq _ h3; omega), decide_eq_false (by omega)]; rfl
          rw [h1, Nat.zero_testBit] at h5
          cases h5
      rw [h2, Bool.or_false, Bool.and_comm]
    · by_cases h2 : 24 ≤ b ∨ 16777215 < andNot32 (s &&& 16777215) (2 ^ (min f.toNat 24) - 1) * 2 ^ b.toNat
      · rw [maskLift, if_neg h0, if_neg h1, if_pos h2] at h; cases h
      · rw [maskLift, if_neg h0, if_neg h1, if_neg h2]
        show (((s &&& 16777215) &&& (2 ^ (min f.toNat 24) - 1)) ||| (andNot32 (s &&& 16777215) (2 ^ (min f.toNat 24) - 1) * 2 ^ b.toNat)).testBit i = _
        rw [hF, Nat.testBit_or, Nat.testBit_and, mask_bit, Nat.testBit_mul_two_pow, andNot32_bit, mask_bit]
        cases h3 : (s &&& 16777215).testBit (i - b.toNat) with
        | false => simp [Bool.and_comm]
        | true =>
          have h4 := hq _ h3
          rw [decide_eq_true (show i - b.toNat < 32 by omega)]
          simp only [Bool.and_true, Bool.true_and]
          rw [Bool.and_comm]
          congr 1
          by_cases h5 : F + b.toNat ≤ i
          · rw [decide_eq_true (show b.toNat ≤ i by omega), decide_eq_false (show ¬ i - b.toNat < F by omega), decide_eq_true h5]; rfl
          · rw [decide_eq_false h5]
            by_cases h6 : b.toNat ≤ i
            · rw [decide_eq_true h6, decide_eq_true (show i - b.toNat < F by omega)]; rfl
            · rw [decide_eq_false h6]; rfl
theorem maskLift_clash {p q : Nat} {f b : Int} (hp : (maskLift p f b).1 = 0) (hq : (maskLift q f b).1 = 0) (h : p &&& q = 0) : (maskLift p f b).2 &&& (maskLift q f b).2 = 0 := by
  refine Nat.eq_of_testBit_eq (fun i => ?_)
  have hb : ∀ j, (p &&& 16777215).testBit j = true → (q &&& 16777215).testBit j = true → False := fun j h1 h2 => by
    rw [and24_bit, Bool.and_eq_true] at h1 h2
    have : (p &&& q).testBit j = true := by rw [Nat.testBit_and, h1.2, h2.2]; rfl
    rw [h, Nat.zero_testBit] at this
    cases this
  rw [Nat.testBit_and, (maskLift_bit hp i).2.2, (maskLift_bit hq i).2.2, Nat.zero_testBit]
  cases h1 : (p &&& 16777215).testBit i <;> cases h2 : (q &&& 16777215).testBit i <;> cases h3 : (p &&& 16777215).testBit (i - b.toNat) <;> cases h4 : (q &&& 16777215).testBit (i - b.toNat) <;> first
    | exact (hb _ h1 h2).elim
    | exact (hb _ h3 h4).elim
    | (simp only [Bool.and_true, Bool.and_false, Bool.or_false, Bool.false_or, Bool.and_eq_false_iff, decide_eq_false_iff_not]; done)
    | (by_cases h5 : i < min f.toNat 24
       · rw [decide_eq_true h5, decide_eq_false (show ¬ min f.toNat 24 + b.toNat ≤ i by omega)]; simp
       · rw [decide_eq_false h5]; simp)
/-! ### Clauses, formulas -/
theorem clLift_ok {c : Cl} {f b : Int} (h : (clLift c f b).1 = 0) : right24 c = true ∧ (maskLift c.pos f b).1 = 0 ∧ (maskLift c.neg f b).1 = 0 ∧ (clLift c f b).2 = ⟨(maskLift c.pos f b).2, (maskLift c.neg f b).2⟩ := by
  unfold clLift at h ⊢
  split at h
  · cases h
  · rename_i h1
    split at h
    · rename_i h2; exact absurd h h2
    · rename_i h2
      split at h
      · rename_i h3; exact absurd h h3
      · rename_i h3
        rw [if_neg h1, if_neg h2, if_neg h3]
        exact ⟨by simpa using h1, Decidable.not_not.mp h2, Decidable.not_not.mp h3, rfl⟩
theorem clLift_clash {c : Cl} {f b : Int} (h : (clLift c f b).1 = 0) (hc : clash c = false) : clash (clLift c f b).2 = false := by
  obtain ⟨_, h1, h2, h3⟩ := clLift_ok h
  rw [h3]
  unfold clash at hc ⊢
  have h4 : c.pos &&& c.neg = 0 := Decidable.not_not.mp (of_decide_eq_false hc)
  exact decide_eq_false (Decidable.not_not.mpr (maskLift_clash h1 h2 h4))
theorem leastF_cases (l : List Cl) : ((leastF l).1 = 0 ∧ l.all right24 = true ∧ (leastF l).2 = refLeast l ∧ (refLeast l).length ≤ 64) ∨ (leastF l).1 = 2 ∨ (leastF l).1 = 3 := by
  unfold leastF
  split
  · exact .inr (.inl rfl)
  · rename_i h1
    split
    · exact .inr (.inr rfl)
    · rename_i h2
      exact .inl ⟨rfl, by simpa using h1, rfl, by omega⟩
theorem leastF_fR {l : List Cl} (h : (leastF l).1 = 0) : fRight (leastF l).2 = true := by
  rcases leastF_cases l with ⟨_, h1, h2, h3⟩ | h1 | h1
  · rw [h2]
    unfold fRight
    rw [Bool.and_eq_true, Bool.and_eq_true, Bool.and_eq_true]
    refine ⟨⟨⟨List.all_eq_true.mpr fun c hc => List.all_eq_true.mp h1 c (refLeast_mem.mp hc).1, sortedC_iff.mpr (refLeast_sorted l)⟩, apart_iff.mpr fun a ha b hb => needless_iff.mp (refLeast_mem.mp ha).2 b (refLeast_mem.mp hb).1⟩, decide_eq_true h3⟩
  · rw [h1] at h; cases h
  · rw [h1] at h; cases h
theorem leastF_sub {l : List Cl} (h : (leastF l).1 = 0) {c : Cl} (hc : c ∈ (leastF l).2) : c ∈ l := by
  rcases leastF_cases l with ⟨_, h1, h2, h3⟩ | h1 | h1
  · rw [h2] at hc; exact (refLeast_mem.mp hc).1
  · rw [h1] at h; cases h
  · rw [h1] at h; cases h
theorem formLift_cases {l : List Cl} {f b : Int} (h : (formLift l f b).1 = 0) : fRight l = true ∧ (∀ c, c ∈ l → (clLift c f b).1 = 0) ∧ formLift l f b = leastF (l.map fun c => (clLift c f b).2) := by
  unfold formLift at h ⊢
  split at h
  · cases h
  · rename_i h1
    split at h
    · rename_i h2; exact absurd h h2
    · rename_i h2
      have h3 : (foldC (fun c => clLift c f b) l).1 = 0 := Decidable.not_not.mp h2
      rw [if_neg h1, if_neg h2]
      exact ⟨by simpa using h1, foldC_iff.mp h3, by rw [foldC_map h3]⟩
theorem formLift_fR {l : List Cl} {f b : Int} (h : (formLift l f b).1 = 0) : fRight (formLift l f b).2 = true := by
  obtain ⟨_, _, h3⟩ := formLift_cases h
  rw [h3] at h ⊢
  exact leastF_fR h
theorem formLift_face {l : List Cl} {f b : Int} (h : (formLift l f b).1 = 0) (hl : faceRight l = true) : faceRight (formLift l f b).2 = true := by
  obtain ⟨_, h2, h3⟩ := formLift_cases h
  have hf := formLift_fR h
  unfold faceRight at hl ⊢
  rw [Bool.and_eq_true, Bool.not_eq_true'] at hl ⊢
  refine ⟨hf, ?_⟩
  rw [List.any_eq_false]
  intro c hc
  rw [h3] at h hc
  obtain ⟨d, hd, rfl⟩ := List.mem_map.mp (leastF_sub h hc)
  have h4 := List.any_eq_false.mp hl.2 d hd
  rw [Bool.not_eq_true] at h4 ⊢
  exact clLift_clash (h2 d hd) h4
theorem rowLift_fR {l g : List Cl} {f b : Int} (h : rowLift b l f = .ok g) (hl : fRight l = true) : fRight g = true := by
  unfold rowLift at h
  split at h
  · injection h with h; subst h; exact hl
  · split at h
    · rename_i h2; injection h with h; subst h; exact formLift_fR h2
    · cases h
theorem rowLift_face {l g : List Cl} {f b : Int} (h : rowLift b l f = .ok g) (hl : faceRight l = true) : faceRight g = true := by
  unfold rowLift at h
  split at h
  · injection h with h; subst h; exact hl
  · split at h
    · rename_i h2; injection h with h; subst h; exact formLift_face h2 hl
    · cases h
theorem fRight_nil : fRight [] = true := by decide
theorem formLift_nil (f b : Int) : formLift [] f b = (0, []) := by
  unfold formLift
  rw [if_neg (by rw [fRight_nil]; decide)]
  have h : foldC (fun c => clLift c f b) [] = (0, []) := rfl
  rw [h, if_neg (by decide)]
  exact leastF_fRight.mp fRight_nil
theorem rowLift_nil (f b : Int) : rowLift b [] f = .ok [] := by
  unfold rowLift
  rw [formLift_nil]
  simp
/-! ### Lifted terms are formed -/
theorem lift_fine {vb db : Int} (hv : 0 ≤ vb) {t u : T} {c : Int × Int} (h : fineT t) (hu : trav (liftTr vb db) t c = .ok u) : fineT u := by
  refine trav_fine (A := liftTr vb db) ?_ ?_ ?_ h hu
  · intro c k n nm r p h ho
    obtain ⟨h1, h2, h3, h4, h5, h6, h7⟩ := h
    obtain ⟨g, hg, ho⟩ := Res1.bind_ok (x := rowLift db r c.2) ho
    have hnil : r = [] → g = [] := fun e => by rw [e, rowLift_nil] at hg; injection hg with hg; exact hg.symm
    have key : ∀ n', (k ≠ 1 → n' = n) → (k = 1 → 0 ≤ n') → headOK k n' nm g := fun n' e1 e2 =>
      ⟨fun hk => by rw [e1 hk]; exact h1 hk, h2, fun hk => ⟨hnil (h3 hk).1, e2 hk⟩, fun hk => ⟨hnil (h4 hk).1, (h4 hk).2⟩, fun hk => rowLift_fR hg (h5 hk), fun hk => rowLift_face hg (h6 hk), fun hk => hnil (h7 hk)⟩
    split at ho
    · rename_i hk
      split at ho
      · cases ho
      · injection ho with ho; injection ho with ho; subst ho
        exact key _ (fun h => absurd hk.1 h) (fun h => by have := (h3 h).2; dsimp only; omega)
    · injection ho with ho; injection ho with ho; subst ho
      exact key _ (fun _ => rfl) (fun h => (h3 h).2)
  · intro c k n nm r u _ ho
    exact absurd ho lift_own_inl
  · intro c f f' hf ho
    obtain ⟨g, hg, ho⟩ := Res1.bind_ok (x := rowLift db f c.2) ho
    injection ho with ho; injection ho with ho; subst ho
    exact rowLift_face hg hf
section
variable {C : Type} {A : Tr C}
end
/-! ### Lifts, one behind the other -/
theorem rowLift_zero (l : List Cl) (f : Int) : rowLift 0 l f = .ok l := by unfold rowLift; rw [if_pos (.inl rfl)]
/-- What liftTr makes of a node. -/
theorem lift_own_eq {vb db : Int} {c : Int × Int} {k n : Int} {nm : ByteArray} {r : List Cl} : (liftTr vb db).own c k n nm r = (rowLift db r c.2).bind fun r' => if k = 1 ∧ c.1 ≤ n ∧ 1000000000 - vb < n then .bad 100 else .ok (.inr (liftN vb c.1 k n, r')) := by
  simp only [liftTr, liftN]
  congr 1
  funext g
  by_cases h1 : k = 1 ∧ c.1 ≤ n
  · rw [if_pos h1, if_pos h1]
    by_cases h2 : 1000000000 - vb < n
    · rw [if_pos h2, if_pos ⟨h1.1, h1.2, h2⟩]
    · rw [if_neg h2, if_neg (fun h => h2 h.2.2)]
  · rw [if_neg h1, if_neg h1, if_neg (fun h => h1 ⟨h.1, h.2.1⟩)]
abbrev Dl (b : Int) (t : T) : Res1 T := trav (liftTr 0 b) t (0, 0)
theorem liftN_zero {v k n : Int} : liftN 0 v k n = n := by unfold liftN; split <;> omega
theorem lift_face_def {vb db : Int} {c : Int × Int} {f : List Cl} : (liftTr vb db).face c f = (rowLift db f c.2).bind fun f' => .ok (some f') := rfl
/-! ### LiftAdds -/
mutual
def farT : T → Bool
  | .mk k n nm r ks ss => (decide (k = 1) && decide (1000000000 < n)) || farL ks || farB ss
def farL : List T → Bool
  | [] => false
  | t :: ts => farT t || farL ts
def farB : List Br → Bool
  | [] => false
  | .mk f ks :: bs => farL ks || farB bs
end
mutual
theorem lift_none : ∀ {t : T} {c : Int × Int}, fineT t → (trav (liftTr 0 0) t c = .ok t) ∨ (trav (liftTr 0 0) t c = .bad 100 ∧ farT t = true)
  | .mk k n nm r ks ss, c, h => by
    simp only [fineT] at h
    obtain ⟨h1, h2, h3, h4, h5⟩ := h
    rw [trav_eq]
    simp only [T.kind, T.n, T.name, T.r, T.kids, T.sys, farT]
    rw [lift_own_eq, rowLift_zero, liftN_zero]
    simp only [Res1.bind]
    by_cases h6 : k = 1 ∧ c.1 ≤ n ∧ 1000000000 - 0 < n
    · rw [if_pos h6]
      exact .inr ⟨rfl, by rw [decide_eq_true h6.1, decide_eq_true (show (1000000000 : Int) < n by omega)]; rfl⟩
    · rw [if_neg h6]
      simp only
      rcases liftL_none (i := 0) (c := c) (k := k) h4 with e | ⟨e, e2⟩
      · rw [e]
        simp only
        rcases liftB_none (c := c) h5 with e | ⟨e, e2⟩
        · rw [e]; exact .inl rfl
        · rw [e]; exact .inr ⟨rfl, by rw [e2, Bool.or_true]⟩
      · rw [e]; exact .inr ⟨rfl, by rw [e2, Bool.or_true, Bool.true_or]⟩
theorem liftL_none {k : Int} : ∀ {ts : List T} {i : Nat} {c : Int × Int}, fineL ts → (travL (liftTr 0 0) k i ts c = .ok ts) ∨ (travL (liftTr 0 0) k i ts c = .bad 100 ∧ farL ts = true)
  | [], i, c, h => .inl (travL_nil _ _ _)
  | t :: ts, i, c, h => by
    simp only [fineL] at h
    rw [travL_cons, lift_kid]
    simp only [Res1.bind, farL]
    rcases lift_none (c := (c.1 + (binds k i).1, c.2 + (binds k i).2)) h.1 with e | ⟨e, e2⟩
    · rw [e]
      simp only
      rcases liftL_none (i := i + 1) (c := c) (k := k) h.2 with e | ⟨e, e2⟩
      · rw [e]; exact .inl rfl
      · rw [e]; exact .inr ⟨rfl, by rw [e2, Bool.or_true]⟩
    · rw [e]; exact .inr ⟨rfl, by rw [e2, Bool.true_or]⟩
theorem liftS_none {k : Int} : ∀ {ts : List T} {c : Int × Int}, fineL ts → (travS (liftTr 0 0) k ts c = .ok ts) ∨ (travS (liftTr 0 0) k ts c = .bad 100 ∧ farL ts = true)
  | [], c, h => .inl (travS_nil _ _)
  | t :: ts, c, h => by
    simp only [fineL] at h
    rw [travS_cons, lift_kid]
    simp only [Res1.bind, farL]
    rcases lift_none (c := (c.1 + 0, c.2 + more k)) h.1 with e | ⟨e, e2⟩
    · rw [e]
      simp only
      rcases liftS_none (c := c) (k := k) h.2 with e | ⟨e, e2⟩
      · rw [e]; exact .inl rfl
      · rw [e]; exact .inr ⟨rfl, by rw [e2, Bool.or_true]⟩
    · rw [e]; exact .inr ⟨rfl, by rw [e2, Bool.true_or]⟩
theorem liftB_none {k : Int} : ∀ {bs : List Br} {c : Int × Int}, fineB k bs → (travB (liftTr 0 0) k bs c = .ok bs) ∨ (travB (liftTr 0 0) k bs c = .bad 100 ∧ farB bs = true)
  | [], c, h => .inl (travB_nil _ _)
  | .mk f ks :: bs, c, h => by
    simp only [fineB] at h
    obtain ⟨h1, h2, h3, h4⟩ := h
    rw [travB_cons, lift_face_def]
    simp only [Br.face, Br.kids, farB]
    rw [rowLift_zero]
    simp only [Res1.bind]
    rcases liftS_none (c := c) (k := k) h3 with e | ⟨e, e2⟩
    · rw [e]
      simp only
      rcases liftB_none (c := c) h4 with e | ⟨e, e2⟩
      · rw [e]; exact .inl rfl
      · rw [e]; exact .inr ⟨rfl, by rw [e2, Bool.or_true]⟩
    · rw [e]; exact .inr ⟨rfl, by rw [e2, Bool.true_or]⟩
end
/-! A refusal's number. -/
theorem clLift_err (c : Cl) (f b : Int) : (clLift c f b).1 = 0 ∨ (clLift c f b).1 = 2 ∨ (clLift c f b).1 = 10 := by
  have hm : ∀ s, (maskLift s f b).1 = 0 ∨ (maskLift s f b).1 = 2 ∨ (maskLift s f b).1 = 10 := fun s => by
    unfold maskLift
    split
    · exact .inr (.inl rfl)
    · split
      · exact .inl rfl
      · split
        · exact .inr (.inr rfl)
        · exact .inl rfl
  unfold clLift
  split
  · exact .inr (.inl rfl)
  · split
    · exact hm _
    · split
      · exact hm _
      · exact .inl rfl
def asRes (r : Res1 T) : Int × T := match r with
  | .ok u => (0, u)
  | .bad e => (e, t0)
theorem guard_as {t : T} {ns : List Int} {r : Res1 T} (h : formedP t = 0) (h2 : ns.all (fun n => decide (0 ≤ n)) = true) : guardRes t ns r = asRes r := by
  cases r with
  | ok u => exact guard_ok h h2 rfl
  | bad e => exact guard_bad h h2 rfl
theorem dims_as {t : T} {b : Int} (h : formedP t = 0) (hv : 0 ≤ b) : dimsRes t 0 b = asRes (Dl b t) := guard_as h (by simp [hv])
end Go.Hy
namespace Go.Hy
/-! ### May a term be, node by node -/
def headM (v d : Int) (k n : Int) (r : List Cl) : Prop := d ≤ 24 ∧ (k = 1 → n < v) ∧ within r d = true
mutual
def mayT : T → Int → Int → Prop
  | .mk k n nm r ks ss, v, d => headM v d k n r ∧ mayL k 0 ks v d ∧ mayB k ss v d
def mayL (k : Int) : Nat → List T → Int → Int → Prop
  | _, [], _, _ => True
  | i, t :: ts, v, d => mayT t (v + (binds k i).1) (d + (binds k i).2) ∧ mayL k (i + 1) ts v d
def mayS (k : Int) : List T → Int → Int → Prop
  | [], _, _ => True
  | t :: ts, v, d => mayT t v (d + more k) ∧ mayS k ts v d
def mayB (k : Int) : List Br → Int → Int → Prop
  | [], _, _ => True
  | .mk f ks :: bs, v, d => within f d = true ∧ mayS k ks v d ∧ mayB k bs v d
end
theorem within_nil (d : Int) : within [] d = true := by
  unfold within
  rw [show fDims [] = 0 from rfl, Nat.zero_div]
  simp
theorem ownB_iff {t : T} {d : Int} {b : Br} : ownB t d b = true ↔ ((b.kids.length : Int) = partsN t.kind ∧ faceRight b.face = true) ∧ within b.face d = true := by
  unfold ownB
  rw [Bool.and_eq_true, Bool.and_eq_true, decide_eq_true_iff]
theorem own_link {t : T} {v d : Int} (hv : 0 ≤ v) : ownP t v d = true ↔ ownP t (-1) 24 = true ∧ (t.kind = 1 → t.n < v) ∧ within t.r d = true ∧ ∀ b, b ∈ t.sys → within b.face d = true := by
  rw [own_iff, own_iff]
  have hsys : ∀ (h : own1 t = false), partsN t.kind = 0 → t.sys = [] := fun h h0 => by
    unfold own1 at h
    rw [Bool.or_eq_false_iff, Bool.and_eq_false_iff] at h
    rcases h.2 with h2 | h2
    · exact absurd h0 (of_decide_eq_false h2)
    · exact List.eq_nil_of_length_eq_zero (by have := of_decide_eq_false h2; omega)
  have hw24 : ∀ l : List Cl, within l 24 = true := fun l => within_24 l (by omega)
  constructor
  · rintro ⟨h1, h2⟩
    refine (fun (h : (if t.kind = 1 then t.r.length = 0 ∧ 0 ≤ t.n ∧ ((-1 : Int) < 0 ∨ t.n < -1) else if t.kind = 2 then t.r.length = 0 ∧ nameOK t.name = true else if t.kind = 13 ∨ t.kind = 21 ∨ t.kind = 26 then fRight t.r = true ∧ within t.r 24 = true else if t.kind = 14 then faceRight t.r = true ∧ within t.r 24 = true else (∀ x, x ∈ t.sys → ownB t 24 x = true) ∧ t.r.length = 0) ∧ (t.kind = 1 → t.n < v) ∧ within t.r d = true ∧ ∀ b, b ∈ t.sys → within b.face d = true) => ⟨⟨h1, h.1⟩, h.2⟩) ?_
    split at h2
    · rename_i hk
      have hs := hsys h1 (partsN_zero (by omega))
      rw [hs, List.eq_nil_of_length_eq_zero h2.1]
      exact ⟨by rw [if_pos hk]; exact ⟨rfl, h2.2.1, .inl (by decide)⟩, fun _ => by omega, within_nil d, fun b hb => (by cases hb)⟩
    · rename_i hk1
      rw [if_neg hk1]
      split at h2
      · rename_i hk
        have hs := hsys h1 (partsN_zero (by omega))
        rw [hs, List.eq_nil_of_length_eq_zero h2.1]
        exact ⟨by rw [if_pos hk]; exact ⟨rfl, h2.2⟩, fun h => absurd h hk1, within_nil d, fun b hb => (by cases hb)⟩
      · rename_i hk2
        rw [if_neg hk2]
        split at h2
        · rename_i hk
          have hs := hsys h1 (partsN_zero (by omega))
          rw [hs]
          exact ⟨by rw [if_pos hk]; exact ⟨h2.1, hw24 _⟩, fun h => absurd h hk1, h2.2, fun b hb => (by cases hb)⟩
        · rename_i hk3
          rw [if_neg hk3]
          split at h2
          · rename_i hk
            have hs := hsys h1 (partsN_zero (by omega))
            rw [hs]
            exact ⟨by rw [if_pos hk]; exact ⟨h2.1, hw24 _⟩, fun h => absurd h hk1, h2.2, fun b hb => (by cases hb)⟩
          · rename_i hk4
            rw [if_neg hk4, List.eq_nil_of_length_eq_zero h2.2]
            exact ⟨⟨fun x hx => ownB_iff.mpr ⟨(ownB_iff.mp (h2.1 x hx)).1, hw24 _⟩, rfl⟩, fun h => absurd h hk1, within_nil d, fun b hb => (ownB_iff.mp (h2.1 b hb)).2⟩
  · rintro ⟨⟨h1, h2⟩, h3, h4, h5⟩
    refine ⟨h1, ?_⟩
    split at h2
    · rename_i hk; rw [if_pos hk]; exact ⟨h2.1, h2.2.1, .inr (h3 hk)⟩
    · rename_i hk1
      rw [if_neg hk1]
      split at h2
      · rename_i hk; rw [if_pos hk]; exact h2
      · rename_i hk2
        rw [if_neg hk2]
        split at h2
        · rename_i hk; rw [if_pos hk]; exact ⟨h2.1, h4⟩
        · rename_i hk3
          rw [if_neg hk3]
          split at h2
          · rename_i hk; rw [if_pos hk]; exact ⟨h2.1, h4⟩
          · rename_i hk4
            rw [if_neg hk4]
            exact ⟨fun x hx => ownB_iff.mpr ⟨(ownB_iff.mp (h2.1 x hx)).1, h5 x hx⟩, h2.2⟩
theorem mayL_iff {k v d : Int} : ∀ {ts : List T} {i : Nat}, mayL k i ts v d ↔ ∀ j, j < ts.length → mayT (ts.getD j t0) (v + (binds k ((i + j : Nat) : Int)).1) (d + (binds k ((i + j : Nat) : Int)).2)
  | [], i => by simp [mayL]
  | t :: ts, i => by
    simp only [mayL, mayL_iff (ts := ts) (i := i + 1)]
    constructor
    · rintro ⟨h1, h2⟩ j hj
      cases j with
      | zero => simpa using h1
      | succ j => rw [List.getD_cons_succ, show i + (j + 1) = i + 1 + j by omega]; exact h2 j (by simpa using hj)
    · intro h
      refine ⟨by simpa using h 0 (by simp), fun j hj => ?_⟩
      have := h (j + 1) (by simpa using hj)
      rw [List.getD_cons_succ, show i + (j + 1) = i + 1 + j by omega] at this
      exact this
theorem mayS_iff {k v d : Int} : ∀ {ts : List T}, mayS k ts v d ↔ ∀ j, j < ts.length → mayT (ts.getD j t0) v (d + more k)
  | [] => by simp [mayS]
  | t :: ts => by
    simp only [mayS, mayS_iff (ts := ts)]
    constructor
    · rintro ⟨h1, h2⟩ j hj
      cases j with
      | zero => simpa using h1
      | succ j => rw [List.getD_cons_succ]; exact h2 j (by simpa using hj)
    · intro h
      exact ⟨by simpa using h 0 (by simp), fun j hj => by have := h (j + 1) (by simpa using hj); rwa [List.getD_cons_succ] at this⟩
theorem mayB_iff {k v d : Int} : ∀ {bs : List Br}, mayB k bs v d ↔ ∀ b, b ∈ bs → within b.face d = true ∧ mayS k b.kids v d
  | [] => by simp [mayB]
  | .mk f ks :: bs => by
    simp only [mayB, mayB_iff (bs := bs), List.forall_mem_cons, Br.face, Br.kids, and_assoc]
theorem mayT_iff {t : T} {v d : Int} : mayT t v d ↔ headM v d t.kind t.n t.r ∧ (∀ b, b ∈ t.sys → within b.face d = true) ∧ ∀ p, p ∈ parts t → mayT p.1 (v + p.2.1) (d + p.2.2) := by
  have h : mayT t v d ↔ headM v d t.kind t.n t.r ∧ mayL t.kind 0 t.kids v d ∧ mayB t.kind t.sys v d := by
    obtain ⟨k, n, nm, r, ks, ss⟩ := t
    simp only [mayT, T.kind, T.n, T.r, T.kids, T.sys]
  rw [h, mayL_iff, mayB_iff]
  constructor
  · rintro ⟨h1, h2, h3⟩
    refine ⟨h1, fun b hb => (h3 b hb).1, fun p hp => ?_⟩
    rcases part_cases hp with ⟨i, hi, rfl⟩ | ⟨s, k, hs, hk, rfl⟩
    · have := h2 i hi; rw [Nat.zero_add] at this; exact this
    · have := mayS_iff.mp (h3 _ (getD_mem (d := br0) hs)).2 k hk; simpa using this
  · rintro ⟨h1, h2, h3⟩
    refine ⟨h1, fun j hj => ?_, fun b hb => ⟨h2 b hb, mayS_iff.mpr fun k hk => ?_⟩⟩
    · have := h3 _ (List.mem_of_getElem? (parts_kid t j hj)); rw [Nat.zero_add]; exact this
    · obtain ⟨s, hs, e⟩ := List.mem_iff_getElem.mp hb
      have e2 : t.sys.getD s br0 = b := by rw [getD_get (d := br0) hs]; exact e
      have := h3 _ (List.mem_of_getElem? (parts_sys t s k hs (by rw [e2]; exact hk)))
      rw [e2] at this
      simpa using this
theorem may_link : ∀ (t : T) (v d : Int), 0 ≤ v → v + size t ≤ 9000000000000000000 → (allP t v d true = true ↔ fineT t ∧ mayT t v d) := T.ind fun t ih v d h0 hb => by
  rw [all_iff, own_link h0, mayT_iff, fine_parts]
  have hown : ownP t (-1) 24 = true ↔ ∀ d' : Int, 24 ≤ d' → ownP t (-1) d' = true := by
    constructor
    · intro h d' hd'
      obtain ⟨k, n, nm, r, ks, ss⟩ := t
      exact (own24_iff hd').mpr ((own24_iff (by omega)).mp h)
    · intro h; exact h 24 (by omega)
  have key : ∀ p, p ∈ parts t → (allP p.1 (IntKind.i64.wrap (v + if v < 0 then 0 else p.2.1)) (d + p.2.2) true = true ↔ fineT p.1 ∧ mayT p.1 (v + p.2.1) (d + p.2.2)) := fun p hp => by
    have h1 := parts_01 hp
    have h2 := size_part_lt hp
    rw [if_neg (by omega), wrap_id (by unfold in64; omega)]
    exact ih p hp _ _ (by omega) (by omega)
  rw [hown]
  unfold headM
  constructor
  · rintro ⟨h1, ⟨h2, h3, h4, h5⟩, h6⟩
    exact ⟨⟨h2, fun p hp => ((key p hp).mp (h6 p hp)).1⟩, ⟨by simp at h1; omega, h3, h4⟩, h5, fun p hp => ((key p hp).mp (h6 p hp)).2⟩
  · rintro ⟨⟨h2, h6⟩, ⟨h1, h3, h4⟩, h5, h7⟩
    exact ⟨by simp; omega, ⟨h2, h3, h4, h5⟩, fun p hp => (key p hp).mpr ⟨h6 p hp, h7 p hp⟩⟩
theorem right_may {t : T} {v d : Int} (hv : 0 ≤ v) (hb : v ≤ 1000000000000) : rightP t v d = 0 ↔ 0 ≤ d ∧ d ≤ 24 ∧ sized t = 0 ∧ fineT t ∧ mayT t v d := by
  rw [right_zero]
  constructor
  · rintro ⟨_, h2, h3, h4, h5⟩
    have := (sized_zero.mp h4).2
    exact ⟨h2, h3, h4, (may_link t v d hv (by omega)).mp h5⟩
  · rintro ⟨h2, h3, h4, h5⟩
    have := (sized_zero.mp h4).2
    exact ⟨hv, h2, h3, h4, (may_link t v d hv (by omega)).mpr h5⟩
/-! ### A way is told where it is told of each part -/
section
variable {C : Type} {A : Tr C}
theorem travL_ex {k : Int} {c : C} : ∀ {ts : List T} {i : Nat}, (∀ j, j < ts.length → ∃ c' u, A.kid c (binds k ((i + j : Nat) : Int)) = .ok c' ∧ trav A (ts.getD j t0) c' = .ok u) → ∃ us, travL A k i ts c = .ok us
  | [], i, h => ⟨[], travL_nil _ _ _⟩
  | t :: ts, i, h => by
    obtain ⟨c', u, h1, h2⟩ := h 0 (by simp)
    obtain ⟨us, h3⟩ := travL_ex (ts := ts) (i := i + 1) (fun j hj => by
      have := h (j + 1) (by simpa using hj)
      rw [List.getD_cons_succ, show i + (j + 1) = i + 1 + j by omega] at this
      exact this)
    rw [Nat.add_zero] at h1
    rw [List.getD_cons_zero] at h2
    exact ⟨u :: us, by rw [travL_cons, h1]; simp only [Res1.bind]; rw [h2]; simp only; rw [h3]⟩
theorem travS_ex {k : Int} {c : C} : ∀ {ts : List T}, (∀ j, j < ts.length → ∃ c' u, A.kid c (0, more k) = .ok c' ∧ trav A (ts.getD j t0) c' = .ok u) → ∃ us, travS A k ts c = .ok us
  | [], h => ⟨[], travS_nil _ _⟩
  | t :: ts, h => by
    obtain ⟨c', u, h1, h2⟩ := h 0 (by simp)
    obtain ⟨us, h3⟩ := travS_ex (ts := ts) (fun j hj => by
      have := h (j + 1) (by simpa using hj)
      rw [List.getD_cons_succ] at this
      exact this)
    rw [List.getD_cons_zero] at h2
    exact ⟨u :: us, by rw [travS_cons, h1]; simp only [Res1.bind]; rw [h2]; simp only; rw [h3]⟩
end
/-! ### Variables of a term that may be are lifted -/
theorem var_told {a : Int} (ha : 0 ≤ a ∧ a ≤ 1000000) : ∀ (t : T) (v d : Int) (c : Int × Int), mayT t v d → v + size t ≤ 900000000 → ∃ u, trav (liftTr a 0) t c = .ok u := T.ind fun t ih v d c hm hb => by
  obtain ⟨h1, h2, h3⟩ := mayT_iff.mp hm
  have hsz := size_pos' t
  have hown : (liftTr a 0).own c t.kind t.n t.name t.r = .ok (.inr (liftN a c.1 t.kind t.n, t.r)) := by
    rw [lift_own_eq, rowLift_zero]
    simp only [Res1.bind]
    rw [if_neg]
    rintro ⟨h4, _, h5⟩
    have := h1.2.1 h4
    omega
  have hpart : ∀ p, p ∈ parts t → ∀ c', ∃ u, trav (liftTr a 0) p.1 c' = .ok u := fun p hp c' => by
    have h4 := parts_01 hp
    have h5 := size_part_lt hp
    exact ih p hp _ _ c' (h3 p hp) (by omega)
  obtain ⟨ks, hk⟩ := travL_ex (A := liftTr a 0) (k := t.kind) (c := c) (ts := t.kids) (i := 0) (fun j hj => by
    obtain ⟨u, hu⟩ := hpart _ (List.mem_of_getElem? (parts_kid t j hj)) (c.1 + (binds t.kind ((0 + j : Nat) : Int)).1, c.2 + (binds t.kind ((0 + j : Nat) : Int)).2)
    exact ⟨_, u, rfl, hu⟩)
  have hbr : ∀ bs : List Br, (∀ b, b ∈ bs → b ∈ t.sys) → ∃ us, travB (liftTr a 0) t.kind bs c = .ok us := by
    intro bs
    induction bs with
    | nil => intro _; exact ⟨[], travB_nil _ _⟩
    | cons b bs ihb =>
      intro hs
      obtain ⟨us, hus⟩ := ihb (fun x hx => hs x (List.mem_cons_of_mem _ hx))
      obtain ⟨s, hs1, e⟩ := List.mem_iff_getElem.mp (hs b List.mem_cons_self)
      have e2 : t.sys.getD s br0 = b := by rw [getD_get (d := br0) hs1]; exact e
      obtain ⟨xs, hx⟩ := travS_ex (A := liftTr a 0) (k := t.kind) (c := c) (ts := b.kids) (fun j hj => by
        obtain ⟨u, hu⟩ := hpart _ (List.mem_of_getElem? (parts_sys t s j hs1 (by rw [e2]; exact hj))) (c.1 + 0, c.2 + more t.kind)
        rw [e2] at hu
        exact ⟨_, u, rfl, hu⟩)
      exact ⟨.mk b.face xs :: us, by rw [travB_cons, lift_face_def, rowLift_zero]; simp only [Res1.bind]; rw [hx]; simp only; rw [hus]⟩
  obtain ⟨ss, hss⟩ := hbr t.sys (fun b hb => hb)
  exact ⟨_, trav_ok_of hown hk hss⟩
end Go.Hy
