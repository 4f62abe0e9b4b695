/- Contracts of functions of this program, one theorem each (printed by a program of this repository). -/
import Derived.Test.YtcofpfnnlageaaaHyAuto
import Derived.Test.YtcofpfnnlageaaaHyTab
import Derived.Test.YtcofpfnnlageaaaHyTerm
import Derived.Test.YtcofpfnnlageaaaS5
namespace Go.Hy
set_option linter.unusedVariables false
set_option linter.unusedSimpArgs false
set_option linter.unusedSectionVars false
open Go.Proofs
set_option linter.unusedVariables false
set_option linter.unusedSimpArgs false
set_option maxRecDepth 100000
theorem equal_spec (l m : List Cl) (a b : SH) : Spec Try.prog 48 #[sl a l.length, sl b m.length] [CL l a, CL m b] [] (fun _ : Unit => .bool (decide (l = m))) (fun _ => []) (fun _ => []) := by
  refine spec_go (args := [sl a l.length, sl b m.length]) Try.func48 Try.ntmps48 rfl (by exact Nat.le_of_ble_eq_true rfl) fun B hB => ?_
  refine go_openCL (l := l) (a := a) (fun hl1 hA1 hU1 => ?_)
  refine go_openCL (l := m) (a := b) (fun hl2 hA2 hU2 => ?_)
  refine go_seq ?_
  refine go_region ⟨_, Try.func48⟩ rfl ?_
  refine q0 rfl (o_assign ?_)
  refine rg_nil ?_
  refine go_seq ?_
  refine go_seq ?_
  refine go_region ⟨_, Try.func48⟩ rfl ?_
  refine q0 rfl (o_move ?_)
  refine q0 rfl (o_len ?_)
  refine q0 rfl (o_move ?_)
  refine q0 rfl (o_len ?_)
  refine q0 rfl (o_neI ?_)
  refine rg_nil ?_
  refine go_condI (fun h10 => ?_) (fun h10 => ?_)
  · have hne : ¬ l = m := fun e => by subst e; simp at h10
    refine go_seq ?_
    refine go_region ⟨_, Try.func48⟩ rfl ?_
    refine q0 rfl (o_assign ?_)
    refine rg_nil ?_
    refine ret1 Try.func48 Try.results48 (by first | ((conv => lhs; whnf); done) | rfl) () (by rw [decide_eq_false hne]) (fun w hs => hs.none)
  · have hlen : l.length = m.length := by simp at h10; omega
    refine go_skip ?_
    refine go_seq ?_
    refine go_seq ?_
    refine go_region ⟨_, Try.func48⟩ rfl ?_
    refine q0 rfl (o_move ?_)
    refine q0 rfl (o_len ?_)
    refine q0 rfl (o_move ?_)
    refine rg_nil ?_
    refine go_block ?_
    refine go_loopI (X := Nat) (fun i => i ≤ l.length ∧ ∀ j, j < i → l.getD j cl0 = m.getD j cl0) (fun i => [(0, sl a l.length), (1, sl b m.length), (12, .int .i64 (l.length : Int)), (13, .int .i64 (i : Int))]) (fun i => [CL l a, CL m b]) (fun i => []) (fun i => l.length - i) (0) (⟨Nat.zero_le _, fun j hj => by omega⟩) (by exact ⟨rfl, rfl, rfl, rfl, trivial⟩) ?_ ?_
    · exact fun w hs => hs.less (by simp +contextual)
    · intro i base0 ⟨hi, hok⟩ next0
      refine go_seq ?_
      refine go_region ⟨_, Try.func48⟩ rfl ?_
      refine q0 rfl (o_lss ?_)
      refine rg_nil ?_
      refine go_seq ?_
      refine go_condI (fun h14 => ?_) (fun h14 => ?_)
      · have hlt : i < l.length := by have := of_decide_eq_true h14; omega
        have hlt2 : i < m.length := by omega
        obtain ⟨bk, o, hav⟩ := hA1 (by omega)
        obtain ⟨bk2, o2, hav2⟩ := hA2 (by omega)
        refine go_skip ?_
        refine go_seq ?_
        refine go_block ?_
        refine go_seq ?_
        refine go_region ⟨_, Try.func48⟩ rfl ?_
        refine q0 rfl (o_move ?_)
        refine q0 rfl (o_assign ?_)
        refine rg_nil ?_
        refine go_seq ?_
        refine go_draw (tn := false) (A := [0, 0, 3, 7, 0, 0, 48, 112, 255]) (l := [0, 1, 2, 3, 4, 5, 6, 7, 8]) (fin := []) Tab.mixed ⟨_, Try.func48⟩ (by rfl) ?_
        refine n0 rfl (v_move ?_)
        refine n0 rfl (v_move ?_)
        refine n0 rfl (v_ixN ?_)
        refine n0 rfl (v_ldC ?_)
        refine n0 rfl (v_move ?_)
        refine n0 rfl (v_move ?_)
        refine n0 rfl (v_ixN ?_)
        refine n0 rfl (v_ldC ?_)
        refine n0 rfl (v_neC ?_)
        refine NV.done ?_
        refine rg_nil ?_
        refine go_condI (fun h24 => ?_) (fun h24 => ?_)
        · refine go_seq ?_
          refine go_region ⟨_, Try.func48⟩ rfl ?_
          refine q0 rfl (o_assign ?_)
          refine rg_nil ?_
          refine ret1 Try.func48 Try.results48 (by first | ((conv => lhs; whnf); done) | rfl) () (by rw [decide_eq_false (fun e => by subst e; simp at h24)]) (fun w hs => hs.none)
        · refine go_skip ?_
          refine go_inBlock ?_
          refine go_region ⟨_, Try.func48⟩ rfl ?_
          refine q0 rfl (o_add ?_)
          refine q0 rfl (o_move ?_)
          refine rg_nil ?_
          have hb : l.getD i cl0 = m.getD i cl0 := by simpa using h24
          refine go_state (fun w hs => ?_) (next0 (i + 1) _ ⟨hlt, fun j hj => (by rcases Nat.lt_succ_iff_lt_or_eq.mp hj with h | h; exact hok j h; subst h; exact hb)⟩ (by omega) ⟨rfl, rfl, rfl, rfl, trivial⟩)
          exact hs
      · have hge : i = l.length := by have := of_decide_eq_false h14; omega
        refine go_exit rfl ?_
        refine go_seq ?_
        refine go_region ⟨_, Try.func48⟩ rfl ?_
        refine q0 rfl (o_assign ?_)
        refine rg_nil ?_
        refine ret1 Try.func48 Try.results48 (by first | ((conv => lhs; whnf); done) | rfl) () (by rw [decide_eq_true (list_eq_of hlen (by rw [← hge]; exact hok))]) (fun w hs => hs.none)

theorem equalT_spec (xs ys : List T) (a b : SH) (c : FuncId) (hc : ∀ (args : Array Value) (w : World), (callFunc c args).run Try.prog w = .ok (.enter c args) w) (hcl : ∀ x, x ∈ xs → ∀ y vr vk vs vr2 vk2 vs2, Spec Try.prog c #[.agg (tc x vr vk vs).toArray, .agg (tc y vr2 vk2 vs2).toArray] [RT x vr vk vs, RT y vr2 vk2 vs2] [] (fun _ : Unit => .bool (decide (x = y))) (fun _ => []) (fun _ => [])) : Spec Try.prog 49 #[sl a xs.length, sl b ys.length, .func (.func c) #[] #[]] [TL xs a, TL ys b] [] (fun _ : Unit => .bool (decide (xs = ys))) (fun _ => []) (fun _ => []) := by
  refine spec_go (args := [sl a xs.length, sl b ys.length, .func (.func c) #[] #[]]) Try.func49 Try.ntmps49 rfl (by exact Nat.le_of_ble_eq_true rfl) fun B hB => ?_
  refine go_openTL (ts := xs) (a := a) (fun VR1 VK1 VS1 hl1 hA1 => ?_)
  refine go_openTL (ts := ys) (a := b) (fun VR2 VK2 VS2 hl2 hA2 => ?_)
  refine go_seq ?_
  refine go_region ⟨_, Try.func49⟩ rfl ?_
  refine q0 rfl (o_assign ?_)
  refine rg_nil ?_
  refine go_seq ?_
  refine go_seq ?_
  refine go_region ⟨_, Try.func49⟩ rfl ?_
  refine q0 rfl (o_move ?_)
  refine q0 rfl (o_len ?_)
  refine q0 rfl (o_move ?_)
  refine q0 rfl (o_len ?_)
  refine q0 rfl (o_neI ?_)
  refine rg_nil ?_
  refine go_condI (fun h14 => ?_) (fun h14 => ?_)
  · have hne : ¬ xs = ys := fun e => by subst e; simp at h14
    refine go_seq ?_
    refine go_region ⟨_, Try.func49⟩ rfl ?_
    refine q0 rfl (o_assign ?_)
    refine rg_nil ?_
    refine ret1 Try.func49 Try.results49 (by first | ((conv => lhs; whnf); done) | rfl) () (by rw [decide_eq_false hne]) (fun w hs => hs.none)
  · have hlen : xs.length = ys.length := by simp at h14; omega
    refine go_skip ?_
    refine go_seq ?_
    refine go_seq ?_
    refine go_region ⟨_, Try.func49⟩ rfl ?_
    refine q0 rfl (o_move ?_)
    refine q0 rfl (o_len ?_)
    refine q0 rfl (o_move ?_)
    refine rg_nil ?_
    refine go_block ?_
    refine go_loopI (X := Nat) (fun i => i ≤ xs.length ∧ ∀ j, j < i → xs.getD j t0 = ys.getD j t0) (fun i => [(1, sl b ys.length), (2, .func (.func c) #[] #[]), (15, sl a xs.length), (16, .int .i64 (xs.length : Int)), (17, .int .i64 (i : Int))]) (fun i => [TLx xs a VR1 VK1 VS1, TLx ys b VR2 VK2 VS2]) (fun i => []) (fun i => xs.length - i) (0) (⟨Nat.zero_le _, fun j hj => by omega⟩) (by exact ⟨rfl, rfl, rfl, rfl, rfl, trivial⟩) ?_ ?_
    · exact fun w hs => hs.less (by simp +contextual)
    · intro i base0 ⟨hi, hok⟩ next0
      refine go_seq ?_
      refine go_region ⟨_, Try.func49⟩ rfl ?_
      refine q0 rfl (o_lss ?_)
      refine rg_nil ?_
      refine go_seq ?_
      refine go_condI (fun h18 => ?_) (fun h18 => ?_)
      · have hlt : i < xs.length := by have := of_decide_eq_true h18; omega
        have hlt2 : i < ys.length := by omega
        obtain ⟨bk, o, hav⟩ := hA1 (by omega)
        obtain ⟨bk2, o2, hav2⟩ := hA2 (by omega)
        refine go_kid (ts := xs) (a := a) (VR := VR1) (VK := VK1) (VS := VS1) i hlt ?_
        refine go_kid (ts := ys) (a := b) (VR := VR2) (VK := VK2) (VS := VS2) i hlt2 ?_
        refine go_skip ?_
        refine go_seq ?_
        refine go_block ?_
        refine go_seq ?_
        refine go_region ⟨_, Try.func49⟩ rfl ?_
        refine q0 rfl (o_move ?_)
        refine q0 rfl (o_ixN ?_)
        refine q0 rfl (o_ldT ?_)
        refine q0 rfl (o_new fun b8 => ?_)
        refine q0 rfl (o_assign ?_)
        refine q0 rfl (o_st ?_)
        refine rg_nil ?_
        refine go_seq ?_
        refine go_region ⟨_, Try.func49⟩ rfl ?_
        refine q0 rfl (o_move ?_)
        refine q0 rfl (o_move ?_)
        refine q0 rfl (o_ixN ?_)
        refine q0 rfl (o_ldT ?_)
        refine q0 rfl (o_new fun b9 => ?_)
        refine q0 rfl (o_st ?_)
        refine rg_nil ?_
        refine go_seq ?_
        refine go_region ⟨_, Try.func49⟩ rfl ?_
        refine q0 rfl (o_move ?_)
        refine q0 rfl (o_lds ?_)
        refine q0 rfl (o_lds ?_)
        refine q0 rfl (o_callC hc (hcl _ (getD_mem hlt) (ys.getD i t0) (VR1 i) (VK1 i) (VS1 i) (VR2 i) (VK2 i) (VS2 i)) (cap := []) (fun x29 => ?_))
        refine q0 rfl (o_not ?_)
        refine rg_nil ?_
        refine go_condI (fun h30 => ?_) (fun h30 => ?_)
        · refine go_seq ?_
          refine go_region ⟨_, Try.func49⟩ rfl ?_
          refine q0 rfl (o_assign ?_)
          refine rg_nil ?_
          refine ret1 Try.func49 Try.results49 (by first | ((conv => lhs; whnf); done) | rfl) () (by rw [decide_eq_false (fun e => by subst e; simp at h30)]) (fun w hs => hs.none)
        · refine go_skip ?_
          refine go_inBlock ?_
          refine go_region ⟨_, Try.func49⟩ rfl ?_
          refine q0 rfl (o_add ?_)
          refine q0 rfl (o_move ?_)
          refine rg_nil ?_
          have hb : xs.getD i t0 = ys.getD i t0 := by simpa using h30
          refine go_state (fun w hs => ?_) (next0 (i + 1) _ ⟨hlt, fun j hj => (by rcases Nat.lt_succ_iff_lt_or_eq.mp hj with h | h; exact hok j h; subst h; exact hb)⟩ (by omega) ⟨rfl, rfl, rfl, rfl, rfl, trivial⟩)
          exact (hs.less (by simp +contextual)).bare
      · have hge : i = xs.length := by have := of_decide_eq_false h18; omega
        refine go_exit rfl ?_
        refine go_seq ?_
        refine go_region ⟨_, Try.func49⟩ rfl ?_
        refine q0 rfl (o_assign ?_)
        refine rg_nil ?_
        refine ret1 Try.func49 Try.results49 (by first | ((conv => lhs; whnf); done) | rfl) () (by rw [decide_eq_true (list_eq_of hlen (by rw [← hge]; exact hok))]) (fun w hs => hs.none)

theorem equalB_spec (xs ys : List Br) (a b : SH) (c : FuncId) (hc : ∀ (args : Array Value) (w : World), (callFunc c args).run Try.prog w = .ok (.enter c args) w) (hcl : ∀ x, x ∈ xs → ∀ y vf vk vf2 vk2, Spec Try.prog c #[.agg (bc x vf vk).toArray, .agg (bc y vf2 vk2).toArray] [CL x.face vf, TL x.kids vk, CL y.face vf2, TL y.kids vk2] [] (fun _ : Unit => .bool (decide (x = y))) (fun _ => []) (fun _ => [])) : Spec Try.prog 50 #[sl a xs.length, sl b ys.length, .func (.func c) #[] #[]] [BL xs a, BL ys b] [] (fun _ : Unit => .bool (decide (xs = ys))) (fun _ => []) (fun _ => []) := by
  refine spec_go (args := [sl a xs.length, sl b ys.length, .func (.func c) #[] #[]]) Try.func50 Try.ntmps50 rfl (by exact Nat.le_of_ble_eq_true rfl) fun B hB => ?_
  refine go_openBL (bs := xs) (a := a) (fun VF1 VK1 hl1 hA1 => ?_)
  refine go_openBL (bs := ys) (a := b) (fun VF2 VK2 hl2 hA2 => ?_)
  refine go_seq ?_
  refine go_region ⟨_, Try.func50⟩ rfl ?_
  refine q0 rfl (o_assign ?_)
  refine rg_nil ?_
  refine go_seq ?_
  refine go_seq ?_
  refine go_region ⟨_, Try.func50⟩ rfl ?_
  refine q0 rfl (o_move ?_)
  refine q0 rfl (o_len ?_)
  refine q0 rfl (o_move ?_)
  refine q0 rfl (o_len ?_)
  refine q0 rfl (o_neI ?_)
  refine rg_nil ?_
  refine go_condI (fun h14 => ?_) (fun h14 => ?_)
  · have hne : ¬ xs = ys := fun e => by subst e; simp at h14
    refine go_seq ?_
    refine go_region ⟨_, Try.func50⟩ rfl ?_
    refine q0 rfl (o_assign ?_)
    refine rg_nil ?_
    refine ret1 Try.func50 Try.results50 (by first | ((conv => lhs; whnf); done) | rfl) () (by rw [decide_eq_false hne]) (fun w hs => hs.none)
  · have hlen : xs.length = ys.length := by simp at h14; omega
    refine go_skip ?_
    refine go_seq ?_
    refine go_seq ?_
    refine go_region ⟨_, Try.func50⟩ rfl ?_
    refine q0 rfl (o_move ?_)
    refine q0 rfl (o_len ?_)
    refine q0 rfl (o_move ?_)
    refine rg_nil ?_
    refine go_block ?_
    refine go_loopI (X := Nat) (fun i => i ≤ xs.length ∧ ∀ j, j < i → xs.getD j br0 = ys.getD j br0) (fun i => [(1, sl b ys.length), (2, .func (.func c) #[] #[]), (15, sl a xs.length), (16, .int .i64 (xs.length : Int)), (17, .int .i64 (i : Int))]) (fun i => [BLx xs a VF1 VK1, BLx ys b VF2 VK2]) (fun i => []) (fun i => xs.length - i) (0) (⟨Nat.zero_le _, fun j hj => by omega⟩) (by exact ⟨rfl, rfl, rfl, rfl, rfl, trivial⟩) ?_ ?_
    · exact fun w hs => hs.less (by simp +contextual)
    · intro i base0 ⟨hi, hok⟩ next0
      refine go_seq ?_
      refine go_region ⟨_, Try.func50⟩ rfl ?_
      refine q0 rfl (o_lss ?_)
      refine rg_nil ?_
      refine go_seq ?_
      refine go_condI (fun h18 => ?_) (fun h18 => ?_)
      · have hlt : i < xs.length := by have := of_decide_eq_true h18; omega
        have hlt2 : i < ys.length := by omega
        obtain ⟨bk, o, hav⟩ := hA1 (by omega)
        obtain ⟨bk2, o2, hav2⟩ := hA2 (by omega)
        refine go_branch (bs := xs) (a := a) (VF := VF1) (VK := VK1) i hlt ?_
        refine go_branch (bs := ys) (a := b) (VF := VF2) (VK := VK2) i hlt2 ?_
        refine go_skip ?_
        refine go_seq ?_
        refine go_block ?_
        refine go_seq ?_
        refine go_region ⟨_, Try.func50⟩ rfl ?_
        refine q0 rfl (o_move ?_)
        refine q0 rfl (o_ixN ?_)
        refine q0 rfl (o_ldB ?_)
        refine q0 rfl (o_new fun b8 => ?_)
        refine q0 rfl (o_assign ?_)
        refine q0 rfl (o_st ?_)
        refine rg_nil ?_
        refine go_seq ?_
        refine go_region ⟨_, Try.func50⟩ rfl ?_
        refine q0 rfl (o_move ?_)
        refine q0 rfl (o_move ?_)
        refine q0 rfl (o_ixN ?_)
        refine q0 rfl (o_ldB ?_)
        refine q0 rfl (o_new fun b9 => ?_)
        refine q0 rfl (o_st ?_)
        refine rg_nil ?_
        refine go_seq ?_
        refine go_region ⟨_, Try.func50⟩ rfl ?_
        refine q0 rfl (o_move ?_)
        refine q0 rfl (o_lds ?_)
        refine q0 rfl (o_lds ?_)
        refine q0 rfl (o_callC hc (hcl _ (getD_mem hlt) (ys.getD i br0) (VF1 i) (VK1 i) (VF2 i) (VK2 i)) (cap := []) (fun x29 => ?_))
        refine q0 rfl (o_not ?_)
        refine rg_nil ?_
        refine go_condI (fun h30 => ?_) (fun h30 => ?_)
        · refine go_seq ?_
          refine go_region ⟨_, Try.func50⟩ rfl ?_
          refine q0 rfl (o_assign ?_)
          refine rg_nil ?_
          refine ret1 Try.func50 Try.results50 (by first | ((conv => lhs; whnf); done) | rfl) () (by rw [decide_eq_false (fun e => by subst e; simp at h30)]) (fun w hs => hs.none)
        · refine go_skip ?_
          refine go_inBlock ?_
          refine go_region ⟨_, Try.func50⟩ rfl ?_
          refine q0 rfl (o_add ?_)
          refine q0 rfl (o_move ?_)
          refine rg_nil ?_
          have hb : xs.getD i br0 = ys.getD i br0 := by simpa using h30
          refine go_state (fun w hs => ?_) (next0 (i + 1) _ ⟨hlt, fun j hj => (by rcases Nat.lt_succ_iff_lt_or_eq.mp hj with h | h; exact hok j h; subst h; exact hb)⟩ (by omega) ⟨rfl, rfl, rfl, rfl, rfl, trivial⟩)
          exact (hs.less (by simp +contextual)).bare
      · have hge : i = xs.length := by have := of_decide_eq_false h18; omega
        refine go_exit rfl ?_
        refine go_seq ?_
        refine go_region ⟨_, Try.func50⟩ rfl ?_
        refine q0 rfl (o_assign ?_)
        refine rg_nil ?_
        refine ret1 Try.func50 Try.results50 (by first | ((conv => lhs; whnf); done) | rfl) () (by rw [decide_eq_true (list_eq_of hlen (by rw [← hge]; exact hok))]) (fun w hs => hs.none)

abbrev SameAt (a : T) : Prop := ∀ (b : T) vr vk vs vr2 vk2 vs2, Spec Try.prog 25 #[.agg (tc a vr vk vs).toArray, .agg (tc b vr2 vk2 vs2).toArray] [RT a vr vk vs, RT b vr2 vk2 vs2] [] (fun _ : Unit => .bool (decide (a = b))) (fun _ => []) (fun _ => [])

theorem same1_walk (x y : Br) (ih : ∀ k, k ∈ x.kids → SameAt k) (vf vk vf2 vk2 : SH) : Spec Try.prog 51 #[.agg (bc x vf vk).toArray, .agg (bc y vf2 vk2).toArray] [CL x.face vf, TL x.kids vk, CL y.face vf2, TL y.kids vk2] [] (fun _ : Unit => .bool (decide (x = y))) (fun _ => []) (fun _ => []) := by
  refine spec_go (args := [.agg (bc x vf vk).toArray, .agg (bc y vf2 vk2).toArray]) Try.func51 Try.ntmps51 rfl (by exact Nat.le_of_ble_eq_true rfl) fun B hB => ?_
  refine go_seq ?_
  refine go_region ⟨_, Try.func51⟩ rfl ?_
  refine q0 rfl (o_box fun b2 => ?_)
  refine q0 rfl (o_box fun b3 => ?_)
  refine q0 rfl (o_assign ?_)
  refine rg_nil ?_
  refine go_seq ?_
  refine go_region ⟨_, Try.func51⟩ rfl ?_
  refine q0 rfl (o_fa ?_)
  refine q0 rfl (o_ld ?_)
  refine q0 rfl (o_fa ?_)
  refine q0 rfl (o_ld ?_)
  refine q0 rfl (o_call Try.call48 (equal_spec x.face y.face vf vf2) (fun x9 => ?_))
  refine q0 rfl (o_move ?_)
  refine qI rfl rfl rfl (by conv => lhs; whnf) (fun hg10 => o_fa ?_) (fun hg10 => ?_)
  · refine qT rfl rfl rfl (o_ld ?_)
    refine qT rfl rfl rfl (o_fa ?_)
    refine qT rfl rfl rfl (o_ld ?_)
    refine qT rfl rfl rfl (o_call Try.call49 (equalT_spec x.kids y.kids vk vk2 25 Try.call25 (fun k hk => ih k hk)) (fun x15 => ?_))
    refine q0 rfl (o_pickT ?_)
    refine q0 rfl (o_assign ?_)
    refine rg_nil ?_
    refine ret1 Try.func51 Try.results51 (by first | ((conv => lhs; whnf); done) | rfl) () (by rw [← same_decB]; simp_all) (fun w hs => hs.none)
  · refine qF rfl rfl rfl ?_
    refine qF rfl rfl rfl ?_
    refine qF rfl rfl rfl ?_
    refine qF rfl rfl rfl ?_
    refine q0 rfl (o_pickF ?_)
    refine q0 rfl (o_assign ?_)
    refine rg_nil ?_
    refine ret1 Try.func51 Try.results51 (by first | ((conv => lhs; whnf); done) | rfl) () (by rw [← same_decB]; simp_all) (fun w hs => hs.none)

theorem same_walk (a : T) (ih : ∀ p, p ∈ parts a → SameAt p.1) (b : T) (vr vk vs vr2 vk2 vs2 : SH) : Spec Try.prog 25 #[.agg (tc a vr vk vs).toArray, .agg (tc b vr2 vk2 vs2).toArray] [RT a vr vk vs, RT b vr2 vk2 vs2] [] (fun _ : Unit => .bool (decide (a = b))) (fun _ => []) (fun _ => []) := by
  refine spec_go (args := [.agg (tc a vr vk vs).toArray, .agg (tc b vr2 vk2 vs2).toArray]) Try.func25 Try.ntmps25 rfl (by exact Nat.le_of_ble_eq_true rfl) fun B hB => ?_
  refine go_open (t := a) (vr := vr) (vk := vk) (vs := vs) (fun _ _ _ => ?_)
  refine go_open (t := b) (vr := vr2) (vk := vk2) (vs := vs2) (fun _ _ _ => ?_)
  refine go_seq ?_
  refine go_region ⟨_, Try.func25⟩ rfl ?_
  refine q0 rfl (o_box fun b2 => ?_)
  refine q0 rfl (o_box fun b3 => ?_)
  refine q0 rfl (o_assign ?_)
  refine rg_nil ?_
  refine go_seq ?_
  refine go_region ⟨_, Try.func25⟩ rfl ?_
  refine q0 rfl (o_fa ?_)
  refine q0 rfl (o_ld ?_)
  refine q0 rfl (o_fa ?_)
  refine q0 rfl (o_ld ?_)
  refine q0 rfl (o_eqI ?_)
  refine q0 rfl (o_move ?_)
  refine qI rfl rfl rfl (by conv => lhs; whnf) (fun hg10 => o_fa ?_) (fun hg10 => ?_)
  · refine qT rfl rfl rfl (o_ld ?_)
    refine qT rfl rfl rfl (o_fa ?_)
    refine qT rfl rfl rfl (o_ld ?_)
    refine qT rfl rfl rfl (o_eqI ?_)
    refine q0 rfl (o_pickT ?_)
    refine q0 rfl (o_move ?_)
    refine qI rfl rfl rfl (by conv => lhs; whnf) (fun hg17 => o_fa ?_) (fun hg17 => ?_)
    · refine qT rfl rfl rfl (o_ld ?_)
      refine qT rfl rfl rfl (o_fa ?_)
      refine qT rfl rfl rfl (o_ld ?_)
      refine qT rfl rfl rfl (o_eqS ?_)
      refine q0 rfl (o_pickT ?_)
      refine q0 rfl (o_move ?_)
      refine qI rfl rfl rfl (by conv => lhs; whnf) (fun hg24 => o_fa ?_) (fun hg24 => ?_)
      · refine qT rfl rfl rfl (o_ld ?_)
        refine qT rfl rfl rfl (o_fa ?_)
        refine qT rfl rfl rfl (o_ld ?_)
        refine qT rfl rfl rfl (o_call Try.call48 (equal_spec a.r b.r vr vr2) (fun x29 => ?_))
        refine q0 rfl (o_pickT ?_)
        refine q0 rfl (o_move ?_)
        refine qI rfl rfl rfl (by conv => lhs; whnf) (fun hg31 => o_fa ?_) (fun hg31 => ?_)
        · refine qT rfl rfl rfl (o_ld ?_)
          refine qT rfl rfl rfl (o_fa ?_)
          refine qT rfl rfl rfl (o_ld ?_)
          refine qT rfl rfl rfl (o_call Try.call49 (equalT_spec a.kids b.kids vk vk2 25 Try.call25 (fun k hk => (by obtain ⟨p, hp, e⟩ := kid_mem_parts hk; exact e ▸ ih p hp))) (fun x36 => ?_))
          refine q0 rfl (o_pickT ?_)
          refine q0 rfl (o_move ?_)
          refine qI rfl rfl rfl (by conv => lhs; whnf) (fun hg38 => o_fa ?_) (fun hg38 => ?_)
          · refine qT rfl rfl rfl (o_ld ?_)
            refine qT rfl rfl rfl (o_fa ?_)
            refine qT rfl rfl rfl (o_ld ?_)
            refine qT rfl rfl rfl (o_call Try.call50 (equalB_spec a.sys b.sys vs vs2 51 Try.call51 (fun x hx y vf vk vf2 vk2 => same1_walk x y (fun k hk => (by obtain ⟨p, hp, e⟩ := sys_mem_parts hx hk; exact e ▸ ih p hp)) vf vk vf2 vk2)) (fun x43 => ?_))
            refine q0 rfl (o_pickT ?_)
            refine q0 rfl (o_assign ?_)
            refine rg_nil ?_
            refine ret1 Try.func25 Try.results25 (by first | ((conv => lhs; whnf); done) | rfl) () (by rw [← same_dec]; simp_all) (fun w hs => hs.none)
          · refine qF rfl rfl rfl ?_
            refine qF rfl rfl rfl ?_
            refine qF rfl rfl rfl ?_
            refine qF rfl rfl rfl ?_
            refine q0 rfl (o_pickF ?_)
            refine q0 rfl (o_assign ?_)
            refine rg_nil ?_
            refine ret1 Try.func25 Try.results25 (by first | ((conv => lhs; whnf); done) | rfl) () (by rw [← same_dec]; simp_all) (fun w hs => hs.none)
        · refine qF rfl rfl rfl ?_
          refine qF rfl rfl rfl ?_
          refine qF rfl rfl rfl ?_
          refine qF rfl rfl rfl ?_
          refine q0 rfl (o_pickF ?_)
          refine q0 rfl (o_move ?_)
          refine qF rfl rfl rfl ?_
          refine qF rfl rfl rfl ?_
          refine qF rfl rfl rfl ?_
          refine qF rfl rfl rfl ?_
          refine qF rfl rfl rfl ?_
          refine q0 rfl (o_pickF ?_)
          refine q0 rfl (o_assign ?_)
          refine rg_nil ?_
          refine ret1 Try.func25 Try.results25 (by first | ((conv => lhs; whnf); done) | rfl) () (by rw [← same_dec]; simp_all) (fun w hs => hs.none)
      · refine qF rfl rfl rfl ?_
        refine qF rfl rfl rfl ?_
        refine qF rfl rfl rfl ?_
        refine qF rfl rfl rfl ?_
        refine q0 rfl (o_pickF ?_)
        refine q0 rfl (o_move ?_)
        refine qF rfl rfl rfl ?_
        refine qF rfl rfl rfl ?_
        refine qF rfl rfl rfl ?_
        refine qF rfl rfl rfl ?_
        refine qF rfl rfl rfl ?_
        refine q0 rfl (o_pickF ?_)
        refine q0 rfl (o_move ?_)
        refine qF rfl rfl rfl ?_
        refine qF rfl rfl rfl ?_
        refine qF rfl rfl rfl ?_
        refine qF rfl rfl rfl ?_
        refine qF rfl rfl rfl ?_
        refine q0 rfl (o_pickF ?_)
        refine q0 rfl (o_assign ?_)
        refine rg_nil ?_
        refine ret1 Try.func25 Try.results25 (by first | ((conv => lhs; whnf); done) | rfl) () (by rw [← same_dec]; simp_all) (fun w hs => hs.none)
    · refine qF rfl rfl rfl ?_
      refine qF rfl rfl rfl ?_
      refine qF rfl rfl rfl ?_
      refine qF rfl rfl rfl ?_
      refine q0 rfl (o_pickF ?_)
      refine q0 rfl (o_move ?_)
      refine qF rfl rfl rfl ?_
      refine qF rfl rfl rfl ?_
      refine qF rfl rfl rfl ?_
      refine qF rfl rfl rfl ?_
      refine qF rfl rfl rfl ?_
      refine q0 rfl (o_pickF ?_)
      refine q0 rfl (o_move ?_)
      refine qF rfl rfl rfl ?_
      refine qF rfl rfl rfl ?_
      refine qF rfl rfl rfl ?_
      refine qF rfl rfl rfl ?_
      refine qF rfl rfl rfl ?_
      refine q0 rfl (o_pickF ?_)
      refine q0 rfl (o_move ?_)
      refine qF rfl rfl rfl ?_
      refine qF rfl rfl rfl ?_
      refine qF rfl rfl rfl ?_
      refine qF rfl rfl rfl ?_
      refine qF rfl rfl rfl ?_
      refine q0 rfl (o_pickF ?_)
      refine q0 rfl (o_assign ?_)
      refine rg_nil ?_
      refine ret1 Try.func25 Try.results25 (by first | ((conv => lhs; whnf); done) | rfl) () (by rw [← same_dec]; simp_all) (fun w hs => hs.none)
  · refine qF rfl rfl rfl ?_
    refine qF rfl rfl rfl ?_
    refine qF rfl rfl rfl ?_
    refine qF rfl rfl rfl ?_
    refine q0 rfl (o_pickF ?_)
    refine q0 rfl (o_move ?_)
    refine qF rfl rfl rfl ?_
    refine qF rfl rfl rfl ?_
    refine qF rfl rfl rfl ?_
    refine qF rfl rfl rfl ?_
    refine qF rfl rfl rfl ?_
    refine q0 rfl (o_pickF ?_)
    refine q0 rfl (o_move ?_)
    refine qF rfl rfl rfl ?_
    refine qF rfl rfl rfl ?_
    refine qF rfl rfl rfl ?_
    refine qF rfl rfl rfl ?_
    refine qF rfl rfl rfl ?_
    refine q0 rfl (o_pickF ?_)
    refine q0 rfl (o_move ?_)
    refine qF rfl rfl rfl ?_
    refine qF rfl rfl rfl ?_
    refine qF rfl rfl rfl ?_
    refine qF rfl rfl rfl ?_
    refine qF rfl rfl rfl ?_
    refine q0 rfl (o_pickF ?_)
    refine q0 rfl (o_move ?_)
    refine qF rfl rfl rfl ?_
    refine qF rfl rfl rfl ?_
    refine qF rfl rfl rfl ?_
    refine qF rfl rfl rfl ?_
    refine qF rfl rfl rfl ?_
    refine q0 rfl (o_pickF ?_)
    refine q0 rfl (o_assign ?_)
    refine rg_nil ?_
    refine ret1 Try.func25 Try.results25 (by first | ((conv => lhs; whnf); done) | rfl) () (by rw [← same_dec]; simp_all) (fun w hs => hs.none)

theorem same_spec : ∀ a : T, SameAt a := T.ind fun a ih b vr vk vs vr2 vk2 vs2 => same_walk a ih b vr vk vs vr2 vk2 vs2

abbrev UsesAt (t : T) : Prop := ∀ (n : Int) vr vk vs, in64 n → Spec Try.prog 32 #[.agg (tc t vr vk vs).toArray, .int .i64 n] [RT t vr vk vs] [] (fun _ : Unit => .bool (uses t n)) (fun _ => []) (fun _ => [])

theorem uses1_walk (k : T) (vr vk vs : SH) (b : Nat) (n v d : Int) (ih : UsesAt k) : Spec Try.prog 58 #[.agg (tc k vr vk vs).toArray, .int .i64 v, .int .i64 d, .pointer (some ⟨b, 0, none⟩)] [RT k vr vk vs] [boxR b [.int .i64 n] 3] (fun _ : Unit => .bool (decide (n < 0) || !(uses k (IntKind.i64.wrap (n + v))))) (fun _ => []) (fun _ => [boxR b [.int .i64 n] 3]) := by
  refine spec_go (args := [.agg (tc k vr vk vs).toArray, .int .i64 v, .int .i64 d, .pointer (some ⟨b, 0, none⟩)]) Try.func58 Try.ntmps58 rfl (by exact Nat.le_of_ble_eq_true rfl) fun B hB => ?_
  refine go_seq ?_
  refine go_region ⟨_, Try.func58⟩ rfl ?_
  refine q0 rfl (o_box fun b4 => ?_)
  refine q0 rfl (o_assign ?_)
  refine rg_nil ?_
  refine go_seq ?_
  refine go_region ⟨_, Try.func58⟩ rfl ?_
  refine q0 rfl (o_ld ?_)
  refine q0 rfl (o_lss ?_)
  refine q0 rfl (o_move ?_)
  refine qI rfl rfl rfl (by conv => lhs; whnf) (fun hg10 => o_lds ?_) (fun hg10 => ?_)
  · refine qT rfl rfl rfl (o_ld ?_)
    refine qT rfl rfl rfl (o_move ?_)
    refine qT rfl rfl rfl (o_addW ?_)
    refine qT rfl rfl rfl (o_call Try.call32 (ih (IntKind.i64.wrap (n + v)) vr vk vs (wrap_in _)) (fun x15 => ?_))
    refine qT rfl rfl rfl (o_not ?_)
    refine q0 rfl (o_pickF ?_)
    refine q0 rfl (o_assign ?_)
    refine rg_nil ?_
    refine ret1 Try.func58 Try.results58 (by first | ((conv => lhs; whnf); done) | rfl) () (by first | (simp_all; done) | (simp_all; intros; omega)) (fun w hs => (hs.less (by simp)).drop)
  · refine qF rfl rfl rfl ?_
    refine qF rfl rfl rfl ?_
    refine qF rfl rfl rfl ?_
    refine qF rfl rfl rfl ?_
    refine qF rfl rfl rfl ?_
    refine q0 rfl (o_pickT ?_)
    refine q0 rfl (o_assign ?_)
    refine rg_nil ?_
    refine ret1 Try.func58 Try.results58 (by first | ((conv => lhs; whnf); done) | rfl) () (by first | (simp_all; done) | (simp_all; intros; omega)) (fun w hs => (hs.less (by simp)).drop)

theorem uses_walk (t : T) (ih : ∀ p, p ∈ parts t → UsesAt p.1) (n : Int) (vr vk vs : SH) (hl : in64 n) : Spec Try.prog 32 #[.agg (tc t vr vk vs).toArray, .int .i64 n] [RT t vr vk vs] [] (fun _ : Unit => .bool (uses t n)) (fun _ => []) (fun _ => []) := by
  refine spec_go (args := [.agg (tc t vr vk vs).toArray, .int .i64 n]) Try.func32 Try.ntmps32 rfl (by exact Nat.le_of_ble_eq_true rfl) fun B hB => ?_
  refine go_seq ?_
  refine go_region ⟨_, Try.func32⟩ rfl ?_
  refine q0 rfl (o_box fun b2 => ?_)
  refine q0 rfl (o_box fun b3 => ?_)
  refine q0 rfl (o_assign ?_)
  refine rg_nil ?_
  refine go_seq ?_
  refine go_seq ?_
  refine go_cutS ([(2, .pointer (some ⟨b2, 0, none⟩)), (3, .pointer (some ⟨b3, 0, none⟩)), (13, .bool (decide (t.kind = 1) && decide (t.n = n)))]) (fun hK => ?_) (fun base => ?_)
  · refine go_region ⟨_, Try.func32⟩ rfl ?_
    refine q0 rfl (o_fa ?_)
    refine q0 rfl (o_ld ?_)
    refine q0 rfl (o_eqI ?_)
    refine q0 rfl (o_move ?_)
    refine qI rfl rfl rfl (by conv => lhs; whnf) (fun hg8 => o_fa ?_) (fun hg8 => ?_)
    · refine qT rfl rfl rfl (o_ld ?_)
      refine qT rfl rfl rfl (o_ld ?_)
      refine qT rfl rfl rfl (o_eqI ?_)
      refine q0 rfl (o_pickT ?_)
      refine rg_nil ?_
      exact hK _ ⟨rfl, rfl, (by (conv => lhs; whnf); first | (simp_all [Bool.and_assoc]; done) | (simp_all [Bool.and_assoc]; omega)), trivial⟩
    · refine qF rfl rfl rfl ?_
      refine qF rfl rfl rfl ?_
      refine qF rfl rfl rfl ?_
      refine q0 rfl (o_pickF ?_)
      refine rg_nil ?_
      exact hK _ ⟨rfl, rfl, (by (conv => lhs; whnf); first | (simp_all [Bool.and_assoc]; done) | (simp_all [Bool.and_assoc]; omega)), trivial⟩
  · refine go_condI (fun h13 => ?_) (fun h13 => ?_)
    · have hb : t.kind = 1 ∧ t.n = n := by simpa using h13
      refine go_seq ?_
      refine go_region ⟨_, Try.func32⟩ rfl ?_
      refine q0 rfl (o_ld ?_)
      refine q0 rfl (o_geq ?_)
      refine q0 rfl (o_assign ?_)
      refine rg_nil ?_
      refine ret1 Try.func32 Try.results32 (by first | ((conv => lhs; whnf); done) | rfl) () (by rw [uses_eq, if_pos hb]) (fun w hs => hs.none)
    · have hb : ¬ (t.kind = 1 ∧ t.n = n) := by simpa using h13
      refine go_skip ?_
      refine go_seq ?_
      refine go_region ⟨_, Try.func32⟩ rfl ?_
      refine q0 rfl (o_lds ?_)
      refine q0 rfl (o_func ?_)
      have hE := each_bool t vr vk vs 58 [.pointer (some ⟨b3, 0, none⟩)] [] [boxR b3 [.int .i64 n] 3] (fun p => decide (n < 0) || !(uses p.1 (IntKind.i64.wrap (n + p.2.1)))) Try.call58 (fun k v d hm vr vk vs => uses1_walk k vr vk vs b3 n v d (ih _ hm))
      refine q0 rfl (o_call Try.call45 (hE) (fun x18 => ?_))
      refine q0 rfl (o_not ?_)
      refine q0 rfl (o_assign ?_)
      refine rg_nil ?_
      refine ret1 Try.func32 Try.results32 (by first | ((conv => lhs; whnf); done) | rfl) () (by rw [uses_eq, if_neg hb]) (fun w hs => hs.none)

theorem uses_spec : ∀ t : T, UsesAt t := T.ind fun t ih n vr vk vs hl => uses_walk t ih n vr vk vs hl

end Go.Hy
