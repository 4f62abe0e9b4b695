/- Contracts of functions of this program, one theorem each (printed by a program of this repository). -/
import Derived.Test.YtcofpfnnlageaaaHyAuto
import Derived.Test.YtcofpfnnlageaaaHyTab
import Derived.Test.YtcofpfnnlageaaaHyClause
import Derived.Test.YtcofpfnnlageaaaS12
import Derived.Test.YtcofpfnnlageaaaS13
namespace Go.Hy
set_option linter.unusedVariables false
set_option linter.unusedSimpArgs false
set_option linter.unusedSectionVars false
open Go.Proofs
set_option linter.unusedVariables false
set_option linter.unusedSimpArgs false
set_option maxRecDepth 100000
theorem permNil {M : List Res} : M.Perm (M ++ []) := by rw [List.append_nil]

theorem index_spec (l : List Cl) (a : SH) (c : FuncId) (cap : List Value) (FΓ : List Fact) (M : List Res) (g : Cl → Bool) (hc : ∀ (args : Array Value) (w : World), (callFunc c args).run Try.prog w = .ok (.enter c args) w) (hcl : ∀ x, x ∈ l → Spec Try.prog c (keyV x :: cap).toArray FΓ M (fun _ : Unit => .bool (g x)) (fun _ => []) (fun _ => M)) : Spec Try.prog 107 #[sl a l.length, .func (.func c) #[] cap.toArray] (CL l a :: FΓ) M (fun _ : Unit => .int .i64 (idxP g l)) (fun _ => []) (fun _ => M) := by
  refine spec_go (args := [sl a l.length, .func (.func c) #[] cap.toArray]) Try.func107 Try.ntmps107 rfl (by exact Nat.le_of_ble_eq_true rfl) fun B hB => ?_
  refine go_openCL (l := l) (a := a) (fun hl1 hA1 hU1 => ?_)
  refine go_seq ?_
  refine go_region ⟨_, Try.func107⟩ rfl ?_
  refine q0 rfl (o_assign ?_)
  refine rg_nil ?_
  refine go_seq ?_
  refine go_seq ?_
  refine go_region ⟨_, Try.func107⟩ rfl ?_
  refine q0 rfl (o_move ?_)
  refine q0 rfl (o_len ?_)
  refine q0 rfl (o_move ?_)
  refine rg_nil ?_
  refine go_block ?_
  refine go_loopI (X := Nat) (fun i => i ≤ l.length ∧ ∀ j, j < i → g (l.getD j cl0) = false) (fun i => [(0, sl a l.length), (1, .func (.func c) #[] cap.toArray), (7, .int .i64 (l.length : Int)), (8, .int .i64 (i : Int))]) (fun i => CL l a :: FΓ) (fun i => M) (fun i => l.length - i) (0) (⟨Nat.zero_le _, fun j hj => by omega⟩) (by exact ⟨rfl, rfl, rfl, rfl, trivial⟩) ?_ ?_
  · exact fun w hs => hs
  · intro i base0 ⟨hi, hok⟩ next0
    refine go_seq ?_
    refine go_region ⟨_, Try.func107⟩ rfl ?_
    refine q0 rfl (o_lss ?_)
    refine rg_nil ?_
    refine go_seq ?_
    refine go_condI (fun h9 => ?_) (fun h9 => ?_)
    · have hlt : i < l.length := by have := of_decide_eq_true h9; omega
      obtain ⟨bk, o, hav⟩ := hA1 (by omega)
      refine go_skip ?_
      refine go_seq ?_
      refine go_block ?_
      refine go_seq ?_
      refine go_region ⟨_, Try.func107⟩ rfl ?_
      refine q0 rfl (o_move ?_)
      refine q0 rfl (o_assign ?_)
      refine rg_nil ?_
      refine go_seq ?_
      refine go_region ⟨_, Try.func107⟩ rfl ?_
      refine q0 rfl (o_move ?_)
      refine q0 rfl (o_move ?_)
      refine q0 rfl (o_move ?_)
      refine q0 rfl (o_ixN ?_)
      refine q0 rfl (o_ldC ?_)
      refine q0 rfl (o_callC hc (hcl _ (getD_mem hlt)) (cap := cap) (fun x16 => ?_) (hm := permNil))
      refine rg_nil ?_
      refine go_condI (fun h16 => ?_) (fun h16 => ?_)
      · refine go_seq ?_
        refine go_region ⟨_, Try.func107⟩ rfl ?_
        refine q0 rfl (o_move ?_)
        refine q0 rfl (o_assign ?_)
        refine rg_nil ?_
        refine ret1 Try.func107 Try.results107 (by first | ((conv => lhs; whnf); done) | rfl) () (by rw [idxP_at hlt h16 hok]) (fun w hs => (hs.less (by simp)).dropR)
      · refine go_skip ?_
        refine go_inBlock ?_
        refine go_region ⟨_, Try.func107⟩ rfl ?_
        refine q0 rfl (o_add ?_)
        refine q0 rfl (o_move ?_)
        refine rg_nil ?_
        refine go_state (fun w hs => ?_) (next0 (i + 1) _ ⟨hlt, fun j hj => (by rcases Nat.lt_succ_iff_lt_or_eq.mp hj with h | h; exact hok j h; subst h; exact h16)⟩ (by omega) ⟨rfl, rfl, rfl, rfl, trivial⟩)
        exact (hs.less (by simp +contextual)).dropR
    · have hge : i = l.length := by have := of_decide_eq_false h9; omega
      refine go_exit rfl ?_
      refine go_seq ?_
      refine go_region ⟨_, Try.func107⟩ rfl ?_
      refine q0 rfl (o_assign ?_)
      refine rg_nil ?_
      refine ret1 Try.func107 Try.results107 (by first | ((conv => lhs; whnf); done) | rfl) () (by rw [idxP_none (by rw [← hge]; exact hok)]) (fun w hs => hs.less (by simp))

theorem contains_spec (l : List Cl) (a : SH) (c : FuncId) (cap : List Value) (FΓ : List Fact) (M : List Res) (g : Cl → Bool) (hc : ∀ (args : Array Value) (w : World), (callFunc c args).run Try.prog w = .ok (.enter c args) w) (hcl : ∀ x, x ∈ l → Spec Try.prog c (keyV x :: cap).toArray FΓ M (fun _ : Unit => .bool (g x)) (fun _ => []) (fun _ => M)) : Spec Try.prog 94 #[sl a l.length, .func (.func c) #[] cap.toArray] (CL l a :: FΓ) M (fun _ : Unit => .bool (l.any g)) (fun _ => []) (fun _ => M) := by
  refine spec_go (args := [sl a l.length, .func (.func c) #[] cap.toArray]) Try.func94 Try.ntmps94 rfl (by exact Nat.le_of_ble_eq_true rfl) fun B hB => ?_
  refine go_seq ?_
  refine go_region ⟨_, Try.func94⟩ rfl ?_
  refine q0 rfl (o_assign ?_)
  refine rg_nil ?_
  refine go_seq ?_
  refine go_region ⟨_, Try.func94⟩ rfl ?_
  refine q0 rfl (o_move ?_)
  refine q0 rfl (o_move ?_)
  refine q0 rfl (o_call Try.call107 (index_spec l a c cap FΓ M g hc hcl) (fun x7 => ?_) (hm := permNil))
  refine q0 rfl (o_geq ?_)
  refine q0 rfl (o_assign ?_)
  refine rg_nil ?_
  refine ret1 Try.func94 Try.results94 (by first | ((conv => lhs; whnf); done) | rfl) () (by rw [idxP_nonneg]) (fun w hs => (hs.less (by simp)).dropR)

theorem least11_spec (c d : Cl) (hc : u32 c) (hd : u32 d) (b : Nat) : Spec Try.prog 103 #[keyV d, .pointer (some ⟨b, 0, none⟩)] [] [boxR b (clCells c) 72] (fun _ : Unit => .bool (!decide (c = d) && below c d)) (fun _ => []) (fun _ => [boxR b (clCells c) 72]) := by
  refine spec_go (args := [keyV d, .pointer (some ⟨b, 0, none⟩)]) Try.func103 Try.ntmps103 rfl (by exact Nat.le_of_ble_eq_true rfl) fun B hB => ?_
  refine go_seq ?_
  refine go_region ⟨_, Try.func103⟩ rfl ?_
  refine q0 rfl (o_box fun b2 => ?_)
  refine q0 rfl (o_assign ?_)
  refine rg_nil ?_
  refine go_seq ?_
  refine go_region ⟨_, Try.func103⟩ rfl ?_
  refine q0 rfl (o_lds ?_)
  refine q0 rfl (o_lds ?_)
  refine q0 rfl (o_neC ?_ (c := c) (c' := d))
  refine q0 rfl (o_move ?_)
  refine qI rfl rfl rfl (by conv => lhs; whnf) (fun hg7 => o_lds ?_) (fun hg7 => ?_)
  · refine qT rfl rfl rfl (o_lds ?_)
    refine qT rfl rfl rfl (o_call Try.call104 (below_spec c d hc hd) (fun x10 => ?_))
    refine q0 rfl (o_pickT ?_)
    refine q0 rfl (o_assign ?_)
    refine rg_nil ?_
    refine ret1 Try.func103 Try.results103 (by first | ((conv => lhs; whnf); done) | rfl) () (by simp_all) (fun w hs => (hs.less (by simp)).drop)
  · refine qF rfl rfl rfl ?_
    refine qF rfl rfl rfl ?_
    refine q0 rfl (o_pickF ?_)
    refine q0 rfl (o_assign ?_)
    refine rg_nil ?_
    refine ret1 Try.func103 Try.results103 (by first | ((conv => lhs; whnf); done) | rfl) () (by simp_all) (fun w hs => (hs.less (by simp)).drop)

theorem least1_spec (l : List Cl) (a : SH) (c : Cl) (hc : u32 c) (b : Nat) : Spec Try.prog 102 #[keyV c, .pointer (some ⟨b, 0, none⟩)] [CL l a] [boxR b [sl a l.length] 27] (fun _ : Unit => .bool (needless l c)) (fun _ => []) (fun _ => [boxR b [sl a l.length] 27]) := by
  refine spec_go (args := [keyV c, .pointer (some ⟨b, 0, none⟩)]) Try.func102 Try.ntmps102 rfl (by exact Nat.le_of_ble_eq_true rfl) fun B hB => ?_
  refine go_openCL (l := l) (a := a) (fun hl1 hA1 hU1 => ?_)
  refine go_seq ?_
  refine go_region ⟨_, Try.func102⟩ rfl ?_
  refine q0 rfl (o_box fun b2 => ?_)
  refine q0 rfl (o_assign ?_)
  refine rg_nil ?_
  refine go_seq ?_
  refine go_region ⟨_, Try.func102⟩ rfl ?_
  refine q0 rfl (o_ld ?_)
  refine q0 rfl (o_func ?_)
  refine q0 rfl (o_call Try.call94 (contains_spec l a 103 [.pointer (some ⟨b2, 0, none⟩)] [] [boxR b2 (clCells c) 72] (fun d => !decide (c = d) && below c d) Try.call103 (fun d hd => least11_spec c d hc (hU1 d hd) b2)) (fun x6 => ?_))
  refine q0 rfl (o_assign ?_)
  refine rg_nil ?_
  refine ret1 Try.func102 Try.results102 (by first | ((conv => lhs; whnf); done) | rfl) () rfl (fun w hs => (hs.less (by simp)).drop)

end Go.Hy
