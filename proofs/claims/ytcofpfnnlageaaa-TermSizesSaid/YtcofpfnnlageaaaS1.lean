/- Contracts of functions of this program, one theorem each (printed by a program of this repository). -/
import Derived.Test.YtcofpfnnlageaaaHyAuto
import Derived.Test.YtcofpfnnlageaaaHyTab
import Derived.Test.YtcofpfnnlageaaaHyPure
namespace Go.Hy
set_option linter.unusedVariables false
set_option linter.unusedSimpArgs false
set_option linter.unusedSectionVars false
open Go.Proofs
set_option linter.unusedVariables false
set_option linter.unusedSimpArgs false
set_option maxRecDepth 100000
/-- What a kid binds. -/

theorem binds_spec (k i : Int) : Spec Try.prog 11 #[.int .i64 k, .int .i64 i] [] [] (fun _ : Unit => .tuple #[.int .i64 (binds k i).1, .int .i64 (binds k i).2]) (fun _ => []) (fun _ => []) := by
  refine spec_go (args := [.int .i64 k, .int .i64 i]) Try.func11 Try.ntmps11 rfl (by exact Nat.le_of_ble_eq_true rfl) fun B hB => ?_
  refine go_seq ?_
  refine go_region ⟨_, Try.func11⟩ rfl ?_
  refine q0 rfl (o_assign ?_)
  refine q0 rfl (o_assign ?_)
  refine rg_nil ?_
  refine go_seq ?_
  refine go_seq ?_
  refine go_region ⟨_, Try.func11⟩ rfl ?_
  refine q0 rfl (o_move ?_)
  refine rg_nil ?_
  refine go_block ?_
  refine go_seq ?_
  refine go_block ?_
  refine go_seq ?_
  refine go_block ?_
  refine go_block ?_
  refine go_block ?_
  refine go_seq ?_
  refine go_block ?_
  refine go_seq ?_
  refine go_seq ?_
  refine go_seq ?_
  refine go_seq ?_
  refine go_region ⟨_, Try.func11⟩ rfl ?_
  refine q0 rfl (o_eqI ?_)
  refine q0 rfl (o_assign ?_)
  refine rg_nil ?_
  refine go_condI (fun h7 => ?_) (fun h7 => ?_)
  · refine go_skip ?_
    refine go_condT ?_
    refine go_exit rfl ?_
    refine go_seq ?_
    refine go_seq ?_
    refine go_region ⟨_, Try.func11⟩ rfl ?_
    refine q0 rfl (o_move ?_)
    refine q0 rfl (o_eqI ?_)
    refine rg_nil ?_
    refine go_condI (fun h21 => ?_) (fun h21 => ?_)
    · refine go_seq ?_
      refine go_region ⟨_, Try.func11⟩ rfl ?_
      refine q0 rfl (o_assign ?_)
      refine q0 rfl (o_assign ?_)
      refine rg_nil ?_
      refine ret2 Try.func11 Try.results11 (by first | ((conv => lhs; whnf); done) | rfl) (by first | ((conv => lhs; whnf); done) | rfl) () (by simp_all [binds]) (fun w hs => hs.none)
    · refine go_skip ?_
      refine go_exit rfl ?_
      refine go_seq ?_
      refine go_region ⟨_, Try.func11⟩ rfl ?_
      refine q0 rfl (o_assign ?_)
      refine q0 rfl (o_assign ?_)
      refine rg_nil ?_
      refine ret2 Try.func11 Try.results11 (by first | ((conv => lhs; whnf); done) | rfl) (by first | ((conv => lhs; whnf); done) | rfl) () (by simp_all [binds]) (fun w hs => hs.none)
  · refine go_region ⟨_, Try.func11⟩ rfl ?_
    refine q0 rfl (o_eqI ?_)
    refine q0 rfl (o_assign ?_)
    refine rg_nil ?_
    refine go_condI (fun h7 => ?_) (fun h7 => ?_)
    · refine go_exit rfl ?_
      refine go_seq ?_
      refine go_seq ?_
      refine go_region ⟨_, Try.func11⟩ rfl ?_
      refine q0 rfl (o_move ?_)
      refine q0 rfl (o_eqI ?_)
      refine rg_nil ?_
      refine go_condI (fun h21 => ?_) (fun h21 => ?_)
      · refine go_seq ?_
        refine go_region ⟨_, Try.func11⟩ rfl ?_
        refine q0 rfl (o_assign ?_)
        refine q0 rfl (o_assign ?_)
        refine rg_nil ?_
        refine ret2 Try.func11 Try.results11 (by first | ((conv => lhs; whnf); done) | rfl) (by first | ((conv => lhs; whnf); done) | rfl) () (by simp_all [binds]) (fun w hs => hs.none)
      · refine go_skip ?_
        refine go_exit rfl ?_
        refine go_seq ?_
        refine go_region ⟨_, Try.func11⟩ rfl ?_
        refine q0 rfl (o_assign ?_)
        refine q0 rfl (o_assign ?_)
        refine rg_nil ?_
        refine ret2 Try.func11 Try.results11 (by first | ((conv => lhs; whnf); done) | rfl) (by first | ((conv => lhs; whnf); done) | rfl) () (by simp_all [binds]) (fun w hs => hs.none)
    · refine go_skip ?_
      refine go_seq ?_
      refine go_seq ?_
      refine go_region ⟨_, Try.func11⟩ rfl ?_
      refine q0 rfl (o_eqI ?_)
      refine q0 rfl (o_assign ?_)
      refine rg_nil ?_
      refine go_condI (fun h10 => ?_) (fun h10 => ?_)
      · refine go_exit rfl ?_
        refine go_inBlock ?_
        refine go_inBlock ?_
        refine go_seq ?_
        refine go_seq ?_
        refine go_region ⟨_, Try.func11⟩ rfl ?_
        refine q0 rfl (o_move ?_)
        refine q0 rfl (o_eqI ?_)
        refine rg_nil ?_
        refine go_condI (fun h23 => ?_) (fun h23 => ?_)
        · refine go_seq ?_
          refine go_region ⟨_, Try.func11⟩ rfl ?_
          refine q0 rfl (o_assign ?_)
          refine q0 rfl (o_assign ?_)
          refine rg_nil ?_
          refine ret2 Try.func11 Try.results11 (by first | ((conv => lhs; whnf); done) | rfl) (by first | ((conv => lhs; whnf); done) | rfl) () (by simp_all [binds]) (fun w hs => hs.none)
        · refine go_skip ?_
          refine go_exit rfl ?_
          refine go_seq ?_
          refine go_region ⟨_, Try.func11⟩ rfl ?_
          refine q0 rfl (o_assign ?_)
          refine q0 rfl (o_assign ?_)
          refine rg_nil ?_
          refine ret2 Try.func11 Try.results11 (by first | ((conv => lhs; whnf); done) | rfl) (by first | ((conv => lhs; whnf); done) | rfl) () (by simp_all [binds]) (fun w hs => hs.none)
      · refine go_skip ?_
        refine go_seq ?_
        refine go_seq ?_
        refine go_region ⟨_, Try.func11⟩ rfl ?_
        refine q0 rfl (o_eqI ?_)
        refine q0 rfl (o_assign ?_)
        refine rg_nil ?_
        refine go_condI (fun h12 => ?_) (fun h12 => ?_)
        · refine go_exit rfl ?_
          refine go_inBlock ?_
          refine go_seq ?_
          refine go_seq ?_
          refine go_region ⟨_, Try.func11⟩ rfl ?_
          refine q0 rfl (o_move ?_)
          refine q0 rfl (o_eqI ?_)
          refine rg_nil ?_
          refine go_condI (fun h23 => ?_) (fun h23 => ?_)
          · refine go_seq ?_
            refine go_region ⟨_, Try.func11⟩ rfl ?_
            refine q0 rfl (o_assign ?_)
            refine q0 rfl (o_assign ?_)
            refine rg_nil ?_
            refine ret2 Try.func11 Try.results11 (by first | ((conv => lhs; whnf); done) | rfl) (by first | ((conv => lhs; whnf); done) | rfl) () (by simp_all [binds]) (fun w hs => hs.none)
          · refine go_skip ?_
            refine go_exit rfl ?_
            refine go_seq ?_
            refine go_region ⟨_, Try.func11⟩ rfl ?_
            refine q0 rfl (o_assign ?_)
            refine q0 rfl (o_assign ?_)
            refine rg_nil ?_
            refine ret2 Try.func11 Try.results11 (by first | ((conv => lhs; whnf); done) | rfl) (by first | ((conv => lhs; whnf); done) | rfl) () (by simp_all [binds]) (fun w hs => hs.none)
        · refine go_skip ?_
          refine go_seq ?_
          refine go_seq ?_
          refine go_region ⟨_, Try.func11⟩ rfl ?_
          refine q0 rfl (o_eqI ?_)
          refine q0 rfl (o_assign ?_)
          refine rg_nil ?_
          refine go_condI (fun h14 => ?_) (fun h14 => ?_)
          · refine go_exit rfl ?_
            refine go_seq ?_
            refine go_seq ?_
            refine go_region ⟨_, Try.func11⟩ rfl ?_
            refine q0 rfl (o_move ?_)
            refine q0 rfl (o_eqI ?_)
            refine rg_nil ?_
            refine go_condI (fun h23 => ?_) (fun h23 => ?_)
            · refine go_seq ?_
              refine go_region ⟨_, Try.func11⟩ rfl ?_
              refine q0 rfl (o_assign ?_)
              refine q0 rfl (o_assign ?_)
              refine rg_nil ?_
              refine ret2 Try.func11 Try.results11 (by first | ((conv => lhs; whnf); done) | rfl) (by first | ((conv => lhs; whnf); done) | rfl) () (by simp_all [binds]) (fun w hs => hs.none)
            · refine go_skip ?_
              refine go_exit rfl ?_
              refine go_seq ?_
              refine go_region ⟨_, Try.func11⟩ rfl ?_
              refine q0 rfl (o_assign ?_)
              refine q0 rfl (o_assign ?_)
              refine rg_nil ?_
              refine ret2 Try.func11 Try.results11 (by first | ((conv => lhs; whnf); done) | rfl) (by first | ((conv => lhs; whnf); done) | rfl) () (by simp_all [binds]) (fun w hs => hs.none)
          · refine go_skip ?_
            refine go_seq ?_
            refine go_seq ?_
            refine go_region ⟨_, Try.func11⟩ rfl ?_
            refine q0 rfl (o_eqI ?_)
            refine q0 rfl (o_assign ?_)
            refine rg_nil ?_
            refine go_condI (fun h16 => ?_) (fun h16 => ?_)
            · refine go_skip ?_
              refine go_condT ?_
              refine go_exit rfl ?_
              refine go_seq ?_
              refine go_seq ?_
              refine go_region ⟨_, Try.func11⟩ rfl ?_
              refine q0 rfl (o_move ?_)
              refine q0 rfl (o_eqI ?_)
              refine rg_nil ?_
              refine go_condI (fun h25 => ?_) (fun h25 => ?_)
              · refine go_seq ?_
                refine go_region ⟨_, Try.func11⟩ rfl ?_
                refine q0 rfl (o_assign ?_)
                refine q0 rfl (o_assign ?_)
                refine rg_nil ?_
                refine ret2 Try.func11 Try.results11 (by first | ((conv => lhs; whnf); done) | rfl) (by first | ((conv => lhs; whnf); done) | rfl) () (by simp_all [binds]) (fun w hs => hs.none)
              · refine go_skip ?_
                refine go_exit rfl ?_
                refine go_seq ?_
                refine go_region ⟨_, Try.func11⟩ rfl ?_
                refine q0 rfl (o_assign ?_)
                refine q0 rfl (o_assign ?_)
                refine rg_nil ?_
                refine ret2 Try.func11 Try.results11 (by first | ((conv => lhs; whnf); done) | rfl) (by first | ((conv => lhs; whnf); done) | rfl) () (by simp_all [binds]) (fun w hs => hs.none)
            · refine go_seq ?_
              refine go_region ⟨_, Try.func11⟩ rfl ?_
              refine q0 rfl (o_eqI ?_)
              refine q0 rfl (o_assign ?_)
              refine rg_nil ?_
              refine go_condI (fun h16 => ?_) (fun h16 => ?_)
              · refine go_skip ?_
                refine go_condT ?_
                refine go_exit rfl ?_
                refine go_seq ?_
                refine go_seq ?_
                refine go_region ⟨_, Try.func11⟩ rfl ?_
                refine q0 rfl (o_move ?_)
                refine q0 rfl (o_eqI ?_)
                refine rg_nil ?_
                refine go_condI (fun h25 => ?_) (fun h25 => ?_)
                · refine go_seq ?_
                  refine go_region ⟨_, Try.func11⟩ rfl ?_
                  refine q0 rfl (o_assign ?_)
                  refine q0 rfl (o_assign ?_)
                  refine rg_nil ?_
                  refine ret2 Try.func11 Try.results11 (by first | ((conv => lhs; whnf); done) | rfl) (by first | ((conv => lhs; whnf); done) | rfl) () (by simp_all [binds]) (fun w hs => hs.none)
                · refine go_skip ?_
                  refine go_exit rfl ?_
                  refine go_seq ?_
                  refine go_region ⟨_, Try.func11⟩ rfl ?_
                  refine q0 rfl (o_assign ?_)
                  refine q0 rfl (o_assign ?_)
                  refine rg_nil ?_
                  refine ret2 Try.func11 Try.results11 (by first | ((conv => lhs; whnf); done) | rfl) (by first | ((conv => lhs; whnf); done) | rfl) () (by simp_all [binds]) (fun w hs => hs.none)
              · refine go_region ⟨_, Try.func11⟩ rfl ?_
                refine q0 rfl (o_eqI ?_)
                refine q0 rfl (o_assign ?_)
                refine rg_nil ?_
                refine go_condI (fun h16 => ?_) (fun h16 => ?_)
                · refine go_exit rfl ?_
                  refine go_seq ?_
                  refine go_seq ?_
                  refine go_region ⟨_, Try.func11⟩ rfl ?_
                  refine q0 rfl (o_move ?_)
                  refine q0 rfl (o_eqI ?_)
                  refine rg_nil ?_
                  refine go_condI (fun h25 => ?_) (fun h25 => ?_)
                  · refine go_seq ?_
                    refine go_region ⟨_, Try.func11⟩ rfl ?_
                    refine q0 rfl (o_assign ?_)
                    refine q0 rfl (o_assign ?_)
                    refine rg_nil ?_
                    refine ret2 Try.func11 Try.results11 (by first | ((conv => lhs; whnf); done) | rfl) (by first | ((conv => lhs; whnf); done) | rfl) () (by simp_all [binds]) (fun w hs => hs.none)
                  · refine go_skip ?_
                    refine go_exit rfl ?_
                    refine go_seq ?_
                    refine go_region ⟨_, Try.func11⟩ rfl ?_
                    refine q0 rfl (o_assign ?_)
                    refine q0 rfl (o_assign ?_)
                    refine rg_nil ?_
                    refine ret2 Try.func11 Try.results11 (by first | ((conv => lhs; whnf); done) | rfl) (by first | ((conv => lhs; whnf); done) | rfl) () (by simp_all [binds]) (fun w hs => hs.none)
                · refine go_skip ?_
                  refine go_exit rfl ?_
                  refine go_seq ?_
                  refine go_region ⟨_, Try.func11⟩ rfl ?_
                  refine q0 rfl (o_assign ?_)
                  refine q0 rfl (o_assign ?_)
                  refine rg_nil ?_
                  refine ret2 Try.func11 Try.results11 (by first | ((conv => lhs; whnf); done) | rfl) (by first | ((conv => lhs; whnf); done) | rfl) () (by simp_all [binds]) (fun w hs => hs.none)

theorem each_spec (t : T) (vr vk vs : SH) (c : FuncId) (cap : List Value) (FΓ : List Fact) (SM SF : Nat → List Res) (β : Nat → Bool)
    (hc : ∀ (args : Array Value) (w : World), (callFunc c args).run Try.prog w = .ok (.enter c args) w)
    (hcl : ∀ m k v d, (parts t)[m]? = some (k, v, d) → (∀ j, j < m → β j = true) → ∀ vr vk vs, Spec Try.prog c (.agg (tc k vr vk vs).toArray :: .int .i64 v :: .int .i64 d :: cap).toArray (RT k vr vk vs :: FΓ) (SM m) (fun _ : Unit => .bool (β m)) (fun _ => []) (fun _ => if β m then SM (m + 1) else SF m)) :
    Spec Try.prog 45 #[.agg (tc t vr vk vs).toArray, .func (.func c) #[] cap.toArray] (RT t vr vk vs :: FΓ) (SM 0) (fun _ : Unit => .bool (ff β (parts t).length == (parts t).length)) (fun _ => []) (fun _ => if ff β (parts t).length = (parts t).length then SM (parts t).length else SF (ff β (parts t).length)) := by
  refine spec_go (args := [.agg (tc t vr vk vs).toArray, .func (.func c) #[] cap.toArray]) Try.func45 Try.ntmps45 rfl (by exact Nat.le_of_ble_eq_true rfl) fun B hB => ?_
  refine go_open (fun hk hn hnm => ?_)
  refine go_openTL (ts := t.kids) (fun VR VK VS hl1 hA1 => ?_)
  refine go_openBL (bs := t.sys) (fun VF VK2 hl2 hA2 => ?_)
  have hpl := parts_length t
  refine go_seq ?_
  refine go_region ⟨_, Try.func45⟩ rfl ?_
  refine q0 rfl (o_box fun b2 => ?_)
  refine q0 rfl (o_assign ?_)
  refine rg_nil ?_
  refine go_seq ?_
  refine go_seq ?_
  refine go_region ⟨_, Try.func45⟩ rfl ?_
  refine q0 rfl (o_fa ?_)
  refine q0 rfl (o_ld ?_)
  refine q0 rfl (o_len ?_)
  refine q0 rfl (o_move ?_)
  refine rg_nil ?_
  refine go_block ?_
  refine go_loopI (X := Nat) (fun i => i ≤ t.kids.length ∧ ∀ j, j < i → β j = true) (fun i => [(1, .func (.func c) #[] cap.toArray), (2, .pointer (some ⟨b2, 0, none⟩)), (15, sl vk t.kids.length), (16, .int .i64 (t.kids.length : Int)), (17, .int .i64 (i : Int))]) (fun i => TLx t.kids vk VR VK VS :: BLx t.sys vs VF VK2 :: RT t vr vk vs :: FΓ) (fun i => boxR b2 (tc t vr vk vs) 31 :: SM i) (fun i => t.kids.length - i) (0) (⟨Nat.zero_le _, fun j hj => by omega⟩) (by exact ⟨rfl, rfl, rfl, rfl, rfl, trivial⟩) ?_ ?_
  · exact fun w hs => hs.less (by simp +contextual)
  · intro i base0 ⟨hi, hβ⟩ next0
    refine go_seq ?_
    refine go_region ⟨_, Try.func45⟩ rfl ?_
    refine q0 rfl (o_lss ?_)
    refine rg_nil ?_
    refine go_seq ?_
    refine go_condI (fun h18 => ?_) (fun h18 => ?_)
    · have hlt : i < t.kids.length := by have := of_decide_eq_true h18; omega
      obtain ⟨bk, o, hav⟩ := hA1 (by omega)
      refine go_skip ?_
      refine go_seq ?_
      refine go_block ?_
      refine go_seq ?_
      refine go_region ⟨_, Try.func45⟩ rfl ?_
      refine q0 rfl (o_move ?_)
      refine q0 rfl (o_ixN ?_)
      refine q0 rfl (o_ldT ?_)
      refine q0 rfl (o_new fun b6 => ?_)
      refine q0 rfl (o_assign ?_)
      refine q0 rfl (o_st ?_)
      refine rg_nil ?_
      refine go_seq ?_
      refine go_kid i hlt ?_
      refine go_region ⟨_, Try.func45⟩ rfl ?_
      have hpk := parts_kid t i hlt
      refine q0 rfl (o_fa ?_)
      refine q0 rfl (o_ld ?_)
      refine q0 rfl (o_move ?_)
      refine q0 rfl (o_call Try.call11 (binds_spec t.kind i) (fun x26 => ?_))
      refine q0 rfl (o_move ?_)
      refine q0 rfl (o_extract ?_)
      refine q0 rfl (o_extract ?_)
      refine q0 rfl (o_assign ?_)
      refine q0 rfl (o_assign ?_)
      refine rg_nil ?_
      refine go_seq ?_
      refine go_region ⟨_, Try.func45⟩ rfl ?_
      refine q0 rfl (o_move ?_)
      refine q0 rfl (o_lds ?_)
      refine q0 rfl (o_move ?_)
      refine q0 rfl (o_move ?_)
      refine q0 rfl (o_callC hc (hcl i _ _ _ hpk hβ _ _ _) (fun x33 => ?_))
      refine q0 rfl (o_not ?_)
      refine rg_nil ?_
      refine go_condI (fun h34 => ?_) (fun h34 => ?_)
      · have hβf : β i = false := by simpa using h34
        refine go_seq ?_
        refine go_region ⟨_, Try.func45⟩ rfl ?_
        refine q0 rfl (o_assign ?_)
        refine rg_nil ?_
        have hff := ff_stop hβf hβ (n := (parts t).length) (by omega)
        refine ret1 Try.func45 Try.results45 (by first | ((conv => lhs; whnf); done) | rfl) () (by simp [hff]; omega) (fun w hs => by rw [hff, if_neg (by omega)]; simp only [hβf, Bool.false_eq_true, if_false] at hs; exact (hs.less (by simp)).dropR)
      · refine go_skip ?_
        refine go_inBlock ?_
        refine go_region ⟨_, Try.func45⟩ rfl ?_
        refine q0 rfl (o_add ?_)
        refine q0 rfl (o_move ?_)
        refine rg_nil ?_
        have hβt : β i = true := by simpa using h34
        refine go_state (fun w hs => ?_) (next0 (i + 1) _ ⟨hlt, fun j hj => (by rcases Nat.lt_succ_iff_lt_or_eq.mp hj with h | h; exact hβ j h; subst h; exact hβt)⟩ (by omega) ⟨rfl, rfl, rfl, rfl, rfl, trivial⟩)
        simp only [hβt, if_true] at hs
        exact ((hs.less (by simp +contextual)).perm List.perm_append_comm).drop
    · have hge : i = t.kids.length := by have := of_decide_eq_false h18; omega
      refine go_exit rfl ?_
      refine go_seq ?_
      refine go_region ⟨_, Try.func45⟩ rfl ?_
      refine q0 rfl (o_assign ?_)
      refine rg_nil ?_
      refine go_seq ?_
      refine go_seq ?_
      refine go_region ⟨_, Try.func45⟩ rfl ?_
      refine q0 rfl (o_fa ?_)
      refine q0 rfl (o_ld ?_)
      refine q0 rfl (o_eqI ?_)
      refine rg_nil ?_
      refine go_cutS ([(1, .func (.func c) #[] cap.toArray), (2, .pointer (some ⟨b2, 0, none⟩)), (9, .int .i64 (more t.kind))]) (fun hK => ?_) (fun base => ?_)
      · refine go_condI (fun h38 => ?_) (fun h38 => ?_)
        · refine go_region ⟨_, Try.func45⟩ rfl ?_
          refine q0 rfl (o_assign ?_)
          refine rg_nil ?_
          exact hK _ ⟨rfl, rfl, by first | (rw [more, if_pos (of_decide_eq_true h38)]; rfl) | (rw [more, if_neg (of_decide_eq_false h38)]; rfl), trivial⟩
        · refine go_skip ?_
          exact hK _ ⟨rfl, rfl, by first | (rw [more, if_pos (of_decide_eq_true h38)]; rfl) | (rw [more, if_neg (of_decide_eq_false h38)]; rfl), trivial⟩
      · refine go_seq ?_
        refine go_seq ?_
        refine go_region ⟨_, Try.func45⟩ rfl ?_
        refine q0 rfl (o_fa ?_)
        refine q0 rfl (o_ld ?_)
        refine q0 rfl (o_len ?_)
        refine q0 rfl (o_move ?_)
        refine rg_nil ?_
        refine go_block ?_
        refine go_loopI (X := Nat) (fun i2 => i2 ≤ t.sys.length ∧ ∀ j, j < t.kids.length + sysBefore i2 t.sys → β j = true) (fun i2 => [(1, .func (.func c) #[] cap.toArray), (9, .int .i64 (more t.kind)), (40, sl vs t.sys.length), (41, .int .i64 (t.sys.length : Int)), (42, .int .i64 (i2 : Int))]) (fun i2 => BLx t.sys vs VF VK2 :: FΓ) (fun i2 => SM (t.kids.length + sysBefore i2 t.sys)) (fun i2 => t.sys.length - i2) (0) (⟨Nat.zero_le _, fun j hj => hβ j (by simp [sysBefore] at hj; omega)⟩) (by exact ⟨rfl, rfl, rfl, rfl, rfl, trivial⟩) ?_ ?_
        · exact fun w hs => (by simpa [sysBefore, show i = t.kids.length by omega] using (hs.drop.less (Γ' := BLx t.sys vs VF VK2 :: FΓ) (by simp +contextual)))
        · intro i2 base1 ⟨hi2, hβ2⟩ next1
          refine go_seq ?_
          refine go_region ⟨_, Try.func45⟩ rfl ?_
          refine q0 rfl (o_lss ?_)
          refine rg_nil ?_
          refine go_seq ?_
          refine go_condI (fun h43 => ?_) (fun h43 => ?_)
          · have hlt2 : i2 < t.sys.length := by have := of_decide_eq_true h43; omega
            obtain ⟨bk2, o2, hav2⟩ := hA2 (by omega)
            refine go_skip ?_
            refine go_seq ?_
            refine go_block ?_
            refine go_seq ?_
            refine go_region ⟨_, Try.func45⟩ rfl ?_
            refine q0 rfl (o_ixN ?_)
            refine q0 rfl (o_ldB ?_)
            refine q0 rfl (o_new fun b11 => ?_)
            refine q0 rfl (o_st ?_)
            refine rg_nil ?_
            refine go_seq ?_
            refine go_region ⟨_, Try.func45⟩ rfl ?_
            refine q0 rfl (o_fa ?_)
            refine q0 rfl (o_ld ?_)
            refine q0 rfl (o_len ?_)
            refine q0 rfl (o_move ?_)
            refine rg_nil ?_
            refine go_block ?_
            refine go_branch i2 (by omega) ?_
            refine go_openTL (ts := (t.sys.getD i2 br0).kids) (fun VR3 VK3 VS3 hl3 hA3 => ?_)
            refine go_loopI (X := Nat) (fun j => j ≤ (t.sys.getD i2 br0).kids.length ∧ ∀ m, m < t.kids.length + sysBefore i2 t.sys + j → β m = true) (fun j => [(1, .func (.func c) #[] cap.toArray), (9, .int .i64 (more t.kind)), (40, sl vs t.sys.length), (41, .int .i64 (t.sys.length : Int)), (42, .int .i64 ((i2 : Nat) : Int)), (47, sl (VK2 i2) (t.sys.getD i2 br0).kids.length), (48, .int .i64 ((t.sys.getD i2 br0).kids.length : Int)), (49, .int .i64 (j : Int))]) (fun j => TLx (t.sys.getD i2 br0).kids (VK2 i2) VR3 VK3 VS3 :: BLx t.sys vs VF VK2 :: FΓ) (fun j => SM (t.kids.length + sysBefore i2 t.sys + j)) (fun j => (t.sys.getD i2 br0).kids.length - j) (0) (⟨Nat.zero_le _, hβ2⟩) (by exact ⟨rfl, rfl, rfl, rfl, rfl, rfl, rfl, rfl, trivial⟩) ?_ ?_
            · exact fun w hs => (hs.less (by simp +contextual)).drop
            · intro j base2 ⟨hj, hβ3⟩ next2
              refine go_seq ?_
              refine go_region ⟨_, Try.func45⟩ rfl ?_
              refine q0 rfl (o_lss ?_)
              refine rg_nil ?_
              refine go_seq ?_
              refine go_condI (fun h50 => ?_) (fun h50 => ?_)
              · have hlt3 : j < (t.sys.getD i2 br0).kids.length := by have := of_decide_eq_true h50; omega
                obtain ⟨bk3, o3, hav3⟩ := hA3 (by omega)
                have hps := parts_sys t i2 j hlt2 hlt3
                refine go_kid j hlt3 ?_
                refine go_skip ?_
                refine go_seq ?_
                refine go_block ?_
                refine go_seq ?_
                refine go_region ⟨_, Try.func45⟩ rfl ?_
                refine q0 rfl (o_ixN ?_)
                refine q0 rfl (o_ldT ?_)
                refine q0 rfl (o_new fun b13 => ?_)
                refine q0 rfl (o_st ?_)
                refine rg_nil ?_
                refine go_seq ?_
                refine go_region ⟨_, Try.func45⟩ rfl ?_
                refine q0 rfl (o_move ?_)
                refine q0 rfl (o_lds ?_)
                refine q0 rfl (o_move ?_)
                refine q0 rfl (o_callC hc (hcl _ _ _ _ hps hβ3 _ _ _) (fun x56 => ?_))
                refine q0 rfl (o_not ?_)
                refine rg_nil ?_
                refine go_condI (fun h57 => ?_) (fun h57 => ?_)
                · have hβf : β (t.kids.length + sysBefore i2 t.sys + j) = false := by simpa using h57
                  refine go_seq ?_
                  refine go_region ⟨_, Try.func45⟩ rfl ?_
                  refine q0 rfl (o_assign ?_)
                  refine rg_nil ?_
                  have hbd := sysBefore_le hlt2 hlt3
                  have hff := ff_stop hβf hβ3 (n := (parts t).length) (by omega)
                  refine ret1 Try.func45 Try.results45 (by first | ((conv => lhs; whnf); done) | rfl) () (by simp [hff]; omega) (fun w hs => by rw [hff, if_neg (by omega)]; simp only [hβf, Bool.false_eq_true, if_false] at hs; exact (hs.less (by simp)).dropR)
                · refine go_skip ?_
                  refine go_inBlock ?_
                  refine go_region ⟨_, Try.func45⟩ rfl ?_
                  refine q0 rfl (o_add ?_)
                  refine q0 rfl (o_move ?_)
                  refine rg_nil ?_
                  have hβt : β (t.kids.length + sysBefore i2 t.sys + j) = true := by simpa using h57
                  refine go_state (fun w hs => ?_) (next2 (j + 1) _ ⟨hlt3, fun j2 hj2 => (by rcases Nat.lt_succ_iff_lt_or_eq.mp hj2 with h | h; exact hβ3 j2 h; subst h; exact hβt)⟩ (by omega) ⟨rfl, rfl, rfl, rfl, rfl, rfl, rfl, rfl, trivial⟩)
                  simp only [hβt, if_true] at hs
                  exact (hs.less (by simp +contextual)).dropR
              · have hge3 : j = (t.sys.getD i2 br0).kids.length := by have := of_decide_eq_false h50; omega
                refine go_exit rfl ?_
                refine go_inBlock ?_
                refine go_region ⟨_, Try.func45⟩ rfl ?_
                refine q0 rfl (o_add ?_)
                refine q0 rfl (o_move ?_)
                refine rg_nil ?_
                refine go_state (fun w hs => ?_) (next1 (i2 + 1) _ ⟨hlt2, by rw [sysBefore_succ i2 t.sys hlt2]; rw [hge3] at hβ3; simpa [Nat.add_assoc] using hβ3⟩ (by omega) ⟨rfl, rfl, rfl, rfl, rfl, trivial⟩)
                rw [hge3] at hs
                simp only [sysBefore_succ i2 t.sys hlt2, ← Nat.add_assoc]
                exact hs.less (by simp +contextual)
          · refine go_exit rfl ?_
            refine go_seq ?_
            refine go_region ⟨_, Try.func45⟩ rfl ?_
            refine q0 rfl (o_assign ?_)
            refine rg_nil ?_
            have hie : i2 = t.sys.length := by have := of_decide_eq_false h43; omega
            have hff := ff_all (β := β) (n := (parts t).length) (by rw [hpl, ← hie]; exact hβ2)
            refine ret1 Try.func45 Try.results45 (by first | ((conv => lhs; whnf); done) | rfl) () (by simp [hff]) (fun w hs => by rw [hff, if_pos rfl, hpl, ← hie]; exact hs.less (by simp))

end Go.Hy
