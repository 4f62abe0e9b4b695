/- Contracts of this program's functions and the laws that they need: a separation logic over the machine's rules, one theorem each (partly printed by a program of this repository). -/
import Derived.Test.YtpfjlbopkhdebaaGreatDoorP2
import Derived.Test.YtpfjlbopkhdebaaGreatDoorP3
import Derived.Test.YtpfjlbopkhdebaaGreatDoorP4
set_option linter.unusedVariables false
set_option linter.unusedSimpArgs false
set_option linter.unusedSectionVars false
namespace Go.Hy
open Go.Proofs
set_option maxRecDepth 100000
/-- What a kid binds. -/
theorem binds_spec (k i : Int) : Spec Tryz.prog 147 #[.int .i64 k, .int .i64 i] [] [] (fun _ : Unit => .tuple #[.int .i64 (binds k i).1, .int .i64 (binds k i).2]) (fun _ => []) (fun _ => []) := by
  refine spec_go (args := [.int .i64 k, .int .i64 i]) Tryz.func147 Tryz.ntmps147 rfl (by exact Nat.le_of_ble_eq_true rfl) fun B hB => ?_
  refine go_seq ?_; refine go_region ⟨_, Tryz.func147⟩ rfl ?_; refine q0 rfl (o_assign ?_); refine q0 rfl (o_assign ?_); refine rg_nil ?_; refine go_seq ?_; refine go_seq ?_; refine go_region ⟨_, Tryz.func147⟩ rfl ?_; refine q0 rfl (o_move ?_); refine rg_nil ?_; refine go_block ?_; refine go_seq ?_; refine go_block ?_; refine go_seq ?_; refine go_block ?_; refine go_block ?_; refine go_block ?_; refine go_seq ?_; refine go_block ?_; refine go_seq ?_; refine go_seq ?_; refine go_seq ?_; refine go_seq ?_; refine go_region ⟨_, Tryz.func147⟩ rfl ?_; refine q0 rfl (o_eqI ?_); refine q0 rfl (o_assign ?_); refine rg_nil ?_; refine go_condI (fun h7 => ?_) (fun h7 => ?_)
  · refine go_skip ?_; refine go_condT ?_; refine go_exit rfl ?_; refine go_seq ?_; refine go_seq ?_; refine go_region ⟨_, Tryz.func147⟩ rfl ?_; refine q0 rfl (o_move ?_); refine q0 rfl (o_eqI ?_); refine rg_nil ?_; refine go_condI (fun h21 => ?_) (fun h21 => ?_)
    · refine go_seq ?_; refine go_region ⟨_, Tryz.func147⟩ rfl ?_; refine q0 rfl (o_assign ?_); refine q0 rfl (o_assign ?_); refine rg_nil ?_; refine ret2 Tryz.func147 Tryz.results147 wn_ wn_ () (by simp_all [binds]) (fun w hs => hs.none)
    · refine go_skip ?_; refine go_exit rfl ?_; refine go_seq ?_; refine go_region ⟨_, Tryz.func147⟩ rfl ?_; refine q0 rfl (o_assign ?_); refine q0 rfl (o_assign ?_); refine rg_nil ?_; refine ret2 Tryz.func147 Tryz.results147 wn_ wn_ () (by simp_all [binds]) (fun w hs => hs.none)
  · refine go_region ⟨_, Tryz.func147⟩ rfl ?_; refine q0 rfl (o_eqI ?_); refine q0 rfl (o_assign ?_); refine rg_nil ?_; refine go_condI (fun h7 => ?_) (fun h7 => ?_)
    · refine go_exit rfl ?_; refine go_seq ?_; refine go_seq ?_; refine go_region ⟨_, Tryz.func147⟩ rfl ?_; refine q0 rfl (o_move ?_); refine q0 rfl (o_eqI ?_); refine rg_nil ?_; refine go_condI (fun h21 => ?_) (fun h21 => ?_)
      · refine go_seq ?_; refine go_region ⟨_, Tryz.func147⟩ rfl ?_; refine q0 rfl (o_assign ?_); refine q0 rfl (o_assign ?_); refine rg_nil ?_; refine ret2 Tryz.func147 Tryz.results147 wn_ wn_ () (by simp_all [binds]) (fun w hs => hs.none)
      · refine go_skip ?_; refine go_exit rfl ?_; refine go_seq ?_; refine go_region ⟨_, Tryz.func147⟩ rfl ?_; refine q0 rfl (o_assign ?_); refine q0 rfl (o_assign ?_); refine rg_nil ?_; refine ret2 Tryz.func147 Tryz.results147 wn_ wn_ () (by simp_all [binds]) (fun w hs => hs.none)
    · refine go_skip ?_; refine go_seq ?_; refine go_seq ?_; refine go_region ⟨_, Tryz.func147⟩ rfl ?_; refine q0 rfl (o_eqI ?_); refine q0 rfl (o_assign ?_); refine rg_nil ?_; refine go_condI (fun h10 => ?_) (fun h10 => ?_)
      · refine go_exit rfl ?_; refine go_inBlock ?_; refine go_inBlock ?_; refine go_seq ?_; refine go_seq ?_; refine go_region ⟨_, Tryz.func147⟩ rfl ?_; refine q0 rfl (o_move ?_); refine q0 rfl (o_eqI ?_); refine rg_nil ?_; refine go_condI (fun h23 => ?_) (fun h23 => ?_)
        · refine go_seq ?_; refine go_region ⟨_, Tryz.func147⟩ rfl ?_; refine q0 rfl (o_assign ?_); refine q0 rfl (o_assign ?_); refine rg_nil ?_; refine ret2 Tryz.func147 Tryz.results147 wn_ wn_ () (by simp_all [binds]) (fun w hs => hs.none)
        · refine go_skip ?_; refine go_exit rfl ?_; refine go_seq ?_; refine go_region ⟨_, Tryz.func147⟩ rfl ?_; refine q0 rfl (o_assign ?_); refine q0 rfl (o_assign ?_); refine rg_nil ?_; refine ret2 Tryz.func147 Tryz.results147 wn_ wn_ () (by simp_all [binds]) (fun w hs => hs.none)
      · refine go_skip ?_; refine go_seq ?_; refine go_seq ?_; refine go_region ⟨_, Tryz.func147⟩ rfl ?_; refine q0 rfl (o_eqI ?_); refine q0 rfl (o_assign ?_); refine rg_nil ?_; refine go_condI (fun h12 => ?_) (fun h12 => ?_)
        · refine go_exit rfl ?_; refine go_inBlock ?_; refine go_seq ?_; refine go_seq ?_; refine go_region ⟨_, Tryz.func147⟩ rfl ?_; refine q0 rfl (o_move ?_); refine q0 rfl (o_eqI ?_); refine rg_nil ?_; refine go_condI (fun h23 => ?_) (fun h23 => ?_)
          · refine go_seq ?_; refine go_region ⟨_, Tryz.func147⟩ rfl ?_; refine q0 rfl (o_assign ?_); refine q0 rfl (o_assign ?_); refine rg_nil ?_; refine ret2 Tryz.func147 Tryz.results147 wn_ wn_ () (by simp_all [binds]) (fun w hs => hs.none)
          · refine go_skip ?_; refine go_exit rfl ?_; refine go_seq ?_; refine go_region ⟨_, Tryz.func147⟩ rfl ?_; refine q0 rfl (o_assign ?_); refine q0 rfl (o_assign ?_); refine rg_nil ?_; refine ret2 Tryz.func147 Tryz.results147 wn_ wn_ () (by simp_all [binds]) (fun w hs => hs.none)
        · refine go_skip ?_; refine go_seq ?_; refine go_seq ?_; refine go_region ⟨_, Tryz.func147⟩ rfl ?_; refine q0 rfl (o_eqI ?_); refine q0 rfl (o_assign ?_); refine rg_nil ?_; refine go_condI (fun h14 => ?_) (fun h14 => ?_)
          · refine go_exit rfl ?_; refine go_seq ?_; refine go_seq ?_; refine go_region ⟨_, Tryz.func147⟩ rfl ?_; refine q0 rfl (o_move ?_); refine q0 rfl (o_eqI ?_); refine rg_nil ?_; refine go_condI (fun h23 => ?_) (fun h23 => ?_)
            · refine go_seq ?_; refine go_region ⟨_, Tryz.func147⟩ rfl ?_; refine q0 rfl (o_assign ?_); refine q0 rfl (o_assign ?_); refine rg_nil ?_; refine ret2 Tryz.func147 Tryz.results147 wn_ wn_ () (by simp_all [binds]) (fun w hs => hs.none)
            · refine go_skip ?_; refine go_exit rfl ?_; refine go_seq ?_; refine go_region ⟨_, Tryz.func147⟩ rfl ?_; refine q0 rfl (o_assign ?_); refine q0 rfl (o_assign ?_); refine rg_nil ?_; refine ret2 Tryz.func147 Tryz.results147 wn_ wn_ () (by simp_all [binds]) (fun w hs => hs.none)
          · refine go_skip ?_; refine go_seq ?_; refine go_seq ?_; refine go_region ⟨_, Tryz.func147⟩ rfl ?_; refine q0 rfl (o_eqI ?_); refine q0 rfl (o_assign ?_); refine rg_nil ?_; refine go_condI (fun h16 => ?_) (fun h16 => ?_)
            · refine go_skip ?_; refine go_condT ?_; refine go_exit rfl ?_; refine go_seq ?_; refine go_seq ?_; refine go_region ⟨_, Tryz.func147⟩ rfl ?_; refine q0 rfl (o_move ?_); refine q0 rfl (o_eqI ?_); refine rg_nil ?_; refine go_condI (fun h25 => ?_) (fun h25 => ?_)
              · refine go_seq ?_; refine go_region ⟨_, Tryz.func147⟩ rfl ?_; refine q0 rfl (o_assign ?_); refine q0 rfl (o_assign ?_); refine rg_nil ?_; refine ret2 Tryz.func147 Tryz.results147 wn_ wn_ () (by simp_all [binds]) (fun w hs => hs.none)
              · refine go_skip ?_; refine go_exit rfl ?_; refine go_seq ?_; refine go_region ⟨_, Tryz.func147⟩ rfl ?_; refine q0 rfl (o_assign ?_); refine q0 rfl (o_assign ?_); refine rg_nil ?_; refine ret2 Tryz.func147 Tryz.results147 wn_ wn_ () (by simp_all [binds]) (fun w hs => hs.none)
            · refine go_seq ?_; refine go_region ⟨_, Tryz.func147⟩ rfl ?_; refine q0 rfl (o_eqI ?_); refine q0 rfl (o_assign ?_); refine rg_nil ?_; refine go_condI (fun h16 => ?_) (fun h16 => ?_)
              · refine go_skip ?_; refine go_condT ?_; refine go_exit rfl ?_; refine go_seq ?_; refine go_seq ?_; refine go_region ⟨_, Tryz.func147⟩ rfl ?_; refine q0 rfl (o_move ?_); refine q0 rfl (o_eqI ?_); refine rg_nil ?_; refine go_condI (fun h25 => ?_) (fun h25 => ?_)
                · refine go_seq ?_; refine go_region ⟨_, Tryz.func147⟩ rfl ?_; refine q0 rfl (o_assign ?_); refine q0 rfl (o_assign ?_); refine rg_nil ?_; refine ret2 Tryz.func147 Tryz.results147 wn_ wn_ () (by simp_all [binds]) (fun w hs => hs.none)
                · refine go_skip ?_; refine go_exit rfl ?_; refine go_seq ?_; refine go_region ⟨_, Tryz.func147⟩ rfl ?_; refine q0 rfl (o_assign ?_); refine q0 rfl (o_assign ?_); refine rg_nil ?_; refine ret2 Tryz.func147 Tryz.results147 wn_ wn_ () (by simp_all [binds]) (fun w hs => hs.none)
              · refine go_region ⟨_, Tryz.func147⟩ rfl ?_; refine q0 rfl (o_eqI ?_); refine q0 rfl (o_assign ?_); refine rg_nil ?_; refine go_condI (fun h16 => ?_) (fun h16 => ?_)
                · refine go_exit rfl ?_; refine go_seq ?_; refine go_seq ?_; refine go_region ⟨_, Tryz.func147⟩ rfl ?_; refine q0 rfl (o_move ?_); refine q0 rfl (o_eqI ?_); refine rg_nil ?_; refine go_condI (fun h25 => ?_) (fun h25 => ?_)
                  · refine go_seq ?_; refine go_region ⟨_, Tryz.func147⟩ rfl ?_; refine q0 rfl (o_assign ?_); refine q0 rfl (o_assign ?_); refine rg_nil ?_; refine ret2 Tryz.func147 Tryz.results147 wn_ wn_ () (by simp_all [binds]) (fun w hs => hs.none)
                  · refine go_skip ?_; refine go_exit rfl ?_; refine go_seq ?_; refine go_region ⟨_, Tryz.func147⟩ rfl ?_; refine q0 rfl (o_assign ?_); refine q0 rfl (o_assign ?_); refine rg_nil ?_; refine ret2 Tryz.func147 Tryz.results147 wn_ wn_ () (by simp_all [binds]) (fun w hs => hs.none)
                · refine go_skip ?_; refine go_exit rfl ?_; refine go_seq ?_; refine go_region ⟨_, Tryz.func147⟩ rfl ?_; refine q0 rfl (o_assign ?_); refine q0 rfl (o_assign ?_); refine rg_nil ?_; refine ret2 Tryz.func147 Tryz.results147 wn_ wn_ () (by simp_all [binds]) (fun w hs => hs.none)
theorem each_spec (t : T) (vr vk vs : SH) (c : FuncId) (cap : List Value) (FΓ : List Fact) (SM SF : Nat → List Res) (β : Nat → Bool)
    (hc : ∀ (args : Array Value) (w : World), (callFunc c args).run Tryz.prog w = .ok (.enter c args) w)
    (hcl : ∀ m k v d, (parts t)[m]? = some (k, v, d) → (∀ j, j < m → β j = true) → ∀ vr vk vs, Spec Tryz.prog c (.agg (tc k vr vk vs).toArray :: .int .i64 v :: .int .i64 d :: cap).toArray (RT k vr vk vs :: FΓ) (SM m) (fun _ : Unit => .bool (β m)) (fun _ => []) (fun _ => if β m then SM (m + 1) else SF m)) :
    Spec Tryz.prog 98 #[.agg (tc t vr vk vs).toArray, .func (.func c) #[] cap.toArray] (RT t vr vk vs :: FΓ) (SM 0) (fun _ : Unit => .bool (ff β (parts t).length == (parts t).length)) (fun _ => []) (fun _ => if ff β (parts t).length = (parts t).length then SM (parts t).length else SF (ff β (parts t).length)) := by
  refine spec_go (args := [.agg (tc t vr vk vs).toArray, .func (.func c) #[] cap.toArray]) Tryz.func98 Tryz.ntmps98 rfl (by exact Nat.le_of_ble_eq_true rfl) fun B hB => ?_
  refine go_open (fun hk hn hnm => ?_); refine go_openTL (ts := t.kids) (fun VR VK VS hl1 hA1 => ?_); refine go_openBL (bs := t.sys) (fun VF VK2 hl2 hA2 => ?_); have hpl := parts_length t; refine go_seq ?_; refine go_region ⟨_, Tryz.func98⟩ rfl ?_; refine q0 rfl (o_box fun b2 => ?_); refine q0 rfl (o_assign ?_); refine rg_nil ?_; refine go_seq ?_; refine go_seq ?_; refine go_region ⟨_, Tryz.func98⟩ rfl ?_; refine q0 rfl (o_fa ?_); refine q0 rfl (o_ld ?_); refine q0 rfl (o_len ?_); refine q0 rfl (o_move ?_); refine rg_nil ?_; refine go_block ?_; refine go_loopI (X := Nat) (fun i => i ≤ t.kids.length ∧ ∀ j, j < i → β j = true) (fun i => [(1, .func (.func c) #[] cap.toArray), (2, .pointer (some ⟨b2, 0, none⟩)), (15, sl vk t.kids.length), (16, .int .i64 (t.kids.length : Int)), (17, .int .i64 (i : Int))]) (fun i => TLx t.kids vk VR VK VS :: BLx t.sys vs VF VK2 :: RT t vr vk vs :: FΓ) (fun i => boxR b2 (tc t vr vk vs) 35 :: SM i) (fun i => t.kids.length - i) (0) (⟨Nat.zero_le _, fun j hj => by omega⟩) (by exact ⟨rfl, rfl, rfl, rfl, rfl, trivial⟩) ?_ ?_
  · exact fun w hs => hs.less (by simp +contextual)
  · intro i base0 ⟨hi, hβ⟩ next0; refine go_seq ?_; refine go_region ⟨_, Tryz.func98⟩ rfl ?_; refine q0 rfl (o_lss ?_); refine rg_nil ?_; refine go_seq ?_; refine go_condI (fun h18 => ?_) (fun h18 => ?_)
    · have hlt : i < t.kids.length := by have := of_decide_eq_true h18; omega
      obtain ⟨bk, o, hav⟩ := hA1 (by omega); refine go_skip ?_; refine go_seq ?_; refine go_block ?_; refine go_seq ?_; refine go_region ⟨_, Tryz.func98⟩ rfl ?_; refine q0 rfl (o_move ?_); refine q0 rfl (o_ixN ?_); refine q0 rfl (o_ldT ?_); refine q0 rfl (o_new fun b6 => ?_); refine q0 rfl (o_assign ?_); refine q0 rfl (o_st ?_); refine rg_nil ?_; refine go_seq ?_; refine go_kid i hlt ?_; refine go_region ⟨_, Tryz.func98⟩ rfl ?_; have hpk := parts_kid t i hlt; refine q0 rfl (o_fa ?_); refine q0 rfl (o_ld ?_); refine q0 rfl (o_move ?_); refine q0 rfl (o_call Tryz.call147 (binds_spec t.kind i) (fun x26 => ?_)); refine q0 rfl (o_move ?_); refine q0 rfl (o_extract ?_); refine q0 rfl (o_extract ?_); refine q0 rfl (o_assign ?_); refine q0 rfl (o_assign ?_); refine rg_nil ?_; refine go_seq ?_; refine go_region ⟨_, Tryz.func98⟩ rfl ?_; refine q0 rfl (o_move ?_); refine q0 rfl (o_lds ?_); refine q0 rfl (o_move ?_); refine q0 rfl (o_move ?_); refine q0 rfl (o_callC hc (hcl i _ _ _ hpk hβ _ _ _) (fun x33 => ?_)); refine q0 rfl (o_not ?_); refine rg_nil ?_; refine go_condI (fun h34 => ?_) (fun h34 => ?_)
      · have hβf : β i = false := by simpa using h34
        refine go_seq ?_; refine go_region ⟨_, Tryz.func98⟩ rfl ?_; refine q0 rfl (o_assign ?_); refine rg_nil ?_; have hff := ff_stop hβf hβ (n := (parts t).length) (by omega); refine ret1 Tryz.func98 Tryz.results98 wn_ () (by simp [hff]; omega) (fun w hs => by rw [hff, if_neg (by omega)]; simp only [hβf, Bool.false_eq_true, if_false] at hs; exact (hs.less (by simp)).dropR)
      · refine go_skip ?_; refine go_inBlock ?_; refine go_region ⟨_, Tryz.func98⟩ rfl ?_; refine q0 rfl (o_add ?_); refine q0 rfl (o_move ?_); refine rg_nil ?_; have hβt : β i = true := by simpa using h34
        refine go_state (fun w hs => ?_) (next0 (i + 1) _ ⟨hlt, fun j hj => (by rcases Nat.lt_succ_iff_lt_or_eq.mp hj with h | h; exact hβ j h; subst h; exact hβt)⟩ (by omega) ⟨rfl, rfl, rfl, rfl, rfl, trivial⟩); simp only [hβt, if_true] at hs; exact ((hs.less (by simp +contextual)).perm List.perm_append_comm).drop
    · have hge : i = t.kids.length := by have := of_decide_eq_false h18; omega
      refine go_exit rfl ?_; refine go_seq ?_; refine go_region ⟨_, Tryz.func98⟩ rfl ?_; refine q0 rfl (o_assign ?_); refine rg_nil ?_; refine go_seq ?_; refine go_seq ?_; refine go_region ⟨_, Tryz.func98⟩ rfl ?_; refine q0 rfl (o_fa ?_); refine q0 rfl (o_ld ?_); refine q0 rfl (o_eqI ?_); refine rg_nil ?_; refine go_cutS ([(1, .func (.func c) #[] cap.toArray), (2, .pointer (some ⟨b2, 0, none⟩)), (9, .int .i64 (more t.kind))]) (fun hK => ?_) (fun base => ?_)
      · refine go_condI (fun h38 => ?_) (fun h38 => ?_)
        · refine go_region ⟨_, Tryz.func98⟩ rfl ?_; refine q0 rfl (o_assign ?_); refine rg_nil ?_; exact hK _ ⟨rfl, rfl, by first | (rw [more, if_pos (of_decide_eq_true h38)]; rfl) | (rw [more, if_neg (of_decide_eq_false h38)]; rfl), trivial⟩
        · refine go_skip ?_; exact hK _ ⟨rfl, rfl, by first | (rw [more, if_pos (of_decide_eq_true h38)]; rfl) | (rw [more, if_neg (of_decide_eq_false h38)]; rfl), trivial⟩
      · refine go_seq ?_; refine go_seq ?_; refine go_region ⟨_, Tryz.func98⟩ rfl ?_; refine q0 rfl (o_fa ?_); refine q0 rfl (o_ld ?_); refine q0 rfl (o_len ?_); refine q0 rfl (o_move ?_); refine rg_nil ?_; refine go_block ?_; refine go_loopI (X := Nat) (fun i2 => i2 ≤ t.sys.length ∧ ∀ j, j < t.kids.length + sysBefore i2 t.sys → β j = true) (fun i2 => [(1, .func (.func c) #[] cap.toArray), (9, .int .i64 (more t.kind)), (40, sl vs t.sys.length), (41, .int .i64 (t.sys.length : Int)), (42, .int .i64 (i2 : Int))]) (fun i2 => BLx t.sys vs VF VK2 :: FΓ) (fun i2 => SM (t.kids.length + sysBefore i2 t.sys)) (fun i2 => t.sys.length - i2) (0) (⟨Nat.zero_le _, fun j hj => hβ j (by simp [sysBefore] at hj; omega)⟩) (by exact ⟨rfl, rfl, rfl, rfl, rfl, trivial⟩) ?_ ?_
        · exact fun w hs => (by simpa [sysBefore, show i = t.kids.length by omega] using (hs.drop.less (Γ' := BLx t.sys vs VF VK2 :: FΓ) (by simp +contextual)))
        · intro i2 base1 ⟨hi2, hβ2⟩ next1; refine go_seq ?_; refine go_region ⟨_, Tryz.func98⟩ rfl ?_; refine q0 rfl (o_lss ?_); refine rg_nil ?_; refine go_seq ?_; refine go_condI (fun h43 => ?_) (fun h43 => ?_)
          · have hlt2 : i2 < t.sys.length := by have := of_decide_eq_true h43; omega
            obtain ⟨bk2, o2, hav2⟩ := hA2 (by omega); refine go_skip ?_; refine go_seq ?_; refine go_block ?_; refine go_seq ?_; refine go_region ⟨_, Tryz.func98⟩ rfl ?_; refine q0 rfl (o_ixN ?_); refine q0 rfl (o_ldB ?_); refine q0 rfl (o_new fun b11 => ?_); refine q0 rfl (o_st ?_); refine rg_nil ?_; refine go_seq ?_; refine go_region ⟨_, Tryz.func98⟩ rfl ?_; refine q0 rfl (o_fa ?_); refine q0 rfl (o_ld ?_); refine q0 rfl (o_len ?_); refine q0 rfl (o_move ?_); refine rg_nil ?_; refine go_block ?_; refine go_branch i2 (by omega) ?_; refine go_openTL (ts := (t.sys.getD i2 br0).kids) (fun VR3 VK3 VS3 hl3 hA3 => ?_); refine go_loopI (X := Nat) (fun j => j ≤ (t.sys.getD i2 br0).kids.length ∧ ∀ m, m < t.kids.length + sysBefore i2 t.sys + j → β m = true) (fun j => [(1, .func (.func c) #[] cap.toArray), (9, .int .i64 (more t.kind)), (40, sl vs t.sys.length), (41, .int .i64 (t.sys.length : Int)), (42, .int .i64 ((i2 : Nat) : Int)), (47, sl (VK2 i2) (t.sys.getD i2 br0).kids.length), (48, .int .i64 ((t.sys.getD i2 br0).kids.length : Int)), (49, .int .i64 (j : Int))]) (fun j => TLx (t.sys.getD i2 br0).kids (VK2 i2) VR3 VK3 VS3 :: BLx t.sys vs VF VK2 :: FΓ) (fun j => SM (t.kids.length + sysBefore i2 t.sys + j)) (fun j => (t.sys.getD i2 br0).kids.length - j) (0) (⟨Nat.zero_le _, hβ2⟩) (by exact ⟨rfl, rfl, rfl, rfl, rfl, rfl, rfl, rfl, trivial⟩) ?_ ?_
            · exact fun w hs => (hs.less (by simp +contextual)).drop
            · intro j base2 ⟨hj, hβ3⟩ next2; refine go_seq ?_; refine go_region ⟨_, Tryz.func98⟩ rfl ?_; refine q0 rfl (o_lss ?_); refine rg_nil ?_; refine go_seq ?_; refine go_condI (fun h50 => ?_) (fun h50 => ?_)
              · have hlt3 : j < (t.sys.getD i2 br0).kids.length := by have := of_decide_eq_true h50; omega
                obtain ⟨bk3, o3, hav3⟩ := hA3 (by omega); have hps := parts_sys t i2 j hlt2 hlt3; refine go_kid j hlt3 ?_; refine go_skip ?_; refine go_seq ?_; refine go_block ?_; refine go_seq ?_; refine go_region ⟨_, Tryz.func98⟩ rfl ?_; refine q0 rfl (o_ixN ?_); refine q0 rfl (o_ldT ?_); refine q0 rfl (o_new fun b13 => ?_); refine q0 rfl (o_st ?_); refine rg_nil ?_; refine go_seq ?_; refine go_region ⟨_, Tryz.func98⟩ rfl ?_; refine q0 rfl (o_move ?_); refine q0 rfl (o_lds ?_); refine q0 rfl (o_move ?_); refine q0 rfl (o_callC hc (hcl _ _ _ _ hps hβ3 _ _ _) (fun x56 => ?_)); refine q0 rfl (o_not ?_); refine rg_nil ?_; refine go_condI (fun h57 => ?_) (fun h57 => ?_)
                · have hβf : β (t.kids.length + sysBefore i2 t.sys + j) = false := by simpa using h57
                  refine go_seq ?_; refine go_region ⟨_, Tryz.func98⟩ rfl ?_; refine q0 rfl (o_assign ?_); refine rg_nil ?_; have hbd := sysBefore_le hlt2 hlt3; have hff := ff_stop hβf hβ3 (n := (parts t).length) (by omega); refine ret1 Tryz.func98 Tryz.results98 wn_ () (by simp [hff]; omega) (fun w hs => by rw [hff, if_neg (by omega)]; simp only [hβf, Bool.false_eq_true, if_false] at hs; exact (hs.less (by simp)).dropR)
                · refine go_skip ?_; refine go_inBlock ?_; refine go_region ⟨_, Tryz.func98⟩ rfl ?_; refine q0 rfl (o_add ?_); refine q0 rfl (o_move ?_); refine rg_nil ?_; have hβt : β (t.kids.length + sysBefore i2 t.sys + j) = true := by simpa using h57
                  refine go_state (fun w hs => ?_) (next2 (j + 1) _ ⟨hlt3, fun j2 hj2 => (by rcases Nat.lt_succ_iff_lt_or_eq.mp hj2 with h | h; exact hβ3 j2 h; subst h; exact hβt)⟩ (by omega) ⟨rfl, rfl, rfl, rfl, rfl, rfl, rfl, rfl, trivial⟩); simp only [hβt, if_true] at hs; exact (hs.less (by simp +contextual)).dropR
              · have hge3 : j = (t.sys.getD i2 br0).kids.length := by have := of_decide_eq_false h50; omega
                refine go_exit rfl ?_; refine go_inBlock ?_; refine go_region ⟨_, Tryz.func98⟩ rfl ?_; refine q0 rfl (o_add ?_); refine q0 rfl (o_move ?_); refine rg_nil ?_; refine go_state (fun w hs => ?_) (next1 (i2 + 1) _ ⟨hlt2, by rw [sysBefore_succ i2 t.sys hlt2]; rw [hge3] at hβ3; simpa [Nat.add_assoc] using hβ3⟩ (by omega) ⟨rfl, rfl, rfl, rfl, rfl, trivial⟩); rw [hge3] at hs; simp only [sysBefore_succ i2 t.sys hlt2, ← Nat.add_assoc]; exact hs.less (by simp +contextual)
          · refine go_exit rfl ?_; refine go_seq ?_; refine go_region ⟨_, Tryz.func98⟩ rfl ?_; refine q0 rfl (o_assign ?_); refine rg_nil ?_; have hie : i2 = t.sys.length := by have := of_decide_eq_false h43; omega
            have hff := ff_all (β := β) (n := (parts t).length) (by rw [hpl, ← hie]; exact hβ2); refine ret1 Tryz.func98 Tryz.results98 wn_ () (by simp [hff]) (fun w hs => by rw [hff, if_pos rfl, hpl, ← hie]; exact hs.less (by simp))
end Go.Hy
namespace Go.Hy
open Go.Proofs
set_option maxRecDepth 100000
theorem kids_spec (k : Int) : Spec Tryz.prog 173 #[.int .i64 k] [] [] (fun _ : Unit => .int .i64 (kidsN k)) (fun _ => []) (fun _ => []) := by
  refine spec_go (args := [.int .i64 k]) Tryz.func173 Tryz.ntmps173 rfl (by exact Nat.le_of_ble_eq_true rfl) fun B hB => ?_
  refine go_seq ?_; refine go_region ⟨_, Tryz.func173⟩ rfl ?_; refine q0 rfl (o_assign ?_); refine rg_nil ?_; refine go_seq ?_; refine go_seq ?_; refine go_region ⟨_, Tryz.func173⟩ rfl ?_; refine q0 rfl (o_move ?_); refine rg_nil ?_; refine go_block ?_; refine go_seq ?_; refine go_seq ?_; refine go_region ⟨_, Tryz.func173⟩ rfl ?_; refine q0 rfl (o_eqI ?_); refine q0 rfl (o_assign ?_); refine rg_nil ?_; refine go_condI (fun h4 => ?_) (fun h4 => ?_)
  · refine go_skip ?_; refine go_condT ?_; refine go_seq ?_; refine go_region ⟨_, Tryz.func173⟩ rfl ?_; refine q0 rfl (o_assign ?_); refine rg_nil ?_; refine ret1 Tryz.func173 Tryz.results173 wn_ () (by simp_all [kidsN]) (fun w hs => hs.none)
  · refine go_seq ?_; refine go_region ⟨_, Tryz.func173⟩ rfl ?_; refine q0 rfl (o_eqI ?_); refine q0 rfl (o_assign ?_); refine rg_nil ?_; refine go_condI (fun h4 => ?_) (fun h4 => ?_)
    · refine go_skip ?_; refine go_condT ?_; refine go_seq ?_; refine go_region ⟨_, Tryz.func173⟩ rfl ?_; refine q0 rfl (o_assign ?_); refine rg_nil ?_; refine ret1 Tryz.func173 Tryz.results173 wn_ () (by simp_all [kidsN]) (fun w hs => hs.none)
    · refine go_seq ?_; refine go_region ⟨_, Tryz.func173⟩ rfl ?_; refine q0 rfl (o_eqI ?_); refine q0 rfl (o_assign ?_); refine rg_nil ?_; refine go_condI (fun h4 => ?_) (fun h4 => ?_)
      · refine go_skip ?_; refine go_condT ?_; refine go_seq ?_; refine go_region ⟨_, Tryz.func173⟩ rfl ?_; refine q0 rfl (o_assign ?_); refine rg_nil ?_; refine ret1 Tryz.func173 Tryz.results173 wn_ () (by simp_all [kidsN]) (fun w hs => hs.none)
      · refine go_seq ?_; refine go_region ⟨_, Tryz.func173⟩ rfl ?_; refine q0 rfl (o_eqI ?_); refine q0 rfl (o_assign ?_); refine rg_nil ?_; refine go_condI (fun h4 => ?_) (fun h4 => ?_)
        · refine go_skip ?_; refine go_condT ?_; refine go_seq ?_; refine go_region ⟨_, Tryz.func173⟩ rfl ?_; refine q0 rfl (o_assign ?_); refine rg_nil ?_; refine ret1 Tryz.func173 Tryz.results173 wn_ () (by simp_all [kidsN]) (fun w hs => hs.none)
        · refine go_seq ?_; refine go_region ⟨_, Tryz.func173⟩ rfl ?_; refine q0 rfl (o_eqI ?_); refine q0 rfl (o_assign ?_); refine rg_nil ?_; refine go_condI (fun h4 => ?_) (fun h4 => ?_)
          · refine go_skip ?_; refine go_condT ?_; refine go_seq ?_; refine go_region ⟨_, Tryz.func173⟩ rfl ?_; refine q0 rfl (o_assign ?_); refine rg_nil ?_; refine ret1 Tryz.func173 Tryz.results173 wn_ () (by simp_all [kidsN]) (fun w hs => hs.none)
          · refine go_seq ?_; refine go_region ⟨_, Tryz.func173⟩ rfl ?_; refine q0 rfl (o_eqI ?_); refine q0 rfl (o_assign ?_); refine rg_nil ?_; refine go_condI (fun h4 => ?_) (fun h4 => ?_)
            · refine go_skip ?_; refine go_condT ?_; refine go_seq ?_; refine go_region ⟨_, Tryz.func173⟩ rfl ?_; refine q0 rfl (o_assign ?_); refine rg_nil ?_; refine ret1 Tryz.func173 Tryz.results173 wn_ () (by simp_all [kidsN]) (fun w hs => hs.none)
            · refine go_seq ?_; refine go_region ⟨_, Tryz.func173⟩ rfl ?_; refine q0 rfl (o_eqI ?_); refine q0 rfl (o_assign ?_); refine rg_nil ?_; refine go_condI (fun h4 => ?_) (fun h4 => ?_)
              · refine go_skip ?_; refine go_condT ?_; refine go_seq ?_; refine go_region ⟨_, Tryz.func173⟩ rfl ?_; refine q0 rfl (o_assign ?_); refine rg_nil ?_; refine ret1 Tryz.func173 Tryz.results173 wn_ () (by simp_all [kidsN]) (fun w hs => hs.none)
              · refine go_region ⟨_, Tryz.func173⟩ rfl ?_; refine q0 rfl (o_eqI ?_); refine q0 rfl (o_assign ?_); refine rg_nil ?_; refine go_condI (fun h4 => ?_) (fun h4 => ?_)
                · refine go_seq ?_; refine go_region ⟨_, Tryz.func173⟩ rfl ?_; refine q0 rfl (o_assign ?_); refine rg_nil ?_; refine ret1 Tryz.func173 Tryz.results173 wn_ () (by simp_all [kidsN]) (fun w hs => hs.none)
                · refine go_seq ?_; refine go_seq ?_; refine go_region ⟨_, Tryz.func173⟩ rfl ?_; refine q0 rfl (o_eqI ?_); refine q0 rfl (o_assign ?_); refine rg_nil ?_; refine go_condI (fun h13 => ?_) (fun h13 => ?_)
                  · refine go_skip ?_; refine go_condT ?_; refine go_seq ?_; refine go_region ⟨_, Tryz.func173⟩ rfl ?_; refine q0 rfl (o_assign ?_); refine rg_nil ?_; refine ret1 Tryz.func173 Tryz.results173 wn_ () (by simp_all [kidsN]) (fun w hs => hs.none)
                  · refine go_seq ?_; refine go_region ⟨_, Tryz.func173⟩ rfl ?_; refine q0 rfl (o_eqI ?_); refine q0 rfl (o_assign ?_); refine rg_nil ?_; refine go_condI (fun h13 => ?_) (fun h13 => ?_)
                    · refine go_skip ?_; refine go_condT ?_; refine go_seq ?_; refine go_region ⟨_, Tryz.func173⟩ rfl ?_; refine q0 rfl (o_assign ?_); refine rg_nil ?_; refine ret1 Tryz.func173 Tryz.results173 wn_ () (by simp_all [kidsN]) (fun w hs => hs.none)
                    · refine go_seq ?_; refine go_region ⟨_, Tryz.func173⟩ rfl ?_; refine q0 rfl (o_eqI ?_); refine q0 rfl (o_assign ?_); refine rg_nil ?_; refine go_condI (fun h13 => ?_) (fun h13 => ?_)
                      · refine go_skip ?_; refine go_condT ?_; refine go_seq ?_; refine go_region ⟨_, Tryz.func173⟩ rfl ?_; refine q0 rfl (o_assign ?_); refine rg_nil ?_; refine ret1 Tryz.func173 Tryz.results173 wn_ () (by simp_all [kidsN]) (fun w hs => hs.none)
                      · refine go_seq ?_; refine go_region ⟨_, Tryz.func173⟩ rfl ?_; refine q0 rfl (o_eqI ?_); refine q0 rfl (o_assign ?_); refine rg_nil ?_; refine go_condI (fun h13 => ?_) (fun h13 => ?_)
                        · refine go_skip ?_; refine go_condT ?_; refine go_seq ?_; refine go_region ⟨_, Tryz.func173⟩ rfl ?_; refine q0 rfl (o_assign ?_); refine rg_nil ?_; refine ret1 Tryz.func173 Tryz.results173 wn_ () (by simp_all [kidsN]) (fun w hs => hs.none)
                        · refine go_seq ?_; refine go_region ⟨_, Tryz.func173⟩ rfl ?_; refine q0 rfl (o_eqI ?_); refine q0 rfl (o_assign ?_); refine rg_nil ?_; refine go_condI (fun h13 => ?_) (fun h13 => ?_)
                          · refine go_skip ?_; refine go_condT ?_; refine go_seq ?_; refine go_region ⟨_, Tryz.func173⟩ rfl ?_; refine q0 rfl (o_assign ?_); refine rg_nil ?_; refine ret1 Tryz.func173 Tryz.results173 wn_ () (by simp_all [kidsN]) (fun w hs => hs.none)
                          · refine go_seq ?_; refine go_region ⟨_, Tryz.func173⟩ rfl ?_; refine q0 rfl (o_eqI ?_); refine q0 rfl (o_assign ?_); refine rg_nil ?_; refine go_condI (fun h13 => ?_) (fun h13 => ?_)
                            · refine go_skip ?_; refine go_condT ?_; refine go_seq ?_; refine go_region ⟨_, Tryz.func173⟩ rfl ?_; refine q0 rfl (o_assign ?_); refine rg_nil ?_; refine ret1 Tryz.func173 Tryz.results173 wn_ () (by simp_all [kidsN]) (fun w hs => hs.none)
                            · refine go_seq ?_; refine go_region ⟨_, Tryz.func173⟩ rfl ?_; refine q0 rfl (o_eqI ?_); refine q0 rfl (o_assign ?_); refine rg_nil ?_; refine go_condI (fun h13 => ?_) (fun h13 => ?_)
                              · refine go_skip ?_; refine go_condT ?_; refine go_seq ?_; refine go_region ⟨_, Tryz.func173⟩ rfl ?_; refine q0 rfl (o_assign ?_); refine rg_nil ?_; refine ret1 Tryz.func173 Tryz.results173 wn_ () (by simp_all [kidsN]) (fun w hs => hs.none)
                              · refine go_seq ?_; refine go_region ⟨_, Tryz.func173⟩ rfl ?_; refine q0 rfl (o_eqI ?_); refine q0 rfl (o_assign ?_); refine rg_nil ?_; refine go_condI (fun h13 => ?_) (fun h13 => ?_)
                                · refine go_skip ?_; refine go_condT ?_; refine go_seq ?_; refine go_region ⟨_, Tryz.func173⟩ rfl ?_; refine q0 rfl (o_assign ?_); refine rg_nil ?_; refine ret1 Tryz.func173 Tryz.results173 wn_ () (by simp_all [kidsN]) (fun w hs => hs.none)
                                · refine go_region ⟨_, Tryz.func173⟩ rfl ?_; refine q0 rfl (o_eqI ?_); refine q0 rfl (o_assign ?_); refine rg_nil ?_; refine go_condI (fun h13 => ?_) (fun h13 => ?_)
                                  · refine go_seq ?_; refine go_region ⟨_, Tryz.func173⟩ rfl ?_; refine q0 rfl (o_assign ?_); refine rg_nil ?_; refine ret1 Tryz.func173 Tryz.results173 wn_ () (by simp_all [kidsN]) (fun w hs => hs.none)
                                  · refine go_seq ?_; refine go_seq ?_; refine go_region ⟨_, Tryz.func173⟩ rfl ?_; refine q0 rfl (o_eqI ?_); refine q0 rfl (o_assign ?_); refine rg_nil ?_; refine go_condI (fun h23 => ?_) (fun h23 => ?_)
                                    · refine go_skip ?_; refine go_condT ?_; refine go_seq ?_; refine go_region ⟨_, Tryz.func173⟩ rfl ?_; refine q0 rfl (o_assign ?_); refine rg_nil ?_; refine ret1 Tryz.func173 Tryz.results173 wn_ () (by simp_all [kidsN]) (fun w hs => hs.none)
                                    · refine go_seq ?_; refine go_region ⟨_, Tryz.func173⟩ rfl ?_; refine q0 rfl (o_eqI ?_); refine q0 rfl (o_assign ?_); refine rg_nil ?_; refine go_condI (fun h23 => ?_) (fun h23 => ?_)
                                      · refine go_skip ?_; refine go_condT ?_; refine go_seq ?_; refine go_region ⟨_, Tryz.func173⟩ rfl ?_; refine q0 rfl (o_assign ?_); refine rg_nil ?_; refine ret1 Tryz.func173 Tryz.results173 wn_ () (by simp_all [kidsN]) (fun w hs => hs.none)
                                      · refine go_seq ?_; refine go_region ⟨_, Tryz.func173⟩ rfl ?_; refine q0 rfl (o_eqI ?_); refine q0 rfl (o_assign ?_); refine rg_nil ?_; refine go_condI (fun h23 => ?_) (fun h23 => ?_)
                                        · refine go_skip ?_; refine go_condT ?_; refine go_seq ?_; refine go_region ⟨_, Tryz.func173⟩ rfl ?_; refine q0 rfl (o_assign ?_); refine rg_nil ?_; refine ret1 Tryz.func173 Tryz.results173 wn_ () (by simp_all [kidsN]) (fun w hs => hs.none)
                                        · refine go_seq ?_; refine go_region ⟨_, Tryz.func173⟩ rfl ?_; refine q0 rfl (o_eqI ?_); refine q0 rfl (o_assign ?_); refine rg_nil ?_; refine go_condI (fun h23 => ?_) (fun h23 => ?_)
                                          · refine go_skip ?_; refine go_condT ?_; refine go_seq ?_; refine go_region ⟨_, Tryz.func173⟩ rfl ?_; refine q0 rfl (o_assign ?_); refine rg_nil ?_; refine ret1 Tryz.func173 Tryz.results173 wn_ () (by simp_all [kidsN]) (fun w hs => hs.none)
                                          · refine go_seq ?_; refine go_region ⟨_, Tryz.func173⟩ rfl ?_; refine q0 rfl (o_eqI ?_); refine q0 rfl (o_assign ?_); refine rg_nil ?_; refine go_condI (fun h23 => ?_) (fun h23 => ?_)
                                            · refine go_skip ?_; refine go_condT ?_; refine go_seq ?_; refine go_region ⟨_, Tryz.func173⟩ rfl ?_; refine q0 rfl (o_assign ?_); refine rg_nil ?_; refine ret1 Tryz.func173 Tryz.results173 wn_ () (by simp_all [kidsN]) (fun w hs => hs.none)
                                            · refine go_seq ?_; refine go_region ⟨_, Tryz.func173⟩ rfl ?_; refine q0 rfl (o_eqI ?_); refine q0 rfl (o_assign ?_); refine rg_nil ?_; refine go_condI (fun h23 => ?_) (fun h23 => ?_)
                                              · refine go_skip ?_; refine go_condT ?_; refine go_seq ?_; refine go_region ⟨_, Tryz.func173⟩ rfl ?_; refine q0 rfl (o_assign ?_); refine rg_nil ?_; refine ret1 Tryz.func173 Tryz.results173 wn_ () (by simp_all [kidsN]) (fun w hs => hs.none)
                                              · refine go_region ⟨_, Tryz.func173⟩ rfl ?_; refine q0 rfl (o_eqI ?_); refine q0 rfl (o_assign ?_); refine rg_nil ?_; refine go_condI (fun h23 => ?_) (fun h23 => ?_)
                                                · refine go_seq ?_; refine go_region ⟨_, Tryz.func173⟩ rfl ?_; refine q0 rfl (o_assign ?_); refine rg_nil ?_; refine ret1 Tryz.func173 Tryz.results173 wn_ () (by simp_all [kidsN]) (fun w hs => hs.none)
                                                · refine go_seq ?_; refine go_seq ?_; refine go_region ⟨_, Tryz.func173⟩ rfl ?_; refine q0 rfl (o_eqI ?_); refine q0 rfl (o_assign ?_); refine rg_nil ?_; refine go_condI (fun h31 => ?_) (fun h31 => ?_)
                                                  · refine go_skip ?_; refine go_condT ?_; refine go_seq ?_; refine go_region ⟨_, Tryz.func173⟩ rfl ?_; refine q0 rfl (o_assign ?_); refine rg_nil ?_; refine ret1 Tryz.func173 Tryz.results173 wn_ () (by simp_all [kidsN]) (fun w hs => hs.none)
                                                  · refine go_region ⟨_, Tryz.func173⟩ rfl ?_; refine q0 rfl (o_eqI ?_); refine q0 rfl (o_assign ?_); refine rg_nil ?_; refine go_condI (fun h31 => ?_) (fun h31 => ?_)
                                                    · refine go_seq ?_; refine go_region ⟨_, Tryz.func173⟩ rfl ?_; refine q0 rfl (o_assign ?_); refine rg_nil ?_; refine ret1 Tryz.func173 Tryz.results173 wn_ () (by simp_all [kidsN]) (fun w hs => hs.none)
                                                    · refine go_seq ?_; refine go_region ⟨_, Tryz.func173⟩ rfl ?_; refine q0 rfl (o_eqI ?_); refine q0 rfl (o_assign ?_); refine rg_nil ?_; refine go_condI (fun h34 => ?_) (fun h34 => ?_)
                                                      · refine go_seq ?_; refine go_region ⟨_, Tryz.func173⟩ rfl ?_; refine q0 rfl (o_assign ?_); refine rg_nil ?_; refine ret1 Tryz.func173 Tryz.results173 wn_ () (by simp_all [kidsN]) (fun w hs => hs.none)
                                                      · refine go_seq ?_; refine go_region ⟨_, Tryz.func173⟩ rfl ?_; refine q0 rfl (o_eqI ?_); refine q0 rfl (o_assign ?_); refine rg_nil ?_; refine go_condI (fun h36 => ?_) (fun h36 => ?_)
                                                        · refine go_seq ?_; refine go_region ⟨_, Tryz.func173⟩ rfl ?_; refine q0 rfl (o_assign ?_); refine rg_nil ?_; refine ret1 Tryz.func173 Tryz.results173 wn_ () (by simp_all [kidsN]) (fun w hs => hs.none)
                                                        · refine go_skip ?_; refine go_inBlock ?_; refine go_seq ?_; refine go_region ⟨_, Tryz.func173⟩ rfl ?_; refine q0 rfl (o_assign ?_); refine rg_nil ?_; refine ret1 Tryz.func173 Tryz.results173 wn_ () (by simp_all [kidsN]) (fun w hs => hs.none)
theorem parts_spec (k : Int) : Spec Tryz.prog 172 #[.int .i64 k] [] [] (fun _ : Unit => .int .i64 (partsN k)) (fun _ => []) (fun _ => []) := by
  refine spec_go (args := [.int .i64 k]) Tryz.func172 Tryz.ntmps172 rfl (by exact Nat.le_of_ble_eq_true rfl) fun B hB => ?_
  refine go_seq ?_; refine go_region ⟨_, Tryz.func172⟩ rfl ?_; refine q0 rfl (o_assign ?_); refine rg_nil ?_; refine go_seq ?_; refine go_seq ?_; refine go_region ⟨_, Tryz.func172⟩ rfl ?_; refine q0 rfl (o_move ?_); refine rg_nil ?_; refine go_block ?_; refine go_seq ?_; refine go_seq ?_; refine go_region ⟨_, Tryz.func172⟩ rfl ?_; refine q0 rfl (o_eqI ?_); refine q0 rfl (o_assign ?_); refine rg_nil ?_; refine go_condI (fun h4 => ?_) (fun h4 => ?_)
  · refine go_skip ?_; refine go_condT ?_; refine go_seq ?_; refine go_region ⟨_, Tryz.func172⟩ rfl ?_; refine q0 rfl (o_assign ?_); refine rg_nil ?_; refine ret1 Tryz.func172 Tryz.results172 wn_ () (by simp_all [partsN]) (fun w hs => hs.none)
  · refine go_seq ?_; refine go_region ⟨_, Tryz.func172⟩ rfl ?_; refine q0 rfl (o_eqI ?_); refine q0 rfl (o_assign ?_); refine rg_nil ?_; refine go_condI (fun h4 => ?_) (fun h4 => ?_)
    · refine go_skip ?_; refine go_condT ?_; refine go_seq ?_; refine go_region ⟨_, Tryz.func172⟩ rfl ?_; refine q0 rfl (o_assign ?_); refine rg_nil ?_; refine ret1 Tryz.func172 Tryz.results172 wn_ () (by simp_all [partsN]) (fun w hs => hs.none)
    · refine go_region ⟨_, Tryz.func172⟩ rfl ?_; refine q0 rfl (o_eqI ?_); refine q0 rfl (o_assign ?_); refine rg_nil ?_; refine go_condI (fun h4 => ?_) (fun h4 => ?_)
      · refine go_seq ?_; refine go_region ⟨_, Tryz.func172⟩ rfl ?_; refine q0 rfl (o_assign ?_); refine rg_nil ?_; refine ret1 Tryz.func172 Tryz.results172 wn_ () (by simp_all [partsN]) (fun w hs => hs.none)
      · refine go_seq ?_; refine go_region ⟨_, Tryz.func172⟩ rfl ?_; refine q0 rfl (o_eqI ?_); refine q0 rfl (o_assign ?_); refine rg_nil ?_; refine go_condI (fun h8 => ?_) (fun h8 => ?_)
        · refine go_seq ?_; refine go_region ⟨_, Tryz.func172⟩ rfl ?_; refine q0 rfl (o_assign ?_); refine rg_nil ?_; refine ret1 Tryz.func172 Tryz.results172 wn_ () (by simp_all [partsN]) (fun w hs => hs.none)
        · refine go_skip ?_; refine go_inBlock ?_; refine go_seq ?_; refine go_region ⟨_, Tryz.func172⟩ rfl ?_; refine q0 rfl (o_assign ?_); refine rg_nil ?_; refine ret1 Tryz.func172 Tryz.results172 wn_ () (by simp_all [partsN]) (fun w hs => hs.none)
end Go.Hy
namespace Go.Hy
open Go.Proofs
set_option maxRecDepth 100000
/-- What goes through all parts. -/
theorem each_all (t : T) (vr vk vs : SH) (c : FuncId) (cap : List Value) (FΓ : List Fact) (SM : Nat → List Res)
    (hc : ∀ (args : Array Value) (w : World), (callFunc c args).run Tryz.prog w = .ok (.enter c args) w)
    (hcl : ∀ m k v d, (parts t)[m]? = some (k, v, d) → ∀ vr vk vs, Spec Tryz.prog c (.agg (tc k vr vk vs).toArray :: .int .i64 v :: .int .i64 d :: cap).toArray (RT k vr vk vs :: FΓ) (SM m) (fun _ : Unit => .bool true) (fun _ => []) (fun _ => SM (m + 1))) :
    Spec Tryz.prog 98 #[.agg (tc t vr vk vs).toArray, .func (.func c) #[] cap.toArray] (RT t vr vk vs :: FΓ) (SM 0) (fun _ : Unit => .bool true) (fun _ => []) (fun _ => SM (parts t).length) := by
  have h := each_spec t vr vk vs c cap FΓ SM SM (fun _ => true) hc (fun m k v d hm _ vr vk vs => by simpa using hcl m k v d hm vr vk vs); have hf : ∀ n, ff (fun _ => true) n = n := fun n => ff_all (fun _ _ => rfl)
  simpa [hf] using h
theorem Int.ofNat_max' (a b : Nat) : ((max a b : Nat) : Int) = if (b : Int) > (a : Int) then (b : Int) else (a : Int) := by
  split <;> omega
theorem size1_walk (k : T) (vr vk vs : SH) (b a : Nat) (v d : Int) (ha : a + size k ≤ 1152921504606846976) (ih : ∀ vr vk vs, Spec Tryz.prog 127 #[.agg (tc k vr vk vs).toArray] [RT k vr vk vs] [] (fun _ : Unit => .int .i64 (size k : Int)) (fun _ => []) (fun _ => [])) : Spec Tryz.prog 190 #[.agg (tc k vr vk vs).toArray, .int .i64 v, .int .i64 d, .pointer (some ⟨b, 0, none⟩)] [RT k vr vk vs] [boxR b [.int .i64 (a : Int)] 3] (fun _ : Unit => .bool true) (fun _ => []) (fun _ => [boxR b [.int .i64 ((a + size k : Nat) : Int)] 3]) := by
  refine spec_go (args := [.agg (tc k vr vk vs).toArray, .int .i64 v, .int .i64 d, .pointer (some ⟨b, 0, none⟩)]) Tryz.func190 Tryz.ntmps190 rfl (by exact Nat.le_of_ble_eq_true rfl) fun B hB => ?_
  refine go_seq ?_; refine go_region ⟨_, Tryz.func190⟩ rfl ?_; refine q0 rfl (o_box fun b4 => ?_); refine q0 rfl (o_assign ?_); refine rg_nil ?_; refine go_seq ?_; refine go_draw (pn := 1000000) (tn := false) (A := [0, 0, 2, 7, 15]) (l := [0, 1, 2, 3]) (fin := [4]) Tab.mixed ⟨_, Tryz.func190⟩ (by rfl) ?_; refine n0 rfl (v_ld ?_); refine n0 rfl (v_lds ?_); refine n0 rfl (v_call Tryz.call127 (ih vr vk vs) (fun x10 => ?_)); refine n0 rfl (v_add ?_); refine NV.done ?_; refine q0 rfl (o_stc ?_); refine rg_nil ?_; refine go_seq ?_; refine go_region ⟨_, Tryz.func190⟩ rfl ?_; refine q0 rfl (o_assign ?_); refine rg_nil ?_; refine ret1 Tryz.func190 Tryz.results190 wn_ () rfl (fun w hs => (hs.less (by simp)).dropR (A := [_]))
theorem size_walk (t : T) (vr vk vs : SH) (hsz : size t ≤ 1152921504606846976) (ih : ∀ p, p ∈ parts t → size p.1 ≤ 1152921504606846976 → ∀ vr vk vs, Spec Tryz.prog 127 #[.agg (tc p.1 vr vk vs).toArray] [RT p.1 vr vk vs] [] (fun _ : Unit => .int .i64 (size p.1 : Int)) (fun _ => []) (fun _ => [])) : Spec Tryz.prog 127 #[.agg (tc t vr vk vs).toArray] [RT t vr vk vs] [] (fun _ : Unit => .int .i64 (size t : Int)) (fun _ => []) (fun _ => []) := by
  refine spec_go (args := [.agg (tc t vr vk vs).toArray]) Tryz.func127 Tryz.ntmps127 rfl (by exact Nat.le_of_ble_eq_true rfl) fun B hB => ?_
  have hds := depth_le_size t; have hdu := depthUpto_le t (parts t).length; refine go_seq ?_; refine go_region ⟨_, Tryz.func127⟩ rfl ?_; refine q0 rfl (o_box fun b1 => ?_); refine q0 rfl (o_assign ?_); refine rg_nil ?_; refine go_seq ?_; refine go_region ⟨_, Tryz.func127⟩ rfl ?_; refine q0 rfl (o_new fun b3 => ?_); refine q0 rfl (o_st ?_); refine rg_nil ?_; refine go_seq ?_; refine go_region ⟨_, Tryz.func127⟩ rfl ?_; refine q0 rfl (o_lds ?_); refine q0 rfl (o_func ?_); have hE := each_all t vr vk vs 190 [.pointer (some ⟨b3, 0, none⟩)] [] (fun m => [boxR b3 [.int .i64 (sizeUpto t m : Int)] 3]) Tryz.call190 (fun m k v d hm vr vk vs => (by have hx := size_part hm; have hy := depth_le_size k; have hz := depthUpto_le t m; have := size1_walk k vr vk vs b3 (sizeUpto t m) v d (by simp only at hx; omega) (ih _ (parts_mem hm) (by omega)); simpa only [sizeUpto_succ hm] using this)); simp only [sizeUpto_zero, sizeUpto_all] at hE; refine q0 rfl (o_call Tryz.call98 (hE) (fun x6 => ?_)); refine rg_nil ?_; refine go_seq ?_; refine go_region ⟨_, Tryz.func127⟩ rfl ?_; refine q0 rfl (o_ld ?_); refine q0 rfl (o_assign ?_); refine rg_nil ?_; refine ret1 Tryz.func127 Tryz.results127 wn_ () rfl (fun w hs => hs.none)
theorem size_spec : ∀ (t : T), size t ≤ 1152921504606846976 → ∀ vr vk vs, Spec Tryz.prog 127 #[.agg (tc t vr vk vs).toArray] [RT t vr vk vs] [] (fun _ : Unit => .int .i64 (size t : Int)) (fun _ => []) (fun _ => []) :=
  T.ind fun t ih hsz vr vk vs => size_walk t vr vk vs hsz ih
theorem depth1_walk (k : T) (vr vk vs : SH) (b a : Nat) (v d : Int) (ih : ∀ vr vk vs, Spec Tryz.prog 131 #[.agg (tc k vr vk vs).toArray] [RT k vr vk vs] [] (fun _ : Unit => .int .i64 (depth k : Int)) (fun _ => []) (fun _ => [])) : Spec Tryz.prog 192 #[.agg (tc k vr vk vs).toArray, .int .i64 v, .int .i64 d, .pointer (some ⟨b, 0, none⟩)] [RT k vr vk vs] [boxR b [.int .i64 (a : Int)] 3] (fun _ : Unit => .bool true) (fun _ => []) (fun _ => [boxR b [.int .i64 ((max a (depth k) : Nat) : Int)] 3]) := by
  refine spec_go (args := [.agg (tc k vr vk vs).toArray, .int .i64 v, .int .i64 d, .pointer (some ⟨b, 0, none⟩)]) Tryz.func192 Tryz.ntmps192 rfl (by exact Nat.le_of_ble_eq_true rfl) fun B hB => ?_
  refine go_seq ?_; refine go_region ⟨_, Tryz.func192⟩ rfl ?_; refine q0 rfl (o_box fun b4 => ?_); refine q0 rfl (o_assign ?_); refine rg_nil ?_; refine go_seq ?_; refine go_draw (pn := 1000000) (tn := false) (A := [0, 0, 2, 7, 15]) (l := [0, 1, 2, 3]) (fin := [4]) Tab.mixed ⟨_, Tryz.func192⟩ (by rfl) ?_; refine n0 rfl (v_ld ?_); refine n0 rfl (v_lds ?_); refine n0 rfl (v_call Tryz.call131 (ih vr vk vs) (fun x10 => ?_)); refine n0 rfl (v_max ?_); refine NV.done ?_; refine q0 rfl (o_stc ?_); refine rg_nil ?_; refine go_seq ?_; refine go_region ⟨_, Tryz.func192⟩ rfl ?_; refine q0 rfl (o_assign ?_); refine rg_nil ?_; refine ret1 Tryz.func192 Tryz.results192 wn_ () rfl (fun w hs => by rw [Int.ofNat_max']; exact (hs.less (by simp)).dropR (A := [_]))
theorem depth_walk (t : T) (vr vk vs : SH) (hsz : size t ≤ 1152921504606846976) (ih : ∀ p, p ∈ parts t → size p.1 ≤ 1152921504606846976 → ∀ vr vk vs, Spec Tryz.prog 131 #[.agg (tc p.1 vr vk vs).toArray] [RT p.1 vr vk vs] [] (fun _ : Unit => .int .i64 (depth p.1 : Int)) (fun _ => []) (fun _ => [])) : Spec Tryz.prog 131 #[.agg (tc t vr vk vs).toArray] [RT t vr vk vs] [] (fun _ : Unit => .int .i64 (depth t : Int)) (fun _ => []) (fun _ => []) := by
  refine spec_go (args := [.agg (tc t vr vk vs).toArray]) Tryz.func131 Tryz.ntmps131 rfl (by exact Nat.le_of_ble_eq_true rfl) fun B hB => ?_
  have hds := depth_le_size t; have hdu := depthUpto_le t (parts t).length; refine go_seq ?_; refine go_region ⟨_, Tryz.func131⟩ rfl ?_; refine q0 rfl (o_box fun b1 => ?_); refine q0 rfl (o_assign ?_); refine rg_nil ?_; refine go_seq ?_; refine go_region ⟨_, Tryz.func131⟩ rfl ?_; refine q0 rfl (o_new fun b3 => ?_); refine q0 rfl (o_st ?_); refine rg_nil ?_; refine go_seq ?_; refine go_region ⟨_, Tryz.func131⟩ rfl ?_; refine q0 rfl (o_lds ?_); refine q0 rfl (o_func ?_); have hE := each_all t vr vk vs 192 [.pointer (some ⟨b3, 0, none⟩)] [] (fun m => [boxR b3 [.int .i64 (depthUpto t m : Int)] 3]) Tryz.call192 (fun m k v d hm vr vk vs => (by have hx := size_part hm; have hy := depth_le_size k; have hz := depthUpto_le t m; have := depth1_walk k vr vk vs b3 (depthUpto t m) v d (ih _ (parts_mem hm) (by omega)); simpa only [depthUpto_succ hm] using this)); simp only [depthUpto_zero] at hE; refine q0 rfl (o_call Tryz.call98 (hE) (fun x6 => ?_)); refine rg_nil ?_; refine go_seq ?_; refine go_region ⟨_, Tryz.func131⟩ rfl ?_; refine q0 rfl (o_ld ?_); refine q0 rfl (o_add ?_); refine q0 rfl (o_assign ?_); refine rg_nil ?_; refine ret1 Tryz.func131 Tryz.results131 wn_ () (by rw [← depthUpto_all t]; rfl) (fun w hs => hs.none)
theorem depth_spec : ∀ (t : T), size t ≤ 1152921504606846976 → ∀ vr vk vs, Spec Tryz.prog 131 #[.agg (tc t vr vk vs).toArray] [RT t vr vk vs] [] (fun _ : Unit => .int .i64 (depth t : Int)) (fun _ => []) (fun _ => []) :=
  T.ind fun t ih hsz vr vk vs => depth_walk t vr vk vs hsz ih
end Go.Hy
namespace Go.Hy
open Go.Proofs
set_option maxRecDepth 100000
/-- A test of all parts. -/
theorem each_bool (t : T) (vr vk vs : SH) (c : FuncId) (cap : List Value) (FΓ : List Fact) (M : List Res) (g : Part → Bool)
    (hc : ∀ (args : Array Value) (w : World), (callFunc c args).run Tryz.prog w = .ok (.enter c args) w)
    (hcl : ∀ k v d, (k, v, d) ∈ parts t → ∀ vr vk vs, Spec Tryz.prog c (.agg (tc k vr vk vs).toArray :: .int .i64 v :: .int .i64 d :: cap).toArray (RT k vr vk vs :: FΓ) M (fun _ : Unit => .bool (g (k, v, d))) (fun _ => []) (fun _ => M)) :
    Spec Tryz.prog 98 #[.agg (tc t vr vk vs).toArray, .func (.func c) #[] cap.toArray] (RT t vr vk vs :: FΓ) M (fun _ : Unit => .bool ((parts t).all g)) (fun _ => []) (fun _ => M) := by
  have h := each_spec t vr vk vs c cap FΓ (fun _ => M) (fun _ => M) (atPart t g) hc (fun m k v d hm _ vr vk vs => by simpa [atPart_some hm] using hcl k v d (parts_mem hm) vr vk vs); rw [ff_parts] at h; simpa using h
abbrev ShallowAt (t : T) : Prop := ∀ (left : Int) vr vk vs, in64 left → Spec Tryz.prog 162 #[.agg (tc t vr vk vs).toArray, .int .i64 left] [RT t vr vk vs] [] (fun _ : Unit => .bool (decide ((depth t : Int) ≤ left))) (fun _ => []) (fun _ => [])
theorem shallow1_walk (k : T) (vr vk vs : SH) (b : Nat) (left v d : Int) (h0 : 0 < left) (hl : in64 left) (ih : ShallowAt k) : Spec Tryz.prog 215 #[.agg (tc k vr vk vs).toArray, .int .i64 v, .int .i64 d, .pointer (some ⟨b, 0, none⟩)] [RT k vr vk vs] [boxR b [.int .i64 left] 3] (fun _ : Unit => .bool (decide ((depth k : Int) ≤ left - 1))) (fun _ => []) (fun _ => [boxR b [.int .i64 left] 3]) := by
  refine spec_go (args := [.agg (tc k vr vk vs).toArray, .int .i64 v, .int .i64 d, .pointer (some ⟨b, 0, none⟩)]) Tryz.func215 Tryz.ntmps215 rfl (by exact Nat.le_of_ble_eq_true rfl) fun B hB => ?_
  refine go_seq ?_; refine go_region ⟨_, Tryz.func215⟩ rfl ?_; refine q0 rfl (o_box fun b4 => ?_); refine q0 rfl (o_assign ?_); refine rg_nil ?_; refine go_seq ?_; refine go_region ⟨_, Tryz.func215⟩ rfl ?_; refine q0 rfl (o_lds ?_); refine q0 rfl (o_ld ?_); refine q0 rfl (o_sub ?_); refine q0 rfl (o_call Tryz.call162 (ih (left - 1) vr vk vs (by unfold in64 at *; omega)) (fun x11 => ?_)); refine q0 rfl (o_assign ?_); refine rg_nil ?_; refine ret1 Tryz.func215 Tryz.results215 wn_ () rfl (fun w hs => (hs.less (by simp)).drop)
theorem shallow_walk (t : T) (ih : ∀ p, p ∈ parts t → ShallowAt p.1) (left : Int) (vr vk vs : SH) (hl : in64 left) : Spec Tryz.prog 162 #[.agg (tc t vr vk vs).toArray, .int .i64 left] [RT t vr vk vs] [] (fun _ : Unit => .bool (decide ((depth t : Int) ≤ left))) (fun _ => []) (fun _ => []) := by
  refine spec_go (args := [.agg (tc t vr vk vs).toArray, .int .i64 left]) Tryz.func162 Tryz.ntmps162 rfl (by exact Nat.le_of_ble_eq_true rfl) fun B hB => ?_
  refine go_seq ?_; refine go_region ⟨_, Tryz.func162⟩ rfl ?_; refine q0 rfl (o_box fun b2 => ?_); refine q0 rfl (o_box fun b3 => ?_); refine q0 rfl (o_assign ?_); refine rg_nil ?_; refine go_seq ?_; refine go_region ⟨_, Tryz.func162⟩ rfl ?_; refine q0 rfl (o_ld ?_); refine q0 rfl (o_gtr ?_); refine q0 rfl (o_move ?_); refine qI rfl rfl rfl wl_ (fun hg7 => o_lds ?_) (fun hg7 => ?_)
  · refine qT rfl rfl rfl (o_func ?_); have h0 : 0 < left := of_decide_eq_true hg7; have hE := each_bool t vr vk vs 215 [.pointer (some ⟨b3, 0, none⟩)] [] [boxR b3 [.int .i64 left] 3] (fun p => decide ((depth p.1 : Int) ≤ left - 1)) Tryz.call215 (fun k v d hm vr vk vs => shallow1_walk k vr vk vs b3 left v d h0 hl (ih _ hm)); rw [← depth_int t left h0] at hE; refine qT rfl rfl rfl (o_call Tryz.call98 (hE) (fun x10 => ?_)); refine q0 rfl (o_pickT ?_); refine q0 rfl (o_assign ?_); refine rg_nil ?_; refine ret1 Tryz.func162 Tryz.results162 wn_ () rfl (fun w hs => hs.none)
  · refine qF rfl rfl rfl ?_; refine qF rfl rfl rfl ?_; refine q0 rfl (o_pickF ?_); refine q0 rfl (o_assign ?_); refine rg_nil ?_; have h0 : ¬ 0 < left := of_decide_eq_false hg7; have hp := depth_pos t; refine ret1 Tryz.func162 Tryz.results162 wn_ () (by rw [decide_eq_false (by omega)]) (fun w hs => hs.none)
theorem shallow_spec : ∀ t : T, ShallowAt t := T.ind fun t ih left vr vk vs hl => shallow_walk t ih left vr vk vs hl
/-- What is left of a number of nodes. -/
def leftOf (t : T) (m : Int) : Int := if (size t : Int) ≤ m then m - size t else -1
abbrev CountCap (b bc : Nat) : List Value := [.pointer (some ⟨b, 0, none⟩), .pointer (some ⟨bc, 0, none⟩)]
abbrev CountM (b bc : Nat) (m : Int) : List Res := [boxR b [.int .i64 m] 3, boxR bc [.func (.func 216) #[] (CountCap b bc).toArray] 63]
abbrev CountAt (t : T) : Prop := ∀ (m : Int) b bc vr vk vs, 0 ≤ m → in64 m → Spec Tryz.prog 216 #[.agg (tc t vr vk vs).toArray, .pointer (some ⟨b, 0, none⟩), .pointer (some ⟨bc, 0, none⟩)] [RT t vr vk vs] (CountM b bc m) (fun _ : Unit => .bool (decide ((size t : Int) ≤ m))) (fun _ => []) (fun _ => CountM b bc (leftOf t m))
theorem small11_walk (k : T) (vr vk vs : SH) (b bc : Nat) (m v d : Int) (h0 : 0 ≤ m) (hl : in64 m) (ih : CountAt k) : Spec Tryz.prog 217 #[.agg (tc k vr vk vs).toArray, .int .i64 v, .int .i64 d, .pointer (some ⟨bc, 0, none⟩)] [RT k vr vk vs] (CountM b bc m) (fun _ : Unit => .bool (decide ((size k : Int) ≤ m))) (fun _ => []) (fun _ => CountM b bc (leftOf k m)) := by
  refine spec_go (args := [.agg (tc k vr vk vs).toArray, .int .i64 v, .int .i64 d, .pointer (some ⟨bc, 0, none⟩)]) Tryz.func217 Tryz.ntmps217 rfl (by exact Nat.le_of_ble_eq_true rfl) fun B hB => ?_
  refine go_seq ?_; refine go_region ⟨_, Tryz.func217⟩ rfl ?_; refine q0 rfl (o_box fun b4 => ?_); refine q0 rfl (o_assign ?_); refine rg_nil ?_; refine go_seq ?_; refine go_region ⟨_, Tryz.func217⟩ rfl ?_; refine q0 rfl (o_ld ?_); refine q0 rfl (o_lds ?_); refine q0 rfl (o_callC Tryz.call216 (ih m b bc vr vk vs h0 hl) (cap := CountCap b bc) (fun x10 => ?_)); refine q0 rfl (o_assign ?_); refine rg_nil ?_; refine ret1 Tryz.func217 Tryz.results217 wn_ () rfl (fun w hs => (hs.less (by simp)).dropR (A := CountM b bc (leftOf k m)))
theorem count_each (t : T) (ih : ∀ p, p ∈ parts t → CountAt p.1) (m : Int) (b bc : Nat) (vr vk vs : SH) (h0 : 0 < m) (hl : in64 m) :
    Spec Tryz.prog 98 #[.agg (tc t vr vk vs).toArray, .func (.func 217) #[] #[.pointer (some ⟨bc, 0, none⟩)]] [RT t vr vk vs] (CountM b bc (m - 1)) (fun _ : Unit => .bool (decide ((size t : Int) ≤ m))) (fun _ => []) (fun _ => CountM b bc (leftOf t m)) := by
  have h := each_spec t vr vk vs 217 [.pointer (some ⟨bc, 0, none⟩)] [] (fun j => CountM b bc (if (sizeUpto t j : Int) ≤ m then m - sizeUpto t j else -1)) (fun _ => CountM b bc (-1)) (fun j => decide ((sizeUpto t (j + 1) : Int) ≤ m)) Tryz.call217 ?_
  · have hall : (ff (fun j => decide ((sizeUpto t (j + 1) : Int) ≤ m)) (parts t).length == (parts t).length) = decide ((size t : Int) ≤ m) := by
      rw [Bool.eq_iff_iff, beq_iff_eq, ff_eq_iff, decide_eq_true_iff]; constructor
      · intro h; cases hn : (parts t).length with
        | zero => have := sizeUpto_all t; rw [hn, sizeUpto_zero] at this; omega
        | succ n =>
          have := h n (by omega); rw [← hn, sizeUpto_all] at this; exact of_decide_eq_true this
      · intro h j hj; have := sizeUpto_le t (j + 1); exact decide_eq_true (by omega)
    simp only [hall, sizeUpto_zero, sizeUpto_all, beq_iff_eq] at h; rw [if_pos (by omega)] at h; by_cases hs : (size t : Int) ≤ m
    · have e : ff (fun j => decide ((sizeUpto t (j + 1) : Int) ≤ m)) (parts t).length = (parts t).length := by rw [← beq_iff_eq, hall]; exact decide_eq_true hs
      simp only [e, if_true, if_pos hs] at h; unfold leftOf; rw [if_pos hs]; exact h
    · have e : ¬ ff (fun j => decide ((sizeUpto t (j + 1) : Int) ≤ m)) (parts t).length = (parts t).length := by rw [← beq_iff_eq, hall]; simpa using hs
      simp only [if_neg e] at h; unfold leftOf; rw [if_neg hs]; exact h
  · intro j k v d hm hβ vr vk vs; have hs := sizeUpto_succ hm; simp only at hs; have hp := size_pos k
    have hj : (sizeUpto t j : Int) ≤ m := by
      cases j with
      | zero => rw [sizeUpto_zero]; omega
      | succ j => exact of_decide_eq_true (hβ j (by omega))
    have := small11_walk k vr vk vs b bc (m - sizeUpto t j) v d (by omega) (by unfold in64 at *; omega) (ih _ (parts_mem hm)); rw [if_pos hj]; have e1 : decide ((size k : Int) ≤ m - sizeUpto t j) = decide ((sizeUpto t (j + 1) : Int) ≤ m) := by rw [hs]; congr 1; apply propext; omega
    rw [e1] at this
    have e2 : CountM b bc (leftOf k (m - sizeUpto t j)) = if decide ((sizeUpto t (j + 1) : Int) ≤ m) = true then CountM b bc (if (sizeUpto t (j + 1) : Int) ≤ m then m - sizeUpto t (j + 1) else -1) else CountM b bc (-1) := by
      unfold leftOf; by_cases hk : (sizeUpto t (j + 1) : Int) ≤ m
      · rw [if_pos (by omega), if_pos (decide_eq_true hk), if_pos hk, hs]; congr 1; omega
      · rw [if_neg (by omega), if_neg (by simpa using hk)]
    rw [e2] at this; exact this
theorem small1_walk (t : T) (ih : ∀ p, p ∈ parts t → CountAt p.1) (m : Int) (b bc : Nat) (vr vk vs : SH) (h0 : 0 ≤ m) (hl : in64 m) : Spec Tryz.prog 216 #[.agg (tc t vr vk vs).toArray, .pointer (some ⟨b, 0, none⟩), .pointer (some ⟨bc, 0, none⟩)] [RT t vr vk vs] (CountM b bc m) (fun _ : Unit => .bool (decide ((size t : Int) ≤ m))) (fun _ => []) (fun _ => CountM b bc (leftOf t m)) := by
  refine spec_go (args := [.agg (tc t vr vk vs).toArray, .pointer (some ⟨b, 0, none⟩), .pointer (some ⟨bc, 0, none⟩)]) Tryz.func216 Tryz.ntmps216 rfl (by exact Nat.le_of_ble_eq_true rfl) fun B hB => ?_
  refine go_seq ?_; refine go_region ⟨_, Tryz.func216⟩ rfl ?_; refine q0 rfl (o_box fun b3 => ?_); refine q0 rfl (o_assign ?_); refine rg_nil ?_; refine go_seq ?_; refine go_region ⟨_, Tryz.func216⟩ rfl ?_; refine q0 rfl (o_ld ?_); refine q0 rfl (o_sub ?_); refine q0 rfl (o_stc ?_); refine rg_nil ?_; refine go_seq ?_; refine go_region ⟨_, Tryz.func216⟩ rfl ?_; refine q0 rfl (o_ld ?_); refine q0 rfl (o_geq ?_); refine q0 rfl (o_move ?_); refine qI rfl rfl rfl wl_ (fun hg9 => o_lds ?_) (fun hg9 => ?_)
  · refine qT rfl rfl rfl (o_func ?_); have h1 : 0 ≤ m - 1 := of_decide_eq_true hg9; have hE := count_each t ih m b bc vr vk vs (by omega) hl; refine qT rfl rfl rfl (o_call Tryz.call98 (hE) (fun x12 => ?_) (hm := (List.Perm.swap _ _ _).cons _)); refine q0 rfl (o_pickT ?_); refine q0 rfl (o_assign ?_); refine rg_nil ?_; refine ret1 Tryz.func216 Tryz.results216 wn_ () rfl (fun w hs => (hs.less (by simp)).dropR (A := CountM b bc (leftOf t m)))
  · refine qF rfl rfl rfl ?_; refine qF rfl rfl rfl ?_; refine q0 rfl (o_pickF ?_); refine q0 rfl (o_assign ?_); refine rg_nil ?_; have h1 : ¬ 0 ≤ m - 1 := of_decide_eq_false hg9; have hp := size_pos t; refine ret1 Tryz.func216 Tryz.results216 wn_ () (by rw [decide_eq_false (by omega)]) (fun w hs => by rw [leftOf, if_neg (by omega), show (-1 : Int) = m - 1 by omega]; exact ((hs.less (Γ' := []) (by simp)).perm ((List.Perm.swap _ _ _).cons _)).dropR (A := CountM b bc (m - 1)))
theorem count_spec : ∀ t : T, CountAt t := T.ind fun t ih m b bc vr vk vs h0 hl => small1_walk t ih m b bc vr vk vs h0 hl
end Go.Hy
namespace Go.Hy
open Go.Proofs
set_option maxRecDepth 100000
def FRight : Prop := ∀ (l : List Cl) (a : SH), Spec Tryz.prog 137 #[sl a l.length] [CL l a] [] (fun _ : Unit => .bool (fRight l)) (fun _ => []) (fun _ => [])
def FaceRight : Prop := ∀ (l : List Cl) (a : SH), Spec Tryz.prog 88 #[sl a l.length] [CL l a] [] (fun _ : Unit => .bool (faceRight l)) (fun _ => []) (fun _ => [])
def FDims : Prop := ∀ (l : List Cl) (a : SH), Spec Tryz.prog 97 #[sl a l.length] [CL l a] [] (fun _ : Unit => .int .u32 (fDims l : Int)) (fun _ => []) (fun _ => [])
def FORM : Prop := FRight ∧ FaceRight ∧ FDims
end Go.Hy
namespace Go.Hy
open Go.Proofs
set_option maxRecDepth 100000
theorem small_spec (t : T) (vr vk vs : SH) (most : Int) (h0 : 0 ≤ most) (hl : in64 most) : Spec Tryz.prog 163 #[.agg (tc t vr vk vs).toArray, .int .i64 most] [RT t vr vk vs] [] (fun _ : Unit => .bool (decide ((size t : Int) ≤ most))) (fun _ => []) (fun _ => []) := by
  refine spec_go (args := [.agg (tc t vr vk vs).toArray, .int .i64 most]) Tryz.func163 Tryz.ntmps163 rfl (by exact Nat.le_of_ble_eq_true rfl) fun B hB => ?_
  refine go_seq ?_; refine go_region ⟨_, Tryz.func163⟩ rfl ?_; refine q0 rfl (o_box fun b2 => ?_); refine q0 rfl (o_box fun b3 => ?_); refine q0 rfl (o_assign ?_); refine rg_nil ?_; refine go_seq ?_; refine go_region ⟨_, Tryz.func163⟩ rfl ?_; refine q0 rfl (o_new fun b5 => ?_); refine rg_nil ?_; refine go_seq ?_; refine go_region ⟨_, Tryz.func163⟩ rfl ?_; refine q0 rfl (o_func ?_); refine q0 rfl (o_st ?_); refine rg_nil ?_; refine go_seq ?_; refine go_region ⟨_, Tryz.func163⟩ rfl ?_; refine q0 rfl (o_ld ?_); refine q0 rfl (o_lds ?_); refine q0 rfl (o_callC Tryz.call216 (count_spec t most b3 b5 vr vk vs h0 hl) (cap := CountCap b3 b5) (fun x9 => ?_)); refine q0 rfl (o_assign ?_); refine rg_nil ?_; refine ret1 Tryz.func163 Tryz.results163 wn_ () rfl (fun w hs => hs.none)
theorem sized_spec (t : T) (vr vk vs : SH) : Spec Tryz.prog 85 #[.agg (tc t vr vk vs).toArray] [RT t vr vk vs] [] (fun _ : Unit => .int .i64 (sized t)) (fun _ => []) (fun _ => []) := by
  refine spec_go (args := [.agg (tc t vr vk vs).toArray]) Tryz.func85 Tryz.ntmps85 rfl (by exact Nat.le_of_ble_eq_true rfl) fun B hB => ?_
  refine go_seq ?_; refine go_region ⟨_, Tryz.func85⟩ rfl ?_; refine q0 rfl (o_box fun b1 => ?_); refine q0 rfl (o_assign ?_); refine rg_nil ?_; refine go_seq ?_; refine go_block ?_; refine go_seq ?_; refine go_region ⟨_, Tryz.func85⟩ rfl ?_; refine q0 rfl (o_lds ?_); refine q0 rfl (o_call Tryz.call162 (shallow_spec t 200 vr vk vs (by unfold in64; omega)) (fun x5 => ?_)); refine q0 rfl (o_not ?_); refine q0 rfl (o_assign ?_); refine rg_nil ?_; refine go_condI (fun h3 => ?_) (fun h3 => ?_)
  · refine go_seq ?_; refine go_region ⟨_, Tryz.func85⟩ rfl ?_; refine q0 rfl (o_assign ?_); refine rg_nil ?_; have h : 200 < depth t := by simp at h3; omega
    refine ret1 Tryz.func85 Tryz.results85 wn_ () (by rw [sized, if_pos h]) (fun w hs => hs.none)
  · refine go_seq ?_; refine go_region ⟨_, Tryz.func85⟩ rfl ?_; refine q0 rfl (o_lds ?_); refine q0 rfl (o_call Tryz.call163 (small_spec t vr vk vs 20000 (by omega) (by unfold in64; omega)) (fun x9 => ?_)); refine q0 rfl (o_not ?_); refine q0 rfl (o_assign ?_); refine rg_nil ?_; refine go_condI (fun h7 => ?_) (fun h7 => ?_)
    · refine go_seq ?_; refine go_region ⟨_, Tryz.func85⟩ rfl ?_; refine q0 rfl (o_assign ?_); refine rg_nil ?_; have h : ¬ 200 < depth t := by simp at h3; omega
      have h2 : 20000 < size t := by simp at h7; omega
      refine ret1 Tryz.func85 Tryz.results85 wn_ () (by rw [sized, if_neg h, if_pos h2]) (fun w hs => hs.none)
    · refine go_skip ?_; refine go_inBlock ?_; refine go_seq ?_; refine go_region ⟨_, Tryz.func85⟩ rfl ?_; refine q0 rfl (o_assign ?_); refine rg_nil ?_; have h : ¬ 200 < depth t := by simp at h3; omega
      have h2 : ¬ 20000 < size t := by simp at h7; omega
      refine ret1 Tryz.func85 Tryz.results85 wn_ () (by rw [sized, if_neg h, if_neg h2]) (fun w hs => hs.none)
theorem name_spec (s : ByteArray) (hs : s.size ≤ cap47) : Spec Tryz.prog 218 #[.string s] [] [] (fun _ : Unit => .bool (nameOK s)) (fun _ => []) (fun _ => []) := by
  refine spec_go (args := [.string s]) Tryz.func218 Tryz.ntmps218 rfl (by exact Nat.le_of_ble_eq_true rfl) fun B hB => ?_
  refine go_seq ?_; refine go_region ⟨_, Tryz.func218⟩ rfl ?_; refine q0 rfl (o_assign ?_); refine rg_nil ?_; refine go_seq ?_; refine go_seq ?_; refine go_region ⟨_, Tryz.func218⟩ rfl ?_; refine q0 rfl (o_move ?_); refine q0 rfl (o_lenStr ?_); refine q0 rfl (o_move ?_); refine rg_nil ?_; refine go_block ?_; refine go_loopI (X := Nat) (fun i => i ≤ s.size ∧ ∀ j, j < i → okAt s j = true) (fun i => [(0, .string s), (7, .int .i64 (s.size : Int)), (8, .int .i64 (i : Int))]) (fun i => []) (fun i => []) (fun i => s.size - i) (0) (⟨Nat.zero_le _, fun j hj => by omega⟩) (by exact ⟨rfl, rfl, rfl, trivial⟩) ?_ ?_
  · exact fun w hs => hs.none
  · intro i base0 ⟨hi, hok⟩ next0; refine go_seq ?_; refine go_region ⟨_, Tryz.func218⟩ rfl ?_; refine q0 rfl (o_lss ?_); refine rg_nil ?_; refine go_seq ?_; refine go_condI (fun h9 => ?_) (fun h9 => ?_)
    · have hlt : i < s.size := by have := of_decide_eq_true h9; omega
      obtain ⟨c, hc, hca⟩ := byte_at hlt; refine go_skip ?_; refine go_seq ?_; refine go_block ?_; refine go_seq ?_; refine go_region ⟨_, Tryz.func218⟩ rfl ?_; refine q0 rfl (o_move ?_); refine q0 rfl (o_assign ?_); refine rg_nil ?_; refine go_seq ?_; refine go_region ⟨_, Tryz.func218⟩ rfl ?_; refine q0 rfl (o_move ?_); refine q0 rfl (o_move ?_); refine q0 rfl (o_ixStr ?_); refine q0 rfl (o_assign ?_); refine rg_nil ?_; refine go_seq ?_; refine go_cutS ([(0, .string s), (3, .int .i64 (i : Int)), (4, .int .u8 c.toNat), (5, .bool (letter c.toNat)), (7, .int .i64 (s.size : Int)), (8, .int .i64 (i : Int))]) (fun hK => ?_) (fun base => ?_)
      · refine go_region ⟨_, Tryz.func218⟩ rfl ?_; refine q0 rfl (o_move ?_); refine q0 rfl (o_geq ?_); refine q0 rfl (o_move ?_); refine qI rfl rfl rfl wl_ (fun hg16 => o_move ?_) (fun hg16 => ?_)
        · refine qT rfl rfl rfl (o_leq ?_); refine q0 rfl (o_pickT ?_); refine q0 rfl (o_move ?_); refine qI rfl rfl rfl wl_ (fun hg20 => o_move ?_) (fun hg20 => ?_)
          · refine qT rfl rfl rfl (o_geq ?_); refine qT rfl rfl rfl (o_move ?_); refine qI rfl rfl rfl wl_ (fun hg23 => o_move ?_) (fun hg23 => ?_)
            · refine qT rfl rfl rfl (o_leq ?_); refine qT rfl rfl rfl (o_pickT ?_); refine q0 rfl (o_pickF ?_); refine q0 rfl (o_move ?_); refine qI rfl rfl rfl wl_ (fun hg28 => o_move ?_) (fun hg28 => ?_)
              · refine qT rfl rfl rfl (o_eqI ?_); refine q0 rfl (o_pickF ?_); refine q0 rfl (o_assign ?_); refine rg_nil ?_; exact hK _ ⟨rfl, rfl, rfl, (by (conv => lhs; whnf); first | (simp_all [letter]; done) | (simp_all [letter]; omega)), rfl, rfl, trivial⟩
              · refine qF rfl rfl rfl ?_; refine q0 rfl (o_pickT ?_); refine q0 rfl (o_assign ?_); refine rg_nil ?_; exact hK _ ⟨rfl, rfl, rfl, (by (conv => lhs; whnf); first | (simp_all [letter]; done) | (simp_all [letter]; omega)), rfl, rfl, trivial⟩
            · refine qF rfl rfl rfl ?_; refine qT rfl rfl rfl (o_pickF ?_); refine q0 rfl (o_pickF ?_); refine q0 rfl (o_move ?_); refine qT rfl rfl rfl (o_move ?_); refine qT rfl rfl rfl (o_eqI ?_); refine q0 rfl (o_pickF ?_); refine q0 rfl (o_assign ?_); refine rg_nil ?_; exact hK _ ⟨rfl, rfl, rfl, (by (conv => lhs; whnf); first | (simp_all [letter]; done) | (simp_all [letter]; omega)), rfl, rfl, trivial⟩
          · refine qF rfl rfl rfl ?_; refine qF rfl rfl rfl ?_; refine qU rfl rfl rfl ?_; refine qU rfl rfl rfl ?_; refine qF rfl rfl rfl ?_; refine q0 rfl (o_pickT ?_); refine q0 rfl (o_move ?_); refine qF rfl rfl rfl ?_; refine qF rfl rfl rfl ?_; refine q0 rfl (o_pickT ?_); refine q0 rfl (o_assign ?_); refine rg_nil ?_; exact hK _ ⟨rfl, rfl, rfl, (by (conv => lhs; whnf); first | (simp_all [letter]; done) | (simp_all [letter]; omega)), rfl, rfl, trivial⟩
        · refine qF rfl rfl rfl ?_; refine q0 rfl (o_pickF ?_); refine q0 rfl (o_move ?_); refine qT rfl rfl rfl (o_move ?_); refine qT rfl rfl rfl (o_geq ?_); refine qT rfl rfl rfl (o_move ?_); refine qI rfl rfl rfl wl_ (fun hg23 => o_move ?_) (fun hg23 => ?_)
          · refine qT rfl rfl rfl (o_leq ?_); refine qT rfl rfl rfl (o_pickT ?_); refine q0 rfl (o_pickF ?_); refine q0 rfl (o_move ?_); refine qI rfl rfl rfl wl_ (fun hg28 => o_move ?_) (fun hg28 => ?_)
            · refine qT rfl rfl rfl (o_eqI ?_); refine q0 rfl (o_pickF ?_); refine q0 rfl (o_assign ?_); refine rg_nil ?_; exact hK _ ⟨rfl, rfl, rfl, (by (conv => lhs; whnf); first | (simp_all [letter]; done) | (simp_all [letter]; omega)), rfl, rfl, trivial⟩
            · refine qF rfl rfl rfl ?_; refine q0 rfl (o_pickT ?_); refine q0 rfl (o_assign ?_); refine rg_nil ?_; exact hK _ ⟨rfl, rfl, rfl, (by (conv => lhs; whnf); first | (simp_all [letter]; done) | (simp_all [letter]; omega)), rfl, rfl, trivial⟩
          · refine qF rfl rfl rfl ?_; refine qT rfl rfl rfl (o_pickF ?_); refine q0 rfl (o_pickF ?_); refine q0 rfl (o_move ?_); refine qT rfl rfl rfl (o_move ?_); refine qT rfl rfl rfl (o_eqI ?_); refine q0 rfl (o_pickF ?_); refine q0 rfl (o_assign ?_); refine rg_nil ?_; exact hK _ ⟨rfl, rfl, rfl, (by (conv => lhs; whnf); first | (simp_all [letter]; done) | (simp_all [letter]; omega)), rfl, rfl, trivial⟩
      · refine go_seq ?_; refine go_cutS ([(0, .string s), (7, .int .i64 (s.size : Int)), (8, .int .i64 (i : Int)), (45, .bool (!(okAt s i)))]) (fun hK => ?_) (fun base => ?_)
        · refine go_region ⟨_, Tryz.func218⟩ rfl ?_; refine q0 rfl (o_move ?_); refine q0 rfl (o_not ?_); refine q0 rfl (o_move ?_); refine qI rfl rfl rfl wl_ (fun hg34 => o_move ?_) (fun hg34 => ?_)
          · refine qT rfl rfl rfl (o_eqI ?_); refine qT rfl rfl rfl (o_move ?_); refine qI rfl rfl rfl wl_ (fun hg37 => o_move ?_) (fun hg37 => ?_)
            · refine qT rfl rfl rfl (o_lss ?_); refine qT rfl rfl rfl (o_pickF ?_); refine qT rfl rfl rfl (o_move ?_); refine qI rfl rfl rfl wl_ (fun hg41 => o_move ?_) (fun hg41 => ?_)
              · refine qT rfl rfl rfl (o_gtr ?_); refine qT rfl rfl rfl (o_pickF ?_); refine q0 rfl (o_pickT ?_); refine rg_nil ?_; exact hK _ ⟨rfl, rfl, rfl, (by (conv => lhs; whnf); rw [hca]; first | (simp_all [digit]; done) | (simp_all [digit]; omega) | (simp_all [digit]; rw [← decide_not]; congr 1; apply propext; omega)), trivial⟩
              · refine qF rfl rfl rfl ?_; refine qT rfl rfl rfl (o_pickT ?_); refine q0 rfl (o_pickT ?_); refine rg_nil ?_; exact hK _ ⟨rfl, rfl, rfl, (by (conv => lhs; whnf); rw [hca]; first | (simp_all [digit]; done) | (simp_all [digit]; omega) | (simp_all [digit]; rw [← decide_not]; congr 1; apply propext; omega)), trivial⟩
            · refine qF rfl rfl rfl ?_; refine qT rfl rfl rfl (o_pickT ?_); refine qT rfl rfl rfl (o_move ?_); refine qF rfl rfl rfl ?_; refine qF rfl rfl rfl ?_; refine qT rfl rfl rfl (o_pickT ?_); refine q0 rfl (o_pickT ?_); refine rg_nil ?_; exact hK _ ⟨rfl, rfl, rfl, (by (conv => lhs; whnf); rw [hca]; first | (simp_all [digit]; done) | (simp_all [digit]; omega) | (simp_all [digit]; rw [← decide_not]; congr 1; apply propext; omega)), trivial⟩
          · refine qF rfl rfl rfl ?_; refine qF rfl rfl rfl ?_; refine qU rfl rfl rfl ?_; refine qU rfl rfl rfl ?_; refine qF rfl rfl rfl ?_; refine qF rfl rfl rfl ?_; refine qU rfl rfl rfl ?_; refine qU rfl rfl rfl ?_; refine qF rfl rfl rfl ?_; refine q0 rfl (o_pickF ?_); refine rg_nil ?_; exact hK _ ⟨rfl, rfl, rfl, (by (conv => lhs; whnf); rw [hca]; first | (simp_all [digit]; done) | (simp_all [digit]; omega) | (simp_all [digit]; rw [← decide_not]; congr 1; apply propext; omega)), trivial⟩
        · refine go_condI (fun h45 => ?_) (fun h45 => ?_)
          · refine go_seq ?_; refine go_region ⟨_, Tryz.func218⟩ rfl ?_; refine q0 rfl (o_assign ?_); refine rg_nil ?_; refine ret1 Tryz.func218 Tryz.results218 wn_ () (by rw [nameOK_not hlt (by simpa using h45)]) (fun w hs => hs.none)
          · refine go_skip ?_; refine go_inBlock ?_; refine go_region ⟨_, Tryz.func218⟩ rfl ?_; refine q0 rfl (o_add ?_); refine q0 rfl (o_move ?_); refine rg_nil ?_; have hb : okAt s i = true := by simpa using h45
            refine go_state (fun w hs => hs) (next0 (i + 1) _ ⟨hlt, fun j hj => (by rcases Nat.lt_succ_iff_lt_or_eq.mp hj with h | h; exact hok j h; subst h; exact hb)⟩ (by omega) ⟨rfl, rfl, rfl, trivial⟩)
    · have hge : i = s.size := by have := of_decide_eq_false h9; omega
      refine go_exit rfl ?_; refine go_seq ?_; refine go_region ⟨_, Tryz.func218⟩ rfl ?_; refine q0 rfl (o_move ?_); refine q0 rfl (o_neS ?_); refine q0 rfl (o_assign ?_); refine rg_nil ?_; refine ret1 Tryz.func218 Tryz.results218 wn_ () (by rw [nameOK_all (by rw [← hge]; exact hok), empty_eq]; rfl) (fun w hs => hs.none)
theorem within_spec (hF : FDims) (l : List Cl) (a : SH) (dims : Int) (h0 : 0 ≤ dims) (hl : in64 dims) : Spec Tryz.prog 219 #[sl a l.length, .int .i64 dims] [CL l a] [] (fun _ : Unit => .bool (within l dims)) (fun _ => []) (fun _ => []) := by
  refine spec_go (args := [sl a l.length, .int .i64 dims]) Tryz.func219 Tryz.ntmps219 rfl (by exact Nat.le_of_ble_eq_true rfl) fun B hB => ?_
  refine go_seq ?_; refine go_region ⟨_, Tryz.func219⟩ rfl ?_; refine q0 rfl (o_assign ?_); refine rg_nil ?_; refine go_seq ?_; refine go_region ⟨_, Tryz.func219⟩ rfl ?_; refine q0 rfl (o_move ?_); refine q0 rfl (o_geq ?_); refine q0 rfl (o_move ?_); refine qI rfl rfl rfl wl_ (fun hg7 => o_move ?_) (fun hg7 => ?_)
  · refine qT rfl rfl rfl (o_call Tryz.call97 (hF l a) (fun x9 => ?_)); refine qT rfl rfl rfl (o_move ?_); refine qT rfl rfl rfl (o_conv ?_); refine qT rfl rfl rfl (o_shrU32 ?_ (m := dims.toNat) (hy := congrArg (Value.int .u64) (toNat_u64 h0 hl))); refine qT rfl rfl rfl (o_eqI ?_); refine q0 rfl (o_pickF ?_); refine q0 rfl (o_assign ?_); refine rg_nil ?_; refine ret1 Tryz.func219 Tryz.results219 wn_ () (by first | (simp_all [within]; done) | (simp_all [within]; intros; omega)) (fun w hs => hs.none)
  · refine qF rfl rfl rfl ?_; refine qF rfl rfl rfl ?_; refine qF rfl rfl rfl ?_; refine qF rfl rfl rfl ?_; refine qF rfl rfl rfl ?_; refine q0 rfl (o_pickT ?_); refine q0 rfl (o_assign ?_); refine rg_nil ?_; refine ret1 Tryz.func219 Tryz.results219 wn_ () (by first | (simp_all [within]; done) | (simp_all [within]; intros; omega)) (fun w hs => hs.none)
end Go.Hy
namespace Go.Hy
open Go.Proofs
set_option maxRecDepth 100000
theorem own_spec (t : T) (hf : plain1 t = true ∨ FORM) (vr vk vs : SH) (vars dims : Int) (hd : 0 ≤ dims) (hl : in64 dims) : Spec Tryz.prog 164 #[.agg (tc t vr vk vs).toArray, .int .i64 vars, .int .i64 dims] [RT t vr vk vs] [] (fun _ : Unit => .bool (ownP t vars dims)) (fun _ => []) (fun _ => []) := by
  refine spec_go (args := [.agg (tc t vr vk vs).toArray, .int .i64 vars, .int .i64 dims]) Tryz.func164 Tryz.ntmps164 rfl (by exact Nat.le_of_ble_eq_true rfl) fun B hB => ?_
  refine go_open (fun hk hn hnm => ?_); refine go_openTL (ts := t.kids) (fun VR VK VS hl1 hA1 => ?_); refine go_openBL (bs := t.sys) (fun VF VK2 hl2 hA2 => ?_); refine go_seq ?_; refine go_region ⟨_, Tryz.func164⟩ rfl ?_; refine q0 rfl (o_box fun b3 => ?_); refine q0 rfl (o_assign ?_); refine rg_nil ?_; refine go_seq ?_; refine go_seq ?_; refine go_cutS ([(1, .int .i64 vars), (2, .int .i64 dims), (3, .pointer (some ⟨b3, 0, none⟩)), (47, .bool (own1 t))]) (fun hK => ?_) (fun base => ?_)
  · refine go_draw (pn := 1000000) (tn := false) (A := [0, 1, 3, 0, 8, 24, 63, 127, 255, 511, 1023, 2047, 4095, 8191, 16383, 32767, 65535, 131071, 262143, 524287, 1048575, 2097151, 4194303, 8388607, 16777215, 33554431, 67108863, 134217727, 268435455, 536870911, 1073741823, 2147483647, 4294967295, 8589934591, 17179869183, 34359738367, 68719476735, 137438953471, 274877906943]) (l := [0, 1, 3, 4, 5, 2, 6, 7, 8, 9, 10, 11, 12, 13, 14, 15, 16, 17, 18, 19, 20, 21, 22, 23, 24, 25, 26, 27, 28, 29, 30, 31, 32, 33, 34, 35, 36, 37, 38]) (fin := []) Tab.mixed ⟨_, Tryz.func164⟩ (by rfl) ?_; refine n0 rfl (v_fa ?_); refine n0 rfl (v_ld ?_); refine n0 rfl (v_fa ?_); refine n0 rfl (v_ld ?_); refine n0 rfl (v_len ?_); refine n0 rfl (v_call Tryz.call173 (kids_spec t.kind) (fun x11 => ?_)); refine n0 rfl (v_neI ?_); refine n0 rfl (v_move ?_); refine nI rfl rfl rfl wl_ (fun hg16 => v_fa ?_) (fun hg16 => ?_)
    · refine nT rfl rfl rfl (v_ld ?_); refine nT rfl rfl rfl (v_neI ?_); refine nT rfl rfl rfl (v_move ?_); refine nI rfl rfl rfl wl_ (fun hg20 => v_fa ?_) (fun hg20 => ?_)
      · refine nT rfl rfl rfl (v_ld ?_); refine nT rfl rfl rfl (v_neI ?_); refine nT rfl rfl rfl (v_pickT ?_); refine n0 rfl (v_pickF ?_); refine n0 rfl (v_move ?_); refine nI rfl rfl rfl wl_ (fun hg26 => v_fa ?_) (fun hg26 => ?_)
        · refine nT rfl rfl rfl (v_ld ?_); refine nT rfl rfl rfl (v_neI ?_); refine nT rfl rfl rfl (v_move ?_); refine nI rfl rfl rfl wl_ (fun hg30 => v_fa ?_) (fun hg30 => ?_)
          · refine nT rfl rfl rfl (v_ld ?_); refine nT rfl rfl rfl (v_neS ?_); refine nT rfl rfl rfl (v_pickT ?_); refine n0 rfl (v_pickF ?_); refine n0 rfl (v_move ?_); refine nI rfl rfl rfl wl_ (fun hg36 => v_fa ?_) (fun hg36 => ?_)
            · refine nT rfl rfl rfl (v_ld ?_); refine nT rfl rfl rfl (v_call Tryz.call172 (parts_spec t.kind) (fun x39 => ?_)); refine nT rfl rfl rfl (v_eqI ?_); refine nT rfl rfl rfl (v_move ?_); refine nI rfl rfl rfl wl_ (fun hg41 => v_fa ?_) (fun hg41 => ?_)
              · refine nT rfl rfl rfl (v_ld ?_); refine nT rfl rfl rfl (v_len ?_); refine nT rfl rfl rfl (v_gtr ?_); refine nT rfl rfl rfl (v_pickT ?_); refine n0 rfl (v_pickF ?_); refine NV.done ?_; refine rg_nil ?_; exact hK _ ⟨rfl, rfl, rfl, (by (conv => lhs; whnf); first | (simp_all [own1]; done) | (simp_all [own1]; omega)), trivial⟩
              · refine nF rfl rfl rfl ?_; refine nF rfl rfl rfl ?_; refine nF rfl rfl rfl ?_; refine nT rfl rfl rfl (v_pickF ?_); refine n0 rfl (v_pickF ?_); refine NV.done ?_; refine rg_nil ?_; exact hK _ ⟨rfl, rfl, rfl, (by (conv => lhs; whnf); first | (simp_all [own1]; done) | (simp_all [own1]; omega)), trivial⟩
            · refine nF rfl rfl rfl ?_; refine nF rfl rfl rfl ?_; refine nF rfl rfl rfl ?_; refine nF rfl rfl rfl ?_; refine nU rfl rfl rfl ?_; refine nU rfl rfl rfl ?_; refine nU rfl rfl rfl ?_; refine nU rfl rfl rfl ?_; refine nF rfl rfl rfl ?_; refine n0 rfl (v_pickT ?_); refine NV.done ?_; refine rg_nil ?_; exact hK _ ⟨rfl, rfl, rfl, (by (conv => lhs; whnf); first | (simp_all [own1]; done) | (simp_all [own1]; omega)), trivial⟩
          · refine nF rfl rfl rfl ?_; refine nF rfl rfl rfl ?_; refine nT rfl rfl rfl (v_pickF ?_); refine n0 rfl (v_pickF ?_); refine n0 rfl (v_move ?_); refine nT rfl rfl rfl (v_fa ?_); refine nT rfl rfl rfl (v_ld ?_); refine nT rfl rfl rfl (v_call Tryz.call172 (parts_spec t.kind) (fun x39 => ?_)); refine nT rfl rfl rfl (v_eqI ?_); refine nT rfl rfl rfl (v_move ?_); refine nI rfl rfl rfl wl_ (fun hg41 => v_fa ?_) (fun hg41 => ?_)
            · refine nT rfl rfl rfl (v_ld ?_); refine nT rfl rfl rfl (v_len ?_); refine nT rfl rfl rfl (v_gtr ?_); refine nT rfl rfl rfl (v_pickT ?_); refine n0 rfl (v_pickF ?_); refine NV.done ?_; refine rg_nil ?_; exact hK _ ⟨rfl, rfl, rfl, (by (conv => lhs; whnf); first | (simp_all [own1]; done) | (simp_all [own1]; omega)), trivial⟩
            · refine nF rfl rfl rfl ?_; refine nF rfl rfl rfl ?_; refine nF rfl rfl rfl ?_; refine nT rfl rfl rfl (v_pickF ?_); refine n0 rfl (v_pickF ?_); refine NV.done ?_; refine rg_nil ?_; exact hK _ ⟨rfl, rfl, rfl, (by (conv => lhs; whnf); first | (simp_all [own1]; done) | (simp_all [own1]; omega)), trivial⟩
        · refine nF rfl rfl rfl ?_; refine nF rfl rfl rfl ?_; refine nF rfl rfl rfl ?_; refine nU rfl rfl rfl ?_; refine nU rfl rfl rfl ?_; refine nU rfl rfl rfl ?_; refine nF rfl rfl rfl ?_; refine n0 rfl (v_pickT ?_); refine n0 rfl (v_move ?_); refine nF rfl rfl rfl ?_; refine nF rfl rfl rfl ?_; refine nF rfl rfl rfl ?_; refine nF rfl rfl rfl ?_; refine nF rfl rfl rfl ?_; refine nU rfl rfl rfl ?_; refine nU rfl rfl rfl ?_; refine nU rfl rfl rfl ?_; refine nU rfl rfl rfl ?_; refine nF rfl rfl rfl ?_; refine n0 rfl (v_pickT ?_); refine NV.done ?_; refine rg_nil ?_; exact hK _ ⟨rfl, rfl, rfl, (by (conv => lhs; whnf); first | (simp_all [own1]; done) | (simp_all [own1]; omega)), trivial⟩
      · refine nF rfl rfl rfl ?_; refine nF rfl rfl rfl ?_; refine nT rfl rfl rfl (v_pickF ?_); refine n0 rfl (v_pickF ?_); refine n0 rfl (v_move ?_); refine nT rfl rfl rfl (v_fa ?_); refine nT rfl rfl rfl (v_ld ?_); refine nT rfl rfl rfl (v_neI ?_); refine nT rfl rfl rfl (v_move ?_); refine nI rfl rfl rfl wl_ (fun hg30 => v_fa ?_) (fun hg30 => ?_)
        · refine nT rfl rfl rfl (v_ld ?_); refine nT rfl rfl rfl (v_neS ?_); refine nT rfl rfl rfl (v_pickT ?_); refine n0 rfl (v_pickF ?_); refine n0 rfl (v_move ?_); refine nI rfl rfl rfl wl_ (fun hg36 => v_fa ?_) (fun hg36 => ?_)
          · refine nT rfl rfl rfl (v_ld ?_); refine nT rfl rfl rfl (v_call Tryz.call172 (parts_spec t.kind) (fun x39 => ?_)); refine nT rfl rfl rfl (v_eqI ?_); refine nT rfl rfl rfl (v_move ?_); refine nI rfl rfl rfl wl_ (fun hg41 => v_fa ?_) (fun hg41 => ?_)
            · refine nT rfl rfl rfl (v_ld ?_); refine nT rfl rfl rfl (v_len ?_); refine nT rfl rfl rfl (v_gtr ?_); refine nT rfl rfl rfl (v_pickT ?_); refine n0 rfl (v_pickF ?_); refine NV.done ?_; refine rg_nil ?_; exact hK _ ⟨rfl, rfl, rfl, (by (conv => lhs; whnf); first | (simp_all [own1]; done) | (simp_all [own1]; omega)), trivial⟩
            · refine nF rfl rfl rfl ?_; refine nF rfl rfl rfl ?_; refine nF rfl rfl rfl ?_; refine nT rfl rfl rfl (v_pickF ?_); refine n0 rfl (v_pickF ?_); refine NV.done ?_; refine rg_nil ?_; exact hK _ ⟨rfl, rfl, rfl, (by (conv => lhs; whnf); first | (simp_all [own1]; done) | (simp_all [own1]; omega)), trivial⟩
          · refine nF rfl rfl rfl ?_; refine nF rfl rfl rfl ?_; refine nF rfl rfl rfl ?_; refine nF rfl rfl rfl ?_; refine nU rfl rfl rfl ?_; refine nU rfl rfl rfl ?_; refine nU rfl rfl rfl ?_; refine nU rfl rfl rfl ?_; refine nF rfl rfl rfl ?_; refine n0 rfl (v_pickT ?_); refine NV.done ?_; refine rg_nil ?_; exact hK _ ⟨rfl, rfl, rfl, (by (conv => lhs; whnf); first | (simp_all [own1]; done) | (simp_all [own1]; omega)), trivial⟩
        · refine nF rfl rfl rfl ?_; refine nF rfl rfl rfl ?_; refine nT rfl rfl rfl (v_pickF ?_); refine n0 rfl (v_pickF ?_); refine n0 rfl (v_move ?_); refine nT rfl rfl rfl (v_fa ?_); refine nT rfl rfl rfl (v_ld ?_); refine nT rfl rfl rfl (v_call Tryz.call172 (parts_spec t.kind) (fun x39 => ?_)); refine nT rfl rfl rfl (v_eqI ?_); refine nT rfl rfl rfl (v_move ?_); refine nI rfl rfl rfl wl_ (fun hg41 => v_fa ?_) (fun hg41 => ?_)
          · refine nT rfl rfl rfl (v_ld ?_); refine nT rfl rfl rfl (v_len ?_); refine nT rfl rfl rfl (v_gtr ?_); refine nT rfl rfl rfl (v_pickT ?_); refine n0 rfl (v_pickF ?_); refine NV.done ?_; refine rg_nil ?_; exact hK _ ⟨rfl, rfl, rfl, (by (conv => lhs; whnf); first | (simp_all [own1]; done) | (simp_all [own1]; omega)), trivial⟩
          · refine nF rfl rfl rfl ?_; refine nF rfl rfl rfl ?_; refine nF rfl rfl rfl ?_; refine nT rfl rfl rfl (v_pickF ?_); refine n0 rfl (v_pickF ?_); refine NV.done ?_; refine rg_nil ?_; exact hK _ ⟨rfl, rfl, rfl, (by (conv => lhs; whnf); first | (simp_all [own1]; done) | (simp_all [own1]; omega)), trivial⟩
    · refine nF rfl rfl rfl ?_; refine nF rfl rfl rfl ?_; refine nF rfl rfl rfl ?_; refine nU rfl rfl rfl ?_; refine nU rfl rfl rfl ?_; refine nU rfl rfl rfl ?_; refine nF rfl rfl rfl ?_; refine n0 rfl (v_pickT ?_); refine n0 rfl (v_move ?_); refine nF rfl rfl rfl ?_; refine nF rfl rfl rfl ?_; refine nF rfl rfl rfl ?_; refine nF rfl rfl rfl ?_; refine nU rfl rfl rfl ?_; refine nU rfl rfl rfl ?_; refine nU rfl rfl rfl ?_; refine nF rfl rfl rfl ?_; refine n0 rfl (v_pickT ?_); refine n0 rfl (v_move ?_); refine nF rfl rfl rfl ?_; refine nF rfl rfl rfl ?_; refine nF rfl rfl rfl ?_; refine nF rfl rfl rfl ?_; refine nF rfl rfl rfl ?_; refine nU rfl rfl rfl ?_; refine nU rfl rfl rfl ?_; refine nU rfl rfl rfl ?_; refine nU rfl rfl rfl ?_; refine nF rfl rfl rfl ?_; refine n0 rfl (v_pickT ?_); refine NV.done ?_; refine rg_nil ?_; exact hK _ ⟨rfl, rfl, rfl, (by (conv => lhs; whnf); first | (simp_all [own1]; done) | (simp_all [own1]; omega)), trivial⟩
  · refine go_condI (fun h47 => ?_) (fun h47 => ?_)
    · refine go_seq ?_; refine go_region ⟨_, Tryz.func164⟩ rfl ?_; refine q0 rfl (o_assign ?_); refine rg_nil ?_; refine ret1 Tryz.func164 Tryz.results164 wn_ () (by simp [ownP, h47]) (fun w hs => hs.none)
    · refine go_skip ?_; refine go_seq ?_; refine go_seq ?_; refine go_region ⟨_, Tryz.func164⟩ rfl ?_; refine q0 rfl (o_fa ?_); refine q0 rfl (o_ld ?_); refine rg_nil ?_; refine go_block ?_; refine go_seq ?_; refine go_region ⟨_, Tryz.func164⟩ rfl ?_; refine q0 rfl (o_eqI ?_); refine q0 rfl (o_assign ?_); refine rg_nil ?_; refine go_condI (fun h50 => ?_) (fun h50 => ?_)
      · refine go_seq ?_; refine go_cutS ([(6, .bool (decide ((t.r.length : Int) = 0) && decide (0 ≤ t.n) && (decide (vars < 0) || decide (t.n < vars))))]) (fun hK => ?_) (fun base => ?_)
        · refine go_region ⟨_, Tryz.func164⟩ rfl ?_; refine q0 rfl (o_fa ?_); refine q0 rfl (o_ld ?_); refine q0 rfl (o_len ?_); refine q0 rfl (o_eqI ?_); refine q0 rfl (o_move ?_); refine qI rfl rfl rfl wl_ (fun hg56 => o_fa ?_) (fun hg56 => ?_)
          · refine qT rfl rfl rfl (o_ld ?_); refine qT rfl rfl rfl (o_geq ?_); refine q0 rfl (o_pickT ?_); refine q0 rfl (o_move ?_); refine qI rfl rfl rfl wl_ (fun hg61 => o_move ?_) (fun hg61 => ?_)
            · refine qT rfl rfl rfl (o_lss ?_); refine qT rfl rfl rfl (o_move ?_); refine qI rfl rfl rfl wl_ (fun hg64 => o_fa ?_) (fun hg64 => ?_)
              · refine qT rfl rfl rfl (o_ld ?_); refine qT rfl rfl rfl (o_move ?_); refine qT rfl rfl rfl (o_lss ?_); refine qT rfl rfl rfl (o_pickF ?_); refine q0 rfl (o_pickT ?_); refine q0 rfl (o_assign ?_); refine rg_nil ?_; exact hK _ ⟨(by (conv => lhs; whnf); first | (simp_all [Bool.and_assoc]; done) | (simp_all [Bool.and_assoc]; omega)), trivial⟩
              · refine qF rfl rfl rfl ?_; refine qF rfl rfl rfl ?_; refine qF rfl rfl rfl ?_; refine qT rfl rfl rfl (o_pickT ?_); refine q0 rfl (o_pickT ?_); refine q0 rfl (o_assign ?_); refine rg_nil ?_; exact hK _ ⟨(by (conv => lhs; whnf); first | (simp_all [Bool.and_assoc]; done) | (simp_all [Bool.and_assoc]; omega)), trivial⟩
            · refine qF rfl rfl rfl ?_; refine qF rfl rfl rfl ?_; refine qU rfl rfl rfl ?_; refine qU rfl rfl rfl ?_; refine qU rfl rfl rfl ?_; refine qU rfl rfl rfl ?_; refine qF rfl rfl rfl ?_; refine q0 rfl (o_pickF ?_); refine q0 rfl (o_assign ?_); refine rg_nil ?_; exact hK _ ⟨(by (conv => lhs; whnf); first | (simp_all [Bool.and_assoc]; done) | (simp_all [Bool.and_assoc]; omega)), trivial⟩
          · refine qF rfl rfl rfl ?_; refine qF rfl rfl rfl ?_; refine q0 rfl (o_pickF ?_); refine q0 rfl (o_move ?_); refine qF rfl rfl rfl ?_; refine qF rfl rfl rfl ?_; refine qF rfl rfl rfl ?_; refine qU rfl rfl rfl ?_; refine qU rfl rfl rfl ?_; refine qU rfl rfl rfl ?_; refine qU rfl rfl rfl ?_; refine qF rfl rfl rfl ?_; refine q0 rfl (o_pickF ?_); refine q0 rfl (o_assign ?_); refine rg_nil ?_; exact hK _ ⟨(by (conv => lhs; whnf); first | (simp_all [Bool.and_assoc]; done) | (simp_all [Bool.and_assoc]; omega)), trivial⟩
        · refine ret1 Tryz.func164 Tryz.results164 wn_ () (by simp_all [ownP, Bool.and_assoc]) (fun w hs => hs.none)
      · refine go_seq ?_; refine go_region ⟨_, Tryz.func164⟩ rfl ?_; refine q0 rfl (o_eqI ?_); refine q0 rfl (o_assign ?_); refine rg_nil ?_; refine go_condI (fun h71 => ?_) (fun h71 => ?_)
        · refine go_seq ?_; refine go_cutS ([(6, .bool (decide ((t.r.length : Int) = 0) && nameOK t.name))]) (fun hK => ?_) (fun base => ?_)
          · refine go_region ⟨_, Tryz.func164⟩ rfl ?_; refine q0 rfl (o_fa ?_); refine q0 rfl (o_ld ?_); refine q0 rfl (o_len ?_); refine q0 rfl (o_eqI ?_); refine q0 rfl (o_move ?_); refine qI rfl rfl rfl wl_ (fun hg77 => o_fa ?_) (fun hg77 => ?_)
            · refine qT rfl rfl rfl (o_ld ?_); refine qT rfl rfl rfl (o_call Tryz.call218 (name_spec t.name hnm) (fun x80 => ?_)); refine q0 rfl (o_pickT ?_); refine q0 rfl (o_assign ?_); refine rg_nil ?_; exact hK _ ⟨(by (conv => lhs; whnf); first | (simp_all [Bool.and_assoc]; done) | (simp_all [Bool.and_assoc]; omega)), trivial⟩
            · refine qF rfl rfl rfl ?_; refine qF rfl rfl rfl ?_; refine q0 rfl (o_pickF ?_); refine q0 rfl (o_assign ?_); refine rg_nil ?_; exact hK _ ⟨(by (conv => lhs; whnf); first | (simp_all [Bool.and_assoc]; done) | (simp_all [Bool.and_assoc]; omega)), trivial⟩
          · refine ret1 Tryz.func164 Tryz.results164 wn_ () (by simp_all [ownP, Bool.and_assoc]) (fun w hs => hs.none)
        · refine go_seq ?_; refine go_seq ?_; refine go_region ⟨_, Tryz.func164⟩ rfl ?_; refine q0 rfl (o_eqI ?_); refine q0 rfl (o_assign ?_); refine rg_nil ?_; refine go_condI (fun h82 => ?_) (fun h82 => ?_)
          · refine go_skip ?_; refine go_condT ?_; refine go_seq ?_; refine go_cutS ([(6, .bool (fRight t.r && within t.r dims))]) (fun hK => ?_) (fun base => ?_)
            · refine go_region ⟨_, Tryz.func164⟩ rfl ?_; refine q0 rfl (o_fa ?_); refine q0 rfl (o_ld ?_); refine q0 rfl (o_call Tryz.call137 ((form_kind hf (by simp_all)).1 t.r vr) (fun x88 => ?_)); refine q0 rfl (o_move ?_); refine qI rfl rfl rfl wl_ (fun hg89 => o_fa ?_) (fun hg89 => ?_)
              · refine qT rfl rfl rfl (o_ld ?_); refine qT rfl rfl rfl (o_move ?_); refine qT rfl rfl rfl (o_call Tryz.call219 (within_spec (form_kind hf (by simp_all)).2.2 t.r vr dims hd hl) (fun x93 => ?_)); refine q0 rfl (o_pickT ?_); refine q0 rfl (o_assign ?_); refine rg_nil ?_; exact hK _ ⟨(by (conv => lhs; whnf); first | (simp_all [Bool.and_assoc]; done) | (simp_all [Bool.and_assoc]; omega)), trivial⟩
              · refine qF rfl rfl rfl ?_; refine qF rfl rfl rfl ?_; refine qF rfl rfl rfl ?_; refine q0 rfl (o_pickF ?_); refine q0 rfl (o_assign ?_); refine rg_nil ?_; exact hK _ ⟨(by (conv => lhs; whnf); first | (simp_all [Bool.and_assoc]; done) | (simp_all [Bool.and_assoc]; omega)), trivial⟩
            · refine ret1 Tryz.func164 Tryz.results164 wn_ () (by simp_all [ownP, Bool.and_assoc]) (fun w hs => hs.none)
          · refine go_seq ?_; refine go_region ⟨_, Tryz.func164⟩ rfl ?_; refine q0 rfl (o_eqI ?_); refine q0 rfl (o_assign ?_); refine rg_nil ?_; refine go_condI (fun h82 => ?_) (fun h82 => ?_)
            · refine go_skip ?_; refine go_condT ?_; refine go_seq ?_; refine go_cutS ([(6, .bool (fRight t.r && within t.r dims))]) (fun hK => ?_) (fun base => ?_)
              · refine go_region ⟨_, Tryz.func164⟩ rfl ?_; refine q0 rfl (o_fa ?_); refine q0 rfl (o_ld ?_); refine q0 rfl (o_call Tryz.call137 ((form_kind hf (by simp_all)).1 t.r vr) (fun x88 => ?_)); refine q0 rfl (o_move ?_); refine qI rfl rfl rfl wl_ (fun hg89 => o_fa ?_) (fun hg89 => ?_)
                · refine qT rfl rfl rfl (o_ld ?_); refine qT rfl rfl rfl (o_move ?_); refine qT rfl rfl rfl (o_call Tryz.call219 (within_spec (form_kind hf (by simp_all)).2.2 t.r vr dims hd hl) (fun x93 => ?_)); refine q0 rfl (o_pickT ?_); refine q0 rfl (o_assign ?_); refine rg_nil ?_; exact hK _ ⟨(by (conv => lhs; whnf); first | (simp_all [Bool.and_assoc]; done) | (simp_all [Bool.and_assoc]; omega)), trivial⟩
                · refine qF rfl rfl rfl ?_; refine qF rfl rfl rfl ?_; refine qF rfl rfl rfl ?_; refine q0 rfl (o_pickF ?_); refine q0 rfl (o_assign ?_); refine rg_nil ?_; exact hK _ ⟨(by (conv => lhs; whnf); first | (simp_all [Bool.and_assoc]; done) | (simp_all [Bool.and_assoc]; omega)), trivial⟩
              · refine ret1 Tryz.func164 Tryz.results164 wn_ () (by simp_all [ownP, Bool.and_assoc]) (fun w hs => hs.none)
            · refine go_region ⟨_, Tryz.func164⟩ rfl ?_; refine q0 rfl (o_eqI ?_); refine q0 rfl (o_assign ?_); refine rg_nil ?_; refine go_condI (fun h82 => ?_) (fun h82 => ?_)
              · refine go_seq ?_; refine go_cutS ([(6, .bool (fRight t.r && within t.r dims))]) (fun hK => ?_) (fun base => ?_)
                · refine go_region ⟨_, Tryz.func164⟩ rfl ?_; refine q0 rfl (o_fa ?_); refine q0 rfl (o_ld ?_); refine q0 rfl (o_call Tryz.call137 ((form_kind hf (by simp_all)).1 t.r vr) (fun x88 => ?_)); refine q0 rfl (o_move ?_); refine qI rfl rfl rfl wl_ (fun hg89 => o_fa ?_) (fun hg89 => ?_)
                  · refine qT rfl rfl rfl (o_ld ?_); refine qT rfl rfl rfl (o_move ?_); refine qT rfl rfl rfl (o_call Tryz.call219 (within_spec (form_kind hf (by simp_all)).2.2 t.r vr dims hd hl) (fun x93 => ?_)); refine q0 rfl (o_pickT ?_); refine q0 rfl (o_assign ?_); refine rg_nil ?_; exact hK _ ⟨(by (conv => lhs; whnf); first | (simp_all [Bool.and_assoc]; done) | (simp_all [Bool.and_assoc]; omega)), trivial⟩
                  · refine qF rfl rfl rfl ?_; refine qF rfl rfl rfl ?_; refine qF rfl rfl rfl ?_; refine q0 rfl (o_pickF ?_); refine q0 rfl (o_assign ?_); refine rg_nil ?_; exact hK _ ⟨(by (conv => lhs; whnf); first | (simp_all [Bool.and_assoc]; done) | (simp_all [Bool.and_assoc]; omega)), trivial⟩
                · refine ret1 Tryz.func164 Tryz.results164 wn_ () (by simp_all [ownP, Bool.and_assoc]) (fun w hs => hs.none)
              · refine go_seq ?_; refine go_region ⟨_, Tryz.func164⟩ rfl ?_; refine q0 rfl (o_eqI ?_); refine q0 rfl (o_assign ?_); refine rg_nil ?_; refine go_condI (fun h95 => ?_) (fun h95 => ?_)
                · refine go_seq ?_; refine go_cutS ([(6, .bool (faceRight t.r && within t.r dims))]) (fun hK => ?_) (fun base => ?_)
                  · refine go_region ⟨_, Tryz.func164⟩ rfl ?_; refine q0 rfl (o_fa ?_); refine q0 rfl (o_ld ?_); refine q0 rfl (o_call Tryz.call88 ((form_kind hf (by simp_all)).2.1 t.r vr) (fun x99 => ?_)); refine q0 rfl (o_move ?_); refine qI rfl rfl rfl wl_ (fun hg100 => o_fa ?_) (fun hg100 => ?_)
                    · refine qT rfl rfl rfl (o_ld ?_); refine qT rfl rfl rfl (o_move ?_); refine qT rfl rfl rfl (o_call Tryz.call219 (within_spec (form_kind hf (by simp_all)).2.2 t.r vr dims hd hl) (fun x104 => ?_)); refine q0 rfl (o_pickT ?_); refine q0 rfl (o_assign ?_); refine rg_nil ?_; exact hK _ ⟨(by (conv => lhs; whnf); first | (simp_all [Bool.and_assoc]; done) | (simp_all [Bool.and_assoc]; omega)), trivial⟩
                    · refine qF rfl rfl rfl ?_; refine qF rfl rfl rfl ?_; refine qF rfl rfl rfl ?_; refine q0 rfl (o_pickF ?_); refine q0 rfl (o_assign ?_); refine rg_nil ?_; exact hK _ ⟨(by (conv => lhs; whnf); first | (simp_all [Bool.and_assoc]; done) | (simp_all [Bool.and_assoc]; omega)), trivial⟩
                  · refine ret1 Tryz.func164 Tryz.results164 wn_ () (by simp_all [ownP, Bool.and_assoc]) (fun w hs => hs.none)
                · refine go_skip ?_; refine go_inBlock ?_; refine go_seq ?_; refine go_seq ?_; refine go_region ⟨_, Tryz.func164⟩ rfl ?_; refine q0 rfl (o_fa ?_); refine q0 rfl (o_ld ?_); refine q0 rfl (o_len ?_); refine q0 rfl (o_move ?_); refine rg_nil ?_; refine go_block ?_; refine go_loopI (X := Nat) (fun i => i ≤ t.sys.length ∧ ∀ j, j < i → ownB t dims (t.sys.getD j br0) = true) (fun i => [(2, .int .i64 dims), (3, .pointer (some ⟨b3, 0, none⟩)), (107, sl vs t.sys.length), (108, .int .i64 (t.sys.length : Int)), (109, .int .i64 (i : Int))]) (fun i => BLx t.sys vs VF VK2 :: RT t vr vk vs :: []) (fun i => [boxR b3 (tc t vr vk vs) 35]) (fun i => t.sys.length - i) (0) (⟨Nat.zero_le _, fun j hj => by omega⟩) (by exact ⟨rfl, rfl, rfl, rfl, rfl, trivial⟩) ?_ ?_
                  · exact fun w hs => hs.less (by simp +contextual)
                  · intro i base0 ⟨hi, hok⟩ next0; refine go_seq ?_; refine go_region ⟨_, Tryz.func164⟩ rfl ?_; refine q0 rfl (o_lss ?_); refine rg_nil ?_; refine go_seq ?_; refine go_condI (fun h110 => ?_) (fun h110 => ?_)
                    · have hlt : i < t.sys.length := by have := of_decide_eq_true h110; omega
                      obtain ⟨bk, o, hav⟩ := hA2 (by omega); refine go_skip ?_; refine go_seq ?_; refine go_block ?_; refine go_seq ?_; refine go_region ⟨_, Tryz.func164⟩ rfl ?_; refine q0 rfl (o_ixN ?_); refine q0 rfl (o_ldB ?_); refine q0 rfl (o_new fun b8 => ?_); refine q0 rfl (o_st ?_); refine rg_nil ?_; refine go_seq ?_; refine go_branch i hlt ?_; refine go_cutS ([(2, .int .i64 dims), (3, .pointer (some ⟨b3, 0, none⟩)), (107, sl vs t.sys.length), (108, .int .i64 (t.sys.length : Int)), (109, .int .i64 (i : Int)), (132, .bool (!(ownB t dims (t.sys.getD i br0))))]) (fun hK => ?_) (fun base => ?_)
                      · refine go_draw (pn := 1000000) (tn := false) (A := [0, 1, 3, 0, 8, 24, 63, 127, 255, 511, 1023, 2047, 4095, 8191, 16383, 32767, 16383, 131071, 262143, 524287]) (l := [0, 1, 2, 3, 4, 5, 6, 7, 8, 9, 10, 11, 12, 13, 14, 15, 16, 17, 18, 19]) (fin := []) Tab.mixed ⟨_, Tryz.func164⟩ (by rfl) ?_; refine n0 rfl (v_fa ?_); refine n0 rfl (v_ld ?_); refine n0 rfl (v_len ?_); refine n0 rfl (v_fa ?_); refine n0 rfl (v_ld ?_); refine n0 rfl (v_call Tryz.call172 (parts_spec t.kind) (fun x118 => ?_)); refine n0 rfl (v_neI ?_); refine n0 rfl (v_move ?_); refine nI rfl rfl rfl wl_ (fun hg120 => v_fa ?_) (fun hg120 => ?_)
                        · refine nT rfl rfl rfl (v_ld ?_); refine nT rfl rfl rfl (v_call Tryz.call88 ((form_sys hf hlt).2.1 _ (VF i)) (fun x123 => ?_)); refine nT rfl rfl rfl (v_not ?_); refine n0 rfl (v_pickF ?_); refine n0 rfl (v_move ?_); refine nI rfl rfl rfl wl_ (fun hg126 => v_fa ?_) (fun hg126 => ?_)
                          · refine nT rfl rfl rfl (v_ld ?_); refine nT rfl rfl rfl (v_move ?_); refine nT rfl rfl rfl (v_call Tryz.call219 (within_spec (form_sys hf hlt).2.2 _ (VF i) dims hd hl) (fun x130 => ?_)); refine nT rfl rfl rfl (v_not ?_); refine n0 rfl (v_pickF ?_); refine NV.done ?_; refine rg_nil ?_; exact hK _ ⟨rfl, rfl, rfl, rfl, rfl, (by (conv => lhs; whnf); first | (simp_all [ownB]; done) | (simp_all [ownB]; omega)), trivial⟩
                          · refine nF rfl rfl rfl ?_; refine nF rfl rfl rfl ?_; refine nF rfl rfl rfl ?_; refine nF rfl rfl rfl ?_; refine n0 rfl (v_pickT ?_); refine NV.done ?_; refine rg_nil ?_; exact hK _ ⟨rfl, rfl, rfl, rfl, rfl, (by (conv => lhs; whnf); first | (simp_all [ownB]; done) | (simp_all [ownB]; omega)), trivial⟩
                        · refine nF rfl rfl rfl ?_; refine nF rfl rfl rfl ?_; refine nF rfl rfl rfl ?_; refine n0 rfl (v_pickT ?_); refine n0 rfl (v_move ?_); refine nF rfl rfl rfl ?_; refine nF rfl rfl rfl ?_; refine nF rfl rfl rfl ?_; refine nF rfl rfl rfl ?_; refine nF rfl rfl rfl ?_; refine n0 rfl (v_pickT ?_); refine NV.done ?_; refine rg_nil ?_; exact hK _ ⟨rfl, rfl, rfl, rfl, rfl, (by (conv => lhs; whnf); first | (simp_all [ownB]; done) | (simp_all [ownB]; omega)), trivial⟩
                      · refine go_condI (fun h132 => ?_) (fun h132 => ?_)
                        · refine go_seq ?_; refine go_region ⟨_, Tryz.func164⟩ rfl ?_; refine q0 rfl (o_assign ?_); refine rg_nil ?_; have ha := all_getD_not hlt (by simpa using h132); refine ret1 Tryz.func164 Tryz.results164 wn_ () (by rw [ownP, ha]; clear hok ha h132; simp_all [Bool.and_assoc]) (fun w hs => hs.none)
                        · refine go_skip ?_; refine go_inBlock ?_; refine go_region ⟨_, Tryz.func164⟩ rfl ?_; refine q0 rfl (o_add ?_); refine q0 rfl (o_move ?_); refine rg_nil ?_; have hb : ownB t dims (t.sys.getD i br0) = true := by simpa using h132
                          refine go_state (fun w hs => ?_) (next0 (i + 1) _ ⟨hlt, fun j hj => (by rcases Nat.lt_succ_iff_lt_or_eq.mp hj with h | h; exact hok j h; subst h; exact hb)⟩ (by omega) ⟨rfl, rfl, rfl, rfl, rfl, trivial⟩); exact (hs.less (by simp +contextual)).drop
                    · have hge : i = t.sys.length := by have := of_decide_eq_false h110; omega
                      refine go_exit rfl ?_; refine go_seq ?_; refine go_region ⟨_, Tryz.func164⟩ rfl ?_; refine q0 rfl (o_fa ?_); refine q0 rfl (o_ld ?_); refine q0 rfl (o_len ?_); refine q0 rfl (o_eqI ?_); refine q0 rfl (o_assign ?_); refine rg_nil ?_; have ha := all_getD (t := t) (g := ownB t dims) (by rw [← hge]; exact hok); refine ret1 Tryz.func164 Tryz.results164 wn_ () (by rw [ownP, ha]; clear hok ha; simp_all [Bool.and_assoc]) (fun w hs => hs.none)
abbrev AllAt (t : T) : Prop := (plainT t = true ∨ FORM) → ∀ (vars dims : Int) (bound : Bool) vr vk vs, in64 vars → 0 ≤ dims → dims + depth t ≤ 1152921504606846976 → Spec Tryz.prog 86 #[.agg (tc t vr vk vs).toArray, .int .i64 vars, .int .i64 dims, .bool bound] [RT t vr vk vs] [] (fun _ : Unit => .bool (allP t vars dims bound)) (fun _ => []) (fun _ => [])
abbrev AllCap (b1 b2 b3 : Nat) : List Value := [.pointer (some ⟨b1, 0, none⟩), .pointer (some ⟨b2, 0, none⟩), .pointer (some ⟨b3, 0, none⟩)]
abbrev AllM (b1 b2 b3 : Nat) (vars dims : Int) (bound : Bool) : List Res := [boxR b1 [.int .i64 vars] 3, boxR b2 [.int .i64 dims] 3, boxR b3 [.bool bound] 4]
def bindsIn (v d : Int) : Prop := 0 ≤ v ∧ v ≤ 1 ∧ 0 ≤ d ∧ d ≤ 1
theorem binds_in (k i : Int) : bindsIn (binds k i).1 (binds k i).2 := by
  unfold binds bindsIn; repeat (split; (simp))
  simp
theorem parts_in {t : T} {k : T} {v d : Int} (h : (k, v, d) ∈ parts t) : bindsIn v d := by
  have hk : ∀ (kind : Int) (i : Nat) (ks : List T), (k, v, d) ∈ kidParts kind i ks → bindsIn v d := by
    intro kind i ks
    induction ks generalizing i with
    | nil => intro h; simp [kidParts] at h
    | cons a ks ih =>
      intro h; simp only [kidParts, List.mem_cons] at h; rcases h with h | h
      · have e : (v, d) = binds kind i := (Prod.mk.inj h).2; have := binds_in kind i; rw [← e] at this; exact this
      · exact ih _ h
  have hs : ∀ (kind : Int) (bs : List Br), (k, v, d) ∈ sysParts kind bs → bindsIn v d := by
    intro kind bs
    induction bs with
    | nil => intro h; simp [sysParts] at h
    | cons b bs ih =>
      intro h; simp only [sysParts, List.mem_append, List.mem_map] at h; rcases h with ⟨a, ha, e⟩ | h
      · have e2 := (Prod.mk.inj e).2; have e3 := (Prod.mk.inj e2); rw [← e3.1, ← e3.2]; unfold bindsIn more; split <;> simp
      · exact ih h
  unfold parts at h; rcases List.mem_append.mp h with h | h
  · exact hk _ _ _ h
  · exact hs _ _ h
theorem depth_mem {t : T} {p : Part} (h : p ∈ parts t) : depth p.1 < depth t := by
  obtain ⟨m, hm⟩ := List.mem_iff_getElem?.mp h; exact depth_part hm
theorem all1_walk (k : T) (vr vk vs : SH) (b1 b2 b3 : Nat) (vars dims v d : Int) (bound : Bool) (hv : in64 vars) (h0 : 0 ≤ dims) (hvd : bindsIn v d) (hl : dims + 1 + depth k ≤ 1152921504606846976) (hp : plainT k = true ∨ FORM) (ih : AllAt k) : Spec Tryz.prog 165 #[.agg (tc k vr vk vs).toArray, .int .i64 v, .int .i64 d, .pointer (some ⟨b1, 0, none⟩), .pointer (some ⟨b2, 0, none⟩), .pointer (some ⟨b3, 0, none⟩)] [RT k vr vk vs] (AllM b1 b2 b3 vars dims bound) (fun _ : Unit => .bool (allP k (IntKind.i64.wrap (vars + if vars < 0 then 0 else v)) (dims + d) bound)) (fun _ => []) (fun _ => AllM b1 b2 b3 vars dims bound) := by
  refine spec_go (args := [.agg (tc k vr vk vs).toArray, .int .i64 v, .int .i64 d, .pointer (some ⟨b1, 0, none⟩), .pointer (some ⟨b2, 0, none⟩), .pointer (some ⟨b3, 0, none⟩)]) Tryz.func165 Tryz.ntmps165 rfl (by exact Nat.le_of_ble_eq_true rfl) fun B hB => ?_
  obtain ⟨hv0, hv1, hd0, hd1⟩ := hvd; refine go_seq ?_; refine go_region ⟨_, Tryz.func165⟩ rfl ?_; refine q0 rfl (o_box fun b6 => ?_); refine q0 rfl (o_assign ?_); refine rg_nil ?_; refine go_seq ?_; refine go_seq ?_; refine go_region ⟨_, Tryz.func165⟩ rfl ?_; refine q0 rfl (o_ld ?_); refine q0 rfl (o_lss ?_); refine rg_nil ?_; refine go_cutS ([(1, .int .i64 (if vars < 0 then 0 else v)), (2, .int .i64 d), (3, .pointer (some ⟨b1, 0, none⟩)), (4, .pointer (some ⟨b2, 0, none⟩)), (5, .pointer (some ⟨b3, 0, none⟩)), (6, .pointer (some ⟨b6, 0, none⟩))]) (fun hK => ?_) (fun base => ?_)
  · refine go_condI (fun h11 => ?_) (fun h11 => ?_)
    · refine go_region ⟨_, Tryz.func165⟩ rfl ?_; refine q0 rfl (o_assign ?_); refine rg_nil ?_; exact hK _ ⟨(by first | (rw [if_pos (of_decide_eq_true h11)]; rfl) | (rw [if_neg (of_decide_eq_false h11)]; rfl)), rfl, rfl, rfl, rfl, rfl, trivial⟩
    · refine go_skip ?_; exact hK _ ⟨(by first | (rw [if_pos (of_decide_eq_true h11)]; rfl) | (rw [if_neg (of_decide_eq_false h11)]; rfl)), rfl, rfl, rfl, rfl, rfl, trivial⟩
  · refine go_seq ?_; refine go_region ⟨_, Tryz.func165⟩ rfl ?_; refine q0 rfl (o_lds ?_); refine q0 rfl (o_ld ?_); refine q0 rfl (o_move ?_); refine q0 rfl (o_addW ?_); refine q0 rfl (o_ld ?_); refine q0 rfl (o_move ?_); refine q0 rfl (o_add ?_); refine q0 rfl (o_ld ?_); refine q0 rfl (o_call Tryz.call86 (ih hp (IntKind.i64.wrap (vars + if vars < 0 then 0 else v)) (dims + d) bound vr vk vs (wrap_in _) (by omega) (by omega)) (fun x20 => ?_)); refine q0 rfl (o_assign ?_); refine rg_nil ?_; refine ret1 Tryz.func165 Tryz.results165 wn_ () rfl (fun w hs => (hs.less (by simp)).drop)
theorem all_walk (t : T) (hp : plainT t = true ∨ FORM) (ih : ∀ p, p ∈ parts t → AllAt p.1) (vars dims : Int) (bound : Bool) (vr vk vs : SH) (hv : in64 vars) (h0 : 0 ≤ dims) (hl : dims + depth t ≤ 1152921504606846976) : Spec Tryz.prog 86 #[.agg (tc t vr vk vs).toArray, .int .i64 vars, .int .i64 dims, .bool bound] [RT t vr vk vs] [] (fun _ : Unit => .bool (allP t vars dims bound)) (fun _ => []) (fun _ => []) := by
  refine spec_go (args := [.agg (tc t vr vk vs).toArray, .int .i64 vars, .int .i64 dims, .bool bound]) Tryz.func86 Tryz.ntmps86 rfl (by exact Nat.le_of_ble_eq_true rfl) fun B hB => ?_
  refine go_seq ?_; refine go_region ⟨_, Tryz.func86⟩ rfl ?_; refine q0 rfl (o_box fun b4 => ?_); refine q0 rfl (o_box fun b5 => ?_); refine q0 rfl (o_box fun b6 => ?_); refine q0 rfl (o_box fun b7 => ?_); refine q0 rfl (o_assign ?_); refine rg_nil ?_; refine go_seq ?_; refine go_seq ?_; refine go_cutS ([(4, .pointer (some ⟨b4, 0, none⟩)), (5, .pointer (some ⟨b5, 0, none⟩)), (6, .pointer (some ⟨b6, 0, none⟩)), (7, .pointer (some ⟨b7, 0, none⟩)), (20, .bool ((bound && decide (24 < dims)) || !(ownP t vars dims)))]) (fun hK => ?_) (fun base => ?_)
  · refine go_region ⟨_, Tryz.func86⟩ rfl ?_; refine q0 rfl (o_ld ?_); refine q0 rfl (o_move ?_); refine qI rfl rfl rfl wl_ (fun hg10 => o_ld ?_) (fun hg10 => ?_)
    · refine qT rfl rfl rfl (o_gtr ?_); refine q0 rfl (o_pickT ?_); refine q0 rfl (o_move ?_); refine qI rfl rfl rfl wl_ (fun hg14 => o_lds ?_) (fun hg14 => ?_)
      · refine qT rfl rfl rfl (o_ld ?_); refine qT rfl rfl rfl (o_ld ?_); refine qT rfl rfl rfl (o_call Tryz.call164 (own_spec t (plain_node hp) vr vk vs vars dims h0 (by unfold in64; omega)) (fun x18 => ?_)); refine qT rfl rfl rfl (o_not ?_); refine q0 rfl (o_pickF ?_); refine rg_nil ?_; exact hK _ ⟨rfl, rfl, rfl, rfl, (by (conv => lhs; whnf); first | (simp_all [Bool.and_assoc]; done) | (simp_all [Bool.and_assoc]; omega)), trivial⟩
      · refine qF rfl rfl rfl ?_; refine qF rfl rfl rfl ?_; refine qF rfl rfl rfl ?_; refine qF rfl rfl rfl ?_; refine q0 rfl (o_pickT ?_); refine rg_nil ?_; exact hK _ ⟨rfl, rfl, rfl, rfl, (by (conv => lhs; whnf); first | (simp_all [Bool.and_assoc]; done) | (simp_all [Bool.and_assoc]; omega)), trivial⟩
    · refine qF rfl rfl rfl ?_; refine q0 rfl (o_pickF ?_); refine q0 rfl (o_move ?_); refine qT rfl rfl rfl (o_lds ?_); refine qT rfl rfl rfl (o_ld ?_); refine qT rfl rfl rfl (o_ld ?_); refine qT rfl rfl rfl (o_call Tryz.call164 (own_spec t (plain_node hp) vr vk vs vars dims h0 (by unfold in64; omega)) (fun x18 => ?_)); refine qT rfl rfl rfl (o_not ?_); refine q0 rfl (o_pickF ?_); refine rg_nil ?_; exact hK _ ⟨rfl, rfl, rfl, rfl, (by (conv => lhs; whnf); first | (simp_all [Bool.and_assoc]; done) | (simp_all [Bool.and_assoc]; omega)), trivial⟩
  · refine go_condI (fun h20 => ?_) (fun h20 => ?_)
    · refine go_seq ?_; refine go_region ⟨_, Tryz.func86⟩ rfl ?_; refine q0 rfl (o_assign ?_); refine rg_nil ?_; refine ret1 Tryz.func86 Tryz.results86 wn_ () (by rw [allP_eq, h20]; rfl) (fun w hs => hs.none)
    · refine go_skip ?_; refine go_seq ?_; refine go_region ⟨_, Tryz.func86⟩ rfl ?_; refine q0 rfl (o_lds ?_); refine q0 rfl (o_func ?_); have hE := each_bool t vr vk vs 165 (AllCap b5 b6 b7) [] (AllM b5 b6 b7 vars dims bound) (fun p => allP p.1 (IntKind.i64.wrap (vars + if vars < 0 then 0 else p.2.1)) (dims + p.2.2) bound) Tryz.call165 (fun k v d hm vr vk vs => all1_walk k vr vk vs b5 b6 b7 vars dims v d bound hv h0 (parts_in hm) (by have := depth_mem hm; simp only at this; omega) (plain_part hp hm) (ih _ hm)); refine q0 rfl (o_call Tryz.call98 (hE) (fun x23 => ?_)); refine q0 rfl (o_assign ?_); refine rg_nil ?_; refine ret1 Tryz.func86 Tryz.results86 wn_ () (by rw [allP_eq, h20]; rfl) (fun w hs => hs.none)
theorem all_spec : ∀ t : T, AllAt t := T.ind fun t ih hp vars dims bound vr vk vs hv h0 hl => all_walk t hp ih vars dims bound vr vk vs hv h0 hl
theorem formed_spec (t : T) (hp : plainT t = true ∨ FORM) (vr vk vs : SH) (hsz : size t ≤ 1152921504606846) : Spec Tryz.prog 32 #[.agg (tc t vr vk vs).toArray] [RT t vr vk vs] [] (fun _ : Unit => .int .i64 (formedP t)) (fun _ => []) (fun _ => []) := by
  refine spec_go (args := [.agg (tc t vr vk vs).toArray]) Tryz.func32 Tryz.ntmps32 rfl (by exact Nat.le_of_ble_eq_true rfl) fun B hB => ?_
  have hds := depth_le_size t; refine go_seq ?_; refine go_region ⟨_, Tryz.func32⟩ rfl ?_; refine q0 rfl (o_box fun b1 => ?_); refine q0 rfl (o_assign ?_); refine rg_nil ?_; refine go_seq ?_; refine go_seq ?_; refine go_region ⟨_, Tryz.func32⟩ rfl ?_; refine q0 rfl (o_lds ?_); refine q0 rfl (o_call Tryz.call85 (sized_spec t vr vk vs) (fun x5 => ?_)); refine q0 rfl (o_assign ?_); refine rg_nil ?_; refine go_seq ?_; refine go_region ⟨_, Tryz.func32⟩ rfl ?_; refine q0 rfl (o_move ?_); refine q0 rfl (o_neI ?_); refine rg_nil ?_; refine go_condI (fun h7 => ?_) (fun h7 => ?_)
  · have hs := of_decide_eq_true h7; refine go_seq ?_; refine go_region ⟨_, Tryz.func32⟩ rfl ?_; refine q0 rfl (o_move ?_); refine q0 rfl (o_assign ?_); refine rg_nil ?_; refine ret1 Tryz.func32 Tryz.results32 wn_ () (by rw [formedP, if_pos hs]) (fun w hs => hs.none)
  · have hs := of_decide_eq_false h7; refine go_skip ?_; refine go_seq ?_; refine go_seq ?_; refine go_region ⟨_, Tryz.func32⟩ rfl ?_; refine q0 rfl (o_lds ?_); refine q0 rfl (o_call Tryz.call86 (all_spec t hp (-1) 24 false vr vk vs (by unfold in64; omega) (by omega) (by omega)) (fun x10 => ?_)); refine q0 rfl (o_not ?_); refine rg_nil ?_; refine go_condI (fun h11 => ?_) (fun h11 => ?_)
    · refine go_seq ?_; refine go_region ⟨_, Tryz.func32⟩ rfl ?_; refine q0 rfl (o_assign ?_); refine rg_nil ?_; refine ret1 Tryz.func32 Tryz.results32 wn_ () (by rw [formedP, if_neg hs]; simp_all) (fun w hs => hs.none)
    · refine go_skip ?_; refine go_seq ?_; refine go_region ⟨_, Tryz.func32⟩ rfl ?_; refine q0 rfl (o_assign ?_); refine rg_nil ?_; refine ret1 Tryz.func32 Tryz.results32 wn_ () (by rw [formedP, if_neg hs]; simp_all) (fun w hs => hs.none)
end Go.Hy
namespace Go.Hy
theorem foldl_size (l : List Part) (a : Nat) : l.foldl (fun a p => a + size p.1) a = a + (l.map fun p => size p.1).sum := by
  induction l generalizing a with
  | nil => simp
  | cons b l ih => rw [List.foldl_cons, ih]; simp; omega
theorem size_sum (t : T) : size t = 1 + ((parts t).map fun p => size p.1).sum := by rw [size_eq, foldl_size]
theorem size_kids_sys (t : T) : size t = 1 + (t.kids.map size).sum + ((t.sys.map fun b => b.kids.map size).flatten).sum := by
  rw [size_sum, parts_map, List.sum_append]; omega
theorem formed_zero {t : T} : formedP t = 0 ↔ sized t = 0 ∧ allP t (-1) 24 false = true := by
  unfold formedP
  split
  · rename_i h; constructor
    · intro h2; exact absurd h2 h
    · intro h2; exact absurd h2.1 h
  · rename_i h
    have h : sized t = 0 := by simpa using h
    split
    · rename_i h3; simp [h, h3]
    · rename_i h3; simp [h3]
end Go.Hy
namespace Go.Hy
/-! ### The dimensions of terms; a dimension taken out -/
def dropM (s : Nat) (i : Int) : Nat := if 0 ≤ i ∧ i < 24 then ((s &&& 16777215) &&& (2 ^ i.toNat - 1)) ||| ((s &&& 16777215) / 2 ^ (i.toNat + 1) * 2 ^ i.toNat) else s &&& 16777215
theorem and24_lt (s : Nat) : s &&& 16777215 < 16777216 := by rw [and24]; exact Nat.mod_lt _ (by decide)
theorem dropM_lt (s : Nat) (i : Int) : dropM s i < 16777216 := by
  have h := and24_lt s
  unfold dropM
  split
  · refine Nat.or_lt_two_pow (n := 24) (Nat.lt_of_le_of_lt Nat.and_le_left h) ?_
    generalize s &&& 16777215 = q at *
    have h1 : q / 2 ^ (i.toNat + 1) * 2 ^ i.toNat ≤ q / 2 ^ i.toNat * 2 ^ i.toNat := Nat.mul_le_mul_right _ (Nat.div_le_div_left (Nat.pow_le_pow_right (by omega) (by omega)) (Nat.pow_pos (by omega)))
    have h2 := Nat.div_mul_le_self q (2 ^ i.toNat)
    show _ < 16777216
    omega
  · exact h
def dimsF (t : T) (i : Nat) : Nat := (t.sys.take i).foldl (fun a b => a ||| fDims b.face) (fDims t.r)
def dimsPartG (p : Part × Nat) : Nat := if p.1.2.2 = 1 then dropM p.2 0 else p.2
def dimsG (t : T) (l : List (Part × Nat)) : Nat := l.foldl (fun a p => a ||| dimsPartG p) (dimsF t t.sys.length)
/-- The dimensions that a term has. -/
def dimsT : T → Nat := pf dimsG
def dimsPart (p : Part) : Nat := dimsPartG (p, dimsT p.1)
def dimsUpto (t : T) (m : Nat) : Nat := ((parts t).take m).foldl (fun a p => a ||| dimsPart p) (dimsF t t.sys.length)
theorem dimsUpto_all (t : T) : dimsUpto t (parts t).length = dimsT t := by
  unfold dimsUpto
  rw [List.take_length]
  conv => rhs; rw [dimsT, pf_eq]
  unfold dimsG
  rw [List.foldl_map]
  rfl
theorem fDims_lt (l : List Cl) : fDims l < 16777216 := by rw [fDims_eq]; exact and24_lt _
theorem foldl_or_lt {α : Type} (f : α → Nat) : ∀ (l : List α) (a : Nat), a < 16777216 → (∀ x, x ∈ l → f x < 16777216) → l.foldl (fun a x => a ||| f x) a < 16777216
  | [], a, h, _ => h
  | x :: l, a, h, hx => foldl_or_lt f l _ (Nat.or_lt_two_pow (n := 24) h (hx x List.mem_cons_self)) (fun y hy => hx y (List.mem_cons_of_mem _ hy))
theorem dimsF_lt (t : T) (i : Nat) : dimsF t i < 16777216 := foldl_or_lt _ _ _ (fDims_lt _) (fun b _ => fDims_lt _)
theorem dims_lt : ∀ t, dimsT t < 16777216 := T.ind fun t ih => by
  rw [← dimsUpto_all]
  refine foldl_or_lt _ _ _ (dimsF_lt _ _) (fun p hp => ?_)
  have hp : p ∈ parts t := List.mem_of_mem_take hp
  unfold dimsPart dimsPartG
  split
  · exact dropM_lt _ _
  · exact ih p hp
end Go.Hy
namespace Go.Hy
theorem size_pos' (t : T) : 1 ≤ size t := by
  rw [size_eq]
  have : ∀ (l : List Part) (a : Nat), a ≤ l.foldl (fun a p => a + size p.1) a := by
    intro l
    induction l with
    | nil => intro a; exact Nat.le_refl _
    | cons p l ih => intro a; exact Nat.le_trans (Nat.le_add_right _ _) (ih _)
  exact this _ _
end Go.Hy
namespace Go.Hy
theorem binds_01 (k i : Int) : 0 ≤ (binds k i).1 ∧ (binds k i).1 ≤ 1 ∧ 0 ≤ (binds k i).2 ∧ (binds k i).2 ≤ 1 := by
  unfold binds
  repeat (first | split | (refine ⟨?_, ?_, ?_, ?_⟩ <;> simp))
theorem parts_01 {t : T} {p : Part} (h : p ∈ parts t) : 0 ≤ p.2.1 ∧ p.2.1 ≤ 1 ∧ 0 ≤ p.2.2 ∧ p.2.2 ≤ 1 := by
  unfold parts at h
  rcases List.mem_append.mp h with h | h
  · have : ∀ (ks : List T) (i : Nat), p ∈ kidParts t.kind i ks → 0 ≤ p.2.1 ∧ p.2.1 ≤ 1 ∧ 0 ≤ p.2.2 ∧ p.2.2 ≤ 1 := by
      intro ks
      induction ks with
      | nil => intro i h; simp [kidParts] at h
      | cons k ks ih =>
        intro i h
        rcases List.mem_cons.mp h with e | h
        · subst e; exact binds_01 _ _
        · exact ih _ h
    exact this _ _ h
  · have : ∀ (bs : List Br), p ∈ sysParts t.kind bs → 0 ≤ p.2.1 ∧ p.2.1 ≤ 1 ∧ 0 ≤ p.2.2 ∧ p.2.2 ≤ 1 := by
      intro bs
      induction bs with
      | nil => intro h; simp [sysParts] at h
      | cons b bs ih =>
        intro h
        rcases List.mem_append.mp h with h | h
        · obtain ⟨k, _, e⟩ := List.mem_map.mp h
          subst e
          show 0 ≤ (0 : Int) ∧ (0 : Int) ≤ 1 ∧ 0 ≤ more t.kind ∧ more t.kind ≤ 1
          unfold more
          split <;> omega
        · exact ih h
    exact this _ h
theorem size_part_lt {t : T} {p : Part} (h : p ∈ parts t) : size p.1 < size t := by
  obtain ⟨m, hm, e⟩ := List.mem_iff_getElem.mp h
  have h1 := size_part (t := t) (m := m) (p := p) (by rw [List.getElem?_eq_getElem hm, e])
  have h2 : 1 ≤ sizeUpto t m := by
    unfold sizeUpto pfold
    have : ∀ (l : List Part) (a : Nat), a ≤ l.foldl (fun a p => a + size p.1) a := by
      intro l
      induction l with
      | nil => intro a; exact Nat.le_refl _
      | cons p l ih => intro a; exact Nat.le_trans (Nat.le_add_right _ _) (ih _)
    exact this _ _
  omega
end Go.Hy
namespace Go.Hy
@[simp] theorem qE_def (q : QP) : qE q = RT q.1.1 q.1.2.1 q.1.2.2.1 q.1.2.2.2 := rfl
@[simp] theorem ipE_def (q : IP) : ipE q = IL q.1 q.2 := rfl
end Go.Hy
namespace Go.Hy
section
variable {α : Type} {B : Base} {Γ : List Fact} {Ms : List Res} {w : World} {E : α → Fact} {l : List α}
end
end Go.Hy
