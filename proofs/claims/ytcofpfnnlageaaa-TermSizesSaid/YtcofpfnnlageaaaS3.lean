/- Contracts of functions of this program, one theorem each (printed by a program of this repository). -/
import Derived.Test.YtcofpfnnlageaaaHyAuto
import Derived.Test.YtcofpfnnlageaaaHyTab
import Derived.Test.YtcofpfnnlageaaaHyTerm
import Derived.Test.YtcofpfnnlageaaaS2
namespace Go.Hy
set_option linter.unusedVariables false
set_option linter.unusedSimpArgs false
set_option linter.unusedSectionVars false
open Go.Proofs
set_option linter.unusedVariables false
set_option linter.unusedSimpArgs false
set_option maxRecDepth 100000
/-- What goes through all parts. -/
theorem each_all (t : T) (vr vk vs : SH) (c : FuncId) (cap : List Value) (FΓ : List Fact) (SM : Nat → List Res)
    (hc : ∀ (args : Array Value) (w : World), (callFunc c args).run Try.prog w = .ok (.enter c args) w)
    (hcl : ∀ m k v d, (parts t)[m]? = some (k, v, d) → ∀ vr vk vs, Spec Try.prog c (.agg (tc k vr vk vs).toArray :: .int .i64 v :: .int .i64 d :: cap).toArray (RT k vr vk vs :: FΓ) (SM m) (fun _ : Unit => .bool true) (fun _ => []) (fun _ => SM (m + 1))) :
    Spec Try.prog 45 #[.agg (tc t vr vk vs).toArray, .func (.func c) #[] cap.toArray] (RT t vr vk vs :: FΓ) (SM 0) (fun _ : Unit => .bool true) (fun _ => []) (fun _ => SM (parts t).length) := by
  have h := each_spec t vr vk vs c cap FΓ SM SM (fun _ => true) hc (fun m k v d hm _ vr vk vs => by simpa using hcl m k v d hm vr vk vs)
  have hf : ∀ n, ff (fun _ => true) n = n := fun n => ff_all (fun _ _ => rfl)
  simpa [hf] using h

theorem Int.ofNat_max' (a b : Nat) : ((max a b : Nat) : Int) = if (b : Int) > (a : Int) then (b : Int) else (a : Int) := by
  split <;> omega

theorem size1_walk (k : T) (vr vk vs : SH) (b a : Nat) (v d : Int) (ha : a + size k ≤ 1152921504606846976) (ih : ∀ vr vk vs, Spec Try.prog 21 #[.agg (tc k vr vk vs).toArray] [RT k vr vk vs] [] (fun _ : Unit => .int .i64 (size k : Int)) (fun _ => []) (fun _ => [])) : Spec Try.prog 46 #[.agg (tc k vr vk vs).toArray, .int .i64 v, .int .i64 d, .pointer (some ⟨b, 0, none⟩)] [RT k vr vk vs] [boxR b [.int .i64 (a : Int)] 3] (fun _ : Unit => .bool true) (fun _ => []) (fun _ => [boxR b [.int .i64 ((a + size k : Nat) : Int)] 3]) := by
  refine spec_go (args := [.agg (tc k vr vk vs).toArray, .int .i64 v, .int .i64 d, .pointer (some ⟨b, 0, none⟩)]) Try.func46 Try.ntmps46 rfl (by exact Nat.le_of_ble_eq_true rfl) fun B hB => ?_
  refine go_seq ?_
  refine go_region ⟨_, Try.func46⟩ rfl ?_
  refine q0 rfl (o_box fun b4 => ?_)
  refine q0 rfl (o_assign ?_)
  refine rg_nil ?_
  refine go_seq ?_
  refine go_draw (tn := false) (A := [0, 0, 2, 7, 15]) (l := [0, 1, 2, 3]) (fin := [4]) Tab.mixed ⟨_, Try.func46⟩ (by rfl) ?_
  refine n0 rfl (v_ld ?_)
  refine n0 rfl (v_lds ?_)
  refine n0 rfl (v_call Try.call21 (ih vr vk vs) (fun x10 => ?_))
  refine n0 rfl (v_add ?_)
  refine NV.done ?_
  refine q0 rfl (o_stc ?_)
  refine rg_nil ?_
  refine go_seq ?_
  refine go_region ⟨_, Try.func46⟩ rfl ?_
  refine q0 rfl (o_assign ?_)
  refine rg_nil ?_
  refine ret1 Try.func46 Try.results46 (by first | ((conv => lhs; whnf); done) | rfl) () rfl (fun w hs => (hs.less (by simp)).dropR (A := [_]))

theorem size_walk (t : T) (vr vk vs : SH) (hsz : size t ≤ 1152921504606846976) (ih : ∀ p, p ∈ parts t → size p.1 ≤ 1152921504606846976 → ∀ vr vk vs, Spec Try.prog 21 #[.agg (tc p.1 vr vk vs).toArray] [RT p.1 vr vk vs] [] (fun _ : Unit => .int .i64 (size p.1 : Int)) (fun _ => []) (fun _ => [])) : Spec Try.prog 21 #[.agg (tc t vr vk vs).toArray] [RT t vr vk vs] [] (fun _ : Unit => .int .i64 (size t : Int)) (fun _ => []) (fun _ => []) := by
  refine spec_go (args := [.agg (tc t vr vk vs).toArray]) Try.func21 Try.ntmps21 rfl (by exact Nat.le_of_ble_eq_true rfl) fun B hB => ?_
  have hds := depth_le_size t
  have hdu := depthUpto_le t (parts t).length
  refine go_seq ?_
  refine go_region ⟨_, Try.func21⟩ rfl ?_
  refine q0 rfl (o_box fun b1 => ?_)
  refine q0 rfl (o_assign ?_)
  refine rg_nil ?_
  refine go_seq ?_
  refine go_region ⟨_, Try.func21⟩ rfl ?_
  refine q0 rfl (o_new fun b3 => ?_)
  refine q0 rfl (o_st ?_)
  refine rg_nil ?_
  refine go_seq ?_
  refine go_region ⟨_, Try.func21⟩ rfl ?_
  refine q0 rfl (o_lds ?_)
  refine q0 rfl (o_func ?_)
  have hE := each_all t vr vk vs 46 [.pointer (some ⟨b3, 0, none⟩)] [] (fun m => [boxR b3 [.int .i64 (sizeUpto t m : Int)] 3]) Try.call46 (fun m k v d hm vr vk vs => (by have hx := size_part hm; have hy := depth_le_size k; have hz := depthUpto_le t m; have := size1_walk k vr vk vs b3 (sizeUpto t m) v d (by simp only at hx; omega) (ih _ (parts_mem hm) (by omega)); simpa only [sizeUpto_succ hm] using this))
  simp only [sizeUpto_zero, sizeUpto_all] at hE
  refine q0 rfl (o_call Try.call45 (hE) (fun x6 => ?_))
  refine rg_nil ?_
  refine go_seq ?_
  refine go_region ⟨_, Try.func21⟩ rfl ?_
  refine q0 rfl (o_ld ?_)
  refine q0 rfl (o_assign ?_)
  refine rg_nil ?_
  refine ret1 Try.func21 Try.results21 (by first | ((conv => lhs; whnf); done) | rfl) () rfl (fun w hs => hs.none)

theorem size_spec : ∀ (t : T), size t ≤ 1152921504606846976 → ∀ vr vk vs, Spec Try.prog 21 #[.agg (tc t vr vk vs).toArray] [RT t vr vk vs] [] (fun _ : Unit => .int .i64 (size t : Int)) (fun _ => []) (fun _ => []) :=
  T.ind fun t ih hsz vr vk vs => size_walk t vr vk vs hsz ih

theorem depth1_walk (k : T) (vr vk vs : SH) (b a : Nat) (v d : Int) (ih : ∀ vr vk vs, Spec Try.prog 23 #[.agg (tc k vr vk vs).toArray] [RT k vr vk vs] [] (fun _ : Unit => .int .i64 (depth k : Int)) (fun _ => []) (fun _ => [])) : Spec Try.prog 47 #[.agg (tc k vr vk vs).toArray, .int .i64 v, .int .i64 d, .pointer (some ⟨b, 0, none⟩)] [RT k vr vk vs] [boxR b [.int .i64 (a : Int)] 3] (fun _ : Unit => .bool true) (fun _ => []) (fun _ => [boxR b [.int .i64 ((max a (depth k) : Nat) : Int)] 3]) := by
  refine spec_go (args := [.agg (tc k vr vk vs).toArray, .int .i64 v, .int .i64 d, .pointer (some ⟨b, 0, none⟩)]) Try.func47 Try.ntmps47 rfl (by exact Nat.le_of_ble_eq_true rfl) fun B hB => ?_
  refine go_seq ?_
  refine go_region ⟨_, Try.func47⟩ rfl ?_
  refine q0 rfl (o_box fun b4 => ?_)
  refine q0 rfl (o_assign ?_)
  refine rg_nil ?_
  refine go_seq ?_
  refine go_draw (tn := false) (A := [0, 0, 2, 7, 15]) (l := [0, 1, 2, 3]) (fin := [4]) Tab.mixed ⟨_, Try.func47⟩ (by rfl) ?_
  refine n0 rfl (v_ld ?_)
  refine n0 rfl (v_lds ?_)
  refine n0 rfl (v_call Try.call23 (ih vr vk vs) (fun x10 => ?_))
  refine n0 rfl (v_max ?_)
  refine NV.done ?_
  refine q0 rfl (o_stc ?_)
  refine rg_nil ?_
  refine go_seq ?_
  refine go_region ⟨_, Try.func47⟩ rfl ?_
  refine q0 rfl (o_assign ?_)
  refine rg_nil ?_
  refine ret1 Try.func47 Try.results47 (by first | ((conv => lhs; whnf); done) | rfl) () rfl (fun w hs => by rw [Int.ofNat_max']; exact (hs.less (by simp)).dropR (A := [_]))

theorem depth_walk (t : T) (vr vk vs : SH) (hsz : size t ≤ 1152921504606846976) (ih : ∀ p, p ∈ parts t → size p.1 ≤ 1152921504606846976 → ∀ vr vk vs, Spec Try.prog 23 #[.agg (tc p.1 vr vk vs).toArray] [RT p.1 vr vk vs] [] (fun _ : Unit => .int .i64 (depth p.1 : Int)) (fun _ => []) (fun _ => [])) : Spec Try.prog 23 #[.agg (tc t vr vk vs).toArray] [RT t vr vk vs] [] (fun _ : Unit => .int .i64 (depth t : Int)) (fun _ => []) (fun _ => []) := by
  refine spec_go (args := [.agg (tc t vr vk vs).toArray]) Try.func23 Try.ntmps23 rfl (by exact Nat.le_of_ble_eq_true rfl) fun B hB => ?_
  have hds := depth_le_size t
  have hdu := depthUpto_le t (parts t).length
  refine go_seq ?_
  refine go_region ⟨_, Try.func23⟩ rfl ?_
  refine q0 rfl (o_box fun b1 => ?_)
  refine q0 rfl (o_assign ?_)
  refine rg_nil ?_
  refine go_seq ?_
  refine go_region ⟨_, Try.func23⟩ rfl ?_
  refine q0 rfl (o_new fun b3 => ?_)
  refine q0 rfl (o_st ?_)
  refine rg_nil ?_
  refine go_seq ?_
  refine go_region ⟨_, Try.func23⟩ rfl ?_
  refine q0 rfl (o_lds ?_)
  refine q0 rfl (o_func ?_)
  have hE := each_all t vr vk vs 47 [.pointer (some ⟨b3, 0, none⟩)] [] (fun m => [boxR b3 [.int .i64 (depthUpto t m : Int)] 3]) Try.call47 (fun m k v d hm vr vk vs => (by have hx := size_part hm; have hy := depth_le_size k; have hz := depthUpto_le t m; have := depth1_walk k vr vk vs b3 (depthUpto t m) v d (ih _ (parts_mem hm) (by omega)); simpa only [depthUpto_succ hm] using this))
  simp only [depthUpto_zero] at hE
  refine q0 rfl (o_call Try.call45 (hE) (fun x6 => ?_))
  refine rg_nil ?_
  refine go_seq ?_
  refine go_region ⟨_, Try.func23⟩ rfl ?_
  refine q0 rfl (o_ld ?_)
  refine q0 rfl (o_add ?_)
  refine q0 rfl (o_assign ?_)
  refine rg_nil ?_
  refine ret1 Try.func23 Try.results23 (by first | ((conv => lhs; whnf); done) | rfl) () (by rw [← depthUpto_all t]; rfl) (fun w hs => hs.none)

theorem depth_spec : ∀ (t : T), size t ≤ 1152921504606846976 → ∀ vr vk vs, Spec Try.prog 23 #[.agg (tc t vr vk vs).toArray] [RT t vr vk vs] [] (fun _ : Unit => .int .i64 (depth t : Int)) (fun _ => []) (fun _ => []) :=
  T.ind fun t ih hsz vr vk vs => depth_walk t vr vk vs hsz ih

end Go.Hy
