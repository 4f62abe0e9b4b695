/- Contracts of this program's functions and the laws that they need. -/
import Derived.Test.YtibignmpjeemeaaGreatDoorP4
set_option linter.unusedVariables false
set_option linter.unusedSimpArgs false
set_option linter.unusedSectionVars false
namespace Go.Hy
open Go.Proofs Go.Proofs.Tryz
theorem Ry {p q : Prop} (h : p) (e : p = q := by
 try (conv => lhs; simp only [sC, bne_iff_ne, beq_iff_eq, ne_eq])
 try rfl) : q := e ▸ h
class Cj (P : Program) (k : FuncId) (fn : outParam Func) : Prop where
 f : P.funcs[k]? = some fn
structure Af (p : Prop) : Prop where
 out : p
section
variable {P : Program} {f : FuncId} {R : Ending → World → Prop} {B : C2} {n : Fz} {K : List Item} {σ : Nat → Value} {Γ Γ' : List Fact} {Ms : List B2}
theorem f_ {k : FuncId} {fn : Func} [h : Cj P k fn] : P.funcs[k]? = some fn := h.f
theorem L2 {fn : Func} {id : Nat} {ops : Array Oper} [h9 : Cj P f fn] (h : D9 P f R B n K ops (List.range ops.size) σ Γ Ms) : Dx P f R B n (.code (.region id ops false) :: K) σ Γ Ms := go_region ⟨_, h9.f⟩ rfl h
theorem I6 {Q : Program} [Tab Q] {g : FuncId} {S : Ending → World → Prop} {C : C2} {m : Fz} {L : List Item} {ops : Array Oper} {i : Nat} {l : List Nat} {τ : Nat → Value} {Δ : List Fact} {Ns : List B2} {dst : Option Tmp} {op : Op} {ty : TypeId} {pos : String} {after : Array Edge} {e d : Nat} {want : Bool} {og : Oper} (ho : ops[i]? = some ⟨dst, op, ty, pos, after, some (e, want)⟩) (t : Bool) {p q : Prop} (kT : t = want → p → Ds Q g S C m L ops l (C3 dst op ty) (Ot τ d (.bool want)) Δ Ns) (kF : t = !want → q → D9 Q g S C m L ops l (Ai (Ot τ d (.bool !want)) dst undef) Δ Ns) (hog : ops[e]? = some og := by exact rfl) (hgd : og.dst = some d := by exact rfl) (ht : τ d = .bool t := by exact A4) (e1 : (t = want) = p := by
 try (conv => lhs; simp only [sC, bne_iff_ne, beq_iff_eq, ne_eq])
 try rfl) (e2 : (t = !want) = q := by
 try (conv => lhs; simp only [Bool.not_true, Bool.not_false, sC, bne_iff_ne, beq_iff_eq, ne_eq])
 try rfl) (hd : A8 m dst = true := by rfl) : D9 Q g S C m L ops (i :: l) τ Δ Ns := qI ho hog hgd ht (fun h => kT h (e1 ▸ h)) (fun h => kF h (e2 ▸ h)) hd
theorem Bu {d : Nat} {x y : Code} (t : Bool) {p q : Prop} (kT : t = true → p → Dx P f R B n (.code x :: K) (Ot σ d (.bool true)) Γ Ms) (kF : t = false → q → Dx P f R B n (.code y :: K) (Ot σ d (.bool false)) Γ Ms) (hc : σ d = .bool t := by exact A4) (e1 : (t = true) = p := by
 try (conv => lhs; simp only [sC, bne_iff_ne, beq_iff_eq, ne_eq])
 try rfl) (e2 : (t = false) = q := by
 try (conv => lhs; simp only [sC, bne_iff_ne, beq_iff_eq, ne_eq])
 try rfl) : Dx P f R B n (.code (.cond (.tmp d) x y) :: K) σ Γ Ms := A3 (fun h => kT h (e1 ▸ h)) (fun h => kF h (e2 ▸ h)) hc
theorem Cp {fn : Func} {c : Code} {m : Nat} {args : List Value} {pre : List Fact} {Ms0 : List B2} {X : Type} {val : X → Value} {N : X → List Fact} {Ms1 : X → List B2} [h9 : Cj P f fn] (hn : fn.ntmps = m) (h : ∀ B : C2, (∀ b, B.S0 b ↔ Bb Ms0 b) → Dx P f (Ends B val N Ms1) B ⟨m, [], .normal⟩ [.code c] (fun t => args.getD t undef) pre Ms0) (hb : fn.body = some c := by exact rfl) (ha : args.length ≤ m := by exact Nat.le_of_ble_eq_true rfl) : Spec P f args.toArray pre Ms0 val N Ms1 := Fj h9.f hn hb ha h
theorem St.l9 {w : World} (hs : St B Γ Ms w) (h : ∀ F, F ∈ Γ' → F ∈ Γ := by simp +contextual) : St B Γ' Ms w := hs.less h
theorem St.l7 {w : World} (hs : St B Γ Ms w) (h : ∀ F, F ∈ ([] : List Fact) → F ∈ Γ := by simp) : St B [] Ms w := hs.less h
theorem St.l8 {w : World} (hs : St B Γ Ms w) (h : ∀ F, F ∈ Γ' → F ∈ Γ := by simp) : St B Γ' Ms w := hs.less h
end
section
variable {p q : Prop}
theorem Ec (k : p) (h : Af p → q := by intro h; refine D1p ?_; exact h.1) : q := h ⟨k⟩
theorem Ig (k : p) (h : Af p → q := by intro h; refine C7q ?_; exact h.1) : q := h ⟨k⟩
theorem zq2 (k : p) (h : Af p → q := by intro h; refine q0 rfl (B9p ?_); exact h.1) : q := h ⟨k⟩
theorem En (k : p) (h : Af p → q := by intro h; refine q0 rfl (Bs ?_); exact h.1) : q := h ⟨k⟩
theorem U3 (k : p) (h : Af p → q := by intro h; refine qF rfl rfl rfl ?_; exact h.1) : q := h ⟨k⟩
theorem Ga (k : p) (h : Af p → q := by intro h; refine go_skip ?_; exact h.1) : q := h ⟨k⟩
theorem Zj (k : p) (h : Af p → q := by intro h; refine C1c ?_; exact h.1) : q := h ⟨k⟩
theorem zq7 (k : p) (h : Af p → q := by intro h; refine q0 rfl (Ty ?_); exact h.1) : q := h ⟨k⟩
theorem zq8 (k : p) (h : Af p → q := by intro h; refine q0 rfl (B4n ?_); exact h.1) : q := h ⟨k⟩
theorem zq9 (k : p) (h : Af p → q := by intro h; refine nF rfl rfl rfl ?_; exact h.1) : q := h ⟨k⟩
theorem C7c (k : p) (h : Af p → q := by intro h; refine q0 rfl (B1h ?_); exact h.1) : q := h ⟨k⟩
theorem Pj (k : p) (h : Af p → q := by intro h; refine q0 rfl (C4b ?_); exact h.1) : q := h ⟨k⟩
theorem G9 (k : p) (h : Af p → q := by intro h; refine n0 rfl (Ue ?_); exact h.1) : q := h ⟨k⟩
theorem A2x (k : p) (h : Af p → q := by intro h; refine q0 rfl (D3q ?_); exact h.1) : q := h ⟨k⟩
theorem A6u (k : p) (h : Af p → q := by intro h; refine q0 rfl (D7b ?_); exact h.1) : q := h ⟨k⟩
theorem C7b (k : p) (h : Af p → q := by intro h; refine q0 rfl (B1i ?_); exact h.1) : q := h ⟨k⟩
theorem A6t (k : p) (h : Af p → q := by intro h; refine A8x ?_; exact h.1) : q := h ⟨k⟩
theorem D2 (k : p) (h : Af p → q := by intro h; refine C4t rfl ?_; exact h.1) : q := h ⟨k⟩
theorem Gk (k : p) (h : Af p → q := by intro h; refine q0 rfl (C6e ?_); exact h.1) : q := h ⟨k⟩
theorem C7a (k : p) (h : Af p → q := by intro h; refine q0 rfl (C6d ?_); exact h.1) : q := h ⟨k⟩
theorem X5 (k : p) (h : Af p → q := by intro h; refine q0 rfl (Yi ?_); exact h.1) : q := h ⟨k⟩
theorem Gw (k : p) (h : Af p → q := by intro h; refine q0 rfl (Nq ?_); exact h.1) : q := h ⟨k⟩
theorem D1 (k : p) (h : Af p → q := by intro h; refine qT rfl rfl rfl (Bs ?_); exact h.1) : q := h ⟨k⟩
theorem B2z (k : p) (h : Af p → q := by intro h; refine NV.done ?_; exact h.1) : q := h ⟨k⟩
theorem C2t (k : p) (h : Af p → q := by intro h; refine qU rfl rfl rfl ?_; exact h.1) : q := h ⟨k⟩
theorem B6s (k : p) (h : Af p → q := by intro h; refine q0 rfl (Vd ?_); exact h.1) : q := h ⟨k⟩
theorem C2s (k : p) (h : Af p → q := by intro h; refine C1a ?_; exact h.1) : q := h ⟨k⟩
theorem A2t (k : p) (h : Af p → q := by intro h; refine n0 rfl (Jw ?_); exact h.1) : q := h ⟨k⟩
theorem Ph (k : p) (h : Af p → q := by intro h; refine qT rfl rfl rfl (C4b ?_); exact h.1) : q := h ⟨k⟩
theorem B6r (k : p) (h : Af p → q := by intro h; refine nU rfl rfl rfl ?_; exact h.1) : q := h ⟨k⟩
theorem C2r (k : p) (h : Af p → q := by intro h; refine n0 rfl (B0g ?_); exact h.1) : q := h ⟨k⟩
theorem Oq (k : p) (h : Af p → q := by intro h; refine q0 rfl (D3l ?_); exact h.1) : q := h ⟨k⟩
theorem A2s (k : p) (h : Af p → q := by intro h; refine q0 rfl (C6c ?_); exact h.1) : q := h ⟨k⟩
theorem Pg (k : p) (h : Af p → q := by intro h; refine qT rfl rfl rfl (B1h ?_); exact h.1) : q := h ⟨k⟩
theorem Qa (k : p) (h : Af p → q := by intro h; refine Bs ?_; exact h.1) : q := h ⟨k⟩
theorem Oo (k : p) (h : Af p → q := by intro h; refine qT rfl rfl rfl (Yi ?_); exact h.1) : q := h ⟨k⟩
theorem I5 (k : p) (h : Af p → q := by intro h; refine nT rfl rfl rfl (D2n ?_); exact h.1) : q := h ⟨k⟩
theorem Q9 (k : p) (h : Af p → q := by intro h; refine n0 rfl (B0f ?_); exact h.1) : q := h ⟨k⟩
theorem D2k (k : p) (h : Af p → q := by intro h; refine n0 rfl (B7f ?_); exact h.1) : q := h ⟨k⟩
theorem Rz (k : p) (h : Af p → q := by intro h; refine qT rfl rfl rfl (B1i ?_); exact h.1) : q := h ⟨k⟩
theorem X4 (k : p) (h : Af p → q := by intro h; refine q0 rfl (Cq ?_); exact h.1) : q := h ⟨k⟩
theorem Jh (k : p) (h : Af p → q := by intro h; refine nT rfl rfl rfl (Ue ?_); exact h.1) : q := h ⟨k⟩
theorem L3 (k : p) (h : Af p → q := by intro h; refine q0 rfl (D3m ?_); exact h.1) : q := h ⟨k⟩
theorem Mv (k : p) (h : Af p → q := by intro h; refine n0 rfl (Xu ?_); exact h.1) : q := h ⟨k⟩
theorem D2j (k : p) (h : Af p → q := by intro h; refine n0 rfl (B3f ?_); exact h.1) : q := h ⟨k⟩
theorem N0 (k : p) (h : Af p → q := by intro h; refine q0 rfl (A8i ?_); exact h.1) : q := h ⟨k⟩
theorem Zo (k : p) (h : Af p → q := by intro h; refine qT rfl rfl rfl (C6d ?_); exact h.1) : q := h ⟨k⟩
theorem A6s (k : p) (h : Af p → q := by intro h; refine qT rfl rfl rfl (B9k ?_); exact h.1) : q := h ⟨k⟩
theorem On (k : p) (h : Af p → q := by intro h; refine q0 rfl (D3n ?_); exact h.1) : q := h ⟨k⟩
theorem B2y (k : p) (h : Af p → q := by intro h; refine q0 rfl (B9k ?_); exact h.1) : q := h ⟨k⟩
theorem D2i (k : p) (h : Af p → q := by intro h; refine q0 rfl (D3g ?_); exact h.1) : q := h ⟨k⟩
theorem C6z (k : p) (h : Af p → q := by intro h; refine qT rfl rfl rfl (Ty ?_); exact h.1) : q := h ⟨k⟩
theorem Ua (k : p) (h : Af p → q := by intro h; refine q0 rfl (C8s ?_); exact h.1) : q := h ⟨k⟩
theorem X3 (k : p) (h : Af p → q := by intro h; refine C1b ?_; exact h.1) : q := h ⟨k⟩
theorem X2 (k : p) (h : Af p → q := by intro h; refine q0 rfl (C6f ?_); exact h.1) : q := h ⟨k⟩
theorem X1 (k : p) (h : Af p → q := by intro h; refine qT rfl rfl rfl (C6c ?_); exact h.1) : q := h ⟨k⟩
theorem Zn (k : p) (h : Af p → q := by intro h; refine qT rfl rfl rfl (B9h ?_); exact h.1) : q := h ⟨k⟩
theorem Zm (k : p) (h : Af p → q := by intro h; refine nT rfl rfl rfl (B0f ?_); exact h.1) : q := h ⟨k⟩
theorem Zl (k : p) (h : Af p → q := by intro h; refine nT rfl rfl rfl (B0g ?_); exact h.1) : q := h ⟨k⟩
theorem Zk (k : p) (h : Af p → q := by intro h; refine nT rfl rfl rfl (Jw ?_); exact h.1) : q := h ⟨k⟩
theorem Zi (k : p) (h : Af p → q := by intro h; refine qT rfl rfl rfl (C6e ?_); exact h.1) : q := h ⟨k⟩
theorem A2r (k : p) (h : Af p → q := by intro h; refine qT rfl rfl rfl (C6f ?_); exact h.1) : q := h ⟨k⟩
theorem A2q (k : p) (h : Af p → q := by intro h; refine nT rfl rfl rfl (Xt ?_); exact h.1) : q := h ⟨k⟩
theorem A2p (k : p) (h : Af p → q := by intro h; refine q0 rfl (B9i ?_); exact h.1) : q := h ⟨k⟩
theorem A2o (k : p) (h : Af p → q := by intro h; refine q0 rfl (C8t ?_); exact h.1) : q := h ⟨k⟩
theorem A2n (k : p) (h : Af p → q := by intro h; refine q0 rfl (C8u ?_); exact h.1) : q := h ⟨k⟩
theorem A6r (k : p) (h : Af p → q := by intro h; refine nT rfl rfl rfl (B7d ?_); exact h.1) : q := h ⟨k⟩
theorem A6q (k : p) (h : Af p → q := by intro h; refine nT rfl rfl rfl (D2o ?_); exact h.1) : q := h ⟨k⟩
theorem A6p (k : p) (h : Af p → q := by intro h; refine n0 rfl (D2q ?_); exact h.1) : q := h ⟨k⟩
theorem B2x (k : p) (h : Af p → q := by intro h; refine q0 rfl (D3o ?_); exact h.1) : q := h ⟨k⟩
theorem B2v (k : p) (h : Af p → q := by intro h; refine nT rfl rfl rfl (B0h ?_); exact h.1) : q := h ⟨k⟩
theorem B2u (k : p) (h : Af p → q := by intro h; refine n0 rfl (Xs ?_); exact h.1) : q := h ⟨k⟩
theorem Ax (k : p) (h : Af p → q := by intro h; refine Ec ?_; refine L2 ?_; exact h.1) : q := h ⟨k⟩
theorem C9 (k : p) (h : Af p → q := by intro h; refine zq2 ?_; refine Ig ?_; exact h.1) : q := h ⟨k⟩
theorem Et (k : p) (h : Af p → q := by intro h; refine Ax ?_; refine En ?_; exact h.1) : q := h ⟨k⟩
theorem B9 (k : p) (h : Af p → q := by intro h; refine Ax ?_; refine C9 ?_; exact h.1) : q := h ⟨k⟩
theorem Ku (k : p) (h : Af p → q := by intro h; refine zq2 ?_; refine C9 ?_; exact h.1) : q := h ⟨k⟩
theorem Fp (k : p) (h : Af p → q := by intro h; refine U3 ?_; refine U3 ?_; exact h.1) : q := h ⟨k⟩
theorem Hc (k : p) (h : Af p → q := by intro h; refine Ec ?_; refine Et ?_; exact h.1) : q := h ⟨k⟩
theorem Gz (k : p) (h : Af p → q := by intro h; refine zq7 ?_; refine Pj ?_; exact h.1) : q := h ⟨k⟩
theorem Dy (k : p) (h : Af p → q := by intro h; refine L2 ?_; refine En ?_; exact h.1) : q := h ⟨k⟩
theorem Ho (k : p) (h : Af p → q := by intro h; refine Ga ?_; refine Ec ?_; exact h.1) : q := h ⟨k⟩
theorem C2q (k : p) (h : Af p → q := by intro h; refine En ?_; refine Ig ?_; exact h.1) : q := h ⟨k⟩
theorem Db (k : p) (h : Af p → q := by intro h; refine Ax ?_; refine Ku ?_; exact h.1) : q := h ⟨k⟩
theorem Tv (k : p) (h : Af p → q := by intro h; refine C7a ?_; refine Ig ?_; exact h.1) : q := h ⟨k⟩
theorem Hn (k : p) (h : Af p → q := by intro h; refine Ho ?_; refine Zj ?_; exact h.1) : q := h ⟨k⟩
theorem Zh (k : p) (h : Af p → q := by intro h; refine zq8 ?_; refine zq8 ?_; exact h.1) : q := h ⟨k⟩
theorem Fo (k : p) (h : Af p → q := by intro h; refine C7c ?_; refine Ig ?_; exact h.1) : q := h ⟨k⟩
theorem X0 (k : p) (h : Af p → q := by intro h; refine zq9 ?_; refine zq9 ?_; exact h.1) : q := h ⟨k⟩
theorem Q8 (k : p) (h : Af p → q := by intro h; refine B2z ?_; refine Ig ?_; exact h.1) : q := h ⟨k⟩
theorem Fm (k : p) (h : Af p → q := by intro h; refine C9 ?_; refine Ec ?_; exact h.1) : q := h ⟨k⟩
theorem Jg (k : p) (h : Af p → q := by intro h; refine Zh ?_; refine Ku ?_; exact h.1) : q := h ⟨k⟩
theorem B6q (k : p) (h : Af p → q := by intro h; refine X5 ?_; refine C9 ?_; exact h.1) : q := h ⟨k⟩
theorem Ff (k : p) (h : Af p → q := by intro h; refine A6u ?_; refine Ig ?_; exact h.1) : q := h ⟨k⟩
theorem D2h (k : p) (h : Af p → q := by intro h; refine L2 ?_; refine A2x ?_; refine C2q ?_; exact h.1) : q := h ⟨k⟩
theorem Q7 (k : p) (h : Af p → q := by intro h; refine A6t ?_; refine D2h ?_; exact h.1) : q := h ⟨k⟩
theorem Wz (k : p) (h : Af p → q := by intro h; refine A2x ?_; refine C9 ?_; exact h.1) : q := h ⟨k⟩
theorem A2m (k : p) (h : Af p → q := by intro h; refine B6s ?_; refine Ig ?_; exact h.1) : q := h ⟨k⟩
theorem E9 (k : p) (h : Af p → q := by intro h; refine Ax ?_; refine Tv ?_; refine Ec ?_; exact h.1) : q := h ⟨k⟩
theorem Gv (k : p) (h : Af p → q := by intro h; refine A6u ?_; refine C9 ?_; exact h.1) : q := h ⟨k⟩
theorem E3 (k : p) (h : Af p → q := by intro h; refine Ax ?_; refine Gz ?_; exact h.1) : q := h ⟨k⟩
theorem B0c (k : p) (h : Af p → q := by intro h; refine C2q ?_; refine Zj ?_; exact h.1) : q := h ⟨k⟩
theorem Dp (k : p) (h : Af p → q := by intro h; refine C7b ?_; refine Ig ?_; exact h.1) : q := h ⟨k⟩
theorem Hg (k : p) (h : Af p → q := by intro h; refine Et ?_; refine En ?_; exact h.1) : q := h ⟨k⟩
theorem D3 (k : p) (h : Af p → q := by intro h; refine Ax ?_; refine B6q ?_; exact h.1) : q := h ⟨k⟩
theorem Xp (k : p) (h : Af p → q := by intro h; refine Gk ?_; refine B0c ?_; exact h.1) : q := h ⟨k⟩
theorem B0b (k : p) (h : Af p → q := by intro h; refine Dy ?_; refine Wz ?_; exact h.1) : q := h ⟨k⟩
theorem Dc (k : p) (h : Af p → q := by intro h; refine Ax ?_; refine Gw ?_; exact h.1) : q := h ⟨k⟩
theorem Ep (k : p) (h : Af p → q := by intro h; refine A2t ?_; refine n0 rfl (D2n ?_); exact h.1) : q := h ⟨k⟩
theorem Ix (k : p) (h : Af p → q := by intro h; refine C7c ?_; refine En ?_; exact h.1) : q := h ⟨k⟩
theorem Hq (k : p) (h : Af p → q := by intro h; refine A6t ?_; refine B0b ?_; exact h.1) : q := h ⟨k⟩
theorem Ew (k : p) (h : Af p → q := by intro h; refine Fp ?_; refine U3 ?_; exact h.1) : q := h ⟨k⟩
theorem Fs (k : p) (h : Af p → q := by intro h; refine L2 ?_; refine Gz ?_; exact h.1) : q := h ⟨k⟩
theorem Jb (k : p) (h : Af p → q := by intro h; refine B9 ?_; refine Zj ?_; exact h.1) : q := h ⟨k⟩
theorem Sz (k : p) (h : Af p → q := by intro h; refine Ga ?_; refine C2s ?_; exact h.1) : q := h ⟨k⟩
theorem Kc (k : p) (h : Af p → q := by intro h; refine En ?_; refine Jg ?_; exact h.1) : q := h ⟨k⟩
theorem Gu (k : p) (h : Af p → q := by intro h; refine C7b ?_; refine C9 ?_; exact h.1) : q := h ⟨k⟩
theorem H4 (k : p) (h : Af p → q := by intro h; refine Et ?_; refine Ku ?_; exact h.1) : q := h ⟨k⟩
theorem La (k : p) (h : Af p → q := by intro h; refine Hc ?_; refine A2m ?_; exact h.1) : q := h ⟨k⟩
theorem Eg (k : p) (h : Af p → q := by intro h; refine C7c ?_; refine C9 ?_; exact h.1) : q := h ⟨k⟩
theorem Eo (k : p) (h : Af p → q := by intro h; refine C7b ?_; refine En ?_; exact h.1) : q := h ⟨k⟩
theorem Qn (k : p) (h : Af p → q := by intro h; refine C2t ?_; refine C2t ?_; exact h.1) : q := h ⟨k⟩
theorem Eu (k : p) (h : Af p → q := by intro h; refine Hn ?_; refine Ec ?_; exact h.1) : q := h ⟨k⟩
theorem F7 (k : p) (h : Af p → q := by intro h; refine En ?_; refine En ?_; exact h.1) : q := h ⟨k⟩
theorem Iw (k : p) (h : Af p → q := by intro h; refine Fp ?_; refine Fp ?_; exact h.1) : q := h ⟨k⟩
theorem Fq (k : p) (h : Af p → q := by intro h; refine A2s ?_; refine Ig ?_; exact h.1) : q := h ⟨k⟩
theorem A2y (k : p) (h : Af p → q := by intro h; refine Hc ?_; refine Xp ?_; exact h.1) : q := h ⟨k⟩
theorem G3 (k : p) (h : Af p → q := by intro h; refine Hn ?_; refine Ax ?_; exact h.1) : q := h ⟨k⟩
theorem G2 (k : p) (h : Af p → q := by intro h; refine Sz ?_; refine B9 ?_; exact h.1) : q := h ⟨k⟩
theorem G1 (k : p) (h : Af p → q := by intro h; refine G9 ?_; refine G9 ?_; exact h.1) : q := h ⟨k⟩
theorem Nc (k : p) (h : Af p → q := by intro h; refine Gk ?_; refine Tv ?_; exact h.1) : q := h ⟨k⟩
theorem Gt (k : p) (h : Af p → q := by intro h; refine Et ?_; refine C9 ?_; exact h.1) : q := h ⟨k⟩
theorem H3 (k : p) (h : Af p → q := by intro h; refine D2 ?_; refine B9 ?_; exact h.1) : q := h ⟨k⟩
theorem H2 (k : p) (h : Af p → q := by intro h; refine X0 ?_; refine X0 ?_; exact h.1) : q := h ⟨k⟩
theorem H0 (k : p) (h : Af p → q := by intro h; refine Ty ?_; refine Ph ?_; exact h.1) : q := h ⟨k⟩
theorem P5 (k : p) (h : Af p → q := by intro h; refine Fp ?_; refine Qn ?_; exact h.1) : q := h ⟨k⟩
theorem Hf (k : p) (h : Af p → q := by intro h; refine Ga ?_; refine Hq ?_; exact h.1) : q := h ⟨k⟩
theorem P4 (k : p) (h : Af p → q := by intro h; refine C9 ?_; refine Q7 ?_; exact h.1) : q := h ⟨k⟩
theorem Qm (k : p) (h : Af p → q := by intro h; refine Hc ?_; refine X5 ?_; exact h.1) : q := h ⟨k⟩
theorem Ib (k : p) (h : Af p → q := by intro h; refine Ga ?_; refine Q7 ?_; exact h.1) : q := h ⟨k⟩
theorem Ia (k : p) (h : Af p → q := by intro h; refine U3 ?_; refine Pg ?_; exact h.1) : q := h ⟨k⟩
theorem I9 (k : p) (h : Af p → q := by intro h; refine C2r ?_; refine Q8 ?_; exact h.1) : q := h ⟨k⟩
theorem I8 (k : p) (h : Af p → q := by intro h; refine Ec ?_; refine Jb ?_; exact h.1) : q := h ⟨k⟩
theorem I7 (k : p) (h : Af p → q := by intro h; refine Kc ?_; refine La ?_; exact h.1) : q := h ⟨k⟩
theorem Ub (k : p) (h : Af p → q := by intro h; refine zq7 ?_; refine Oq ?_; exact h.1) : q := h ⟨k⟩
theorem Iv (k : p) (h : Af p → q := by intro h; refine Fm ?_; refine Ec ?_; exact h.1) : q := h ⟨k⟩
theorem Iu (k : p) (h : Af p → q := by intro h; refine B6r ?_; refine B6r ?_; exact h.1) : q := h ⟨k⟩
theorem A2w (k : p) (h : Af p → q := by intro h; refine C9 ?_; refine Et ?_; exact h.1) : q := h ⟨k⟩
theorem Ql (k : p) (h : Af p → q := by intro h; refine D2k ?_; refine Q8 ?_; exact h.1) : q := h ⟨k⟩
theorem Ja (k : p) (h : Af p → q := by intro h; refine Hc ?_; refine En ?_; exact h.1) : q := h ⟨k⟩
theorem Ju (k : p) (h : Af p → q := by intro h; refine Ff ?_; refine Ec ?_; exact h.1) : q := h ⟨k⟩
theorem B6w (k : p) (h : Af p → q := by intro h; refine Fo ?_; refine C2s ?_; exact h.1) : q := h ⟨k⟩
theorem Xo (k : p) (h : Af p → q := by intro h; refine zq9 ?_; refine Q9 ?_; exact h.1) : q := h ⟨k⟩
theorem Jt (k : p) (h : Af p → q := by intro h; refine En ?_; refine X4 ?_; exact h.1) : q := h ⟨k⟩
theorem B6v (k : p) (h : Af p → q := by intro h; refine Hc ?_; refine Gz ?_; exact h.1) : q := h ⟨k⟩
theorem Kb (k : p) (h : Af p → q := by intro h; refine B9 ?_; refine Et ?_; exact h.1) : q := h ⟨k⟩
theorem B0a (k : p) (h : Af p → q := by intro h; refine B9 ?_; refine Hg ?_; exact h.1) : q := h ⟨k⟩
theorem Ka (k : p) (h : Af p → q := by intro h; refine En ?_; refine Zh ?_; exact h.1) : q := h ⟨k⟩
theorem A2v (k : p) (h : Af p → q := by intro h; refine Ix ?_; refine Fp ?_; exact h.1) : q := h ⟨k⟩
theorem L9 (k : p) (h : Af p → q := by intro h; refine Oo ?_; refine Rz ?_; exact h.1) : q := h ⟨k⟩
theorem L8 (k : p) (h : Af p → q := by intro h; refine B6w ?_; refine Db ?_; exact h.1) : q := h ⟨k⟩
theorem B6u (k : p) (h : Af p → q := by intro h; refine D2i ?_; refine Ig ?_; exact h.1) : q := h ⟨k⟩
theorem L7 (k : p) (h : Af p → q := by intro h; refine C2r ?_; refine G9 ?_; exact h.1) : q := h ⟨k⟩
theorem A2u (k : p) (h : Af p → q := by intro h; refine C7a ?_; refine En ?_; exact h.1) : q := h ⟨k⟩
theorem L6 (k : p) (h : Af p → q := by intro h; refine A2w ?_; refine A2m ?_; exact h.1) : q := h ⟨k⟩
theorem L5 (k : p) (h : Af p → q := by intro h; refine En ?_; refine Gv ?_; exact h.1) : q := h ⟨k⟩
theorem L4 (k : p) (h : Af p → q := by intro h; refine B6v ?_; refine Nc ?_; exact h.1) : q := h ⟨k⟩
theorem Mn (k : p) (h : Af p → q := by intro h; refine E3 ?_; refine Xp ?_; exact h.1) : q := h ⟨k⟩
theorem Mm (k : p) (h : Af p → q := by intro h; refine C9 ?_; refine Ax ?_; exact h.1) : q := h ⟨k⟩
theorem Ml (k : p) (h : Af p → q := by intro h; refine Ax ?_; refine Ub ?_; exact h.1) : q := h ⟨k⟩
theorem Mk (k : p) (h : Af p → q := by intro h; refine Ep ?_; refine G9 ?_; exact h.1) : q := h ⟨k⟩
theorem Nb (k : p) (h : Af p → q := by intro h; refine Qm ?_; refine Ig ?_; exact h.1) : q := h ⟨k⟩
theorem B6t (k : p) (h : Af p → q := by intro h; refine P5 ?_; refine U3 ?_; exact h.1) : q := h ⟨k⟩
theorem Na (k : p) (h : Af p → q := by intro h; refine C6z ?_; refine Ph ?_; exact h.1) : q := h ⟨k⟩
theorem N9 (k : p) (h : Af p → q := by intro h; refine B9 ?_; refine A2y ?_; exact h.1) : q := h ⟨k⟩
theorem N8 (k : p) (h : Af p → q := by intro h; refine Ga ?_; refine Et ?_; exact h.1) : q := h ⟨k⟩
theorem N7 (k : p) (h : Af p → q := by intro h; refine Db ?_; refine A2y ?_; exact h.1) : q := h ⟨k⟩
theorem N6 (k : p) (h : Af p → q := by intro h; refine B0a ?_; refine Ku ?_; exact h.1) : q := h ⟨k⟩
theorem N5 (k : p) (h : Af p → q := by intro h; refine Ga ?_; refine Dy ?_; refine P4 ?_; exact h.1) : q := h ⟨k⟩
theorem N4 (k : p) (h : Af p → q := by intro h; refine D2 ?_; refine H4 ?_; exact h.1) : q := h ⟨k⟩
theorem N3 (k : p) (h : Af p → q := by intro h; refine zq7 ?_; refine B6u ?_; exact h.1) : q := h ⟨k⟩
theorem N2 (k : p) (h : Af p → q := by intro h; refine Ew ?_; refine Fo ?_; exact h.1) : q := h ⟨k⟩
theorem N1 (k : p) (h : Af p → q := by intro h; refine Qa ?_; refine A6s ?_; exact h.1) : q := h ⟨k⟩
theorem P3 (k : p) (h : Af p → q := by intro h; refine Ga ?_; refine A6t ?_; exact h.1) : q := h ⟨k⟩
theorem P2 (k : p) (h : Af p → q := by intro h; refine Fp ?_; refine Gu ?_; exact h.1) : q := h ⟨k⟩
theorem P1 (k : p) (h : Af p → q := by intro h; refine Xo ?_; refine Q8 ?_; exact h.1) : q := h ⟨k⟩
theorem P0 (k : p) (h : Af p → q := by intro h; refine X5 ?_; refine En ?_; exact h.1) : q := h ⟨k⟩
theorem Oz (k : p) (h : Af p → q := by intro h; refine U3 ?_; refine Fo ?_; exact h.1) : q := h ⟨k⟩
theorem Oy (k : p) (h : Af p → q := by intro h; refine Fs ?_; refine En ?_; exact h.1) : q := h ⟨k⟩
theorem Ox (k : p) (h : Af p → q := by intro h; refine B2y ?_; refine Ig ?_; exact h.1) : q := h ⟨k⟩
theorem Ow (k : p) (h : Af p → q := by intro h; refine Ix ?_; refine Iw ?_; exact h.1) : q := h ⟨k⟩
theorem Ov (k : p) (h : Af p → q := by intro h; refine Ga ?_; refine Hg ?_; exact h.1) : q := h ⟨k⟩
theorem Qk (k : p) (h : Af p → q := by intro h; refine Ga ?_; refine D2 ?_; refine Db ?_; exact h.1) : q := h ⟨k⟩
theorem Qj (k : p) (h : Af p → q := by intro h; refine L2 ?_; refine B6q ?_; exact h.1) : q := h ⟨k⟩
theorem Qi (k : p) (h : Af p → q := by intro h; refine Et ?_; refine Gw ?_; exact h.1) : q := h ⟨k⟩
theorem Qh (k : p) (h : Af p → q := by intro h; refine U3 ?_; refine A2v ?_; exact h.1) : q := h ⟨k⟩
theorem Qg (k : p) (h : Af p → q := by intro h; refine B6t ?_; refine Dp ?_; exact h.1) : q := h ⟨k⟩
theorem Qf (k : p) (h : Af p → q := by intro h; refine X0 ?_; refine zq9 ?_; exact h.1) : q := h ⟨k⟩
theorem Qe (k : p) (h : Af p → q := by intro h; refine Dy ?_; refine A2u ?_; exact h.1) : q := h ⟨k⟩
theorem Qd (k : p) (h : Af p → q := by intro h; refine Qa ?_; refine Zo ?_; exact h.1) : q := h ⟨k⟩
theorem Qc (k : p) (h : Af p → q := by intro h; refine Dy ?_; refine En ?_; exact h.1) : q := h ⟨k⟩
theorem Qb (k : p) (h : Af p → q := by intro h; refine G9 ?_; refine D2j ?_; refine D2j ?_; refine D2k ?_; refine Ql ?_; exact h.1) : q := h ⟨k⟩
end
instance : Cj prog 8 f8 := ⟨func8⟩
instance : Cj prog 15 f15 := ⟨func15⟩
instance : Cj prog 16 f16 := ⟨func16⟩
instance : Cj prog 18 f18 := ⟨func18⟩
instance : Cj prog 20 f20 := ⟨func20⟩
instance : Cj prog 22 f22 := ⟨func22⟩
instance : Cj prog 23 f23 := ⟨func23⟩
instance : Cj prog 24 f24 := ⟨func24⟩
instance : Cj prog 26 f26 := ⟨func26⟩
instance : Cj prog 31 f31 := ⟨func31⟩
instance : Cj prog 32 f32 := ⟨func32⟩
instance : Cj prog 33 f33 := ⟨func33⟩
instance : Cj prog 34 f34 := ⟨func34⟩
instance : Cj prog 39 f39 := ⟨func39⟩
instance : Cj prog 46 f46 := ⟨func46⟩
instance : Cj prog 47 f47 := ⟨func47⟩
instance : Cj prog 48 f48 := ⟨func48⟩
instance : Cj prog 49 f49 := ⟨func49⟩
instance : Cj prog 50 f50 := ⟨func50⟩
instance : Cj prog 51 f51 := ⟨func51⟩
instance : Cj prog 52 f52 := ⟨func52⟩
instance : Cj prog 53 f53 := ⟨func53⟩
instance : Cj prog 54 f54 := ⟨func54⟩
instance : Cj prog 56 f56 := ⟨func56⟩
instance : Cj prog 58 f58 := ⟨func58⟩
instance : Cj prog 59 f59 := ⟨func59⟩
instance : Cj prog 60 f60 := ⟨func60⟩
instance : Cj prog 61 f61 := ⟨func61⟩
instance : Cj prog 62 f62 := ⟨func62⟩
instance : Cj prog 63 f63 := ⟨func63⟩
instance : Cj prog 64 f64 := ⟨func64⟩
instance : Cj prog 65 f65 := ⟨func65⟩
instance : Cj prog 66 f66 := ⟨func66⟩
instance : Cj prog 67 f67 := ⟨func67⟩
instance : Cj prog 68 f68 := ⟨func68⟩
instance : Cj prog 70 f70 := ⟨func70⟩
instance : Cj prog 72 f72 := ⟨func72⟩
instance : Cj prog 74 f74 := ⟨func74⟩
instance : Cj prog 76 f76 := ⟨func76⟩
instance : Cj prog 89 f89 := ⟨func89⟩
instance : Cj prog 91 f91 := ⟨func91⟩
instance : Cj prog 92 f92 := ⟨func92⟩
instance : Cj prog 93 f93 := ⟨func93⟩
instance : Cj prog 94 f94 := ⟨func94⟩
instance : Cj prog 95 f95 := ⟨func95⟩
instance : Cj prog 96 f96 := ⟨func96⟩
instance : Cj prog 97 f97 := ⟨func97⟩
instance : Cj prog 98 f98 := ⟨func98⟩
instance : Cj prog 100 f100 := ⟨func100⟩
instance : Cj prog 102 f102 := ⟨func102⟩
instance : Cj prog 103 f103 := ⟨func103⟩
instance : Cj prog 104 f104 := ⟨func104⟩
instance : Cj prog 105 f105 := ⟨func105⟩
instance : Cj prog 106 f106 := ⟨func106⟩
instance : Cj prog 107 f107 := ⟨func107⟩
instance : Cj prog 108 f108 := ⟨func108⟩
instance : Cj prog 109 f109 := ⟨func109⟩
instance : Cj prog 110 f110 := ⟨func110⟩
instance : Cj prog 111 f111 := ⟨func111⟩
instance : Cj prog 112 f112 := ⟨func112⟩
instance : Cj prog 113 f113 := ⟨func113⟩
instance : Cj prog 114 f114 := ⟨func114⟩
instance : Cj prog 115 f115 := ⟨func115⟩
instance : Cj prog 116 f116 := ⟨func116⟩
instance : Cj prog 117 f117 := ⟨func117⟩
instance : Cj prog 118 f118 := ⟨func118⟩
instance : Cj prog 119 f119 := ⟨func119⟩
instance : Cj prog 120 f120 := ⟨func120⟩
instance : Cj prog 121 f121 := ⟨func121⟩
instance : Cj prog 122 f122 := ⟨func122⟩
instance : Cj prog 124 f124 := ⟨func124⟩
instance : Cj prog 125 f125 := ⟨func125⟩
instance : Cj prog 126 f126 := ⟨func126⟩
instance : Cj prog 127 f127 := ⟨func127⟩
instance : Cj prog 131 f131 := ⟨func131⟩
instance : Cj prog 139 f139 := ⟨func139⟩
instance : Cj prog 140 f140 := ⟨func140⟩
instance : Cj prog 166 f166 := ⟨func166⟩
instance : Cj prog 167 f167 := ⟨func167⟩
instance : Cj prog 168 f168 := ⟨func168⟩
instance : Cj prog 169 f169 := ⟨func169⟩
instance : Cj prog 172 f172 := ⟨func172⟩
instance : Cj prog 173 f173 := ⟨func173⟩
instance : Cj prog 174 f174 := ⟨func174⟩
instance : Cj prog 175 f175 := ⟨func175⟩
instance : Cj prog 176 f176 := ⟨func176⟩
instance : Cj prog 177 f177 := ⟨func177⟩
instance : Cj prog 178 f178 := ⟨func178⟩
instance : Cj prog 179 f179 := ⟨func179⟩
instance : Cj prog 180 f180 := ⟨func180⟩
instance : Cj prog 181 f181 := ⟨func181⟩
instance : Cj prog 182 f182 := ⟨func182⟩
instance : Cj prog 183 f183 := ⟨func183⟩
instance : Cj prog 184 f184 := ⟨func184⟩
instance : Cj prog 186 f186 := ⟨func186⟩
instance : Cj prog 187 f187 := ⟨func187⟩
instance : Cj prog 188 f188 := ⟨func188⟩
instance : Cj prog 189 f189 := ⟨func189⟩
instance : Cj prog 190 f190 := ⟨func190⟩
instance : Cj prog 191 f191 := ⟨func191⟩
instance : Cj prog 192 f192 := ⟨func192⟩
instance : Cj prog 193 f193 := ⟨func193⟩
instance : Cj prog 194 f194 := ⟨func194⟩
instance : Cj prog 195 f195 := ⟨func195⟩
instance : Cj prog 196 f196 := ⟨func196⟩
instance : Cj prog 197 f197 := ⟨func197⟩
instance : Cj prog 198 f198 := ⟨func198⟩
instance : Cj prog 199 f199 := ⟨func199⟩
instance : Cj prog 200 f200 := ⟨func200⟩
instance : Cj prog 203 f203 := ⟨func203⟩
instance : Cj prog 204 f204 := ⟨func204⟩
instance : Cj prog 205 f205 := ⟨func205⟩
instance : Cj prog 207 f207 := ⟨func207⟩
instance : Cj prog 208 f208 := ⟨func208⟩
instance : Cj prog 209 f209 := ⟨func209⟩
instance : Cj prog 210 f210 := ⟨func210⟩
instance : Cj prog 218 f218 := ⟨func218⟩
instance : Cj prog 231 f231 := ⟨func231⟩
instance : Cj prog 233 f233 := ⟨func233⟩
instance : Cj prog 236 f236 := ⟨func236⟩
instance : Cj prog 237 f237 := ⟨func237⟩
instance : Cj prog 238 f238 := ⟨func238⟩
instance : Cj prog 239 f239 := ⟨func239⟩
instance : Cj prog 240 f240 := ⟨func240⟩
instance : Cj prog 241 f241 := ⟨func241⟩
instance : Cj prog 242 f242 := ⟨func242⟩
instance : Cj prog 243 f243 := ⟨func243⟩
instance : Cj prog 244 f244 := ⟨func244⟩
instance : Cj prog 245 f245 := ⟨func245⟩
instance : Cj prog 248 f248 := ⟨func248⟩
instance : Cj prog 249 f249 := ⟨func249⟩
instance : Cj prog 250 f250 := ⟨func250⟩
instance : Cj prog 251 f251 := ⟨func251⟩
instance : Cj prog 255 f255 := ⟨func255⟩
instance : Cj prog 256 f256 := ⟨func256⟩
instance : Cj prog 259 f259 := ⟨func259⟩
instance : Cj prog 260 f260 := ⟨func260⟩
instance : Cj prog 270 f270 := ⟨func270⟩
instance : Cj prog 271 f271 := ⟨func271⟩
instance : Cj prog 272 f272 := ⟨func272⟩
instance : Cj prog 273 f273 := ⟨func273⟩
instance : Cj prog 274 f274 := ⟨func274⟩
instance : Cj prog 275 f275 := ⟨func275⟩
instance : Cj prog 276 f276 := ⟨func276⟩
instance : Cj prog 277 f277 := ⟨func277⟩
instance : Cj prog 297 f297 := ⟨func297⟩
instance : Cj prog 298 f298 := ⟨func298⟩
set_option maxRecDepth 100000
theorem Q0 (k i : Int) : Spec prog 62 #[iv k, iv i] [] [] (fun _ : Unit => .tuple #[iv (binds k i).1, iv (binds k i).2]) (fun _ => []) (fun _ => []) := by
 refine Cp ntmps62 fun B hB => ?_
 refine Db ?_; refine Hc ?_; refine Ig ?_; refine Zj ?_; refine Ec ?_; refine Zj ?_; refine Ec ?_; refine Zj ?_; refine Zj ?_; refine Zj ?_; refine Ec ?_; refine Zj ?_; refine Ec ?_; refine Ec ?_; refine Ec ?_; refine D3 ?_; refine A3 (fun h7 => ?_) (fun h7 => ?_)
 ·refine Sz ?_; refine D2 ?_; refine Nb ?_; refine A3 (fun h21 => ?_) (fun h21 => ?_)
  ·refine Db ?_; refine B1 f_ rfl A4 A4 () (by simp_all [binds]) (fun w hs => hs.none)
  ·refine Qk ?_; refine B1 f_ rfl A4 A4 () (by simp_all [binds]) (fun w hs => hs.none)
 ·refine Qj ?_; refine A3 (fun h7 => ?_) (fun h7 => ?_)
  ·refine D2 ?_; refine Nb ?_; refine A3 (fun h21 => ?_) (fun h21 => ?_)
   ·refine Db ?_; refine B1 f_ rfl A4 A4 () (by simp_all [binds]) (fun w hs => hs.none)
   ·refine Qk ?_; refine B1 f_ rfl A4 A4 () (by simp_all [binds]) (fun w hs => hs.none)
  ·refine Ho ?_; refine D3 ?_; refine A3 (fun h10 => ?_) (fun h10 => ?_)
   ·refine D2 ?_; refine A6t ?_; refine A6t ?_; refine Nb ?_; refine A3 (fun h23 => ?_) (fun h23 => ?_)
    ·refine Db ?_; refine B1 f_ rfl A4 A4 () (by simp_all [binds]) (fun w hs => hs.none)
    ·refine Qk ?_; refine B1 f_ rfl A4 A4 () (by simp_all [binds]) (fun w hs => hs.none)
   ·refine Ho ?_; refine D3 ?_; refine A3 (fun h12 => ?_) (fun h12 => ?_)
    ·refine D2 ?_; refine A6t ?_; refine Nb ?_; refine A3 (fun h23 => ?_) (fun h23 => ?_)
     ·refine Db ?_; refine B1 f_ rfl A4 A4 () (by simp_all [binds]) (fun w hs => hs.none)
     ·refine Qk ?_; refine B1 f_ rfl A4 A4 () (by simp_all [binds]) (fun w hs => hs.none)
    ·refine Ho ?_; refine D3 ?_; refine A3 (fun h14 => ?_) (fun h14 => ?_)
     ·refine D2 ?_; refine Nb ?_; refine A3 (fun h23 => ?_) (fun h23 => ?_)
      ·refine Db ?_; refine B1 f_ rfl A4 A4 () (by simp_all [binds]) (fun w hs => hs.none)
      ·refine Qk ?_; refine B1 f_ rfl A4 A4 () (by simp_all [binds]) (fun w hs => hs.none)
     ·refine Ho ?_; refine D3 ?_; refine A3 (fun h16 => ?_) (fun h16 => ?_)
      ·refine Sz ?_; refine D2 ?_; refine Nb ?_; refine A3 (fun h25 => ?_) (fun h25 => ?_)
       ·refine Db ?_; refine B1 f_ rfl A4 A4 () (by simp_all [binds]) (fun w hs => hs.none)
       ·refine Qk ?_; refine B1 f_ rfl A4 A4 () (by simp_all [binds]) (fun w hs => hs.none)
      ·refine D3 ?_; refine A3 (fun h16 => ?_) (fun h16 => ?_)
       ·refine Sz ?_; refine D2 ?_; refine Nb ?_; refine A3 (fun h25 => ?_) (fun h25 => ?_)
        ·refine Db ?_; refine B1 f_ rfl A4 A4 () (by simp_all [binds]) (fun w hs => hs.none)
        ·refine Qk ?_; refine B1 f_ rfl A4 A4 () (by simp_all [binds]) (fun w hs => hs.none)
       ·refine Qj ?_; refine A3 (fun h16 => ?_) (fun h16 => ?_)
        ·refine D2 ?_; refine Nb ?_; refine A3 (fun h25 => ?_) (fun h25 => ?_)
         ·refine Db ?_; refine B1 f_ rfl A4 A4 () (by simp_all [binds]) (fun w hs => hs.none)
         ·refine Qk ?_; refine B1 f_ rfl A4 A4 () (by simp_all [binds]) (fun w hs => hs.none)
        ·refine Qk ?_; refine B1 f_ rfl A4 A4 () (by simp_all [binds]) (fun w hs => hs.none)
theorem Z3 (t : T) (vr vk vs : SH) (c : FuncId) (cap : List Value) (FΓ : List Fact) (SM SF : Nat → List B2) (β : Nat → Bool)
  (hc : ∀ (args : Array Value) (w : World), (callFunc c args).run prog w = .ok (.enter c args) w)
  (hcl : ∀ m k v d, (parts t)[m]? = some (k, v, d) → (∀ j, j < m → β j = true) → ∀ vr vk vs, Spec prog c (.agg (tc k vr vk vs).toArray :: iv v :: iv d :: cap).toArray (RT k vr vk vs :: FΓ) (SM m) (fun _ : Unit => .bool (β m)) (fun _ => []) (fun _ => if β m then SM (m + 1) else SF m)) :
  Spec prog 106 #[.agg (tc t vr vk vs).toArray, .func (.func c) #[] cap.toArray] (RT t vr vk vs :: FΓ) (SM 0) (fun _ : Unit => .bool (ff β (parts t).length == (parts t).length)) (fun _ => []) (fun _ => if ff β (parts t).length = (parts t).length then SM (parts t).length else SF (ff β (parts t).length)) := by
 refine Cp ntmps106 fun B hB => ?_
 refine go_open (fun hk hn hnm => ?_); refine Ar (ts := t.kids) (fun VR VK VS hl1 hA1 => ?_); refine Dn (bs := t.sys) (fun VF VK2 hl2 hA2 => ?_); have hpl := M4 t; refine Ax ?_; refine q0 rfl (Au fun b2 => ?_); refine Fm ?_; refine Mn ?_; refine Cv (X := Nat) (fun i => i ≤ t.kids.length ∧ ∀ j, j < i → β j = true) (fun i => [(1, .func (.func c) #[] cap.toArray), (2, pz b2), (15, sl vk t.kids.length), (16, iv (t.kids.length : Int)), (17, iv (i : Int))]) (fun i => Wy t.kids vk VR VK VS :: U2 t.sys vs VF VK2 :: RT t vr vk vs :: FΓ) (fun i => Aa b2 (tc t vr vk vs) 26 :: SM i) (fun i => t.kids.length - i) (0) (⟨Nat.zero_le _, fun j hj => by omega⟩) (by exact Cm) ?_ ?_
 ·exact fun w hs => hs.l9
 ·intro i base0 ⟨hi, hβ⟩ next0; refine E9 ?_; refine A3 (fun h18 => ?_) (fun h18 => ?_)
  ·have hlt : i < t.kids.length := by have := of_decide_eq_true h18; omega
   obtain ⟨bk, o, hav⟩ := hA1 A2; refine Hn ?_; refine Et ?_; refine X4 ?_; refine L3 ?_; refine q0 rfl (Ba fun b6 => ?_); refine zq2 ?_; refine Ju ?_; refine E1 i hlt ?_; refine L2 ?_; have hpk := Fx t i hlt; refine Gz ?_; refine En ?_; refine q0 rfl (A0 call62 (Q0 t.kind i) (fun x26 => ?_)); refine Kc ?_; refine Qi ?_; refine F7 ?_; refine q0 rfl (Cn hc (hcl i _ _ _ hpk hβ _ _ _) (fun x33 => ?_)); refine Fq ?_; refine A3 (fun h34 => ?_) (fun h34 => ?_)
   ·have hβf : β i = false := by simpa using h34
    refine B9 ?_; have hff := A1p hβf hβ (n := (parts t).length) A2; refine Ad f_ rfl A4 () (by simp [hff]; omega) (fun w hs => by rw [hff, if_neg A2]; simp only [hβf, Bool.false_eq_true, if_false] at hs; exact (hs.l8).Cb)
   ·refine Ib ?_; have hβt : β i = true := by simpa using h34
    refine A1 (fun w hs => ?_) (next0 (i + 1) _ ⟨hlt, fun j hj => (by rcases Nat.lt_succ_iff_lt_or_eq.mp hj with h | h; exact hβ j h; subst h; exact hβt)⟩ A2 Cm); simp only [hβt, if_true] at hs; exact ((hs.l9).perm List.perm_append_comm).drop
  ·have hge : i = t.kids.length := by have := of_decide_eq_false h18; omega
   refine H3 ?_; refine Ec ?_; refine E3 ?_; refine X5 ?_; refine Ig ?_; refine Aq ([(1, .func (.func c) #[] cap.toArray), (2, pz b2), (9, iv (more t.kind))]) (fun hK => ?_) (fun base => ?_)
   ·refine A3 (fun h38 => ?_) (fun h38 => ?_)
    ·refine L2 ?_; refine C9 ?_; exact hK _ ⟨rfl, rfl, by first | (rw [more, if_pos (of_decide_eq_true h38)]; rfl) | (rw [more, if_neg (of_decide_eq_false h38)]; rfl), trivial⟩
    ·refine Ga ?_; exact hK _ ⟨rfl, rfl, by first | (rw [more, if_pos (of_decide_eq_true h38)]; rfl) | (rw [more, if_neg (of_decide_eq_false h38)]; rfl), trivial⟩
   ·refine Ec ?_; refine Mn ?_; refine Cv (X := Nat) (fun i2 => i2 ≤ t.sys.length ∧ ∀ j, j < t.kids.length + B5 i2 t.sys → β j = true) (fun i2 => [(1, .func (.func c) #[] cap.toArray), (9, iv (more t.kind)), (40, sl vs t.sys.length), (41, iv (t.sys.length : Int)), (42, iv (i2 : Int))]) (fun i2 => U2 t.sys vs VF VK2 :: FΓ) (fun i2 => SM (t.kids.length + B5 i2 t.sys)) (fun i2 => t.sys.length - i2) (0) (⟨Nat.zero_le _, fun j hj => hβ j (by simp [B5] at hj; omega)⟩) (by exact Cm) ?_ ?_
    ·exact fun w hs => (by simpa [B5, show i = t.kids.length by omega] using (hs.drop.less (Γ' := U2 t.sys vs VF VK2 :: FΓ) sx_))
    ·intro i2 base1 ⟨hi2, hβ2⟩ next1; refine E9 ?_; refine A3 (fun h43 => ?_) (fun h43 => ?_)
     ·have hlt2 : i2 < t.sys.length := by have := of_decide_eq_true h43; omega
      obtain ⟨bk2, o2, hav2⟩ := hA2 A2; refine G3 ?_; refine X4 ?_; refine B2x ?_; refine q0 rfl (Ba fun b11 => ?_); refine Ff ?_; refine Mn ?_; refine F4 i2 A2 ?_; refine Ar (ts := (t.sys.getD i2 Bd).kids) (fun VR3 VK3 VS3 hl3 hA3 => ?_); refine Cv (X := Nat) (fun j => j ≤ (t.sys.getD i2 Bd).kids.length ∧ ∀ m, m < t.kids.length + B5 i2 t.sys + j → β m = true) (fun j => [(1, .func (.func c) #[] cap.toArray), (9, iv (more t.kind)), (40, sl vs t.sys.length), (41, iv (t.sys.length : Int)), (42, iv ((i2 : Nat) : Int)), (47, sl (VK2 i2) (t.sys.getD i2 Bd).kids.length), (48, iv ((t.sys.getD i2 Bd).kids.length : Int)), (49, iv (j : Int))]) (fun j => Wy (t.sys.getD i2 Bd).kids (VK2 i2) VR3 VK3 VS3 :: U2 t.sys vs VF VK2 :: FΓ) (fun j => SM (t.kids.length + B5 i2 t.sys + j)) (fun j => (t.sys.getD i2 Bd).kids.length - j) (0) (⟨Nat.zero_le _, hβ2⟩) (by exact Cm) ?_ ?_
      ·exact fun w hs => (hs.l9).drop
      ·intro j base2 ⟨hj, hβ3⟩ next2; refine E9 ?_; refine A3 (fun h50 => ?_) (fun h50 => ?_)
       ·have hlt3 : j < (t.sys.getD i2 Bd).kids.length := by have := of_decide_eq_true h50; omega
        obtain ⟨bk3, o3, hav3⟩ := hA3 A2; have hps := Gp t i2 j hlt2 hlt3; refine E1 j hlt3 ?_; refine G3 ?_; refine X4 ?_; refine L3 ?_; refine q0 rfl (Ba fun b13 => ?_); refine Ff ?_; refine Qi ?_; refine En ?_; refine q0 rfl (Cn hc (hcl _ _ _ _ hps hβ3 _ _ _) (fun x56 => ?_)); refine Fq ?_; refine A3 (fun h57 => ?_) (fun h57 => ?_)
        ·have hβf : β (t.kids.length + B5 i2 t.sys + j) = false := by simpa using h57
         refine B9 ?_; have hbd := Zv hlt2 hlt3; have hff := A1p hβf hβ3 (n := (parts t).length) A2; refine Ad f_ rfl A4 () (by simp [hff]; omega) (fun w hs => by rw [hff, if_neg A2]; simp only [hβf, Bool.false_eq_true, if_false] at hs; exact (hs.l8).Cb)
        ·refine Ib ?_; have hβt : β (t.kids.length + B5 i2 t.sys + j) = true := by simpa using h57
         refine A1 (fun w hs => ?_) (next2 (j + 1) _ ⟨hlt3, fun j2 hj2 => (by rcases Nat.lt_succ_iff_lt_or_eq.mp hj2 with h | h; exact hβ3 j2 h; subst h; exact hβt)⟩ A2 Cm); simp only [hβt, if_true] at hs; exact (hs.l9).Cb
       ·have hge3 : j = (t.sys.getD i2 Bd).kids.length := by have := of_decide_eq_false h50; omega
        refine D2 ?_; refine Q7 ?_; refine A1 (fun w hs => ?_) (next1 (i2 + 1) _ ⟨hlt2, by rw [Gc i2 t.sys hlt2]; rw [hge3] at hβ3; simpa [Nat.add_assoc] using hβ3⟩ A2 Cm); rw [hge3] at hs; simp only [Gc i2 t.sys hlt2, ← Nat.add_assoc]; exact hs.l9
     ·refine H3 ?_; have hie : i2 = t.sys.length := by have := of_decide_eq_false h43; omega
      have hff := A1q (β := β) (n := (parts t).length) (by rw [hpl, ← hie]; exact hβ2); refine Ad f_ rfl A4 () (by simp [hff]) (fun w hs => by rw [hff, if_pos rfl, hpl, ← hie]; exact hs.l8)
theorem B5d (k : Int) : Spec prog 189 #[iv k] [] [] (fun _ : Unit => iv (Ce k)) (fun _ => []) (fun _ => []) := by
 refine Cp ntmps189 fun B hB => ?_
 refine B9 ?_; refine Hc ?_; refine Ig ?_; refine Zj ?_; refine Ec ?_; refine D3 ?_; refine A3 (fun h4 => ?_) (fun h4 => ?_)
 ·refine G2 ?_; refine Ad f_ rfl A4 () (by simp_all [Ce]) (fun w hs => hs.none)
 ·refine D3 ?_; refine A3 (fun h4 => ?_) (fun h4 => ?_)
  ·refine G2 ?_; refine Ad f_ rfl A4 () (by simp_all [Ce]) (fun w hs => hs.none)
  ·refine D3 ?_; refine A3 (fun h4 => ?_) (fun h4 => ?_)
   ·refine G2 ?_; refine Ad f_ rfl A4 () (by simp_all [Ce]) (fun w hs => hs.none)
   ·refine D3 ?_; refine A3 (fun h4 => ?_) (fun h4 => ?_)
    ·refine G2 ?_; refine Ad f_ rfl A4 () (by simp_all [Ce]) (fun w hs => hs.none)
    ·refine D3 ?_; refine A3 (fun h4 => ?_) (fun h4 => ?_)
     ·refine G2 ?_; refine Ad f_ rfl A4 () (by simp_all [Ce]) (fun w hs => hs.none)
     ·refine D3 ?_; refine A3 (fun h4 => ?_) (fun h4 => ?_)
      ·refine G2 ?_; refine Ad f_ rfl A4 () (by simp_all [Ce]) (fun w hs => hs.none)
      ·refine D3 ?_; refine A3 (fun h4 => ?_) (fun h4 => ?_)
       ·refine G2 ?_; refine Ad f_ rfl A4 () (by simp_all [Ce]) (fun w hs => hs.none)
       ·refine Qj ?_; refine A3 (fun h4 => ?_) (fun h4 => ?_)
        ·refine B9 ?_; refine Ad f_ rfl A4 () (by simp_all [Ce]) (fun w hs => hs.none)
        ·refine Ec ?_; refine D3 ?_; refine A3 (fun h13 => ?_) (fun h13 => ?_)
         ·refine G2 ?_; refine Ad f_ rfl A4 () (by simp_all [Ce]) (fun w hs => hs.none)
         ·refine D3 ?_; refine A3 (fun h13 => ?_) (fun h13 => ?_)
          ·refine G2 ?_; refine Ad f_ rfl A4 () (by simp_all [Ce]) (fun w hs => hs.none)
          ·refine D3 ?_; refine A3 (fun h13 => ?_) (fun h13 => ?_)
           ·refine G2 ?_; refine Ad f_ rfl A4 () (by simp_all [Ce]) (fun w hs => hs.none)
           ·refine D3 ?_; refine A3 (fun h13 => ?_) (fun h13 => ?_)
            ·refine G2 ?_; refine Ad f_ rfl A4 () (by simp_all [Ce]) (fun w hs => hs.none)
            ·refine D3 ?_; refine A3 (fun h13 => ?_) (fun h13 => ?_)
             ·refine G2 ?_; refine Ad f_ rfl A4 () (by simp_all [Ce]) (fun w hs => hs.none)
             ·refine D3 ?_; refine A3 (fun h13 => ?_) (fun h13 => ?_)
              ·refine G2 ?_; refine Ad f_ rfl A4 () (by simp_all [Ce]) (fun w hs => hs.none)
              ·refine D3 ?_; refine A3 (fun h13 => ?_) (fun h13 => ?_)
               ·refine G2 ?_; refine Ad f_ rfl A4 () (by simp_all [Ce]) (fun w hs => hs.none)
               ·refine D3 ?_; refine A3 (fun h13 => ?_) (fun h13 => ?_)
                ·refine G2 ?_; refine Ad f_ rfl A4 () (by simp_all [Ce]) (fun w hs => hs.none)
                ·refine Qj ?_; refine A3 (fun h13 => ?_) (fun h13 => ?_)
                 ·refine B9 ?_; refine Ad f_ rfl A4 () (by simp_all [Ce]) (fun w hs => hs.none)
                 ·refine Ec ?_; refine D3 ?_; refine A3 (fun h23 => ?_) (fun h23 => ?_)
                  ·refine G2 ?_; refine Ad f_ rfl A4 () (by simp_all [Ce]) (fun w hs => hs.none)
                  ·refine D3 ?_; refine A3 (fun h23 => ?_) (fun h23 => ?_)
                   ·refine G2 ?_; refine Ad f_ rfl A4 () (by simp_all [Ce]) (fun w hs => hs.none)
                   ·refine D3 ?_; refine A3 (fun h23 => ?_) (fun h23 => ?_)
                    ·refine G2 ?_; refine Ad f_ rfl A4 () (by simp_all [Ce]) (fun w hs => hs.none)
                    ·refine D3 ?_; refine A3 (fun h23 => ?_) (fun h23 => ?_)
                     ·refine G2 ?_; refine Ad f_ rfl A4 () (by simp_all [Ce]) (fun w hs => hs.none)
                     ·refine D3 ?_; refine A3 (fun h23 => ?_) (fun h23 => ?_)
                      ·refine G2 ?_; refine Ad f_ rfl A4 () (by simp_all [Ce]) (fun w hs => hs.none)
                      ·refine D3 ?_; refine A3 (fun h23 => ?_) (fun h23 => ?_)
                       ·refine G2 ?_; refine Ad f_ rfl A4 () (by simp_all [Ce]) (fun w hs => hs.none)
                       ·refine Qj ?_; refine A3 (fun h23 => ?_) (fun h23 => ?_)
                        ·refine B9 ?_; refine Ad f_ rfl A4 () (by simp_all [Ce]) (fun w hs => hs.none)
                        ·refine Ec ?_; refine D3 ?_; refine A3 (fun h31 => ?_) (fun h31 => ?_)
                         ·refine G2 ?_; refine Ad f_ rfl A4 () (by simp_all [Ce]) (fun w hs => hs.none)
                         ·refine Qj ?_; refine A3 (fun h31 => ?_) (fun h31 => ?_)
                          ·refine B9 ?_; refine Ad f_ rfl A4 () (by simp_all [Ce]) (fun w hs => hs.none)
                          ·refine D3 ?_; refine A3 (fun h34 => ?_) (fun h34 => ?_)
                           ·refine B9 ?_; refine Ad f_ rfl A4 () (by simp_all [Ce]) (fun w hs => hs.none)
                           ·refine D3 ?_; refine A3 (fun h36 => ?_) (fun h36 => ?_)
                            ·refine B9 ?_; refine Ad f_ rfl A4 () (by simp_all [Ce]) (fun w hs => hs.none)
                            ·refine P3 ?_; refine B9 ?_; refine Ad f_ rfl A4 () (by simp_all [Ce]) (fun w hs => hs.none)
theorem K1 (k : Int) : Spec prog 190 #[iv k] [] [] (fun _ : Unit => iv (C5 k)) (fun _ => []) (fun _ => []) := by
 refine Cp ntmps190 fun B hB => ?_
 refine B9 ?_; refine Hc ?_; refine Ig ?_; refine Zj ?_; refine Ec ?_; refine D3 ?_; refine A3 (fun h4 => ?_) (fun h4 => ?_)
 ·refine G2 ?_; refine Ad f_ rfl A4 () (by simp_all [C5]) (fun w hs => hs.none)
 ·refine D3 ?_; refine A3 (fun h4 => ?_) (fun h4 => ?_)
  ·refine G2 ?_; refine Ad f_ rfl A4 () (by simp_all [C5]) (fun w hs => hs.none)
  ·refine Qj ?_; refine A3 (fun h4 => ?_) (fun h4 => ?_)
   ·refine B9 ?_; refine Ad f_ rfl A4 () (by simp_all [C5]) (fun w hs => hs.none)
   ·refine D3 ?_; refine A3 (fun h8 => ?_) (fun h8 => ?_)
    ·refine B9 ?_; refine Ad f_ rfl A4 () (by simp_all [C5]) (fun w hs => hs.none)
    ·refine P3 ?_; refine B9 ?_; refine Ad f_ rfl A4 () (by simp_all [C5]) (fun w hs => hs.none)
theorem Nh (k : Int) : Spec prog 181 #[iv k] [] [] (fun _ : Unit => iv (C5 k)) (fun _ => []) (fun _ => []) := by
 refine Cp ntmps181 fun B hB => ?_
 refine B9 ?_; refine Nb ?_; refine A3 (fun h4 => ?_) (fun h4 => ?_)
 ·refine B9 ?_; refine Ad f_ rfl A4 () (by simp_all [C5]) (fun w hs => hs.none)
 ·refine Ga ?_; refine Qm ?_; refine En ?_; refine qI rfl rfl rfl Ex (fun hg7 => Bs ?_) (fun hg7 => ?_)
  ·refine Oo ?_; refine Eo ?_; refine qI rfl rfl rfl Ex (fun hg11 => Bs ?_) (fun hg11 => ?_)
   ·refine Oo ?_; refine Dp ?_; refine A3 (fun h14 => ?_) (fun h14 => ?_)
    ·refine B9 ?_; refine Ad f_ rfl A4 () (by simp_all [C5]) (fun w hs => hs.none)
    ·refine Ga ?_; refine B9 ?_; refine Ad f_ rfl A4 () (by simp_all [C5]) (fun w hs => hs.none)
   ·refine U3 ?_; refine B6w ?_; refine B9 ?_; refine Ad f_ rfl A4 () (by simp_all [C5]) (fun w hs => hs.none)
  ·refine Qh ?_; refine B6w ?_; refine B9 ?_; refine Ad f_ rfl A4 () (by simp_all [C5]) (fun w hs => hs.none)
theorem A7m (k : Int) : Spec prog 102 #[iv k] [] [] (fun _ : Unit => iv (more k)) (fun _ => []) (fun _ => []) := by
 refine Cp ntmps102 fun B hB => ?_
 refine B9 ?_; refine Nb ?_; refine A3 (fun h4 => ?_) (fun h4 => ?_)
 ·refine B9 ?_; refine Ad f_ rfl A4 () (by simp_all [more]) (fun w hs => hs.none)
 ·refine Ga ?_; refine B9 ?_; refine Ad f_ rfl A4 () (by simp_all [more]) (fun w hs => hs.none)
theorem A3t (k i : Int) : Spec prog 100 #[iv k, iv i] [] [] (fun _ : Unit => .tuple #[iv (binds k i).1, iv (binds k i).2]) (fun _ => []) (fun _ => []) := by
 refine Cp ntmps100 fun B hB => ?_
 refine Db ?_; refine Qm ?_; refine En ?_; refine qI rfl rfl rfl Ex (fun hg8 => Bs ?_) (fun hg8 => ?_)
 ·refine Oo ?_; refine D1 ?_; refine qI rfl rfl rfl Ex (fun hg11 => Bs ?_) (fun hg11 => ?_)
  ·refine L9 ?_; refine Fo ?_; refine A3 (fun h15 => ?_) (fun h15 => ?_)
   ·refine Db ?_; refine B1 f_ rfl A4 A4 () (by simp_all [binds]) (fun w hs => hs.none)
   ·refine Ga ?_; refine Qm ?_; refine En ?_; refine qI rfl rfl rfl Ex (fun hg18 => Bs ?_) (fun hg18 => ?_)
    ·refine Oo ?_; refine D1 ?_; refine qI rfl rfl rfl Ex (fun hg21 => Bs ?_) (fun hg21 => ?_)
     ·refine L9 ?_; refine D1 ?_; refine qI rfl rfl rfl Ex (fun hg25 => Bs ?_) (fun hg25 => ?_)
      ·refine L9 ?_; refine Fo ?_; refine A3 (fun h29 => ?_) (fun h29 => ?_)
       ·refine Db ?_; refine B1 f_ rfl A4 A4 () (by simp_all [binds]) (fun w hs => hs.none)
       ·refine Ga ?_; refine Qm ?_; refine En ?_; refine qI rfl rfl rfl Ex (fun hg32 => Bs ?_) (fun hg32 => ?_)
        ·refine Oo ?_; refine D1 ?_; refine qI rfl rfl rfl Ex (fun hg35 => Bs ?_) (fun hg35 => ?_)
         ·refine L9 ?_; refine D1 ?_; refine qI rfl rfl rfl Ex (fun hg39 => Bs ?_) (fun hg39 => ?_)
          ·refine L9 ?_; refine Fo ?_; refine A3 (fun h43 => ?_) (fun h43 => ?_)
           ·refine Db ?_; refine B1 f_ rfl A4 A4 () (by simp_all [binds]) (fun w hs => hs.none)
           ·refine Ga ?_; refine Db ?_; refine B1 f_ rfl A4 A4 () (by simp_all [binds]) (fun w hs => hs.none)
          ·refine Ia ?_; refine L8 ?_; refine B1 f_ rfl A4 A4 () (by simp_all [binds]) (fun w hs => hs.none)
         ·refine Ia ?_; refine D1 ?_; refine Fp ?_; refine Pg ?_; refine L8 ?_; refine B1 f_ rfl A4 A4 () (by simp_all [binds]) (fun w hs => hs.none)
        ·refine P5 ?_; refine Qg ?_; refine X3 ?_; refine Ga ?_; refine Db ?_; refine B1 f_ rfl A4 A4 () (by simp_all [binds]) (fun w hs => hs.none)
      ·refine Ia ?_; refine L8 ?_; refine B1 f_ rfl A4 A4 () (by simp_all [binds]) (fun w hs => hs.none)
     ·refine Ia ?_; refine D1 ?_; refine Fp ?_; refine Pg ?_; refine L8 ?_; refine B1 f_ rfl A4 A4 () (by simp_all [binds]) (fun w hs => hs.none)
    ·refine P5 ?_; refine Qg ?_; refine X3 ?_; refine Ga ?_; refine Qm ?_; refine En ?_; refine qI rfl rfl rfl Ex (fun hg32 => Bs ?_) (fun hg32 => ?_)
     ·refine Oo ?_; refine D1 ?_; refine qI rfl rfl rfl Ex (fun hg35 => Bs ?_) (fun hg35 => ?_)
      ·refine L9 ?_; refine D1 ?_; refine qI rfl rfl rfl Ex (fun hg39 => Bs ?_) (fun hg39 => ?_)
       ·refine L9 ?_; refine Fo ?_; refine A3 (fun h43 => ?_) (fun h43 => ?_)
        ·refine Db ?_; refine B1 f_ rfl A4 A4 () (by simp_all [binds]) (fun w hs => hs.none)
        ·refine Ga ?_; refine Db ?_; refine B1 f_ rfl A4 A4 () (by simp_all [binds]) (fun w hs => hs.none)
       ·refine Ia ?_; refine L8 ?_; refine B1 f_ rfl A4 A4 () (by simp_all [binds]) (fun w hs => hs.none)
      ·refine Ia ?_; refine D1 ?_; refine Fp ?_; refine Pg ?_; refine L8 ?_; refine B1 f_ rfl A4 A4 () (by simp_all [binds]) (fun w hs => hs.none)
     ·refine P5 ?_; refine Qg ?_; refine X3 ?_; refine Ga ?_; refine Db ?_; refine B1 f_ rfl A4 A4 () (by simp_all [binds]) (fun w hs => hs.none)
  ·refine Ia ?_; refine L8 ?_; refine B1 f_ rfl A4 A4 () (by simp_all [binds]) (fun w hs => hs.none)
 ·refine Qg ?_; refine X3 ?_; refine Ga ?_; refine Qm ?_; refine En ?_; refine qI rfl rfl rfl Ex (fun hg18 => Bs ?_) (fun hg18 => ?_)
  ·refine Oo ?_; refine D1 ?_; refine qI rfl rfl rfl Ex (fun hg21 => Bs ?_) (fun hg21 => ?_)
   ·refine L9 ?_; refine D1 ?_; refine qI rfl rfl rfl Ex (fun hg25 => Bs ?_) (fun hg25 => ?_)
    ·refine L9 ?_; refine Fo ?_; refine A3 (fun h29 => ?_) (fun h29 => ?_)
     ·refine Db ?_; refine B1 f_ rfl A4 A4 () (by simp_all [binds]) (fun w hs => hs.none)
     ·refine Ga ?_; refine Qm ?_; refine En ?_; refine qI rfl rfl rfl Ex (fun hg32 => Bs ?_) (fun hg32 => ?_)
      ·refine Oo ?_; refine D1 ?_; refine qI rfl rfl rfl Ex (fun hg35 => Bs ?_) (fun hg35 => ?_)
       ·refine L9 ?_; refine D1 ?_; refine qI rfl rfl rfl Ex (fun hg39 => Bs ?_) (fun hg39 => ?_)
        ·refine L9 ?_; refine Fo ?_; refine A3 (fun h43 => ?_) (fun h43 => ?_)
         ·refine Db ?_; refine B1 f_ rfl A4 A4 () (by simp_all [binds]) (fun w hs => hs.none)
         ·refine Ga ?_; refine Db ?_; refine B1 f_ rfl A4 A4 () (by simp_all [binds]) (fun w hs => hs.none)
        ·refine Ia ?_; refine L8 ?_; refine B1 f_ rfl A4 A4 () (by simp_all [binds]) (fun w hs => hs.none)
       ·refine Ia ?_; refine D1 ?_; refine Fp ?_; refine Pg ?_; refine L8 ?_; refine B1 f_ rfl A4 A4 () (by simp_all [binds]) (fun w hs => hs.none)
      ·refine P5 ?_; refine Qg ?_; refine X3 ?_; refine Ga ?_; refine Db ?_; refine B1 f_ rfl A4 A4 () (by simp_all [binds]) (fun w hs => hs.none)
    ·refine Ia ?_; refine L8 ?_; refine B1 f_ rfl A4 A4 () (by simp_all [binds]) (fun w hs => hs.none)
   ·refine Ia ?_; refine D1 ?_; refine Fp ?_; refine Pg ?_; refine L8 ?_; refine B1 f_ rfl A4 A4 () (by simp_all [binds]) (fun w hs => hs.none)
  ·refine P5 ?_; refine Qg ?_; refine X3 ?_; refine Ga ?_; refine Qm ?_; refine En ?_; refine qI rfl rfl rfl Ex (fun hg32 => Bs ?_) (fun hg32 => ?_)
   ·refine Oo ?_; refine D1 ?_; refine qI rfl rfl rfl Ex (fun hg35 => Bs ?_) (fun hg35 => ?_)
    ·refine L9 ?_; refine D1 ?_; refine qI rfl rfl rfl Ex (fun hg39 => Bs ?_) (fun hg39 => ?_)
     ·refine L9 ?_; refine Fo ?_; refine A3 (fun h43 => ?_) (fun h43 => ?_)
      ·refine Db ?_; refine B1 f_ rfl A4 A4 () (by simp_all [binds]) (fun w hs => hs.none)
      ·refine Ga ?_; refine Db ?_; refine B1 f_ rfl A4 A4 () (by simp_all [binds]) (fun w hs => hs.none)
     ·refine Ia ?_; refine L8 ?_; refine B1 f_ rfl A4 A4 () (by simp_all [binds]) (fun w hs => hs.none)
    ·refine Ia ?_; refine D1 ?_; refine Fp ?_; refine Pg ?_; refine L8 ?_; refine B1 f_ rfl A4 A4 () (by simp_all [binds]) (fun w hs => hs.none)
   ·refine P5 ?_; refine Qg ?_; refine X3 ?_; refine Ga ?_; refine Db ?_; refine B1 f_ rfl A4 A4 () (by simp_all [binds]) (fun w hs => hs.none)
theorem Int.ofNat_max' (a b : Nat) : ((max a b : Nat) : Int) = if (b : Int) > (a : Int) then (b : Int) else (a : Int) := by
 split <;> omega
theorem Z4 (t : T) (vr vk vs : SH) (c : FuncId) (cap : List Value) (FΓ : List Fact) (M : List B2) (g : Part → Bool)
  (hc : ∀ (args : Array Value) (w : World), (callFunc c args).run prog w = .ok (.enter c args) w)
  (hcl : ∀ k v d, (k, v, d) ∈ parts t → ∀ vr vk vs, Spec prog c (.agg (tc k vr vk vs).toArray :: iv v :: iv d :: cap).toArray (RT k vr vk vs :: FΓ) M (fun _ : Unit => .bool (g (k, v, d))) (fun _ => []) (fun _ => M)) :
  Spec prog 106 #[.agg (tc t vr vk vs).toArray, .func (.func c) #[] cap.toArray] (RT t vr vk vs :: FΓ) M (fun _ : Unit => .bool ((parts t).all g)) (fun _ => []) (fun _ => M) := by
 have h := Z3 t vr vk vs c cap FΓ (fun _ => M) (fun _ => M) (A2c t g) hc (fun m k v d hm _ vr vk vs => by simpa [O4 hm] using hcl k v d (Ed hm) vr vk vs); rw [C1i] at h; simpa using h
abbrev Sy (t : T) : Prop := ∀ (left : Int) vr vk vs, Ap left → Spec prog 103 #[.agg (tc t vr vk vs).toArray, iv left] [RT t vr vk vs] [] (fun _ : Unit => .bool (decide ((depth t : Int) ≤ left))) (fun _ => []) (fun _ => [])
theorem X9 (k : T) (vr vk vs : SH) (b : Nat) (left v d : Int) (h0 : 0 < left) (hl : Ap left) (ih : Sy k) : Spec prog 186 #[.agg (tc k vr vk vs).toArray, iv v, iv d, pz b] [RT k vr vk vs] [Aa b [iv left] 3] (fun _ : Unit => .bool (decide ((depth k : Int) ≤ left - 1))) (fun _ => []) (fun _ => [Aa b [iv left] 3]) := by
 refine Cp ntmps186 fun B hB => ?_
 refine Ax ?_; refine q0 rfl (Au fun b4 => ?_); refine C9 ?_; refine Dc ?_; refine Pj ?_; refine q0 rfl (Vc ?_); refine q0 rfl (A0 call103 (ih (left - 1) vr vk vs (by unfold Ap at *; omega)) (fun x11 => ?_)); refine C9 ?_; refine Ad f_ rfl A4 () rfl (fun w hs => (hs.l8).drop)
theorem A0b (t : T) (ih : ∀ p, p ∈ parts t → Sy p.1) (left : Int) (vr vk vs : SH) (hl : Ap left) : Spec prog 103 #[.agg (tc t vr vk vs).toArray, iv left] [RT t vr vk vs] [] (fun _ : Unit => .bool (decide ((depth t : Int) ≤ left))) (fun _ => []) (fun _ => []) := by
 refine Cp ntmps103 fun B hB => ?_
 refine Ax ?_; refine q0 rfl (Au fun b2 => ?_); refine q0 rfl (Au fun b3 => ?_); refine Mm ?_; refine Pj ?_; refine B2y ?_; refine En ?_; refine qI rfl rfl rfl Ex (fun hg7 => Nq ?_) (fun hg7 => ?_)
 ·refine qT rfl rfl rfl (A8i ?_); have h0 : 0 < left := of_decide_eq_true hg7; have hE := Z4 t vr vk vs 186 [pz b3] [] [Aa b3 [iv left] 3] (fun p => decide ((depth p.1 : Int) ≤ left - 1)) call186 (fun k v d hm vr vk vs => X9 k vr vk vs b3 left v d h0 hl (ih _ hm)); rw [← B6d t left h0] at hE; refine qT rfl rfl rfl (A0 call106 (hE) (fun x10 => ?_)); refine Eg ?_; refine Ad f_ rfl A4 () rfl (fun w hs => hs.none)
 ·refine P2 ?_; have h0 : ¬ 0 < left := of_decide_eq_false hg7; have hp := Z6 t; refine Ad f_ rfl A4 () (by rw [decide_eq_false A2]) (fun w hs => hs.none)
theorem A0c : ∀ t : T, Sy t := T.ind fun t ih left vr vk vs hl => A0b t ih left vr vk vs hl
def leftOf (t : T) (m : Int) : Int := if (size t : Int) ≤ m then m - size t else -1
abbrev Wv (b bc : Nat) : List Value := [pz b, pz bc]
abbrev Gy (b bc : Nat) (m : Int) : List B2 := [Aa b [iv m] 3, Aa bc [.func (.func 187) #[] (Wv b bc).toArray] 30]
abbrev U9 (t : T) : Prop := ∀ (m : Int) b bc vr vk vs, 0 ≤ m → Ap m → Spec prog 187 #[.agg (tc t vr vk vs).toArray, pz b, pz bc] [RT t vr vk vs] (Gy b bc m) (fun _ : Unit => .bool (decide ((size t : Int) ≤ m))) (fun _ => []) (fun _ => Gy b bc (leftOf t m))
theorem Zy (k : T) (vr vk vs : SH) (b bc : Nat) (m v d : Int) (h0 : 0 ≤ m) (hl : Ap m) (ih : U9 k) : Spec prog 188 #[.agg (tc k vr vk vs).toArray, iv v, iv d, pz bc] [RT k vr vk vs] (Gy b bc m) (fun _ : Unit => .bool (decide ((size k : Int) ≤ m))) (fun _ => []) (fun _ => Gy b bc (leftOf k m)) := by
 refine Cp ntmps188 fun B hB => ?_
 refine Ax ?_; refine q0 rfl (Au fun b4 => ?_); refine Mm ?_; refine Pj ?_; refine Gw ?_; refine q0 rfl (Cn call187 (ih m b bc vr vk vs h0 hl) (cap := Wv b bc) (fun x10 => ?_)); refine C9 ?_; refine Ad f_ rfl A4 () rfl (fun w hs => (hs.l8).Cb (A := Gy b bc (leftOf k m)))
theorem A9j (t : T) (ih : ∀ p, p ∈ parts t → U9 p.1) (m : Int) (b bc : Nat) (vr vk vs : SH) (h0 : 0 < m) (hl : Ap m) :
  Spec prog 106 #[.agg (tc t vr vk vs).toArray, .func (.func 188) #[] #[pz bc]] [RT t vr vk vs] (Gy b bc (m - 1)) (fun _ : Unit => .bool (decide ((size t : Int) ≤ m))) (fun _ => []) (fun _ => Gy b bc (leftOf t m)) := by
 have h := Z3 t vr vk vs 188 [pz bc] [] (fun j => Gy b bc (if (Bl t j : Int) ≤ m then m - Bl t j else -1)) (fun _ => Gy b bc (-1)) (fun j => decide ((Bl t (j + 1) : Int) ≤ m)) call188 ?_
 ·have hall : (ff (fun j => decide ((Bl t (j + 1) : Int) ≤ m)) (parts t).length == (parts t).length) = decide ((size t : Int) ≤ m) := by
   rw [Bool.eq_iff_iff, beq_iff_eq, Sp, decide_eq_true_iff]; constructor
   ·intro h; cases hn : (parts t).length with
    | zero => have := Hu t; rw [hn, Is] at this; omega
    | succ n =>
     have := h n A2; rw [← hn, Hu] at this; exact of_decide_eq_true this
   ·intro h j hj; have := Nf t (j + 1); exact decide_eq_true A2
  simp only [hall, Is, Hu, beq_iff_eq] at h; rw [if_pos A2] at h; by_cases hs : (size t : Int) ≤ m
  ·have e : ff (fun j => decide ((Bl t (j + 1) : Int) ≤ m)) (parts t).length = (parts t).length := by rw [← beq_iff_eq, hall]; exact decide_eq_true hs
   simp only [e, if_true, if_pos hs] at h; unfold leftOf; rw [if_pos hs]; exact h
  ·have e : ¬ ff (fun j => decide ((Bl t (j + 1) : Int) ≤ m)) (parts t).length = (parts t).length := by rw [← beq_iff_eq, hall]; simpa using hs
   simp only [if_neg e] at h; unfold leftOf; rw [if_neg hs]; exact h
 ·intro j k v d hm hβ vr vk vs; have hs := H5 hm; simp only at hs; have hp := size_pos k
  have hj : (Bl t j : Int) ≤ m := by
   cases j with
   | zero => rw [Is]; omega
   | succ j => exact of_decide_eq_true (hβ j A2)
  have := Zy k vr vk vs b bc (m - Bl t j) v d A2 (by unfold Ap at *; omega) (ih _ (Ed hm)); rw [if_pos hj]; have e1 : decide ((size k : Int) ≤ m - Bl t j) = decide ((Bl t (j + 1) : Int) ≤ m) := by rw [hs]; congr 1; apply propext; omega
  rw [e1] at this
  have e2 : Gy b bc (leftOf k (m - Bl t j)) = if decide ((Bl t (j + 1) : Int) ≤ m) = true then Gy b bc (if (Bl t (j + 1) : Int) ≤ m then m - Bl t (j + 1) else -1) else Gy b bc (-1) := by
   unfold leftOf; by_cases hk : (Bl t (j + 1) : Int) ≤ m
   ·rw [if_pos A2, if_pos (decide_eq_true hk), if_pos hk, hs]; congr 1; omega
   ·rw [if_neg A2, if_neg (by simpa using hk)]
  rw [e2] at this; exact this
theorem A3i (t : T) (ih : ∀ p, p ∈ parts t → U9 p.1) (m : Int) (b bc : Nat) (vr vk vs : SH) (h0 : 0 ≤ m) (hl : Ap m) : Spec prog 187 #[.agg (tc t vr vk vs).toArray, pz b, pz bc] [RT t vr vk vs] (Gy b bc m) (fun _ : Unit => .bool (decide ((size t : Int) ≤ m))) (fun _ => []) (fun _ => Gy b bc (leftOf t m)) := by
 refine Cp ntmps187 fun B hB => ?_
 refine Ax ?_; refine q0 rfl (Au fun b3 => ?_); refine Mm ?_; refine Pj ?_; refine q0 rfl (Vc ?_); refine B6u ?_; refine Ax ?_; refine Pj ?_; refine X2 ?_; refine En ?_; refine qI rfl rfl rfl Ex (fun hg9 => Nq ?_) (fun hg9 => ?_)
 ·refine qT rfl rfl rfl (A8i ?_); have h1 : 0 ≤ m - 1 := of_decide_eq_true hg9; have hE := A9j t ih m b bc vr vk vs A2 hl; refine qT rfl rfl rfl (A0 call106 (hE) (fun x12 => ?_) (hm := (List.Perm.swap _ _ _).cons _)); refine Eg ?_; refine Ad f_ rfl A4 () rfl (fun w hs => (hs.l8).Cb (A := Gy b bc (leftOf t m)))
 ·refine P2 ?_; have h1 : ¬ 0 ≤ m - 1 := of_decide_eq_false hg9; have hp := size_pos t; refine Ad f_ rfl A4 () (by rw [decide_eq_false A2]) (fun w hs => by rw [leftOf, if_neg A2, show (-1 : Int) = m - 1 by omega]; exact ((hs.l7).perm ((List.Perm.swap _ _ _).cons _)).Cb (A := Gy b bc (m - 1)))
theorem A9i : ∀ t : T, U9 t := T.ind fun t ih m b bc vr vk vs h0 hl => A3i t ih m b bc vr vk vs h0 hl
def C2i : Prop := ∀ (l : List Cl) (a : SH), Spec prog 63 #[sl a l.length] [CL l a] [] (fun _ : Unit => .bool (Ab l)) (fun _ => []) (fun _ => [])
def Zf : Prop := ∀ (l : List Cl) (a : SH), Spec prog 193 #[sl a l.length] [CL l a] [] (fun _ : Unit => .bool (A7 l)) (fun _ => []) (fun _ => [])
def C2j : Prop := ∀ (l : List Cl) (a : SH), Spec prog 64 #[sl a l.length] [CL l a] [] (fun _ : Unit => .int .u32 (Bj l : Int)) (fun _ => []) (fun _ => [])
def A9y : Prop := C2i ∧ Zf ∧ C2j
theorem A7a (t : T) (vr vk vs : SH) (Cx : Int) (h0 : 0 ≤ Cx) (hl : Ap Cx) : Spec prog 104 #[.agg (tc t vr vk vs).toArray, iv Cx] [RT t vr vk vs] [] (fun _ : Unit => .bool (decide ((size t : Int) ≤ Cx))) (fun _ => []) (fun _ => []) := by
 refine Cp ntmps104 fun B hB => ?_
 refine Ax ?_; refine q0 rfl (Au fun b2 => ?_); refine q0 rfl (Au fun b3 => ?_); refine Mm ?_; refine q0 rfl (Ba fun b5 => ?_); refine Ig ?_; refine Ax ?_; refine N0 ?_; refine Ff ?_; refine Ax ?_; refine Pj ?_; refine Gw ?_; refine q0 rfl (Cn call187 (A9i t Cx b3 b5 vr vk vs h0 hl) (cap := Wv b3 b5) (fun x9 => ?_)); refine C9 ?_; refine Ad f_ rfl A4 () rfl (fun w hs => hs.none)
theorem Uq (t : T) (vr vk vs : SH) : Spec prog 59 #[.agg (tc t vr vk vs).toArray] [RT t vr vk vs] [] (fun _ : Unit => iv (sized t)) (fun _ => []) (fun _ => []) := by
 refine Cp ntmps59 fun B hB => ?_
 refine Ax ?_; refine q0 rfl (Au fun b1 => ?_); refine Fm ?_; refine Zj ?_; refine Dc ?_; refine q0 rfl (A0 call103 (A0c t 200 vr vk vs (by unfold Ap; omega)) (fun x5 => ?_)); refine A2s ?_; refine C9 ?_; refine A3 (fun h3 => ?_) (fun h3 => ?_)
 ·refine B9 ?_; have h : 200 < depth t := by simp at h3; omega
  refine Ad f_ rfl A4 () (by rw [sized, if_pos h]) (fun w hs => hs.none)
 ·refine Dc ?_; refine q0 rfl (A0 call104 (A7a t vr vk vs 20000 A2 (by unfold Ap; omega)) (fun x9 => ?_)); refine A2s ?_; refine C9 ?_; refine A3 (fun h7 => ?_) (fun h7 => ?_)
  ·refine B9 ?_; have h : ¬ 200 < depth t := by simp at h3; omega
   have h2 : 20000 < size t := by simp at h7; omega
   refine Ad f_ rfl A4 () (by rw [sized, if_neg h, if_pos h2]) (fun w hs => hs.none)
  ·refine P3 ?_; refine B9 ?_; have h : ¬ 200 < depth t := by simp at h3; omega
   have h2 : ¬ 20000 < size t := by simp at h7; omega
   refine Ad f_ rfl A4 () (by rw [sized, if_neg h, if_neg h2]) (fun w hs => hs.none)
theorem B4o (s : ByteArray) (hs : s.size ≤ Er) : Spec prog 191 #[.string s] [] [] (fun _ : Unit => .bool (Gx s)) (fun _ => []) (fun _ => []) := by
 refine Cp ntmps191 fun B hB => ?_
 refine B9 ?_; refine Hc ?_; refine q0 rfl (Np ?_); refine B0c ?_; refine Cv (X := Nat) (fun i => i ≤ s.size ∧ ∀ j, j < i → R7 s j = true) (fun i => [(0, .string s), (7, iv (s.size : Int)), (8, iv (i : Int))]) (fun i => []) (fun i => []) (fun i => s.size - i) (0) (⟨Nat.zero_le _, fun j hj => by omega⟩) (by exact Cm) ?_ ?_
 ·exact fun w hs => hs.none
 ·intro i base0 ⟨hi, hok⟩ next0; refine E9 ?_; refine A3 (fun h9 => ?_) (fun h9 => ?_)
  ·have hlt : i < s.size := by have := of_decide_eq_true h9; omega
   obtain ⟨c, hc, hca⟩ := B2j hlt; refine Hn ?_; refine Gt ?_; refine Hg ?_; refine q0 rfl (B1m ?_); refine Fm ?_; refine Aq ([(0, .string s), (3, iv (i : Int)), (4, .int .u8 c.toNat), (5, .bool (F2 c.toNat)), (7, iv (s.size : Int)), (8, iv (i : Int))]) (fun hK => ?_) (fun base => ?_)
   ·refine Dy ?_; refine X2 ?_; refine En ?_; refine qI rfl rfl rfl Ex (fun hg16 => Bs ?_) (fun hg16 => ?_)
    ·refine Zn ?_; refine Ix ?_; refine qI rfl rfl rfl Ex (fun hg20 => Bs ?_) (fun hg20 => ?_)
     ·refine A2r ?_; refine D1 ?_; refine qI rfl rfl rfl Ex (fun hg23 => Bs ?_) (fun hg23 => ?_)
      ·refine Zn ?_; refine Pg ?_; refine Eo ?_; refine qI rfl rfl rfl Ex (fun hg28 => Bs ?_) (fun hg28 => ?_)
       ·refine Oo ?_; refine Gu ?_; exact hK _ ⟨rfl, rfl, rfl, (by (conv => lhs; whnf); first | (simp_all [F2]; done) | (simp_all [F2]; omega)), rfl, rfl, trivial⟩
       ·refine U3 ?_; refine Eg ?_; exact hK _ ⟨rfl, rfl, rfl, (by (conv => lhs; whnf); first | (simp_all [F2]; done) | (simp_all [F2]; omega)), rfl, rfl, trivial⟩
      ·refine U3 ?_; refine Rz ?_; refine Eo ?_; refine D1 ?_; refine Oo ?_; refine Gu ?_; exact hK _ ⟨rfl, rfl, rfl, (by (conv => lhs; whnf); first | (simp_all [F2]; done) | (simp_all [F2]; omega)), rfl, rfl, trivial⟩
     ·refine B6t ?_; refine A2v ?_; refine Eg ?_; exact hK _ ⟨rfl, rfl, rfl, (by (conv => lhs; whnf); first | (simp_all [F2]; done) | (simp_all [F2]; omega)), rfl, rfl, trivial⟩
    ·refine U3 ?_; refine Eo ?_; refine D1 ?_; refine A2r ?_; refine D1 ?_; refine qI rfl rfl rfl Ex (fun hg23 => Bs ?_) (fun hg23 => ?_)
     ·refine Zn ?_; refine Pg ?_; refine Eo ?_; refine qI rfl rfl rfl Ex (fun hg28 => Bs ?_) (fun hg28 => ?_)
      ·refine Oo ?_; refine Gu ?_; exact hK _ ⟨rfl, rfl, rfl, (by (conv => lhs; whnf); first | (simp_all [F2]; done) | (simp_all [F2]; omega)), rfl, rfl, trivial⟩
      ·refine U3 ?_; refine Eg ?_; exact hK _ ⟨rfl, rfl, rfl, (by (conv => lhs; whnf); first | (simp_all [F2]; done) | (simp_all [F2]; omega)), rfl, rfl, trivial⟩
     ·refine U3 ?_; refine Rz ?_; refine Eo ?_; refine D1 ?_; refine Oo ?_; refine Gu ?_; exact hK _ ⟨rfl, rfl, rfl, (by (conv => lhs; whnf); first | (simp_all [F2]; done) | (simp_all [F2]; omega)), rfl, rfl, trivial⟩
   ·refine Ec ?_; refine Aq ([(0, .string s), (7, iv (s.size : Int)), (8, iv (i : Int)), (45, .bool (!(R7 s i)))]) (fun hK => ?_) (fun base => ?_)
    ·refine Dy ?_; refine A2s ?_; refine En ?_; refine qI rfl rfl rfl Ex (fun hg34 => Bs ?_) (fun hg34 => ?_)
     ·refine Oo ?_; refine D1 ?_; refine qI rfl rfl rfl Ex (fun hg37 => Bs ?_) (fun hg37 => ?_)
      ·refine Zo ?_; refine Rz ?_; refine D1 ?_; refine qI rfl rfl rfl Ex (fun hg41 => Bs ?_) (fun hg41 => ?_)
       ·refine A6s ?_; refine Rz ?_; refine Fo ?_; exact hK _ ⟨rfl, rfl, rfl, (by (conv => lhs; whnf); rw [hca]; first | (simp_all [digit]; done) | (simp_all [digit]; omega) | (simp_all [digit]; rw [← decide_not]; congr 1; apply propext; omega)), trivial⟩
       ·refine Ia ?_; refine Fo ?_; exact hK _ ⟨rfl, rfl, rfl, (by (conv => lhs; whnf); rw [hca]; first | (simp_all [digit]; done) | (simp_all [digit]; omega) | (simp_all [digit]; rw [← decide_not]; congr 1; apply propext; omega)), trivial⟩
      ·refine Ia ?_; refine D1 ?_; refine Fp ?_; refine Pg ?_; refine Fo ?_; exact hK _ ⟨rfl, rfl, rfl, (by (conv => lhs; whnf); rw [hca]; first | (simp_all [digit]; done) | (simp_all [digit]; omega) | (simp_all [digit]; rw [← decide_not]; congr 1; apply propext; omega)), trivial⟩
     ·refine P5 ?_; refine Qg ?_; exact hK _ ⟨rfl, rfl, rfl, (by (conv => lhs; whnf); rw [hca]; first | (simp_all [digit]; done) | (simp_all [digit]; omega) | (simp_all [digit]; rw [← decide_not]; congr 1; apply propext; omega)), trivial⟩
    ·refine A3 (fun h45 => ?_) (fun h45 => ?_)
     ·refine B9 ?_; refine Ad f_ rfl A4 () (by rw [Vh hlt (by simpa using h45)]) (fun w hs => hs.none)
     ·refine Ib ?_; have hb : R7 s i = true := by simpa using h45
      refine A1 (fun w hs => hs) (next0 (i + 1) _ ⟨hlt, fun j hj => (by rcases Nat.lt_succ_iff_lt_or_eq.mp hj with h | h; exact hok j h; subst h; exact hb)⟩ A2 Cm)
  ·have hge : i = s.size := by have := of_decide_eq_false h9; omega
   refine D2 ?_; refine Et ?_; refine q0 rfl (B1k ?_); refine C9 ?_; refine Ad f_ rfl A4 () (by rw [Vi (by rw [← hge]; exact hok), empty_eq]; rfl) (fun w hs => hs.none)
theorem Iy (hF : C2j) (l : List Cl) (a : SH) (dims : Int) (h0 : 0 ≤ dims) (hl : Ap dims) : Spec prog 192 #[sl a l.length, iv dims] [CL l a] [] (fun _ : Unit => .bool (within l dims)) (fun _ => []) (fun _ => []) := by
 refine Cp ntmps192 fun B hB => ?_
 refine Kb ?_; refine X2 ?_; refine En ?_; refine qI rfl rfl rfl Ex (fun hg7 => Bs ?_) (fun hg7 => ?_)
 ·refine qT rfl rfl rfl (A0 call64 (hF l a) (fun x9 => ?_)); refine D1 ?_; refine qT rfl rfl rfl (C8v ?_); refine qT rfl rfl rfl (A4l ?_ (m := dims.toNat) (hy := congrArg (Value.int .u64) (B3h h0 hl))); refine Oo ?_; refine Gu ?_; refine Ad f_ rfl A4 () (by first | (simp_all [within]; done) | (simp_all [within]; intros; omega)) (fun w hs => hs.none)
 ·refine Fp ?_; refine Ew ?_; refine Eg ?_; refine Ad f_ rfl A4 () (by first | (simp_all [within]; done) | (simp_all [within]; intros; omega)) (fun w hs => hs.none)
theorem A4c (t : T) (hf : Nk t = true ∨ A9y) (vr vk vs : SH) (vars dims : Int) (hd : 0 ≤ dims) (hl : Ap dims) : Spec prog 105 #[.agg (tc t vr vk vs).toArray, iv vars, iv dims] [RT t vr vk vs] [] (fun _ : Unit => .bool (Io t vars dims)) (fun _ => []) (fun _ => []) := by
 refine Cp ntmps105 fun B hB => ?_
 refine go_open (fun hk hn hnm => ?_); refine Ar (ts := t.kids) (fun VR VK VS hl1 hA1 => ?_); refine Dn (bs := t.sys) (fun VF VK2 hl2 hA2 => ?_); refine Ax ?_; refine q0 rfl (Au fun b3 => ?_); refine Iv ?_; refine Aq ([(1, iv vars), (2, iv dims), (3, pz b3), (47, .bool (Gq t))]) (fun hK => ?_) (fun base => ?_)
 ·refine Bo (pn := 1000000) (tn := false) (A := [0, 1, 3, 0, 8, 24, 63, 127, 255, 511, 1023, 2047, 4095, 8191, 16383, 32767, 65535, 131071, 262143, 524287, 1048575, 2097151, 4194303, 8388607, 16777215, 33554431, 67108863, 134217727, 268435455, 536870911, 1073741823, 2147483647, 4294967295, 8589934591, 17179869183, 34359738367, 68719476735, 137438953471, 274877906943]) (l := [0, 1, 3, 4, 5, 2, 6, 7, 8, 9, 10, 11, 12, 13, 14, 15, 16, 17, 18, 19, 20, 21, 22, 23, 24, 25, 26, 27, 28, 29, 30, 31, 32, 33, 34, 35, 36, 37, 38]) (fin := []) Tab.mixed ⟨_, func105⟩ (by rfl) ?_; refine Ep ?_; refine Ep ?_; refine n0 rfl (Xt ?_); refine n0 rfl (B6 call189 (B5d t.kind) (fun x11 => ?_)); refine n0 rfl (B0h ?_); refine G9 ?_; refine nI rfl rfl rfl Ex (fun hg16 => Jw ?_) (fun hg16 => ?_)
  ·refine I5 ?_; refine B2v ?_; refine Jh ?_; refine nI rfl rfl rfl Ex (fun hg20 => Jw ?_) (fun hg20 => ?_)
   ·refine I5 ?_; refine B2v ?_; refine Zm ?_; refine L7 ?_; refine nI rfl rfl rfl Ex (fun hg26 => Jw ?_) (fun hg26 => ?_)
    ·refine I5 ?_; refine B2v ?_; refine Jh ?_; refine nI rfl rfl rfl Ex (fun hg30 => Jw ?_) (fun hg30 => ?_)
     ·refine I5 ?_; refine nT rfl rfl rfl (C5r ?_); refine Zm ?_; refine L7 ?_; refine nI rfl rfl rfl Ex (fun hg36 => Jw ?_) (fun hg36 => ?_)
      ·refine I5 ?_; refine nT rfl rfl rfl (B6 call190 (K1 t.kind) (fun x39 => ?_)); refine A6r ?_; refine Jh ?_; refine nI rfl rfl rfl Ex (fun hg41 => Jw ?_) (fun hg41 => ?_)
       ·refine I5 ?_; refine A2q ?_; refine A6q ?_; refine Zm ?_; refine I9 ?_; exact hK _ ⟨rfl, rfl, rfl, (by (conv => lhs; whnf); first | (simp_all [Gq]; done) | (simp_all [Gq]; omega)), trivial⟩
       ·refine Qf ?_; refine Zl ?_; refine I9 ?_; exact hK _ ⟨rfl, rfl, rfl, (by (conv => lhs; whnf); first | (simp_all [Gq]; done) | (simp_all [Gq]; omega)), trivial⟩
      ·refine H2 ?_; refine Iu ?_; refine Iu ?_; refine P1 ?_; exact hK _ ⟨rfl, rfl, rfl, (by (conv => lhs; whnf); first | (simp_all [Gq]; done) | (simp_all [Gq]; omega)), trivial⟩
     ·refine X0 ?_; refine Zl ?_; refine L7 ?_; refine Zk ?_; refine I5 ?_; refine nT rfl rfl rfl (B6 call190 (K1 t.kind) (fun x39 => ?_)); refine A6r ?_; refine Jh ?_; refine nI rfl rfl rfl Ex (fun hg41 => Jw ?_) (fun hg41 => ?_)
      ·refine I5 ?_; refine A2q ?_; refine A6q ?_; refine Zm ?_; refine I9 ?_; exact hK _ ⟨rfl, rfl, rfl, (by (conv => lhs; whnf); first | (simp_all [Gq]; done) | (simp_all [Gq]; omega)), trivial⟩
      ·refine Qf ?_; refine Zl ?_; refine I9 ?_; exact hK _ ⟨rfl, rfl, rfl, (by (conv => lhs; whnf); first | (simp_all [Gq]; done) | (simp_all [Gq]; omega)), trivial⟩
    ·refine Qf ?_; refine Iu ?_; refine B6r ?_; refine Xo ?_; refine G9 ?_; refine H2 ?_; refine zq9 ?_; refine Iu ?_; refine Iu ?_; refine P1 ?_; exact hK _ ⟨rfl, rfl, rfl, (by (conv => lhs; whnf); first | (simp_all [Gq]; done) | (simp_all [Gq]; omega)), trivial⟩
   ·refine X0 ?_; refine Zl ?_; refine L7 ?_; refine Zk ?_; refine I5 ?_; refine B2v ?_; refine Jh ?_; refine nI rfl rfl rfl Ex (fun hg30 => Jw ?_) (fun hg30 => ?_)
    ·refine I5 ?_; refine nT rfl rfl rfl (C5r ?_); refine Zm ?_; refine L7 ?_; refine nI rfl rfl rfl Ex (fun hg36 => Jw ?_) (fun hg36 => ?_)
     ·refine I5 ?_; refine nT rfl rfl rfl (B6 call190 (K1 t.kind) (fun x39 => ?_)); refine A6r ?_; refine Jh ?_; refine nI rfl rfl rfl Ex (fun hg41 => Jw ?_) (fun hg41 => ?_)
      ·refine I5 ?_; refine A2q ?_; refine A6q ?_; refine Zm ?_; refine I9 ?_; exact hK _ ⟨rfl, rfl, rfl, (by (conv => lhs; whnf); first | (simp_all [Gq]; done) | (simp_all [Gq]; omega)), trivial⟩
      ·refine Qf ?_; refine Zl ?_; refine I9 ?_; exact hK _ ⟨rfl, rfl, rfl, (by (conv => lhs; whnf); first | (simp_all [Gq]; done) | (simp_all [Gq]; omega)), trivial⟩
     ·refine H2 ?_; refine Iu ?_; refine Iu ?_; refine P1 ?_; exact hK _ ⟨rfl, rfl, rfl, (by (conv => lhs; whnf); first | (simp_all [Gq]; done) | (simp_all [Gq]; omega)), trivial⟩
    ·refine X0 ?_; refine Zl ?_; refine L7 ?_; refine Zk ?_; refine I5 ?_; refine nT rfl rfl rfl (B6 call190 (K1 t.kind) (fun x39 => ?_)); refine A6r ?_; refine Jh ?_; refine nI rfl rfl rfl Ex (fun hg41 => Jw ?_) (fun hg41 => ?_)
     ·refine I5 ?_; refine A2q ?_; refine A6q ?_; refine Zm ?_; refine I9 ?_; exact hK _ ⟨rfl, rfl, rfl, (by (conv => lhs; whnf); first | (simp_all [Gq]; done) | (simp_all [Gq]; omega)), trivial⟩
     ·refine Qf ?_; refine Zl ?_; refine I9 ?_; exact hK _ ⟨rfl, rfl, rfl, (by (conv => lhs; whnf); first | (simp_all [Gq]; done) | (simp_all [Gq]; omega)), trivial⟩
  ·refine Qf ?_; refine Iu ?_; refine B6r ?_; refine Xo ?_; refine G9 ?_; refine H2 ?_; refine Iu ?_; refine B6r ?_; refine Xo ?_; refine G9 ?_; refine H2 ?_; refine zq9 ?_; refine Iu ?_; refine Iu ?_; refine P1 ?_; exact hK _ ⟨rfl, rfl, rfl, (by (conv => lhs; whnf); first | (simp_all [Gq]; done) | (simp_all [Gq]; omega)), trivial⟩
 ·refine A3 (fun h47 => ?_) (fun h47 => ?_)
  ·refine B9 ?_; refine Ad f_ rfl A4 () (by simp [Io, h47]) (fun w hs => hs.none)
  ·refine Ho ?_; refine E3 ?_; refine Ig ?_; refine Zj ?_; refine D3 ?_; refine A3 (fun h50 => ?_) (fun h50 => ?_)
   ·refine Ec ?_; refine Aq ([(6, .bool (decide ((t.r.length : Int) = 0) && decide (0 ≤ t.n) && (decide (vars < 0) || decide (t.n < vars))))]) (fun hK => ?_) (fun base => ?_)
    ·refine Fs ?_; refine Gk ?_; refine P0 ?_; refine qI rfl rfl rfl Ex (fun hg56 => Ty ?_) (fun hg56 => ?_)
     ·refine Ph ?_; refine A2r ?_; refine Ix ?_; refine qI rfl rfl rfl Ex (fun hg61 => Bs ?_) (fun hg61 => ?_)
      ·refine Zo ?_; refine D1 ?_; refine qI rfl rfl rfl Ex (fun hg64 => Ty ?_) (fun hg64 => ?_)
       ·refine Ph ?_; refine D1 ?_; refine Zo ?_; refine Rz ?_; refine Eg ?_; exact hK _ ⟨(by (conv => lhs; whnf); first | (simp_all [Bool.and_assoc]; done) | (simp_all [Bool.and_assoc]; omega)), trivial⟩
       ·refine Ew ?_; refine Pg ?_; refine Eg ?_; exact hK _ ⟨(by (conv => lhs; whnf); first | (simp_all [Bool.and_assoc]; done) | (simp_all [Bool.and_assoc]; omega)), trivial⟩
      ·refine P5 ?_; refine Qn ?_; refine U3 ?_; refine Gu ?_; exact hK _ ⟨(by (conv => lhs; whnf); first | (simp_all [Bool.and_assoc]; done) | (simp_all [Bool.and_assoc]; omega)), trivial⟩
     ·refine Fp ?_; refine Eo ?_; refine Ew ?_; refine Qn ?_; refine Qn ?_; refine U3 ?_; refine Gu ?_; exact hK _ ⟨(by (conv => lhs; whnf); first | (simp_all [Bool.and_assoc]; done) | (simp_all [Bool.and_assoc]; omega)), trivial⟩
    ·refine Ad f_ rfl A4 () (by simp_all [Io, Bool.and_assoc]) (fun w hs => hs.none)
   ·refine D3 ?_; refine A3 (fun h71 => ?_) (fun h71 => ?_)
    ·refine Ec ?_; refine Aq ([(6, .bool (decide ((t.r.length : Int) = 0) && Gx t.name))]) (fun hK => ?_) (fun base => ?_)
     ·refine Fs ?_; refine Gk ?_; refine P0 ?_; refine qI rfl rfl rfl Ex (fun hg77 => Ty ?_) (fun hg77 => ?_)
      ·refine Ph ?_; refine qT rfl rfl rfl (A0 call191 (B4o t.name hnm) (fun x80 => ?_)); refine Eg ?_; exact hK _ ⟨(by (conv => lhs; whnf); first | (simp_all [Bool.and_assoc]; done) | (simp_all [Bool.and_assoc]; omega)), trivial⟩
      ·refine P2 ?_; exact hK _ ⟨(by (conv => lhs; whnf); first | (simp_all [Bool.and_assoc]; done) | (simp_all [Bool.and_assoc]; omega)), trivial⟩
     ·refine Ad f_ rfl A4 () (by simp_all [Io, Bool.and_assoc]) (fun w hs => hs.none)
    ·refine Ec ?_; refine D3 ?_; refine A3 (fun h82 => ?_) (fun h82 => ?_)
     ·refine Sz ?_; refine Ec ?_; refine Aq ([(6, .bool (Ab t.r && within t.r dims))]) (fun hK => ?_) (fun base => ?_)
      ·refine Fs ?_; refine q0 rfl (A0 call63 ((Hk hf (by simp_all)).1 t.r vr) (fun x88 => ?_)); refine En ?_; refine qI rfl rfl rfl Ex (fun hg89 => Ty ?_) (fun hg89 => ?_)
       ·refine Ph ?_; refine D1 ?_; refine qT rfl rfl rfl (A0 call192 (Iy (Hk hf (by simp_all)).2.2 t.r vr dims hd hl) (fun x93 => ?_)); refine Eg ?_; exact hK _ ⟨(by (conv => lhs; whnf); first | (simp_all [Bool.and_assoc]; done) | (simp_all [Bool.and_assoc]; omega)), trivial⟩
       ·refine Ew ?_; refine Gu ?_; exact hK _ ⟨(by (conv => lhs; whnf); first | (simp_all [Bool.and_assoc]; done) | (simp_all [Bool.and_assoc]; omega)), trivial⟩
      ·refine Ad f_ rfl A4 () (by simp_all [Io, Bool.and_assoc]) (fun w hs => hs.none)
     ·refine D3 ?_; refine A3 (fun h82 => ?_) (fun h82 => ?_)
      ·refine Sz ?_; refine Ec ?_; refine Aq ([(6, .bool (Ab t.r && within t.r dims))]) (fun hK => ?_) (fun base => ?_)
       ·refine Fs ?_; refine q0 rfl (A0 call63 ((Hk hf (by simp_all)).1 t.r vr) (fun x88 => ?_)); refine En ?_; refine qI rfl rfl rfl Ex (fun hg89 => Ty ?_) (fun hg89 => ?_)
        ·refine Ph ?_; refine D1 ?_; refine qT rfl rfl rfl (A0 call192 (Iy (Hk hf (by simp_all)).2.2 t.r vr dims hd hl) (fun x93 => ?_)); refine Eg ?_; exact hK _ ⟨(by (conv => lhs; whnf); first | (simp_all [Bool.and_assoc]; done) | (simp_all [Bool.and_assoc]; omega)), trivial⟩
        ·refine Ew ?_; refine Gu ?_; exact hK _ ⟨(by (conv => lhs; whnf); first | (simp_all [Bool.and_assoc]; done) | (simp_all [Bool.and_assoc]; omega)), trivial⟩
       ·refine Ad f_ rfl A4 () (by simp_all [Io, Bool.and_assoc]) (fun w hs => hs.none)
      ·refine Qj ?_; refine A3 (fun h82 => ?_) (fun h82 => ?_)
       ·refine Ec ?_; refine Aq ([(6, .bool (Ab t.r && within t.r dims))]) (fun hK => ?_) (fun base => ?_)
        ·refine Fs ?_; refine q0 rfl (A0 call63 ((Hk hf (by simp_all)).1 t.r vr) (fun x88 => ?_)); refine En ?_; refine qI rfl rfl rfl Ex (fun hg89 => Ty ?_) (fun hg89 => ?_)
         ·refine Ph ?_; refine D1 ?_; refine qT rfl rfl rfl (A0 call192 (Iy (Hk hf (by simp_all)).2.2 t.r vr dims hd hl) (fun x93 => ?_)); refine Eg ?_; exact hK _ ⟨(by (conv => lhs; whnf); first | (simp_all [Bool.and_assoc]; done) | (simp_all [Bool.and_assoc]; omega)), trivial⟩
         ·refine Ew ?_; refine Gu ?_; exact hK _ ⟨(by (conv => lhs; whnf); first | (simp_all [Bool.and_assoc]; done) | (simp_all [Bool.and_assoc]; omega)), trivial⟩
        ·refine Ad f_ rfl A4 () (by simp_all [Io, Bool.and_assoc]) (fun w hs => hs.none)
       ·refine D3 ?_; refine A3 (fun h95 => ?_) (fun h95 => ?_)
        ·refine Ec ?_; refine Aq ([(6, .bool (A7 t.r && within t.r dims))]) (fun hK => ?_) (fun base => ?_)
         ·refine Fs ?_; refine q0 rfl (A0 call193 ((Hk hf (by simp_all)).2.1 t.r vr) (fun x99 => ?_)); refine En ?_; refine qI rfl rfl rfl Ex (fun hg100 => Ty ?_) (fun hg100 => ?_)
          ·refine Ph ?_; refine D1 ?_; refine qT rfl rfl rfl (A0 call192 (Iy (Hk hf (by simp_all)).2.2 t.r vr dims hd hl) (fun x104 => ?_)); refine Eg ?_; exact hK _ ⟨(by (conv => lhs; whnf); first | (simp_all [Bool.and_assoc]; done) | (simp_all [Bool.and_assoc]; omega)), trivial⟩
          ·refine Ew ?_; refine Gu ?_; exact hK _ ⟨(by (conv => lhs; whnf); first | (simp_all [Bool.and_assoc]; done) | (simp_all [Bool.and_assoc]; omega)), trivial⟩
         ·refine Ad f_ rfl A4 () (by simp_all [Io, Bool.and_assoc]) (fun w hs => hs.none)
        ·refine P3 ?_; refine Ec ?_; refine Mn ?_; refine Cv (X := Nat) (fun i => i ≤ t.sys.length ∧ ∀ j, j < i → J7 t dims (t.sys.getD j Bd) = true) (fun i => [(2, iv dims), (3, pz b3), (107, sl vs t.sys.length), (108, iv (t.sys.length : Int)), (109, iv (i : Int))]) (fun i => U2 t.sys vs VF VK2 :: RT t vr vk vs :: []) (fun i => [Aa b3 (tc t vr vk vs) 26]) (fun i => t.sys.length - i) (0) (⟨Nat.zero_le _, fun j hj => by omega⟩) (by exact Cm) ?_ ?_
         ·exact fun w hs => hs.l9
         ·intro i base0 ⟨hi, hok⟩ next0; refine E9 ?_; refine A3 (fun h110 => ?_) (fun h110 => ?_)
          ·have hlt : i < t.sys.length := by have := of_decide_eq_true h110; omega
           obtain ⟨bk, o, hav⟩ := hA2 A2; refine G3 ?_; refine X4 ?_; refine B2x ?_; refine q0 rfl (Ba fun b8 => ?_); refine Ju ?_; refine F4 i hlt ?_; refine Aq ([(2, iv dims), (3, pz b3), (107, sl vs t.sys.length), (108, iv (t.sys.length : Int)), (109, iv (i : Int)), (132, .bool (!(J7 t dims (t.sys.getD i Bd))))]) (fun hK => ?_) (fun base => ?_)
           ·refine Bo (pn := 1000000) (tn := false) (A := [0, 1, 3, 0, 8, 24, 63, 127, 255, 511, 1023, 2047, 4095, 8191, 16383, 32767, 16383, 131071, 262143, 524287]) (l := [0, 1, 2, 3, 4, 5, 6, 7, 8, 9, 10, 11, 12, 13, 14, 15, 16, 17, 18, 19]) (fin := []) Tab.mixed ⟨_, func105⟩ (by rfl) ?_; refine Ep ?_; refine n0 rfl (Xt ?_); refine Ep ?_; refine n0 rfl (B6 call190 (K1 t.kind) (fun x118 => ?_)); refine n0 rfl (B0h ?_); refine G9 ?_; refine nI rfl rfl rfl Ex (fun hg120 => Jw ?_) (fun hg120 => ?_)
            ·refine I5 ?_; refine nT rfl rfl rfl (B6 call193 ((A5n hf hlt).2.1 _ (VF i)) (fun x123 => ?_)); refine nT rfl rfl rfl (Xs ?_); refine L7 ?_; refine nI rfl rfl rfl Ex (fun hg126 => Jw ?_) (fun hg126 => ?_)
             ·refine I5 ?_; refine Jh ?_; refine nT rfl rfl rfl (B6 call192 (Iy (A5n hf hlt).2.2 _ (VF i) dims hd hl) (fun x130 => ?_)); refine nT rfl rfl rfl (Xs ?_); refine I9 ?_; exact hK _ ⟨rfl, rfl, rfl, rfl, rfl, (by (conv => lhs; whnf); first | (simp_all [J7]; done) | (simp_all [J7]; omega)), trivial⟩
             ·refine H2 ?_; refine Q9 ?_; refine Q8 ?_; exact hK _ ⟨rfl, rfl, rfl, rfl, rfl, (by (conv => lhs; whnf); first | (simp_all [J7]; done) | (simp_all [J7]; omega)), trivial⟩
            ·refine X0 ?_; refine Xo ?_; refine G9 ?_; refine H2 ?_; refine P1 ?_; exact hK _ ⟨rfl, rfl, rfl, rfl, rfl, (by (conv => lhs; whnf); first | (simp_all [J7]; done) | (simp_all [J7]; omega)), trivial⟩
           ·refine A3 (fun h132 => ?_) (fun h132 => ?_)
            ·refine B9 ?_; have ha := A2e hlt (by simpa using h132); refine Ad f_ rfl A4 () (by rw [Io, ha]; clear hok ha h132; simp_all [Bool.and_assoc]) (fun w hs => hs.none)
            ·refine Ib ?_; have hb : J7 t dims (t.sys.getD i Bd) = true := by simpa using h132
             refine A1 (fun w hs => ?_) (next0 (i + 1) _ ⟨hlt, fun j hj => (by rcases Nat.lt_succ_iff_lt_or_eq.mp hj with h | h; exact hok j h; subst h; exact hb)⟩ A2 Cm); exact (hs.l9).drop
          ·have hge : i = t.sys.length := by have := of_decide_eq_false h110; omega
           refine D2 ?_; refine E3 ?_; refine Gk ?_; refine B6q ?_; have ha := C2f (t := t) (g := J7 t dims) (by rw [← hge]; exact hok); refine Ad f_ rfl A4 () (by rw [Io, ha]; clear hok ha; simp_all [Bool.and_assoc]) (fun w hs => hs.none)
abbrev C2n (t : T) : Prop := (Jz t = true ∨ A9y) → ∀ (vars dims : Int) (bound : Bool) vr vk vs, Ap vars → 0 ≤ dims → dims + depth t ≤ 1152921504606846976 → Spec prog 60 #[.agg (tc t vr vk vs).toArray, iv vars, iv dims, .bool bound] [RT t vr vk vs] [] (fun _ : Unit => .bool (H9 t vars dims bound)) (fun _ => []) (fun _ => [])
abbrev D2d (b1 b2 b3 : Nat) : List Value := [pz b1, pz b2, pz b3]
abbrev D2c (b1 b2 b3 : Nat) (vars dims : Int) (bound : Bool) : List B2 := [Aa b1 [iv vars] 3, Aa b2 [iv dims] 3, Aa b3 [.bool bound] 4]
def Ks (v d : Int) : Prop := 0 ≤ v ∧ v ≤ 1 ∧ 0 ≤ d ∧ d ≤ 1
theorem A6c (k i : Int) : Ks (binds k i).1 (binds k i).2 := by
 unfold binds Ks; repeat (split; (simp))
 simp
theorem B8r {t : T} {k : T} {v d : Int} (h : (k, v, d) ∈ parts t) : Ks v d := by
 have hk : ∀ (kind : Int) (i : Nat) (ks : List T), (k, v, d) ∈ Dg kind i ks → Ks v d := by
  intro kind i ks
  induction ks generalizing i with
  | nil => intro h; simp [Dg] at h
  | cons a ks ih =>
   intro h; simp only [Dg, List.mem_cons] at h; rcases h with h | h
   ·have e : (v, d) = binds kind i := (Prod.mk.inj h).2; have := A6c kind i; rw [← e] at this; exact this
   ·exact ih _ h
 have hs : ∀ (kind : Int) (bs : List Br), (k, v, d) ∈ Co kind bs → Ks v d := by
  intro kind bs
  induction bs with
  | nil => intro h; simp [Co] at h
  | cons b bs ih =>
   intro h; simp only [Co, List.mem_append, List.mem_map] at h; rcases h with ⟨a, ha, e⟩ | h
   ·have e2 := (Prod.mk.inj e).2; have e3 := (Prod.mk.inj e2); rw [← e3.1, ← e3.2]; unfold Ks more; split <;> simp
   ·exact ih h
 unfold parts at h; rcases List.mem_append.mp h with h | h
 ·exact hk _ _ _ h
 ·exact hs _ _ h
theorem Ss {t : T} {p : Part} (h : p ∈ parts t) : depth p.1 < depth t := by
 obtain ⟨m, hm⟩ := List.mem_iff_getElem?.mp h; exact A9h hm
theorem B6o (k : T) (vr vk vs : SH) (b1 b2 b3 : Nat) (vars dims v d : Int) (bound : Bool) (hv : Ap vars) (h0 : 0 ≤ dims) (hvd : Ks v d) (hl : dims + 1 + depth k ≤ 1152921504606846976) (hp : Jz k = true ∨ A9y) (ih : C2n k) : Spec prog 107 #[.agg (tc k vr vk vs).toArray, iv v, iv d, pz b1, pz b2, pz b3] [RT k vr vk vs] (D2c b1 b2 b3 vars dims bound) (fun _ : Unit => .bool (H9 k (IntKind.i64.wrap (vars + if vars < 0 then 0 else v)) (dims + d) bound)) (fun _ => []) (fun _ => D2c b1 b2 b3 vars dims bound) := by
 refine Cp ntmps107 fun B hB => ?_
 obtain ⟨hv0, hv1, hd0, hd1⟩ := hvd; refine Ax ?_; refine q0 rfl (Au fun b6 => ?_); refine Fm ?_; refine Ax ?_; refine Pj ?_; refine Tv ?_; refine Aq ([(1, iv (if vars < 0 then 0 else v)), (2, iv d), (3, pz b1), (4, pz b2), (5, pz b3), (6, pz b6)]) (fun hK => ?_) (fun base => ?_)
 ·refine A3 (fun h11 => ?_) (fun h11 => ?_)
  ·refine L2 ?_; refine C9 ?_; exact hK _ ⟨(by first | (rw [if_pos (of_decide_eq_true h11)]; rfl) | (rw [if_neg (of_decide_eq_false h11)]; rfl)), rfl, rfl, rfl, rfl, rfl, trivial⟩
  ·refine Ga ?_; exact hK _ ⟨(by first | (rw [if_pos (of_decide_eq_true h11)]; rfl) | (rw [if_neg (of_decide_eq_false h11)]; rfl)), rfl, rfl, rfl, rfl, rfl, trivial⟩
 ·refine Dc ?_; refine Pj ?_; refine En ?_; refine q0 rfl (B9q ?_); refine Pj ?_; refine En ?_; refine A2x ?_; refine Pj ?_; refine q0 rfl (A0 call60 (ih hp (IntKind.i64.wrap (vars + if vars < 0 then 0 else v)) (dims + d) bound vr vk vs (U4 _) A2 A2) (fun x20 => ?_)); refine C9 ?_; refine Ad f_ rfl A4 () rfl (fun w hs => (hs.l8).drop)
theorem C2e (t : T) (hp : Jz t = true ∨ A9y) (ih : ∀ p, p ∈ parts t → C2n p.1) (vars dims : Int) (bound : Bool) (vr vk vs : SH) (hv : Ap vars) (h0 : 0 ≤ dims) (hl : dims + depth t ≤ 1152921504606846976) : Spec prog 60 #[.agg (tc t vr vk vs).toArray, iv vars, iv dims, .bool bound] [RT t vr vk vs] [] (fun _ : Unit => .bool (H9 t vars dims bound)) (fun _ => []) (fun _ => []) := by
 refine Cp ntmps60 fun B hB => ?_
 refine Ax ?_; refine q0 rfl (Au fun b4 => ?_); refine q0 rfl (Au fun b5 => ?_); refine q0 rfl (Au fun b6 => ?_); refine q0 rfl (Au fun b7 => ?_); refine Iv ?_; refine Aq ([(4, pz b4), (5, pz b5), (6, pz b6), (7, pz b7), (20, .bool ((bound && decide (24 < dims)) || !(Io t vars dims)))]) (fun hK => ?_) (fun base => ?_)
 ·refine L2 ?_; refine Pj ?_; refine En ?_; refine qI rfl rfl rfl Ex (fun hg10 => C4b ?_) (fun hg10 => ?_)
  ·refine A6s ?_; refine Ix ?_; refine qI rfl rfl rfl Ex (fun hg14 => Nq ?_) (fun hg14 => ?_)
   ·refine Ph ?_; refine Ph ?_; refine qT rfl rfl rfl (A0 call105 (A4c t (V2 hp) vr vk vs vars dims h0 (by unfold Ap; omega)) (fun x18 => ?_)); refine X1 ?_; refine Dp ?_; exact hK _ ⟨rfl, rfl, rfl, rfl, (by (conv => lhs; whnf); first | (simp_all [Bool.and_assoc]; done) | (simp_all [Bool.and_assoc]; omega)), trivial⟩
   ·refine Iw ?_; refine Fo ?_; exact hK _ ⟨rfl, rfl, rfl, rfl, (by (conv => lhs; whnf); first | (simp_all [Bool.and_assoc]; done) | (simp_all [Bool.and_assoc]; omega)), trivial⟩
  ·refine U3 ?_; refine Eo ?_; refine qT rfl rfl rfl (Nq ?_); refine Ph ?_; refine Ph ?_; refine qT rfl rfl rfl (A0 call105 (A4c t (V2 hp) vr vk vs vars dims h0 (by unfold Ap; omega)) (fun x18 => ?_)); refine X1 ?_; refine Dp ?_; exact hK _ ⟨rfl, rfl, rfl, rfl, (by (conv => lhs; whnf); first | (simp_all [Bool.and_assoc]; done) | (simp_all [Bool.and_assoc]; omega)), trivial⟩
 ·refine A3 (fun h20 => ?_) (fun h20 => ?_)
  ·refine B9 ?_; refine Ad f_ rfl A4 () (by rw [A2g, h20]; rfl) (fun w hs => hs.none)
  ·refine Ga ?_; refine Dc ?_; refine N0 ?_; have hE := Z4 t vr vk vs 107 (D2d b5 b6 b7) [] (D2c b5 b6 b7 vars dims bound) (fun p => H9 p.1 (IntKind.i64.wrap (vars + if vars < 0 then 0 else p.2.1)) (dims + p.2.2) bound) call107 (fun k v d hm vr vk vs => B6o k vr vk vs b5 b6 b7 vars dims v d bound hv h0 (B8r hm) (by have := Ss hm; simp only at this; omega) (A7t hp hm) (ih _ hm)); refine q0 rfl (A0 call106 (hE) (fun x23 => ?_)); refine C9 ?_; refine Ad f_ rfl A4 () (by rw [A2g, h20]; rfl) (fun w hs => hs.none)
theorem A6l : ∀ t : T, C2n t := T.ind fun t ih hp vars dims bound vr vk vs hv h0 hl => C2e t hp ih vars dims bound vr vk vs hv h0 hl
theorem Ux (t : T) (hp : Jz t = true ∨ A9y) (vr vk vs : SH) (vars dims : Int) (hv : Ap vars) (hsz : size t ≤ 1152921504606846) : Spec prog 22 #[.agg (tc t vr vk vs).toArray, iv vars, iv dims] [RT t vr vk vs] [] (fun _ : Unit => iv (Bz t vars dims)) (fun _ => []) (fun _ => []) := by
 refine Cp ntmps22 fun B hB => ?_
 have hds := It t; refine Ax ?_; refine q0 rfl (Au fun b3 => ?_); refine Iv ?_; refine Aq ([(1, iv vars), (2, iv dims), (3, pz b3), (17, .bool (decide (vars < 0) || decide (dims < 0) || decide (24 < dims)))]) (fun hK => ?_) (fun base => ?_)
 ·refine Qe ?_; refine qI rfl rfl rfl Ex (fun hg10 => Bs ?_) (fun hg10 => ?_)
  ·refine Zo ?_; refine Eo ?_; refine qI rfl rfl rfl Ex (fun hg14 => Bs ?_) (fun hg14 => ?_)
   ·refine A6s ?_; refine Dp ?_; exact hK _ ⟨rfl, rfl, rfl, (by (conv => lhs; whnf); first | (simp_all [Bool.and_assoc]; done) | (simp_all [Bool.and_assoc]; omega)), trivial⟩
   ·refine Oz ?_; exact hK _ ⟨rfl, rfl, rfl, (by (conv => lhs; whnf); first | (simp_all [Bool.and_assoc]; done) | (simp_all [Bool.and_assoc]; omega)), trivial⟩
  ·refine Qh ?_; refine Fo ?_; exact hK _ ⟨rfl, rfl, rfl, (by (conv => lhs; whnf); first | (simp_all [Bool.and_assoc]; done) | (simp_all [Bool.and_assoc]; omega)), trivial⟩
 ·refine A3 (fun h17 => ?_) (fun h17 => ?_)
  ·refine B9 ?_; refine Ad f_ rfl A4 () (by rw [Bz, if_pos h17]) (fun w hs => hs.none)
  ·have hb : 0 ≤ vars ∧ 0 ≤ dims ∧ dims ≤ 24 := by simp at h17; omega
   refine Ho ?_; refine Dc ?_; refine q0 rfl (A0 call59 (Uq t vr vk vs) (fun x19 => ?_)); refine L6 ?_; refine A3 (fun h21 => ?_) (fun h21 => ?_)
   ·have hs := of_decide_eq_true h21; refine Gt ?_; refine Ad f_ rfl A4 () (by rw [Bz, if_neg (by rw [h17]; simp), if_pos hs]) (fun w hs => hs.none)
   ·have hs := of_decide_eq_false h21; refine Ho ?_; refine Dc ?_; refine F7 ?_; refine q0 rfl (A0 call60 (A6l t hp vars dims true vr vk vs hv A2 A2) (fun x26 => ?_)); refine Fq ?_; refine A3 (fun h27 => ?_) (fun h27 => ?_)
    ·refine B9 ?_; refine Ad f_ rfl A4 () (by rw [Bz, if_neg (by rw [h17]; simp), if_neg hs]; simp_all) (fun w hs => hs.none)
    ·refine Ga ?_; refine B9 ?_; refine Ad f_ rfl A4 () (by rw [Bz, if_neg (by rw [h17]; simp), if_neg hs]; simp_all) (fun w hs => hs.none)
theorem O0 (t : T) (hp : Jz t = true ∨ A9y) (vr vk vs : SH) (hsz : size t ≤ 1152921504606846) : Spec prog 39 #[.agg (tc t vr vk vs).toArray] [RT t vr vk vs] [] (fun _ : Unit => iv (B0 t)) (fun _ => []) (fun _ => []) := by
 refine Cp ntmps39 fun B hB => ?_
 have hds := It t; refine Ax ?_; refine q0 rfl (Au fun b1 => ?_); refine Fm ?_; refine Dc ?_; refine q0 rfl (A0 call59 (Uq t vr vk vs) (fun x5 => ?_)); refine L6 ?_; refine A3 (fun h7 => ?_) (fun h7 => ?_)
 ·have hs := of_decide_eq_true h7; refine Gt ?_; refine Ad f_ rfl A4 () (by rw [B0, if_pos hs]) (fun w hs => hs.none)
 ·have hs := of_decide_eq_false h7; refine Ho ?_; refine Dc ?_; refine q0 rfl (A0 call60 (A6l t hp (-1) 24 false vr vk vs (by unfold Ap; omega) A2 A2) (fun x10 => ?_)); refine Fq ?_; refine A3 (fun h11 => ?_) (fun h11 => ?_)
  ·refine B9 ?_; refine Ad f_ rfl A4 () (by rw [B0, if_neg hs]; simp_all) (fun w hs => hs.none)
  ·refine Ga ?_; refine B9 ?_; refine Ad f_ rfl A4 () (by rw [B0, if_neg hs]; simp_all) (fun w hs => hs.none)
theorem A8y (l : List Part) (a : Nat) : l.foldl (fun a p => a + size p.1) a = a + (l.map fun p => size p.1).sum := by
 induction l generalizing a with
 | nil => simp
 | cons b l ih => rw [List.foldl_cons, ih]; simp; omega
theorem B7n (t : T) : size t = 1 + ((parts t).map fun p => size p.1).sum := by rw [size_eq, A8y]
theorem P8 (t : T) : size t = 1 + (t.kids.map size).sum + ((t.sys.map fun b => b.kids.map size).flatten).sum := by
 rw [B7n, Jn, List.sum_append]; omega
theorem Zp {n : Int} (h : Ap n) : IntKind.i64.wrap n = n := by rw [IntKind.wrap_i64]; unfold Ap at h; omega
theorem Pn {t : T} : sized t = 0 ↔ depth t ≤ 200 ∧ size t ≤ 20000 := by
 unfold sized
 split
 ·simp; omega
 ·split
  ·simp; omega
  ·simp; omega
theorem A7o {t : T} {v d : Int} : Bz t v d = 0 ↔ 0 ≤ v ∧ 0 ≤ d ∧ d ≤ 24 ∧ sized t = 0 ∧ H9 t v d true = true := by
 unfold Bz
 split
 ·rename_i h
  simp only [Bool.or_eq_true, decide_eq_true_eq] at h
  constructor
  ·intro h2; cases h2
  ·intro h2; omega
 ·rename_i h
  simp only [Bool.or_eq_true, decide_eq_true_eq] at h
  split
  ·rename_i h2; constructor
   ·intro h3; exact absurd h3 h2
   ·intro h3; exact absurd h3.2.2.2.1 h2
  ·rename_i h2
   have h2 : sized t = 0 := by simpa using h2
   split
   ·rename_i h3; simp only [h2, h3, and_self, and_true, true_iff]; omega
   ·rename_i h3; simp only [h3]; constructor
    ·intro h4; cases h4
    ·intro h4; exact absurd h4.2.2.2.2 Jk
theorem B6c {t k : T} (hk : k ∈ t.kids) : depth k < depth t := by obtain ⟨p, hp, e⟩ := Fy hk; exact e ▸ Ss hp
def C6r (s : Nat) (i : Int) : Nat := if 0 ≤ i ∧ i < 24 then ((s &&& 16777215) &&& (2 ^ i.toNat - 1)) ||| ((s &&& 16777215) / 2 ^ (i.toNat + 1) * 2 ^ i.toNat) else s &&& 16777215
theorem K8 (s : Nat) : s &&& 16777215 < 16777216 := by rw [Zc]; exact Nat.mod_lt _ Jk
theorem Rq (l : List Cl) : Bj l < 16777216 := by rw [Wa]; exact K8 _
def As (s : Nat) (f b : Int) : Int × Nat :=
 if f < 0 ∨ b < 0 then (2, 0) else
 if Bf (s &&& 16777215) (2 ^ (min f.toNat 24) - 1) = 0 then (0, (s &&& 16777215) &&& (2 ^ (min f.toNat 24) - 1)) else
 if 24 ≤ b ∨ 16777215 < Bf (s &&& 16777215) (2 ^ (min f.toNat 24) - 1) * 2 ^ b.toNat then (10, 0) else
 (0, ((s &&& 16777215) &&& (2 ^ (min f.toNat 24) - 1)) ||| (Bf (s &&& 16777215) (2 ^ (min f.toNat 24) - 1) * 2 ^ b.toNat))
theorem I1 (a b i : Nat) : (Bf a b).testBit i = (decide (i < 32) && a.testBit i && !b.testBit i) := by
 unfold Bf
 rw [BitVec.testBit_toNat]
 by_cases h : i < 32
 ·rw [BitVec.getLsbD_and, BitVec.getLsbD_not, BitVec.getLsbD_ofNat, BitVec.getLsbD_ofNat]
  simp [h]
 ·have : (BitVec.ofNat 32 a &&& ~~~BitVec.ofNat 32 b).getLsbD i = false := BitVec.getLsbD_of_ge _ _ A2
  rw [this]; simp [h]
theorem Gs (s i : Nat) : (s &&& 16777215).testBit i = (decide (i < 24) && s.testBit i) := by
 rw [Zc, Nat.testBit_mod_two_pow]
theorem Lm (m i : Nat) : (2 ^ m - 1).testBit i = decide (i < m) := Nat.testBit_two_pow_sub_one m i
theorem Zb {q m : Nat} (h : q < 16777216) : Bf q m < 16777216 := by
 refine Nat.lt_pow_two_of_testBit (n := 24) _ (fun i hi => ?_)
 rw [I1, Nat.testBit_lt_two_pow (x := q) (Nat.lt_of_lt_of_le h (Nat.pow_le_pow_right (n := 2) Jk hi))]
 simp
theorem Kk (s : Nat) (f b : Int) : (As s f b).2 < 16777216 := by
 unfold As
 split
 ·decide
 ·split
  ·exact Nat.lt_of_le_of_lt Nat.and_le_left (K8 s)
  ·split
   ·decide
   ·refine Nat.or_lt_two_pow (n := 24) ?_ ?_
    ·exact Nat.lt_of_le_of_lt Nat.and_le_left (K8 s)
    ·rename_i h; simp only [not_or] at h; have := h.2; omega
def Bh (c : Cl) (f b : Int) : Int × Cl :=
 if B3 c = false then (2, B8) else
 if (As c.pos f b).1 ≠ 0 then ((As c.pos f b).1, B8) else
 if (As c.neg f b).1 ≠ 0 then ((As c.neg f b).1, B8) else
 (0, ⟨(As c.pos f b).2, (As c.neg f b).2⟩)
theorem Pz (c : Cl) (f b : Int) : u32 (Bh c f b).2 := by
 have h1 := Kk c.pos f b
 have h2 := Kk c.neg f b
 unfold Bh
 split
 ·exact ⟨(by decide : (0 : Nat) < 4294967296), (by decide : (0 : Nat) < 4294967296)⟩
 ·split
  ·exact ⟨(by decide : (0 : Nat) < 4294967296), (by decide : (0 : Nat) < 4294967296)⟩
  ·split
   ·exact ⟨(by decide : (0 : Nat) < 4294967296), (by decide : (0 : Nat) < 4294967296)⟩
   ·exact ⟨by show (As c.pos f b).2 < _; omega, by show (As c.neg f b).2 < _; omega⟩
def Ej (g : Cl → Int × Cl) (l : List Cl) : Int × List Cl := match l.find? (fun c => (g c).1 ≠ 0) with
 | some c => ((g c).1, [])
 | none => (0, l.map fun c => (g c).2)
theorem B5r {g : Cl → Int × Cl} {l : List Cl} {i : Nat} (hi : i < l.length) (h0 : ∀ j, j < i → (g (l.getD j B8)).1 = 0) (h : (g (l.getD i B8)).1 ≠ 0) : Ej g l = ((g (l.getD i B8)).1, []) := by
 have : l.find? (fun c => (g c).1 ≠ 0) = some (l.getD i B8) := by
  rw [List.find?_eq_some_iff_getElem]
  rw [Ca (d := B8) hi] at h ⊢
  refine ⟨by simpa using h, i, hi, rfl, fun j hj => ?_⟩
  have := h0 j hj
  rw [Ca (d := B8) A2] at this
  simp [this]
 rw [Ej, this]
theorem A5p {g : Cl → Int × Cl} {l : List Cl} (h0 : ∀ j, j < l.length → (g (l.getD j B8)).1 = 0) : Ej g l = (0, l.map fun c => (g c).2) := by
 have : l.find? (fun c => (g c).1 ≠ 0) = none := by
  rw [List.find?_eq_none]
  intro x hx
  obtain ⟨j, hj, e⟩ := List.mem_iff_getElem.mp hx
  have := h0 j hj
  rw [Ca (d := B8) hj, e] at this
  simp [this]
 rw [Ej, this]
theorem Yu {g : Cl → Int × Cl} {l : List Cl} : (Ej g l).1 = 0 ↔ ∀ c, c ∈ l → (g c).1 = 0 := by
 unfold Ej
 cases h : l.find? (fun c => (g c).1 ≠ 0) with
 | none =>
  rw [List.find?_eq_none] at h
  simp only [true_iff]
  intro c hc
  simpa using h c hc
 | some c =>
  have h1 := List.find?_some h
  have h2 := List.mem_of_find?_eq_some h
  simp only
  refine ⟨fun h3 => ?_, fun h3 => h3 c h2⟩
  simp at h1; exact absurd h3 h1
theorem B5p {g : Cl → Int × Cl} {l : List Cl} (h : (Ej g l).1 = 0) : Ej g l = (0, l.map fun c => (g c).2) :=
 A5p fun j hj => Yu.mp h _ (A9 hj)
def Ae (l : List Cl) (f b : Int) : Int × List Cl :=
 if Ab l = false then (2, []) else
 if (Ej (fun c => Bh c f b) l).1 ≠ 0 then ((Ej (fun c => Bh c f b) l).1, []) else Bc (Ej (fun c => Bh c f b) l).2
def Cc (by_ : Int) (l : List Cl) (f : Int) : Aw (List Cl) :=
 if by_ = 0 ∨ 24 ≤ f then .ok l else if (Ae l f by_).1 = 0 then .ok (Ae l f by_).2 else .bad (Ae l f by_).1
def Ci (vb db : Int) : Tr (Int × Int) where
 own c k n _ r := (Cc db r c.2).bind fun r' => if k = 1 ∧ c.1 ≤ n then (if 1000000000 - vb < n then .bad 100 else .ok (.inr (n + vb, r'))) else .ok (.inr (n, r'))
 B4 c f := (Cc db f c.2).bind fun f' => .ok (some f')
 Mz c b := .ok (c.1 + b.1, c.2 + b.2)
section
variable {C : Type} {A : Tr C} {t : T} {c : C} {e : Int}
theorem Lx (h : A.own c t.kind t.n t.name t.r = .bad e) : D8 A t c = .bad e := by rw [Hs, h]; rfl
theorem Qr {p : Int × List Cl} {i : Nat} {l : List T} (h : A.own c t.kind t.n t.name t.r = .ok (.inr p)) (hi : i < t.kids.length) (hl : Dt A t.kind 0 (t.kids.take i) c = .ok l) {c' : C} (hc : A.Mz c (binds t.kind i) = .ok c') (hb : D8 A (t.kids.getD i t0) c' = .bad e) : D8 A t c = .bad e := by
 have h1 : Dt A t.kind 0 (t.kids.take (i + 1)) c = .bad e := by
  rw [Ah (d := t0) hi, Lz, hl]
  simp only [Aw.bind, List.length_take, Nat.zero_add, Nat.min_eq_left (Nat.le_of_lt hi)]
  rw [hc]; simp only; rw [hb]
 have h2 := S5 (m := t.kids.drop (i + 1)) h1
 rw [List.take_append_drop] at h2
 rw [Hs, h]; simp only [Aw.bind]; rw [h2]
theorem T0 {k : Int} {ts : List T} {i : Nat} {l : List T} {u : T} (hi : i < ts.length) (hl : Dt A k 0 (ts.take i) c = .ok l) {c' : C} (hc : A.Mz c (binds k i) = .ok c') (hb : D8 A (ts.getD i t0) c' = .ok u) : Dt A k 0 (ts.take (i + 1)) c = .ok (l ++ [u]) := by
 rw [Ah (d := t0) hi, Lz, hl]
 simp only [Aw.bind, List.length_take, Nat.zero_add, Nat.min_eq_left (Nat.le_of_lt hi)]
 rw [hc]; simp only; rw [hb]
theorem Qs {k : Int} {ts : List T} {i : Nat} {l : List T} (hi : i < ts.length) (hl : D4 A k (ts.take i) c = .ok l) {c' : C} (hc : A.Mz c (0, more k) = .ok c') (hb : D8 A (ts.getD i t0) c' = .bad e) : D4 A k ts c = .bad e := by
 have h1 : D4 A k (ts.take (i + 1)) c = .bad e := by
  rw [Ah (d := t0) hi, Ly, hl]
  simp only [Aw.bind]
  rw [hc]; simp only; rw [hb]
 have h2 := S4 (m := ts.drop (i + 1)) h1
 rwa [List.take_append_drop] at h2
theorem T1 {k : Int} {ts : List T} {i : Nat} {l : List T} {u : T} (hi : i < ts.length) (hl : D4 A k (ts.take i) c = .ok l) {c' : C} (hc : A.Mz c (0, more k) = .ok c') (hb : D8 A (ts.getD i t0) c' = .ok u) : D4 A k (ts.take (i + 1)) c = .ok (l ++ [u]) := by
 rw [Ah (d := t0) hi, Ly, hl]
 simp only [Aw.bind]
 rw [hc]; simp only; rw [hb]
theorem Qq {p : Int × List Cl} {s : Nat} {l : List T} {bs : List Br} (h : A.own c t.kind t.n t.name t.r = .ok (.inr p)) (hl : Dt A t.kind 0 t.kids c = .ok l) (hs : s < t.sys.length) (hb : Dd A t.kind (t.sys.take s) c = .ok bs) (hf : A.B4 c (t.sys.getD s Bd).B4 = .bad e ∨ ∃ f', A.B4 c (t.sys.getD s Bd).B4 = .ok (some f') ∧ D4 A t.kind (t.sys.getD s Bd).kids c = .bad e) : D8 A t c = .bad e := by
 have h1 : Dd A t.kind (t.sys.take (s + 1)) c = .bad e := by
  rw [Ah (d := Bd) hs, Jy, hb]
  simp only [Aw.bind]
  rcases hf with hf | ⟨f', hf, h2⟩
  ·rw [hf]
  ·rw [hf]; simp only; rw [h2]
 have h2 := Od (m := t.sys.drop (s + 1)) h1
 rw [List.take_append_drop] at h2
 rw [Hs, h]; simp only [Aw.bind]; rw [hl]; simp only; rw [h2]
theorem T3 {k : Int} {ss : List Br} {s : Nat} {bs : List Br} {f' : List Cl} {ks : List T} (hs : s < ss.length) (hb : Dd A k (ss.take s) c = .ok bs) (hf : A.B4 c (ss.getD s Bd).B4 = .ok (some f')) (hk : D4 A k (ss.getD s Bd).kids c = .ok ks) : Dd A k (ss.take (s + 1)) c = .ok (bs ++ [.mk f' ks]) := by
 rw [Ah (d := Bd) hs, Jy, hb]
 simp only [Aw.bind]
 rw [hf]; simp only; rw [hk]
theorem A6v {p : Int × List Cl} {l : List T} {bs : List Br} (h : A.own c t.kind t.n t.name t.r = .ok (.inr p)) (hl : Dt A t.kind 0 t.kids c = .ok l) (hb : Dd A t.kind t.sys c = .ok bs) : D8 A t c = .ok (.mk t.kind p.1 t.name p.2 l bs) := by
 rw [Hs, h]; simp only [Aw.bind]; rw [hl]; simp only; rw [hb]
end
theorem Yt {g : Cl → Int × Cl} {l : List Cl} (h : ∀ c, u32 (g c).2) : ∀ c, c ∈ (Ej g l).2 → u32 c := by
 intro c hc
 unfold Ej at hc
 split at hc
 ·cases hc
 ·obtain ⟨d, _, rfl⟩ := List.mem_map.mp hc; exact h d
theorem B5q {g : Cl → Int × Cl} {l : List Cl} : (Ej g l).2.length ≤ l.length := by
 unfold Ej
 split <;> simp
theorem A0y (k : Int) : 0 ≤ more k ∧ more k ≤ 1 := by unfold more; split <;> omega
theorem T7 {t : T} {i : Nat} (h : i < t.kids.length) : size (t.kids.getD i t0) < size t := by
 obtain ⟨p, hp, e⟩ := Fy (A9 (d := t0) h); exact e ▸ M1 hp
theorem T6 {t : T} {s k : Nat} (h : s < t.sys.length) (h2 : k < (t.sys.getD s Bd).kids.length) : size ((t.sys.getD s Bd).kids.getD k t0) < size t := by
 obtain ⟨p, hp, e⟩ := Fw (A9 (d := Bd) h) (A9 (d := t0) h2); exact e ▸ M1 hp
def Jd (vb : Int) (v : Int) (k n : Int) : Int := if k = 1 ∧ v ≤ n then n + vb else n
theorem C0e {vb db v d : Int} {t : T} {g : List Cl} (hg : Cc db t.r d = .ok g) (h : ¬ (t.kind = 1 ∧ v ≤ t.n ∧ 1000000000 - vb < t.n)) : (Ci vb db).own (v, d) t.kind t.n t.name t.r = .ok (.inr (Jd vb v t.kind t.n, g)) := by
 simp only [Ci, hg, Aw.bind, Jd]
 split
 ·rename_i h1
  rw [if_neg (fun h2 => h ⟨h1.1, h1.2, h2⟩)]
 ·rfl
theorem A1c {vb db v d : Int} {t : T} {e : Int} (hg : Cc db t.r d = .bad e) : (Ci vb db).own (v, d) t.kind t.n t.name t.r = .bad e := by
 simp only [Ci, hg, Aw.bind]
theorem A1e {vb db v d : Int} {t : T} {g : List Cl} (hg : Cc db t.r d = .ok g) (h : t.kind = 1 ∧ v ≤ t.n ∧ 1000000000 - vb < t.n) : (Ci vb db).own (v, d) t.kind t.n t.name t.r = .bad 100 := by
 simp only [Ci, hg, Aw.bind]
 rw [if_pos ⟨h.1, h.2.1⟩, if_pos h.2.2]
theorem Re {vb db v d : Int} {f g : List Cl} (hg : Cc db f d = .ok g) : (Ci vb db).B4 (v, d) f = .ok (some g) := by simp only [Ci, hg, Aw.bind]
theorem Xi {vb db v d : Int} {f : List Cl} {e : Int} (hg : Cc db f d = .bad e) : (Ci vb db).B4 (v, d) f = .bad e := by simp only [Ci, hg, Aw.bind]
theorem Y1 {vb db : Int} {k : Int} {c : Int × Int} : ∀ {l l' : List Br}, Dd (Ci vb db) k l c = .ok l' → l'.length = l.length
 | [], l', h => by rw [Fv] at h; injection h with h; subst h; rfl
 | a :: l, l', h => by
  rw [Em] at h
  obtain ⟨o, ho, h⟩ := Aw.Ac h
  obtain ⟨g, _, hg⟩ := Aw.Ac (x := Cc db a.B4 c.2) ho
  injection hg with hg
  subst hg
  obtain ⟨ks', _, h⟩ := Aw.Ac h
  obtain ⟨bs', h3, h⟩ := Aw.Ac h
  injection h with h
  subst h
  simp [Y1 h3]
theorem C0x : h0.er = t0 := by simp [h0, HT.er, HT.erL, HT.erB, t0]
theorem St.h0R {B : C2} {Γ : List Fact} {Ms : List B2} {w : World} (y : Tys) (hs : St B Γ Ms w) : St B Γ (E2 (Hh y h0) :: Ms) w := by
 have h1 := ((((hs.Wm).Wm).C7 2 y.b).C7 6 y.t).C7 2 y.c
 exact St.C6k (y := y) (k := 0) (n := 0) (nm := ByteArray.mk #[]) (r := []) (v := Bt) (u := Bt) (x := Bt) (ks := []) (ss := []) rfl rfl rfl rfl rfl rfl (by simpa [Fa, Mh] using h1)
def Bm (t : T) (ns : List Int) (r : Aw T) : Int × T := if B0 t ≠ 0 then (B0 t, t0) else if ns.all (fun n => decide (0 ≤ n)) = false then (2, t0) else match r with
 | .ok u => (0, u)
 | .bad e => (e, t0)
theorem A8u {t : T} {ns : List Int} {r : Aw T} (h : B0 t ≠ 0) : Bm t ns r = (B0 t, t0) := by unfold Bm; rw [if_pos h]
theorem B5i {t : T} {ns : List Int} {r : Aw T} (h : B0 t = 0) (h2 : ns.all (fun n => decide (0 ≤ n)) = false) : Bm t ns r = (2, t0) := by unfold Bm; rw [if_neg (by simp [h]), if_pos h2]
theorem C0y {t u : T} {ns : List Int} {r : Aw T} (h : B0 t = 0) (h2 : ns.all (fun n => decide (0 ≤ n)) = true) (hr : r = .ok u) : Bm t ns r = (0, u) := by unfold Bm; rw [if_neg (by simp [h]), if_neg (by simp [h2]), hr]
theorem B5j {t : T} {e : Int} {ns : List Int} {r : Aw T} (h : B0 t = 0) (h2 : ns.all (fun n => decide (0 ≤ n)) = true) (hr : r = .bad e) : Bm t ns r = (e, t0) := by unfold Bm; rw [if_neg (by simp [h]), if_neg (by simp [h2]), hr]
theorem Spec.M3 {P : Program} {k : FuncId} {args : Array Value} {pre : List Fact} (y : Tys) {u : T} (g : Value → Value) (h : Spec P k args pre [] (fun x : {h : HT // h.er = u} => g (.agg (tc u x.1.vr x.1.vk x.1.vs).toArray)) (fun _ => []) (fun x => [E2 (Hh y x.1)])) (hok : ∀ ok w, St ⟨ok, Bb [], w⟩ pre [] w → Tx u) :
  Spec P k args pre [] (fun x : SH × SH × SH => g (.agg (tc u x.1 x.2.1 x.2.2).toArray)) (fun x => [RT u x.1 x.2.1 x.2.2]) (fun _ => []) := fun ok w hk hs => (h ok w hk hs).mono fun e w' hh => by
 obtain ⟨x, he, hs'⟩ := hh
 have h1 : St ⟨ok, Bb [], w⟩ [] (Hh y x.1 ++ []) w' := hs'.unpack
 have h2 := St.M3 y trivial x.1 (by rw [x.2]; exact hok ok w hs) h1
 rw [x.2] at h2
 exact ⟨(x.1.vr, x.1.vk, x.1.vs), he, h2⟩
theorem Lu.M3 {P : Program} {Te : TypeId} {k : FuncId} {args : Array Value} {pre : List Fact} (y : Tys) {r : Aw T} (h : Lu P Te k args pre r (fun (u : T) => fun x : {h : HT // h.er = u} => .agg (tc u x.1.vr x.1.vk x.1.vs).toArray) (fun _ _ => []) (fun (u : T) => fun x : {h : HT // h.er = u} => [E2 (Hh y x.1)])) (hok : ∀ u, r = .ok u → ∀ ok w, St ⟨ok, Bb [], w⟩ pre [] w → Tx u) :
  Lu P Te k args pre r (fun (u : T) => fun x : SH × SH × SH => .agg (tc u x.1 x.2.1 x.2.2).toArray) (fun u x => [RT u x.1 x.2.1 x.2.2]) (fun _ _ => []) := ⟨fun u hu => Spec.M3 y (fun v => v) (h.1 u hu) (hok u hu), h.2⟩
abbrev Al (l : List Cl) : Prop := (∀ c, c ∈ l → u32 c) ∧ l.length * 8 ≤ reach
section
variable {C : Type} {A : Tr C}
mutual
theorem Ui (ho : ∀ c k n nm r p, Ap k → Ap n → Al r → A.own c k n nm r = .ok (.inr p) → Ap p.1 ∧ Al p.2) (hi : ∀ c k n nm r u, A.own c k n nm r = .ok (.inl u) → Tx u) (hf : ∀ c f f', Al f → A.B4 c f = .ok (some f') → Al f') : ∀ (t : T) (c : C) (u : T), Tx t → D8 A t c = .ok u → Tx u
 | .mk k n nm r ks ss, c, u, h, hu => by
  simp only [Tx] at h
  obtain ⟨h1, h2, h3, h4, h5, h6, h7, h8⟩ := h
  rw [Hs] at hu
  simp only [T.kind, T.n, T.name, T.r, T.kids, T.sys] at hu
  obtain ⟨o, h9, hu⟩ := Aw.Ac hu
  cases o with
  | inl v => injection hu with hu; subst hu; exact hi _ _ _ _ _ _ h9
  | inr p =>
   obtain ⟨ks', h10, hu⟩ := Aw.Ac hu
   obtain ⟨ss', h11, hu⟩ := Aw.Ac hu
   injection hu with hu
   subst hu
   obtain ⟨p1, p2⟩ := ho _ _ _ _ _ _ h1 h2 h4 h9
   simp only [Tx]
   exact ⟨h1, p1, h3, p2, by rw [Oc h10]; exact h5, Nat.le_trans (Nat.mul_le_mul_right _ (Lb h11)) h6, Y0 ho hi hf ks 0 c ks' h7 h10, S7 ho hi hf ss c ss' h8 h11⟩
theorem Y0 (ho : ∀ c k n nm r p, Ap k → Ap n → Al r → A.own c k n nm r = .ok (.inr p) → Ap p.1 ∧ Al p.2) (hi : ∀ c k n nm r u, A.own c k n nm r = .ok (.inl u) → Tx u) (hf : ∀ c f f', Al f → A.B4 c f = .ok (some f') → Al f') {kd : Int} : ∀ (ts : List T) (i : Nat) (c : C) (us : List T), okL ts → Dt A kd i ts c = .ok us → okL us
 | [], i, c, us, h, hu => by rw [Gm] at hu; injection hu with hu; subst hu; simp only [okL]
 | t :: ts, i, c, us, h, hu => by
  simp only [okL] at h
  rw [Fh] at hu
  obtain ⟨c', _, hu⟩ := Aw.Ac hu
  obtain ⟨t', h2, hu⟩ := Aw.Ac hu
  obtain ⟨ts', h3, hu⟩ := Aw.Ac hu
  injection hu with hu
  subst hu
  simp only [okL]
  exact ⟨Ui ho hi hf t c' t' h.1 h2, Y0 ho hi hf ts (i + 1) c ts' h.2 h3⟩
theorem Xy (ho : ∀ c k n nm r p, Ap k → Ap n → Al r → A.own c k n nm r = .ok (.inr p) → Ap p.1 ∧ Al p.2) (hi : ∀ c k n nm r u, A.own c k n nm r = .ok (.inl u) → Tx u) (hf : ∀ c f f', Al f → A.B4 c f = .ok (some f') → Al f') {kd : Int} : ∀ (ts : List T) (c : C) (us : List T), okL ts → D4 A kd ts c = .ok us → okL us
 | [], c, us, h, hu => by rw [Gl] at hu; injection hu with hu; subst hu; simp only [okL]
 | t :: ts, c, us, h, hu => by
  simp only [okL] at h
  rw [Fg] at hu
  obtain ⟨c', _, hu⟩ := Aw.Ac hu
  obtain ⟨t', h2, hu⟩ := Aw.Ac hu
  obtain ⟨ts', h3, hu⟩ := Aw.Ac hu
  injection hu with hu
  subst hu
  simp only [okL]
  exact ⟨Ui ho hi hf t c' t' h.1 h2, Xy ho hi hf ts c ts' h.2 h3⟩
theorem S7 (ho : ∀ c k n nm r p, Ap k → Ap n → Al r → A.own c k n nm r = .ok (.inr p) → Ap p.1 ∧ Al p.2) (hi : ∀ c k n nm r u, A.own c k n nm r = .ok (.inl u) → Tx u) (hf : ∀ c f f', Al f → A.B4 c f = .ok (some f') → Al f') {kd : Int} : ∀ (bs : List Br) (c : C) (us : List Br), okB bs → Dd A kd bs c = .ok us → okB us
 | [], c, us, h, hu => by rw [Fv] at hu; injection hu with hu; subst hu; simp only [okB]
 | .mk f ks :: bs, c, us, h, hu => by
  simp only [okB] at h
  obtain ⟨h1, h2, h3, h4⟩ := h
  rw [Em] at hu
  simp only [Br.B4, Br.kids] at hu
  obtain ⟨o, h5, hu⟩ := Aw.Ac hu
  cases o with
  | none => exact S7 ho hi hf bs c us h4 hu
  | some f' =>
   obtain ⟨ks', h6, hu⟩ := Aw.Ac hu
   obtain ⟨bs', h7, hu⟩ := Aw.Ac hu
   injection hu with hu
   subst hu
   simp only [okB]
   exact ⟨hf _ _ _ h1 h5, by rw [Ob h6]; exact h2, Xy ho hi hf ks c ks' h3 h6, S7 ho hi hf bs c bs' h4 h7⟩
end
end
theorem Cz : Al [] := ⟨fun c hc => (by cases hc), by unfold reach; decide⟩
theorem Yq {l : List Cl} (h : ∀ c, c ∈ l → u32 c) : Al (Bc l).2 := by
 unfold Bc
 split
 ·exact Cz
 ·split
  ·exact Cz
  ·rename_i h64
   exact ⟨fun c hc => h c (Qz.mp hc).1, by show (Eh l).length * 8 ≤ reach; unfold reach; omega⟩
theorem Tm (l : List Cl) (f b : Int) : Al (Ae l f b).2 := by
 unfold Ae
 split
 ·exact Cz
 ·split
  ·exact Cz
  ·exact Yq (Yt (fun c => Pz c f b))
theorem Uv {l g : List Cl} {f b : Int} (h : Al l) (hg : Cc b l f = .ok g) : Al g := by
 unfold Cc at hg
 split at hg
 ·injection hg with hg; subst hg; exact h
 ·split at hg
  ·injection hg with hg; subst hg; exact Tm l f b
  ·cases hg
theorem A4z {vb db : Int} (hv : 0 ≤ vb ∧ vb ≤ 1000000) {t u : T} {c : Int × Int} (h : Tx t) (hu : D8 (Ci vb db) t c = .ok u) : Tx u := by
 refine Ui (A := Ci vb db) ?_ ?_ ?_ t c u h hu
 ·intro c k n nm r p _ hn hr ho
  obtain ⟨g, hg, ho⟩ := Aw.Ac (x := Cc db r c.2) ho
  have hgo := Uv hr hg
  split at ho
  ·rename_i h1
   split at ho
   ·cases ho
   ·injection ho with ho; injection ho with ho; subst ho
    exact ⟨by unfold Ap at *; dsimp only; omega, hgo⟩
  ·injection ho with ho; injection ho with ho; subst ho
   exact ⟨hn, hgo⟩
 ·intro c k n nm r u ho
  obtain ⟨g, hg, ho⟩ := Aw.Ac (x := Cc db r c.2) ho
  split at ho
  ·split at ho
   ·cases ho
   ·injection ho with ho; cases ho
  ·injection ho with ho; cases ho
 ·intro c f f' hr ho
  obtain ⟨g, hg, ho⟩ := Aw.Ac (x := Cc db f c.2) ho
  injection ho with ho; injection ho with ho; subst ho
  exact Uv hr hg
theorem A8c : Tx t0 := by simp [t0, Tx, okL, okB, Ap, Er, reach]; decide
theorem guard_okT' {t : T} {ns : List Int} {r : Aw T} (h : ns.all (fun n => decide (0 ≤ n)) = true → ∀ u, r = .ok u → Tx u) : Tx (Bm t ns r).2 := by
 unfold Bm
 split
 ·exact A8c
 ·split
  ·exact A8c
  ·rename_i ha
   cases r with
   | ok u => exact h (by simpa using ha) u rfl
   | bad e => exact A8c
abbrev B0e (t : T) (f b : Int) : Aw T := D8 (Ci b 0) t (if 2000000000 < f then 2000000000 else f, 0)
abbrev B2i (t : T) (f b : Int) : Aw T := D8 (Ci 0 b) t (0, if 24 < f then 24 else f)
abbrev D6f (t : T) (v d : Int) : Aw T := (D8 (Ci v 0) t (0, 0)).bind fun u => D8 (Ci 0 d) u (0, 0)
def Cx (b : Int) : Int := IntKind.i64.wrap (1000000 - b)
theorem B1s (b : Int) : Ap (Cx b) := by
 have h : Cx b = (1000000 - b + 9223372036854775808) % 18446744073709551616 - 9223372036854775808 := by
  unfold Cx; rw [IntKind.wrap_i64]
 unfold Ap; rw [h]; omega
theorem B1r {b : Int} (hb : Ap b) (h0 : 0 ≤ b) (h : 0 ≤ Cx b) : b ≤ 1000000 := by
 have h1 : Cx b = (1000000 - b + 9223372036854775808) % 18446744073709551616 - 9223372036854775808 := by
  unfold Cx; rw [IntKind.wrap_i64]
 unfold Ap at hb; omega
def Bn (t : T) (f b : Int) : Int × T := Bm t [f, b, Cx b] (B0e t f b)
def Bp (t : T) (f b : Int) : Int × T := Bm t [f, b] (B2i t f b)
def A1z (t : T) (v d : Int) : Int × T := Bm t [v, d, Cx v] (D6f t v d)
theorem A1d {vb db : Int} {c : Int × Int} {k n : Int} {nm : ByteArray} {r : List Cl} {u : T} : (Ci vb db).own c k n nm r ≠ .ok (.inl u) := by
 intro ho
 obtain ⟨g, hg, ho⟩ := Aw.Ac (x := Cc db r c.2) ho
 split at ho
 ·split at ho
  ·cases ho
  ·injection ho with ho; cases ho
 ·injection ho with ho; cases ho
mutual
theorem Oi {vb db : Int} : ∀ {t u : T} {c : Int × Int}, D8 (Ci vb db) t c = .ok u → size u = size t
 | .mk k n nm r ks ss, u, c, hu => by
  rw [Hs] at hu
  simp only [T.kind, T.n, T.name, T.r, T.kids, T.sys] at hu
  obtain ⟨o, h9, hu⟩ := Aw.Ac hu
  cases o with
  | inl v => exact absurd h9 A1d
  | inr p =>
   obtain ⟨ks', h10, hu⟩ := Aw.Ac hu
   obtain ⟨ss', h11, hu⟩ := Aw.Ac hu
   injection hu with hu
   subst hu
   rw [P8, P8]
   simp only [T.kids, T.sys]
   rw [Vp h10, Vr h11]
theorem Vp {vb db k : Int} : ∀ {ts us : List T} {i : Nat} {c : Int × Int}, Dt (Ci vb db) k i ts c = .ok us → us.map size = ts.map size
 | [], us, i, c, hu => by rw [Gm] at hu; injection hu with hu; subst hu; rfl
 | t :: ts, us, i, c, hu => by
  rw [Fh] at hu
  obtain ⟨c', _, hu⟩ := Aw.Ac hu
  obtain ⟨t', h2, hu⟩ := Aw.Ac hu
  obtain ⟨ts', h3, hu⟩ := Aw.Ac hu
  injection hu with hu
  subst hu
  simp only [List.map_cons]
  rw [Oi h2, Vp h3]
theorem Vo {vb db k : Int} : ∀ {ts us : List T} {c : Int × Int}, D4 (Ci vb db) k ts c = .ok us → us.map size = ts.map size
 | [], us, c, hu => by rw [Gl] at hu; injection hu with hu; subst hu; rfl
 | t :: ts, us, c, hu => by
  rw [Fg] at hu
  obtain ⟨c', _, hu⟩ := Aw.Ac hu
  obtain ⟨t', h2, hu⟩ := Aw.Ac hu
  obtain ⟨ts', h3, hu⟩ := Aw.Ac hu
  injection hu with hu
  subst hu
  simp only [List.map_cons]
  rw [Oi h2, Vo h3]
theorem Vr {vb db k : Int} : ∀ {bs us : List Br} {c : Int × Int}, Dd (Ci vb db) k bs c = .ok us → (us.map fun b => b.kids.map size) = bs.map fun b => b.kids.map size
 | [], us, c, hu => by rw [Fv] at hu; injection hu with hu; subst hu; rfl
 | .mk f ks :: bs, us, c, hu => by
  rw [Em] at hu
  simp only [Br.B4, Br.kids] at hu
  obtain ⟨o, h5, hu⟩ := Aw.Ac hu
  obtain ⟨g, _, h6⟩ := Aw.Ac (x := Cc db f c.2) h5
  injection h6 with h6
  subst h6
  obtain ⟨ks', h7, hu⟩ := Aw.Ac hu
  obtain ⟨bs', h8, hu⟩ := Aw.Ac hu
  injection hu with hu
  subst hu
  show (ks'.map size :: (bs'.map fun b => b.kids.map size)) = (ks.map size :: (bs.map fun b => b.kids.map size))
  rw [Vo h7, Vr h8]
end
theorem B2q {t : T} {v d : Int} {b : Bool} : H9 t v d b = true ↔ (¬ (b = true ∧ 24 < d)) ∧ Io t v d = true ∧ ∀ p, p ∈ parts t → H9 p.1 (IntKind.i64.wrap (v + if v < 0 then 0 else p.2.1)) (d + p.2.2) b = true := by
  rw [A2g, Bool.and_eq_true, List.all_eq_true]
  simp only [Bool.not_eq_true', Bool.or_eq_false_iff, Bool.and_eq_false_iff, decide_eq_false_iff_not, Bool.not_eq_false']
  constructor
  · rintro ⟨⟨h1, h2⟩, h3⟩
    refine ⟨?_, h2, h3⟩
    rintro ⟨h4, h5⟩
    rcases h1 with h1 | h1
    · rw [h1] at h4; cases h4
    · exact h1 h5
  · rintro ⟨h1, h2, h3⟩
    refine ⟨⟨?_, h2⟩, h3⟩
    cases b
    · exact .inl rfl
    · exact .inr (fun h => h1 ⟨rfl, h⟩)
theorem R3 {t : T} {v d : Int} : Io t v d = true ↔ Gq t = false ∧
    (if t.kind = 1 then t.r.length = 0 ∧ 0 ≤ t.n ∧ (v < 0 ∨ t.n < v)
     else if t.kind = 2 then t.r.length = 0 ∧ Gx t.name = true
     else if t.kind = 13 ∨ t.kind = 21 ∨ t.kind = 26 then Ab t.r = true ∧ within t.r d = true
     else if t.kind = 14 then A7 t.r = true ∧ within t.r d = true
     else (∀ x, x ∈ t.sys → J7 t d x = true) ∧ t.r.length = 0) := by
  unfold Io
  rw [Bool.and_eq_true, Bool.not_eq_true']
  apply and_congr Iff.rfl
  split
  · simp only [Bool.and_eq_true, decide_eq_true_eq, Bool.or_eq_true, and_assoc]; constructor <;> (rintro ⟨h1, h2⟩; exact ⟨by omega, h2⟩)
  · split
    · simp only [Bool.and_eq_true, decide_eq_true_eq]; constructor <;> (rintro ⟨h1, h2⟩; exact ⟨by omega, h2⟩)
    · split
      · simp only [Bool.and_eq_true]
      · split
        · simp only [Bool.and_eq_true]
        · simp only [Bool.and_eq_true, decide_eq_true_eq, List.all_eq_true]; constructor <;> (rintro ⟨h1, h2⟩; exact ⟨h1, by omega⟩)
theorem within_iff {l : List Cl} {d : Int} (h0 : 0 ≤ d) : within l d = true ↔ ∀ i : Nat, d ≤ (i : Int) → (Bj l).testBit i = false := by
  have hlt := Rq l
  unfold within
  rw [Bool.or_eq_true, decide_eq_true_eq, decide_eq_true_eq]
  by_cases h24 : 24 ≤ d
  · constructor
    · intro _ i hi
      exact Nat.testBit_lt_two_pow (Nat.lt_of_lt_of_le hlt (Nat.pow_le_pow_right (n := 2) A2 (show 24 ≤ i by omega)))
    · intro _; exact .inl h24
  · have hm : min d.toNat 32 = d.toNat := by omega
    rw [hm]
    constructor
    · rintro (h | h) i hi
      · exact absurd h h24
      · have h1 : Bj l / 2 ^ d.toNat = 0 := by omega
        have h2 : Bj l < 2 ^ d.toNat := by
          have := Nat.div_eq_zero_iff.mp h1
          have hp : 0 < 2 ^ d.toNat := Nat.pow_pos A2
          omega
        exact Nat.testBit_lt_two_pow (Nat.lt_of_lt_of_le h2 (Nat.pow_le_pow_right (n := 2) A2 A2))
    · intro h
      right
      have h2 : Bj l < 2 ^ d.toNat := Nat.lt_pow_two_of_testBit _ (fun i hi => h i A2)
      rw [Nat.div_eq_of_lt h2]; rfl
theorem B0n {t : T} (h : Gq t = false) (hp : C5 t.kind = 0) : t.sys = [] := by
  unfold Gq at h
  simp only [Bool.or_eq_false_iff, Bool.and_eq_false_iff, decide_eq_false_iff_not] at h
  rcases h.2 with h2 | h2
  · exact absurd hp h2
  · exact List.eq_nil_of_length_eq_zero A2
theorem Xg (s n : Nat) : (C1 s n).Pairwise fun a b => a < b := by
 unfold C1
 rw [List.pairwise_map]
 refine (List.Pairwise.filter _ List.pairwise_lt_range).imp (fun h => by omega)
theorem C0n {l : List Int} (hs : l.Pairwise fun a b => a < b) {x : Int} (hx : x ∈ l) : x ≤ l.getD (l.length - 1) 0 := by
 obtain ⟨j, hj, e⟩ := List.mem_iff_getElem.mp hx
 have hs := List.pairwise_iff_getElem.mp hs
 have hl : l.length - 1 < l.length := by omega
 rw [Ca (d := (0 : Int)) hl]
 rcases Nat.lt_or_ge j (l.length - 1) with h2 | h2
 ·have := hs j (l.length - 1) hj hl h2
  rw [e] at this
  exact Int.le_of_lt this
 ·have hje : j = l.length - 1 := by omega
  subst hje
  exact Int.le_of_eq e.symm
def D3x (l : List Cl) (d : Int) : Bool := decide (((Ag (Bj l)).length : Int) = 0) || decide ((Ag (Bj l)).getD ((Ag (Bj l)).length - 1) 0 < d)
theorem A8l {l : List Cl} {d : Int} (h0 : 0 ≤ d) : D3x l d = within l d := by
 rw [Bool.eq_iff_iff, within_iff h0]
 unfold D3x
 rw [Bool.or_eq_true, decide_eq_true_eq, decide_eq_true_eq]
 have hlt := Rq l
 constructor
 ·intro h i hi
  apply Bool.eq_false_iff.mpr
  intro hb
  have hi24 : i < 24 := by
   apply Classical.byContradiction
   intro hc
   have := Nat.testBit_lt_two_pow (Nat.lt_of_lt_of_le hlt (Nat.pow_le_pow_right (n := 2) A2 (show 24 ≤ i by omega)))
   rw [this] at hb; cases hb
  have hm : ((i : Nat) : Int) ∈ Ag (Bj l) := Gg.mpr ⟨by omega, by omega, by simpa using hb⟩
  rcases h with h | h
  ·have : Ag (Bj l) = [] := List.eq_nil_of_length_eq_zero A2
   rw [this] at hm; cases hm
  ·have := C0n (l := Ag (Bj l)) (Xg (Bj l) 24) hm
   omega
 ·intro h
  by_cases hn : (Ag (Bj l)).length = 0
  ·exact .inl A2
  ·right
   have hmem : (Ag (Bj l)).getD ((Ag (Bj l)).length - 1) 0 ∈ Ag (Bj l) := A9 A2
   have hx := Gg.mp hmem
   apply Classical.byContradiction
   intro hc
   have := h ((Ag (Bj l)).getD ((Ag (Bj l)).length - 1) 0).toNat A2
   rw [this] at hx; cases hx.2.2
structure K9 (t : T) (v d : Int) (b : Bool) : Prop where
 bound : ¬ (b = true ∧ 24 < d)
 kids : Ce t.kind = (t.kids.length : Int)
 sys : C5 t.kind = 0 → t.sys.length = 0
 n1 : if t.kind = 1 then 0 ≤ t.n ∧ (v < 0 ∨ t.n < v) else t.n = 0
 nm : if t.kind = 2 then Gx t.name = true else (t.name.toList == (ByteArray.mk #[]).toList) = true
 r : if t.kind = 13 ∨ t.kind = 21 ∨ t.kind = 26 then Ab t.r = true else if t.kind = 14 then A7 t.r = true else t.r.length = 0
 low : within t.r d = true
theorem B6p {t : T} {v d : Int} {b : Bool} (h : K9 t v d b) (hs : ∀ x, x ∈ t.sys → J7 t d x = true) : Io t v d = true := by
 rw [R3]
 have h1 := h.n1; have h2 := h.nm; have h3 := h.r
 refine ⟨?_, ?_⟩
 ·simp only [Gq, Bool.or_eq_false_iff, Bool.and_eq_false_iff, decide_eq_false_iff_not, Bool.not_eq_false']
  refine ⟨⟨⟨fun hc => hc h.kids, ?_⟩, ?_⟩, ?_⟩
  ·by_cases hk : t.kind = 1
   ·exact .inl (fun hc => hc hk)
   ·rw [if_neg hk] at h1; exact .inr (fun hc => hc h1)
  ·by_cases hk : t.kind = 2
   ·exact .inl (fun hc => hc hk)
   ·rw [if_neg hk] at h2; exact .inr h2
  ·by_cases hk : C5 t.kind = 0
   ·have := h.sys hk; exact .inr A2
   ·exact .inl hk
 ·by_cases k1 : t.kind = 1
  ·rw [if_pos k1] at h1 ⊢
   rw [if_neg A2, if_neg A2] at h3
   exact ⟨h3, h1⟩
  ·rw [if_neg k1]
   by_cases k2 : t.kind = 2
   ·rw [if_pos k2] at h2 ⊢
    rw [if_neg A2, if_neg A2] at h3
    exact ⟨h3, h2⟩
   ·rw [if_neg k2]
    by_cases k3 : t.kind = 13 ∨ t.kind = 21 ∨ t.kind = 26
    ·rw [if_pos k3] at h3 ⊢; exact ⟨h3, h.low⟩
    ·rw [if_neg k3] at h3 ⊢
     by_cases k4 : t.kind = 14
     ·rw [if_pos k4] at h3 ⊢; exact ⟨h3, h.low⟩
     ·rw [if_neg k4] at h3 ⊢; exact ⟨hs, h3⟩
theorem B4d {t : T} {v d : Int} {b : Bool} (h0 : ¬ (b = true ∧ 24 < d)) (hd : 0 ≤ d) (h : Io t v d = true) : K9 t v d b := by
 rw [R3] at h
 obtain ⟨h1, h2⟩ := h
 have hsys := fun hp => B0n h1 hp
 simp only [Gq, Bool.or_eq_false_iff, Bool.and_eq_false_iff, decide_eq_false_iff_not, Bool.not_eq_false', ne_eq, Decidable.not_not] at h1
 obtain ⟨⟨⟨a1, a2⟩, a3⟩, a4⟩ := h1
 have hwn : t.r.length = 0 → within t.r d = true := fun hr => by
  rw [List.eq_nil_of_length_eq_zero hr, within_iff hd]; intro i _; simp [Bj]
 refine ⟨h0, a1, fun hp => by rw [hsys hp]; rfl, ?_, ?_, ?_, ?_⟩
 ·by_cases k1 : t.kind = 1
  ·rw [if_pos k1] at h2 ⊢; exact h2.2
  ·rw [if_neg k1]; exact a2.resolve_left k1
 ·by_cases k2 : t.kind = 2
  ·rw [if_neg A2, if_pos k2] at h2
   rw [if_pos k2]; exact h2.2
  ·rw [if_neg k2]; exact a3.resolve_left k2
 ·split at h2
  ·rw [if_neg A2, if_neg A2]; exact h2.1
  ·split at h2
   ·rw [if_neg A2, if_neg A2]; exact h2.1
   ·split at h2
    ·rename_i k; rw [if_pos k]; exact h2.1
    ·rename_i k; rw [if_neg k]
     split at h2
     ·rename_i k; rw [if_pos k]; exact h2.1
     ·rename_i k; rw [if_neg k]; exact h2.2
 ·split at h2
  ·exact hwn h2.1
  ·split at h2
   ·exact hwn h2.1
   ·split at h2
    ·exact h2.2
    ·split at h2
     ·exact h2.2
     ·exact hwn h2.2
def Vu (t : T) (v d : Int) (b : Bool) (i : Nat) : Bool := H9 (t.kids.getD i t0) (IntKind.i64.wrap (v + if v < 0 then 0 else (binds t.kind i).1)) (d + (binds t.kind i).2) b
def Sw (t : T) (v d : Int) (b : Bool) (x : Br) : Bool := J7 t d x && x.kids.all fun k => H9 k v (d + more t.kind) b
theorem B8u {t : T} {v d : Int} (h : Io t v d = true) : ∀ x, x ∈ t.sys → J7 t d x = true := by
 rw [R3] at h
 have h2 := h.2
 have hs := fun hp => B0n h.1 hp
 split at h2
 ·rename_i k; rw [hs (by rw [k]; decide)]; intro x hx; cases hx
 ·split at h2
  ·rename_i k; rw [hs (by rw [k]; decide)]; intro x hx; cases hx
  ·split at h2
   ·rename_i k; rw [hs (by rcases k with k | k | k <;> rw [k] <;> decide)]; intro x hx; cases hx
   ·split at h2
    ·rename_i k; rw [hs (by rw [k]; decide)]; intro x hx; cases hx
    ·exact h2.1
theorem D6 {t : T} {v d : Int} {b : Bool} (hv : Ap v) (hd : 0 ≤ d) : H9 t v d b = true ↔ K9 t v d b ∧ (∀ i, i < t.kids.length → Vu t v d b i = true) ∧ ∀ i, i < t.sys.length → Sw t v d b (t.sys.getD i Bd) = true := by
 rw [B2q]
 constructor
 ·rintro ⟨h1, h2, h3⟩
  refine ⟨B4d h1 hd h2, fun i hi => ?_, fun i hi => ?_⟩
  ·exact h3 _ (Ed (Fx t i hi))
  ·unfold Sw
   rw [Bool.and_eq_true, List.all_eq_true]
   refine ⟨B8u h2 _ (A9 hi), fun k hk => ?_⟩
   obtain ⟨j, hj, e⟩ := List.mem_iff_getElem.mp hk
   have := h3 _ (Ed (Gp t i j hi hj))
   simp only at this
   rw [show (if v < 0 then (0 : Int) else 0) = 0 by split <;> rfl, Int.add_zero, Zp hv] at this
   rwa [Ca (d := t0) hj, e] at this
 ·rintro ⟨h1, h2, h3⟩
  have hb : ∀ x, x ∈ t.sys → Sw t v d b x = true := fun x hx => by
   obtain ⟨i, hi, e⟩ := List.mem_iff_getElem.mp hx
   have := h3 i hi
   rwa [Ca (d := Bd) hi, e] at this
  refine ⟨h1.bound, B6p h1 (fun x hx => by have := hb x hx; unfold Sw at this; rw [Bool.and_eq_true] at this; exact this.1), fun p hp => ?_⟩
  obtain ⟨m, hm⟩ := List.mem_iff_getElem?.mp hp
  have hlt : m < (parts t).length := (List.getElem?_eq_some_iff.mp hm).1
  rcases Nat.lt_or_ge m t.kids.length with hmk | hmk
  ·rw [Fx t m hmk] at hm
   injection hm with hm
   subst hm
   exact h2 m hmk
  ·unfold parts at hp hm
   rw [List.getElem?_append_right (by rw [Ee]; exact hmk)] at hm
   have hp2 : p ∈ Co t.kind t.sys := List.mem_iff_getElem?.mpr ⟨_, hm⟩
   have key : ∀ (bs : List Br), (∀ x, x ∈ bs → x ∈ t.sys) → p ∈ Co t.kind bs → H9 p.1 (IntKind.i64.wrap (v + if v < 0 then 0 else p.2.1)) (d + p.2.2) b = true := by
    intro bs
    induction bs with
    | nil => intro _ h; simp [Co] at h
    | cons x bs ih =>
     intro hx h
     simp only [Co, List.mem_append, List.mem_map] at h
     rcases h with ⟨k, hk, e⟩ | h
     ·subst e
      simp only
      rw [show (if v < 0 then (0 : Int) else 0) = 0 by split <;> rfl, Int.add_zero, Zp hv]
      have := hb x (hx x List.mem_cons_self)
      unfold Sw at this
      rw [Bool.and_eq_true, List.all_eq_true] at this
      exact this.2 k hk
     ·exact ih (fun y hy => hx y (List.mem_cons_of_mem _ hy)) h
   exact key t.sys (fun _ h => h) hp2
theorem G8 {t : T} {v d : Int} {b : Bool} (hv : Ap v) (hd : 0 ≤ d) (hn : ¬ K9 t v d b) : H9 t v d b = false := Bool.eq_false_iff.mpr fun h => hn ((D6 hv hd).mp h).1
theorem G7 {t : T} {v d : Int} {b : Bool} (hv : Ap v) (hd : 0 ≤ d) {i : Nat} (hi : i < t.kids.length) (hn : Vu t v d b i = false) : H9 t v d b = false := Bool.eq_false_iff.mpr fun h => by
 have h9 := ((D6 hv hd).mp h).2.1 i hi
 rw [hn] at h9; cases h9
theorem G6 {t : T} {v d : Int} {b : Bool} (hv : Ap v) (hd : 0 ≤ d) {i : Nat} (hi : i < t.sys.length) (hn : Sw t v d b (t.sys.getD i Bd) = false) : H9 t v d b = false := Bool.eq_false_iff.mpr fun h => by
 have h9 := ((D6 hv hd).mp h).2.2 i hi
 rw [hn] at h9; cases h9
theorem V7 {t : T} {p : Part} (hp : p ∈ parts t) : (∃ i, i < t.kids.length ∧ p = (t.kids.getD i t0, binds t.kind (i : Int))) ∨ ∃ s k, s < t.sys.length ∧ k < (t.sys.getD s Bd).kids.length ∧ p = ((t.sys.getD s Bd).kids.getD k t0, 0, more t.kind) := by
 unfold parts at hp
 rcases List.mem_append.mp hp with hp | hp
 ·left
  have key : ∀ (ks : List T) (s : Nat), p ∈ Dg t.kind s ks → ∃ i, i < ks.length ∧ p = (ks.getD i t0, binds t.kind ((s + i : Nat) : Int)) := by
   intro ks
   induction ks with
   | nil => intro s h; simp [Dg] at h
   | cons k ks ih =>
    intro s h
    simp only [Dg, List.mem_cons] at h
    rcases h with h | h
    ·exact ⟨0, by simp, by simpa using h⟩
    ·obtain ⟨i, hi, e⟩ := ih (s + 1) h
     exact ⟨i + 1, by simpa using hi, by rw [e]; simp only [List.getD_cons_succ]; rw [show s + 1 + i = s + (i + 1) by omega]⟩
  obtain ⟨i, hi, e⟩ := key t.kids 0 hp
  exact ⟨i, hi, by rw [e]; simp⟩
 ·right
  have key : ∀ (bs : List Br), p ∈ Co t.kind bs → ∃ s k, s < bs.length ∧ k < (bs.getD s Bd).kids.length ∧ p = ((bs.getD s Bd).kids.getD k t0, 0, more t.kind) := by
   intro bs
   induction bs with
   | nil => intro h; simp [Co] at h
   | cons b bs ih =>
    intro h
    simp only [Co, List.mem_append, List.mem_map] at h
    rcases h with ⟨k, hk, e⟩ | h
    ·obtain ⟨j, hj, e2⟩ := List.mem_iff_getElem.mp hk
     exact ⟨0, j, by simp, by simpa using hj, by rw [← e]; simp only [List.getD_cons_zero]; rw [Ca (d := t0) hj, e2]⟩
    ·obtain ⟨s, k, h1, h2, e⟩ := ih h
     exact ⟨s + 1, k, by simpa using h1, by simpa using h2, by rw [e]; simp⟩
  exact key t.sys hp
theorem A5o {α : Type} (f : α → Nat) (i : Nat) : ∀ (l : List α) (a : Nat), (l.foldl (fun a x => a ||| f x) a).testBit i = true ↔ a.testBit i = true ∨ ∃ x, x ∈ l ∧ (f x).testBit i = true
 | [], a => by simp
 | x :: l, a => by
  rw [List.foldl_cons, A5o f i l, Nat.testBit_or]
  simp only [Bool.or_eq_true, List.mem_cons, exists_eq_or_imp, or_assoc]
end Go.Hy
