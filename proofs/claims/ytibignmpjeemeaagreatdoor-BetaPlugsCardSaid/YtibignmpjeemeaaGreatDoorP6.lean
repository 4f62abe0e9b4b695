/- Contracts of this program's functions and the laws that they need. -/
import Derived.Test.YtibignmpjeemeaaGreatDoorP4
set_option linter.unusedVariables false
set_option linter.unusedSimpArgs false
set_option linter.unusedSectionVars false
namespace Go.Hy
open Go.Proofs Go.Proofs.Tryz
theorem sm_ {p q : Prop} (h : p) (e : p = q := by
 try (conv => lhs; simp only [sC, bne_iff_ne, beq_iff_eq, ne_eq])
 try rfl) : q := e ▸ h
class D0 (P : Program) (k : FuncId) (fn : outParam Func) : Prop where
 f : P.funcs[k]? = some fn
structure Ah (p : Prop) : Prop where
 out : p
section
variable {P : Program} {f : FuncId} {R : Ending → World → Prop} {B : By} {n : Fz} {K : List Item} {σ : Nat → Value} {Γ Γ' : List Fact} {Ms : List Az}
theorem f_ {k : FuncId} {fn : Func} [h : D0 P k fn] : P.funcs[k]? = some fn := h.f
theorem Nz {fn : Func} {id : Nat} {ops : Array Oper} [h9 : D0 P f fn] (h : De P f R B n K ops (List.range ops.size) σ Γ Ms) : Ec P f R B n (.code (.region id ops false) :: K) σ Γ Ms := go_region ⟨_, h9.f⟩ rfl h
theorem Tc {Q : Program} [Tab Q] {g : FuncId} {S : Ending → World → Prop} {C : By} {m : Fz} {L : List Item} {ops : Array Oper} {i : Nat} {l : List Nat} {τ : Nat → Value} {Δ : List Fact} {Ns : List Az} {dst : Option Tmp} {op : Op} {ty : TypeId} {pos : String} {after : Array Edge} {e d : Nat} {want : Bool} {og : Oper} (ho : ops[i]? = some ⟨dst, op, ty, pos, after, some (e, want)⟩) (t : Bool) {p q : Prop} (kT : t = want → p → E9 Q g S C m L ops l (C2 dst op ty) (Oz τ d (.bool want)) Δ Ns) (kF : t = !want → q → De Q g S C m L ops l (Ac (Oz τ d (.bool !want)) dst undef) Δ Ns) (hog : ops[e]? = some og := by exact rfl) (hgd : og.dst = some d := by exact rfl) (ht : τ d = .bool t := by exact A8) (e1 : (t = want) = p := by
 try (conv => lhs; simp only [sC, bne_iff_ne, beq_iff_eq, ne_eq])
 try rfl) (e2 : (t = !want) = q := by
 try (conv => lhs; simp only [Bool.not_true, Bool.not_false, sC, bne_iff_ne, beq_iff_eq, ne_eq])
 try rfl) (hd : Aa m dst = true := by rfl) : De Q g S C m L ops (i :: l) τ Δ Ns := qI ho hog hgd ht (fun h => kT h (e1 ▸ h)) (fun h => kF h (e2 ▸ h)) hd
theorem Bx {d : Nat} {x y : Code} (t : Bool) {p q : Prop} (kT : t = true → p → Ec P f R B n (.code x :: K) (Oz σ d (.bool true)) Γ Ms) (kF : t = false → q → Ec P f R B n (.code y :: K) (Oz σ d (.bool false)) Γ Ms) (hc : σ d = .bool t := by exact A8) (e1 : (t = true) = p := by
 try (conv => lhs; simp only [sC, bne_iff_ne, beq_iff_eq, ne_eq])
 try rfl) (e2 : (t = false) = q := by
 try (conv => lhs; simp only [sC, bne_iff_ne, beq_iff_eq, ne_eq])
 try rfl) : Ec P f R B n (.code (.cond (.tmp d) x y) :: K) σ Γ Ms := A4 (fun h => kT h (e1 ▸ h)) (fun h => kF h (e2 ▸ h)) hc
theorem Db {fn : Func} {c : Code} {m : Nat} {args : List Value} {pre : List Fact} {Ms0 : List Az} {X : Type} {val : X → Value} {N : X → List Fact} {Ms1 : X → List Az} [h9 : D0 P f fn] (hn : fn.ntmps = m) (h : ∀ B : By, (∀ b, B.S0 b ↔ B3 Ms0 b) → Ec P f (Ends B val N Ms1) B ⟨m, [], .normal⟩ [.code c] (fun t => args.getD t undef) pre Ms0) (hb : fn.body = some c := by exact rfl) (ha : args.length ≤ m := by exact Nat.le_of_ble_eq_true rfl) : Spec P f args.toArray pre Ms0 val N Ms1 := Ku h9.f hn hb ha h
theorem St.l9 {w : World} (hs : St B Γ Ms w) (h : ∀ F, F ∈ Γ' → F ∈ Γ := by simp +contextual) : St B Γ' Ms w := hs.less h
theorem St.l7 {w : World} (hs : St B Γ Ms w) (h : ∀ F, F ∈ ([] : List Fact) → F ∈ Γ := by simp) : St B [] Ms w := hs.less h
theorem St.l8 {w : World} (hs : St B Γ Ms w) (h : ∀ F, F ∈ Γ' → F ∈ Γ := by simp) : St B Γ' Ms w := hs.less h
end
section
variable {p q : Prop}
theorem Gt (k : p) (h : Ah p → q := by intro h; refine C6z ?_; exact h.1) : q := h ⟨k⟩
theorem Hm (k : p) (h : Ah p → q := by intro h; refine C3m ?_; exact h.1) : q := h ⟨k⟩
theorem zq2 (k : p) (h : Ah p → q := by intro h; refine q0 rfl (B6z ?_); exact h.1) : q := h ⟨k⟩
theorem Dp (k : p) (h : Ah p → q := by intro h; refine q0 rfl (Ff ?_); exact h.1) : q := h ⟨k⟩
theorem Ud (k : p) (h : Ah p → q := by intro h; refine qF rfl rfl rfl ?_; exact h.1) : q := h ⟨k⟩
theorem Jd (k : p) (h : Ah p → q := by intro h; refine go_skip ?_; exact h.1) : q := h ⟨k⟩
theorem zq6 (k : p) (h : Ah p → q := by intro h; refine q0 rfl (B2z ?_); exact h.1) : q := h ⟨k⟩
theorem zq7 (k : p) (h : Ah p → q := by intro h; refine q0 rfl (D1p ?_); exact h.1) : q := h ⟨k⟩
theorem zq8 (k : p) (h : Ah p → q := by intro h; refine q0 rfl (Mc ?_); exact h.1) : q := h ⟨k⟩
theorem zq9 (k : p) (h : Ah p → q := by intro h; refine q0 rfl (C4i ?_); exact h.1) : q := h ⟨k⟩
theorem J0 (k : p) (h : Ah p → q := by intro h; refine B8a ?_; exact h.1) : q := h ⟨k⟩
theorem C3f (k : p) (h : Ah p → q := by intro h; refine q0 rfl (Tj ?_); exact h.1) : q := h ⟨k⟩
theorem Hg (k : p) (h : Ah p → q := by intro h; refine q0 rfl (Nn ?_); exact h.1) : q := h ⟨k⟩
theorem Ea (k : p) (h : Ah p → q := by intro h; refine n0 rfl (B5a ?_); exact h.1) : q := h ⟨k⟩
theorem Uf (k : p) (h : Ah p → q := by intro h; refine A8n ?_; exact h.1) : q := h ⟨k⟩
theorem C3e (k : p) (h : Ah p → q := by intro h; refine q0 rfl (B0g ?_); exact h.1) : q := h ⟨k⟩
theorem Ox (k : p) (h : Ah p → q := by intro h; refine q0 rfl (C8v ?_); exact h.1) : q := h ⟨k⟩
theorem X3 (k : p) (h : Ah p → q := by intro h; refine nF rfl rfl rfl ?_; exact h.1) : q := h ⟨k⟩
theorem Ee (k : p) (h : Ah p → q := by intro h; refine C1d rfl ?_; exact h.1) : q := h ⟨k⟩
theorem Ue (k : p) (h : Ah p → q := by intro h; refine n0 rfl (Oy ?_); exact h.1) : q := h ⟨k⟩
theorem C3c (k : p) (h : Ah p → q := by intro h; refine q0 rfl (B0h ?_); exact h.1) : q := h ⟨k⟩
theorem Jc (k : p) (h : Ah p → q := by intro h; refine q0 rfl (B6v ?_); exact h.1) : q := h ⟨k⟩
theorem C3b (k : p) (h : Ah p → q := by intro h; refine n0 rfl (C7v ?_); exact h.1) : q := h ⟨k⟩
theorem Jb (k : p) (h : Ah p → q := by intro h; refine NV.done ?_; exact h.1) : q := h ⟨k⟩
theorem B9l (k : p) (h : Ah p → q := by intro h; refine q0 rfl (Vm ?_); exact h.1) : q := h ⟨k⟩
theorem S1 (k : p) (h : Ah p → q := by intro h; refine q0 rfl (Yp ?_); exact h.1) : q := h ⟨k⟩
theorem B4u (k : p) (h : Ah p → q := by intro h; refine B7z ?_; exact h.1) : q := h ⟨k⟩
theorem Pk (k : p) (h : Ah p → q := by intro h; refine n0 rfl (C7t ?_); exact h.1) : q := h ⟨k⟩
theorem Ht (k : p) (h : Ah p → q := by intro h; refine qT rfl rfl rfl (Ff ?_); exact h.1) : q := h ⟨k⟩
theorem Ly (k : p) (h : Ah p → q := by intro h; refine q0 rfl (C8s ?_); exact h.1) : q := h ⟨k⟩
theorem Hz (k : p) (h : Ah p → q := by intro h; refine qT rfl rfl rfl (C4i ?_); exact h.1) : q := h ⟨k⟩
theorem B4t (k : p) (h : Ah p → q := by intro h; refine nU rfl rfl rfl ?_; exact h.1) : q := h ⟨k⟩
theorem K4 (k : p) (h : Ah p → q := by intro h; refine q0 rfl (C8t ?_); exact h.1) : q := h ⟨k⟩
theorem B1y (k : p) (h : Ah p → q := by intro h; refine q0 rfl (C2f ?_); exact h.1) : q := h ⟨k⟩
theorem C7q (k : p) (h : Ah p → q := by intro h; refine qU rfl rfl rfl ?_; exact h.1) : q := h ⟨k⟩
theorem Lx (k : p) (h : Ah p → q := by intro h; refine n0 rfl (C7x ?_); exact h.1) : q := h ⟨k⟩
theorem N0 (k : p) (h : Ah p → q := by intro h; refine q0 rfl (A7z ?_); exact h.1) : q := h ⟨k⟩
theorem Mz (k : p) (h : Ah p → q := by intro h; refine nT rfl rfl rfl (C7v ?_); exact h.1) : q := h ⟨k⟩
theorem A2s (k : p) (h : Ah p → q := by intro h; refine n0 rfl (A9k ?_); exact h.1) : q := h ⟨k⟩
theorem Zs (k : p) (h : Ah p → q := by intro h; refine n0 rfl (C7u ?_); exact h.1) : q := h ⟨k⟩
theorem C3a (k : p) (h : Ah p → q := by intro h; refine q0 rfl (C8n ?_); exact h.1) : q := h ⟨k⟩
theorem Q8 (k : p) (h : Ah p → q := by intro h; refine q0 rfl (Cb ?_); exact h.1) : q := h ⟨k⟩
theorem Q7 (k : p) (h : Ah p → q := by intro h; refine q0 rfl (B6x ?_); exact h.1) : q := h ⟨k⟩
theorem Rz (k : p) (h : Ah p → q := by intro h; refine Ff ?_; exact h.1) : q := h ⟨k⟩
theorem Ty (k : p) (h : Ah p → q := by intro h; refine n0 rfl (B5c ?_); exact h.1) : q := h ⟨k⟩
theorem Uc (k : p) (h : Ah p → q := by intro h; refine n0 rfl (A9j ?_); exact h.1) : q := h ⟨k⟩
theorem Ub (k : p) (h : Ah p → q := by intro h; refine qT rfl rfl rfl (C2f ?_); exact h.1) : q := h ⟨k⟩
theorem X2 (k : p) (h : Ah p → q := by intro h; refine nT rfl rfl rfl (B5a ?_); exact h.1) : q := h ⟨k⟩
theorem Zr (k : p) (h : Ah p → q := by intro h; refine n0 rfl (B2a ?_); exact h.1) : q := h ⟨k⟩
theorem A2r (k : p) (h : Ah p → q := by intro h; refine q0 rfl (C8u ?_); exact h.1) : q := h ⟨k⟩
theorem A2q (k : p) (h : Ah p → q := by intro h; refine q0 rfl (A4q ?_); exact h.1) : q := h ⟨k⟩
theorem A2p (k : p) (h : Ah p → q := by intro h; refine qT rfl rfl rfl (Tj ?_); exact h.1) : q := h ⟨k⟩
theorem A2o (k : p) (h : Ah p → q := by intro h; refine qT rfl rfl rfl (Mc ?_); exact h.1) : q := h ⟨k⟩
theorem A6r (k : p) (h : Ah p → q := by intro h; refine q0 rfl (Yq ?_); exact h.1) : q := h ⟨k⟩
theorem A6q (k : p) (h : Ah p → q := by intro h; refine qT rfl rfl rfl (B0g ?_); exact h.1) : q := h ⟨k⟩
theorem A6p (k : p) (h : Ah p → q := by intro h; refine nT rfl rfl rfl (A9j ?_); exact h.1) : q := h ⟨k⟩
theorem A6o (k : p) (h : Ah p → q := by intro h; refine nT rfl rfl rfl (A9k ?_); exact h.1) : q := h ⟨k⟩
theorem B1x (k : p) (h : Ah p → q := by intro h; refine q0 rfl (C8m ?_); exact h.1) : q := h ⟨k⟩
theorem B1w (k : p) (h : Ah p → q := by intro h; refine qT rfl rfl rfl (C8r ?_); exact h.1) : q := h ⟨k⟩
theorem B1v (k : p) (h : Ah p → q := by intro h; refine qT rfl rfl rfl (B0h ?_); exact h.1) : q := h ⟨k⟩
theorem B1u (k : p) (h : Ah p → q := by intro h; refine nT rfl rfl rfl (Oy ?_); exact h.1) : q := h ⟨k⟩
theorem B1t (k : p) (h : Ah p → q := by intro h; refine qT rfl rfl rfl (Nn ?_); exact h.1) : q := h ⟨k⟩
theorem B1s (k : p) (h : Ah p → q := by intro h; refine n0 rfl (D1b ?_); exact h.1) : q := h ⟨k⟩
theorem B1r (k : p) (h : Ah p → q := by intro h; refine q0 rfl (C4e ?_); exact h.1) : q := h ⟨k⟩
theorem B1q (k : p) (h : Ah p → q := by intro h; refine q0 rfl (C4g ?_); exact h.1) : q := h ⟨k⟩
theorem Aq (k : p) (h : Ah p → q := by intro h; refine Gt ?_; refine Nz ?_; exact h.1) : q := h ⟨k⟩
theorem Bt (k : p) (h : Ah p → q := by intro h; refine zq2 ?_; refine Hm ?_; exact h.1) : q := h ⟨k⟩
theorem Dw (k : p) (h : Ah p → q := by intro h; refine Aq ?_; refine Dp ?_; exact h.1) : q := h ⟨k⟩
theorem Hx (k : p) (h : Ah p → q := by intro h; refine zq2 ?_; refine Bt ?_; exact h.1) : q := h ⟨k⟩
theorem Ce (k : p) (h : Ah p → q := by intro h; refine Aq ?_; refine Bt ?_; exact h.1) : q := h ⟨k⟩
theorem K3 (k : p) (h : Ah p → q := by intro h; refine zq8 ?_; refine zq9 ?_; exact h.1) : q := h ⟨k⟩
theorem Fw (k : p) (h : Ah p → q := by intro h; refine Ud ?_; refine Ud ?_; exact h.1) : q := h ⟨k⟩
theorem C2z (k : p) (h : Ah p → q := by intro h; refine Dp ?_; refine Hm ?_; exact h.1) : q := h ⟨k⟩
theorem B1p (k : p) (h : Ah p → q := by intro h; refine zq6 ?_; refine zq6 ?_; exact h.1) : q := h ⟨k⟩
theorem Gv (k : p) (h : Ah p → q := by intro h; refine Gt ?_; refine Dw ?_; exact h.1) : q := h ⟨k⟩
theorem Dd (k : p) (h : Ah p → q := by intro h; refine zq7 ?_; refine Hm ?_; exact h.1) : q := h ⟨k⟩
theorem Ua (k : p) (h : Ah p → q := by intro h; refine C3f ?_; refine Bt ?_; exact h.1) : q := h ⟨k⟩
theorem Ed (k : p) (h : Ah p → q := by intro h; refine Nz ?_; refine Dp ?_; exact h.1) : q := h ⟨k⟩
theorem Hs (k : p) (h : Ah p → q := by intro h; refine Jd ?_; refine Gt ?_; exact h.1) : q := h ⟨k⟩
theorem Kq (k : p) (h : Ah p → q := by intro h; refine B1p ?_; refine Hx ?_; exact h.1) : q := h ⟨k⟩
theorem En (k : p) (h : Ah p → q := by intro h; refine zq7 ?_; refine Bt ?_; exact h.1) : q := h ⟨k⟩
theorem El (k : p) (h : Ah p → q := by intro h; refine Aq ?_; refine Ua ?_; exact h.1) : q := h ⟨k⟩
theorem Ek (k : p) (h : Ah p → q := by intro h; refine Ue ?_; refine C3b ?_; exact h.1) : q := h ⟨k⟩
theorem C7p (k : p) (h : Ah p → q := by intro h; refine Nz ?_; refine Ox ?_; refine C2z ?_; exact h.1) : q := h ⟨k⟩
theorem Q6 (k : p) (h : Ah p → q := by intro h; refine Uf ?_; refine C7p ?_; exact h.1) : q := h ⟨k⟩
theorem Tx (k : p) (h : Ah p → q := by intro h; refine B9l ?_; refine Hm ?_; exact h.1) : q := h ⟨k⟩
theorem Tw (k : p) (h : Ah p → q := by intro h; refine Hm ?_; refine Gt ?_; exact h.1) : q := h ⟨k⟩
theorem Ge (k : p) (h : Ah p → q := by intro h; refine Aq ?_; refine K3 ?_; exact h.1) : q := h ⟨k⟩
theorem Zq (k : p) (h : Ah p → q := by intro h; refine Hs ?_; refine J0 ?_; exact h.1) : q := h ⟨k⟩
theorem Gd (k : p) (h : Ah p → q := by intro h; refine Aq ?_; refine Hx ?_; exact h.1) : q := h ⟨k⟩
theorem Fb (k : p) (h : Ah p → q := by intro h; refine Aq ?_; refine Hg ?_; exact h.1) : q := h ⟨k⟩
theorem G3 (k : p) (h : Ah p → q := by intro h; refine Aq ?_; refine S1 ?_; refine Tw ?_; exact h.1) : q := h ⟨k⟩
theorem Hw (k : p) (h : Ah p → q := by intro h; refine Bt ?_; refine Gt ?_; exact h.1) : q := h ⟨k⟩
theorem C2y (k : p) (h : Ah p → q := by intro h; refine Jc ?_; refine C2z ?_; exact h.1) : q := h ⟨k⟩
theorem L3 (k : p) (h : Ah p → q := by intro h; refine Dp ?_; refine Kq ?_; exact h.1) : q := h ⟨k⟩
theorem Ry (k : p) (h : Ah p → q := by intro h; refine C2y ?_; refine J0 ?_; exact h.1) : q := h ⟨k⟩
theorem H5 (k : p) (h : Ah p → q := by intro h; refine Nz ?_; refine K3 ?_; exact h.1) : q := h ⟨k⟩
theorem Le (k : p) (h : Ah p → q := by intro h; refine Jd ?_; refine Dw ?_; exact h.1) : q := h ⟨k⟩
theorem H4 (k : p) (h : Ah p → q := by intro h; refine Dw ?_; refine Hx ?_; exact h.1) : q := h ⟨k⟩
theorem A2n (k : p) (h : Ah p → q := by intro h; refine Jd ?_; refine B4u ?_; exact h.1) : q := h ⟨k⟩
theorem Gz (k : p) (h : Ah p → q := by intro h; refine Jb ?_; refine Hm ?_; exact h.1) : q := h ⟨k⟩
theorem Hl (k : p) (h : Ah p → q := by intro h; refine X3 ?_; refine X3 ?_; exact h.1) : q := h ⟨k⟩
theorem Hk (k : p) (h : Ah p → q := by intro h; refine C3e ?_; refine Dp ?_; exact h.1) : q := h ⟨k⟩
theorem F8 (k : p) (h : Ah p → q := by intro h; refine C3e ?_; refine Hm ?_; exact h.1) : q := h ⟨k⟩
theorem K6 (k : p) (h : Ah p → q := by intro h; refine C3f ?_; refine Hm ?_; exact h.1) : q := h ⟨k⟩
theorem Fc (k : p) (h : Ah p → q := by intro h; refine Fw ?_; refine Ud ?_; exact h.1) : q := h ⟨k⟩
theorem G9 (k : p) (h : Ah p → q := by intro h; refine A2n ?_; refine Ce ?_; exact h.1) : q := h ⟨k⟩
theorem G8 (k : p) (h : Ah p → q := by intro h; refine C3c ?_; refine Bt ?_; exact h.1) : q := h ⟨k⟩
theorem Gg (k : p) (h : Ah p → q := by intro h; refine Jd ?_; refine Q6 ?_; exact h.1) : q := h ⟨k⟩
theorem Gf (k : p) (h : Ah p → q := by intro h; refine C3e ?_; refine Bt ?_; exact h.1) : q := h ⟨k⟩
theorem H8 (k : p) (h : Ah p → q := by intro h; refine Jd ?_; refine Uf ?_; exact h.1) : q := h ⟨k⟩
theorem H7 (k : p) (h : Ah p → q := by intro h; refine Ce ?_; refine Dw ?_; exact h.1) : q := h ⟨k⟩
theorem H6 (k : p) (h : Ah p → q := by intro h; refine Ea ?_; refine Ea ?_; exact h.1) : q := h ⟨k⟩
theorem A2u (k : p) (h : Ah p → q := by intro h; refine Gv ?_; refine Tx ?_; exact h.1) : q := h ⟨k⟩
theorem Hj (k : p) (h : Ah p → q := by intro h; refine C3c ?_; refine Hm ?_; exact h.1) : q := h ⟨k⟩
theorem I0 (k : p) (h : Ah p → q := by intro h; refine Zq ?_; refine Aq ?_; exact h.1) : q := h ⟨k⟩
theorem T1 (k : p) (h : Ah p → q := by intro h; refine Ce ?_; refine Gv ?_; exact h.1) : q := h ⟨k⟩
theorem Qi (k : p) (h : Ah p → q := by intro h; refine Dw ?_; refine Tx ?_; exact h.1) : q := h ⟨k⟩
theorem Ig (k : p) (h : Ah p → q := by intro h; refine C3c ?_; refine Dp ?_; exact h.1) : q := h ⟨k⟩
theorem Ie (k : p) (h : Ah p → q := by intro h; refine Zq ?_; refine Gt ?_; exact h.1) : q := h ⟨k⟩
theorem Ic (k : p) (h : Ah p → q := by intro h; refine Ed ?_; refine Dp ?_; exact h.1) : q := h ⟨k⟩
theorem Iz (k : p) (h : Ah p → q := by intro h; refine Gt ?_; refine Gt ?_; exact h.1) : q := h ⟨k⟩
theorem Iy (k : p) (h : Ah p → q := by intro h; refine B1y ?_; refine Hm ?_; exact h.1) : q := h ⟨k⟩
theorem Ix (k : p) (h : Ah p → q := by intro h; refine L3 ?_; refine A2u ?_; exact h.1) : q := h ⟨k⟩
theorem Jg (k : p) (h : Ah p → q := by intro h; refine Dd ?_; refine Gt ?_; exact h.1) : q := h ⟨k⟩
theorem Jf (k : p) (h : Ah p → q := by intro h; refine Dw ?_; refine Bt ?_; exact h.1) : q := h ⟨k⟩
theorem T0 (k : p) (h : Ah p → q := by intro h; refine Fw ?_; refine Fw ?_; exact h.1) : q := h ⟨k⟩
theorem Je (k : p) (h : Ah p → q := by intro h; refine Bt ?_; refine Q6 ?_; exact h.1) : q := h ⟨k⟩
theorem K5 (k : p) (h : Ah p → q := by intro h; refine Dp ?_; refine Dp ?_; exact h.1) : q := h ⟨k⟩
theorem Ks (k : p) (h : Ah p → q := by intro h; refine Dp ?_; refine B1p ?_; exact h.1) : q := h ⟨k⟩
theorem Lh (k : p) (h : Ah p → q := by intro h; refine Gv ?_; refine K6 ?_; exact h.1) : q := h ⟨k⟩
theorem Lg (k : p) (h : Ah p → q := by intro h; refine Dw ?_; refine Hg ?_; exact h.1) : q := h ⟨k⟩
theorem A2t (k : p) (h : Ah p → q := by intro h; refine C3a ?_; refine Hm ?_; exact h.1) : q := h ⟨k⟩
theorem Lf (k : p) (h : Ah p → q := by intro h; refine Le ?_; refine Dp ?_; exact h.1) : q := h ⟨k⟩
theorem Mr (k : p) (h : Ah p → q := by intro h; refine Ge ?_; refine Ry ?_; exact h.1) : q := h ⟨k⟩
theorem Mq (k : p) (h : Ah p → q := by intro h; refine Ox ?_; refine Bt ?_; exact h.1) : q := h ⟨k⟩
theorem Mp (k : p) (h : Ah p → q := by intro h; refine T1 ?_; refine Ry ?_; exact h.1) : q := h ⟨k⟩
theorem Mo (k : p) (h : Ah p → q := by intro h; refine B1p ?_; refine En ?_; exact h.1) : q := h ⟨k⟩
theorem Mn (k : p) (h : Ah p → q := by intro h; refine zq8 ?_; refine Ly ?_; exact h.1) : q := h ⟨k⟩
theorem Na (k : p) (h : Ah p → q := by intro h; refine K3 ?_; refine Dp ?_; exact h.1) : q := h ⟨k⟩
theorem N9 (k : p) (h : Ah p → q := by intro h; refine Aq ?_; refine zq9 ?_; exact h.1) : q := h ⟨k⟩
theorem N8 (k : p) (h : Ah p → q := by intro h; refine C7q ?_; refine C7q ?_; exact h.1) : q := h ⟨k⟩
theorem N7 (k : p) (h : Ah p → q := by intro h; refine Hl ?_; refine X3 ?_; exact h.1) : q := h ⟨k⟩
theorem N6 (k : p) (h : Ah p → q := by intro h; refine B4t ?_; refine B4t ?_; exact h.1) : q := h ⟨k⟩
theorem N5 (k : p) (h : Ah p → q := by intro h; refine Bt ?_; refine Qi ?_; exact h.1) : q := h ⟨k⟩
theorem N4 (k : p) (h : Ah p → q := by intro h; refine zq7 ?_; refine Dd ?_; exact h.1) : q := h ⟨k⟩
theorem C1w (k : p) (h : Ah p → q := by intro h; refine Jd ?_; refine Ee ?_; exact h.1) : q := h ⟨k⟩
theorem P4 (k : p) (h : Ah p → q := by intro h; refine Nz ?_; refine Ua ?_; exact h.1) : q := h ⟨k⟩
theorem P3 (k : p) (h : Ah p → q := by intro h; refine Ee ?_; refine Ce ?_; exact h.1) : q := h ⟨k⟩
theorem P2 (k : p) (h : Ah p → q := by intro h; refine A2s ?_; refine Gz ?_; exact h.1) : q := h ⟨k⟩
theorem P1 (k : p) (h : Ah p → q := by intro h; refine Pk ?_; refine Pk ?_; exact h.1) : q := h ⟨k⟩
theorem Qh (k : p) (h : Ah p → q := by intro h; refine Gt ?_; refine J0 ?_; exact h.1) : q := h ⟨k⟩
theorem Qg (k : p) (h : Ah p → q := by intro h; refine Gt ?_; refine El ?_; exact h.1) : q := h ⟨k⟩
theorem Qf (k : p) (h : Ah p → q := by intro h; refine C1w ?_; refine Gd ?_; exact h.1) : q := h ⟨k⟩
theorem Qe (k : p) (h : Ah p → q := by intro h; refine Hw ?_; refine Gt ?_; exact h.1) : q := h ⟨k⟩
theorem Qd (k : p) (h : Ah p → q := by intro h; refine C3f ?_; refine Dp ?_; exact h.1) : q := h ⟨k⟩
theorem Qc (k : p) (h : Ah p → q := by intro h; refine Ed ?_; refine Hg ?_; exact h.1) : q := h ⟨k⟩
theorem Qb (k : p) (h : Ah p → q := by intro h; refine zq8 ?_; refine A2t ?_; exact h.1) : q := h ⟨k⟩
theorem Qa (k : p) (h : Ah p → q := by intro h; refine Hk ?_; refine T0 ?_; exact h.1) : q := h ⟨k⟩
theorem Q9 (k : p) (h : Ah p → q := by intro h; refine Zs ?_; refine Ek ?_; exact h.1) : q := h ⟨k⟩
end
instance : D0 prog 10 f10 := ⟨func10⟩
instance : D0 prog 20 f20 := ⟨func20⟩
instance : D0 prog 24 f24 := ⟨func24⟩
instance : D0 prog 31 f31 := ⟨func31⟩
instance : D0 prog 35 f35 := ⟨func35⟩
instance : D0 prog 36 f36 := ⟨func36⟩
instance : D0 prog 37 f37 := ⟨func37⟩
instance : D0 prog 39 f39 := ⟨func39⟩
instance : D0 prog 40 f40 := ⟨func40⟩
instance : D0 prog 41 f41 := ⟨func41⟩
instance : D0 prog 45 f45 := ⟨func45⟩
instance : D0 prog 58 f58 := ⟨func58⟩
instance : D0 prog 59 f59 := ⟨func59⟩
instance : D0 prog 60 f60 := ⟨func60⟩
instance : D0 prog 61 f61 := ⟨func61⟩
instance : D0 prog 62 f62 := ⟨func62⟩
instance : D0 prog 63 f63 := ⟨func63⟩
instance : D0 prog 64 f64 := ⟨func64⟩
instance : D0 prog 75 f75 := ⟨func75⟩
instance : D0 prog 76 f76 := ⟨func76⟩
instance : D0 prog 77 f77 := ⟨func77⟩
instance : D0 prog 80 f80 := ⟨func80⟩
instance : D0 prog 81 f81 := ⟨func81⟩
instance : D0 prog 82 f82 := ⟨func82⟩
instance : D0 prog 83 f83 := ⟨func83⟩
instance : D0 prog 84 f84 := ⟨func84⟩
instance : D0 prog 85 f85 := ⟨func85⟩
instance : D0 prog 86 f86 := ⟨func86⟩
instance : D0 prog 87 f87 := ⟨func87⟩
instance : D0 prog 89 f89 := ⟨func89⟩
instance : D0 prog 90 f90 := ⟨func90⟩
instance : D0 prog 103 f103 := ⟨func103⟩
instance : D0 prog 104 f104 := ⟨func104⟩
instance : D0 prog 105 f105 := ⟨func105⟩
instance : D0 prog 106 f106 := ⟨func106⟩
instance : D0 prog 107 f107 := ⟨func107⟩
instance : D0 prog 108 f108 := ⟨func108⟩
instance : D0 prog 109 f109 := ⟨func109⟩
instance : D0 prog 110 f110 := ⟨func110⟩
instance : D0 prog 111 f111 := ⟨func111⟩
instance : D0 prog 112 f112 := ⟨func112⟩
instance : D0 prog 114 f114 := ⟨func114⟩
instance : D0 prog 118 f118 := ⟨func118⟩
instance : D0 prog 124 f124 := ⟨func124⟩
instance : D0 prog 132 f132 := ⟨func132⟩
instance : D0 prog 133 f133 := ⟨func133⟩
instance : D0 prog 134 f134 := ⟨func134⟩
instance : D0 prog 135 f135 := ⟨func135⟩
instance : D0 prog 136 f136 := ⟨func136⟩
instance : D0 prog 137 f137 := ⟨func137⟩
instance : D0 prog 138 f138 := ⟨func138⟩
instance : D0 prog 139 f139 := ⟨func139⟩
instance : D0 prog 140 f140 := ⟨func140⟩
instance : D0 prog 141 f141 := ⟨func141⟩
instance : D0 prog 142 f142 := ⟨func142⟩
instance : D0 prog 151 f151 := ⟨func151⟩
instance : D0 prog 152 f152 := ⟨func152⟩
instance : D0 prog 153 f153 := ⟨func153⟩
instance : D0 prog 154 f154 := ⟨func154⟩
instance : D0 prog 155 f155 := ⟨func155⟩
instance : D0 prog 156 f156 := ⟨func156⟩
instance : D0 prog 157 f157 := ⟨func157⟩
instance : D0 prog 158 f158 := ⟨func158⟩
instance : D0 prog 159 f159 := ⟨func159⟩
instance : D0 prog 160 f160 := ⟨func160⟩
instance : D0 prog 161 f161 := ⟨func161⟩
instance : D0 prog 162 f162 := ⟨func162⟩
instance : D0 prog 163 f163 := ⟨func163⟩
instance : D0 prog 164 f164 := ⟨func164⟩
instance : D0 prog 165 f165 := ⟨func165⟩
instance : D0 prog 166 f166 := ⟨func166⟩
instance : D0 prog 167 f167 := ⟨func167⟩
instance : D0 prog 168 f168 := ⟨func168⟩
instance : D0 prog 169 f169 := ⟨func169⟩
instance : D0 prog 170 f170 := ⟨func170⟩
instance : D0 prog 171 f171 := ⟨func171⟩
instance : D0 prog 173 f173 := ⟨func173⟩
instance : D0 prog 174 f174 := ⟨func174⟩
instance : D0 prog 186 f186 := ⟨func186⟩
instance : D0 prog 187 f187 := ⟨func187⟩
instance : D0 prog 188 f188 := ⟨func188⟩
instance : D0 prog 189 f189 := ⟨func189⟩
instance : D0 prog 190 f190 := ⟨func190⟩
instance : D0 prog 191 f191 := ⟨func191⟩
instance : D0 prog 192 f192 := ⟨func192⟩
instance : D0 prog 193 f193 := ⟨func193⟩
instance : D0 prog 194 f194 := ⟨func194⟩
instance : D0 prog 195 f195 := ⟨func195⟩
instance : D0 prog 196 f196 := ⟨func196⟩
instance : D0 prog 197 f197 := ⟨func197⟩
instance : D0 prog 198 f198 := ⟨func198⟩
instance : D0 prog 199 f199 := ⟨func199⟩
instance : D0 prog 200 f200 := ⟨func200⟩
instance : D0 prog 203 f203 := ⟨func203⟩
instance : D0 prog 204 f204 := ⟨func204⟩
instance : D0 prog 205 f205 := ⟨func205⟩
instance : D0 prog 219 f219 := ⟨func219⟩
instance : D0 prog 220 f220 := ⟨func220⟩
instance : D0 prog 221 f221 := ⟨func221⟩
instance : D0 prog 222 f222 := ⟨func222⟩
instance : D0 prog 223 f223 := ⟨func223⟩
instance : D0 prog 231 f231 := ⟨func231⟩
instance : D0 prog 232 f232 := ⟨func232⟩
instance : D0 prog 233 f233 := ⟨func233⟩
instance : D0 prog 234 f234 := ⟨func234⟩
instance : D0 prog 235 f235 := ⟨func235⟩
instance : D0 prog 236 f236 := ⟨func236⟩
instance : D0 prog 237 f237 := ⟨func237⟩
instance : D0 prog 238 f238 := ⟨func238⟩
instance : D0 prog 239 f239 := ⟨func239⟩
instance : D0 prog 240 f240 := ⟨func240⟩
instance : D0 prog 241 f241 := ⟨func241⟩
instance : D0 prog 248 f248 := ⟨func248⟩
instance : D0 prog 249 f249 := ⟨func249⟩
instance : D0 prog 250 f250 := ⟨func250⟩
instance : D0 prog 251 f251 := ⟨func251⟩
instance : D0 prog 255 f255 := ⟨func255⟩
instance : D0 prog 256 f256 := ⟨func256⟩
instance : D0 prog 264 f264 := ⟨func264⟩
instance : D0 prog 265 f265 := ⟨func265⟩
instance : D0 prog 270 f270 := ⟨func270⟩
instance : D0 prog 271 f271 := ⟨func271⟩
instance : D0 prog 272 f272 := ⟨func272⟩
set_option maxRecDepth 100000
theorem Ko (k i : Int) : Spec prog 62 #[iv k, iv i] [] [] (fun _ : Unit => .tuple #[iv (binds k i).1, iv (binds k i).2]) (fun _ => []) (fun _ => []) := by
 refine Db ntmps62 fun B hB => ?_
 refine Gd ?_; refine Gv ?_; refine Hm ?_; refine J0 ?_; refine Qh ?_; refine Qh ?_; refine J0 ?_; refine J0 ?_; refine Qh ?_; refine Iz ?_; refine Qg ?_; refine A4 (fun h7 => ?_) (fun h7 => ?_)
 ·refine A2n ?_; refine Ee ?_; refine Lh ?_; refine A4 (fun h21 => ?_) (fun h21 => ?_)
  ·refine Gd ?_; refine Bs f_ rfl A8 A8 () (by simp_all [binds]) (fun w hs => hs.none)
  ·refine Qf ?_; refine Bs f_ rfl A8 A8 () (by simp_all [binds]) (fun w hs => hs.none)
 ·refine P4 ?_; refine A4 (fun h7 => ?_) (fun h7 => ?_)
  ·refine Ee ?_; refine Lh ?_; refine A4 (fun h21 => ?_) (fun h21 => ?_)
   ·refine Gd ?_; refine Bs f_ rfl A8 A8 () (by simp_all [binds]) (fun w hs => hs.none)
   ·refine Qf ?_; refine Bs f_ rfl A8 A8 () (by simp_all [binds]) (fun w hs => hs.none)
  ·refine Hs ?_; refine El ?_; refine A4 (fun h10 => ?_) (fun h10 => ?_)
   ·refine Ee ?_; refine Uf ?_; refine Uf ?_; refine Lh ?_; refine A4 (fun h23 => ?_) (fun h23 => ?_)
    ·refine Gd ?_; refine Bs f_ rfl A8 A8 () (by simp_all [binds]) (fun w hs => hs.none)
    ·refine Qf ?_; refine Bs f_ rfl A8 A8 () (by simp_all [binds]) (fun w hs => hs.none)
   ·refine Hs ?_; refine El ?_; refine A4 (fun h12 => ?_) (fun h12 => ?_)
    ·refine Ee ?_; refine Uf ?_; refine Lh ?_; refine A4 (fun h23 => ?_) (fun h23 => ?_)
     ·refine Gd ?_; refine Bs f_ rfl A8 A8 () (by simp_all [binds]) (fun w hs => hs.none)
     ·refine Qf ?_; refine Bs f_ rfl A8 A8 () (by simp_all [binds]) (fun w hs => hs.none)
    ·refine Hs ?_; refine El ?_; refine A4 (fun h14 => ?_) (fun h14 => ?_)
     ·refine Ee ?_; refine Lh ?_; refine A4 (fun h23 => ?_) (fun h23 => ?_)
      ·refine Gd ?_; refine Bs f_ rfl A8 A8 () (by simp_all [binds]) (fun w hs => hs.none)
      ·refine Qf ?_; refine Bs f_ rfl A8 A8 () (by simp_all [binds]) (fun w hs => hs.none)
     ·refine Hs ?_; refine El ?_; refine A4 (fun h16 => ?_) (fun h16 => ?_)
      ·refine A2n ?_; refine Ee ?_; refine Lh ?_; refine A4 (fun h25 => ?_) (fun h25 => ?_)
       ·refine Gd ?_; refine Bs f_ rfl A8 A8 () (by simp_all [binds]) (fun w hs => hs.none)
       ·refine Qf ?_; refine Bs f_ rfl A8 A8 () (by simp_all [binds]) (fun w hs => hs.none)
      ·refine El ?_; refine A4 (fun h16 => ?_) (fun h16 => ?_)
       ·refine A2n ?_; refine Ee ?_; refine Lh ?_; refine A4 (fun h25 => ?_) (fun h25 => ?_)
        ·refine Gd ?_; refine Bs f_ rfl A8 A8 () (by simp_all [binds]) (fun w hs => hs.none)
        ·refine Qf ?_; refine Bs f_ rfl A8 A8 () (by simp_all [binds]) (fun w hs => hs.none)
       ·refine P4 ?_; refine A4 (fun h16 => ?_) (fun h16 => ?_)
        ·refine Ee ?_; refine Lh ?_; refine A4 (fun h25 => ?_) (fun h25 => ?_)
         ·refine Gd ?_; refine Bs f_ rfl A8 A8 () (by simp_all [binds]) (fun w hs => hs.none)
         ·refine Qf ?_; refine Bs f_ rfl A8 A8 () (by simp_all [binds]) (fun w hs => hs.none)
        ·refine Qf ?_; refine Bs f_ rfl A8 A8 () (by simp_all [binds]) (fun w hs => hs.none)
theorem Ss (t : T) (vr vk vs : SH) (c : FuncId) (cap : List Value) (FΓ : List Fact) (SM SF : Nat → List Az) (β : Nat → Bool)
  (hc : ∀ (args : Array Value) (w : World), (callFunc c args).run prog w = .ok (.enter c args) w)
  (hcl : ∀ m k v d, (parts t)[m]? = some (k, v, d) → (∀ j, j < m → β j = true) → ∀ vr vk vs, Spec prog c (.agg (tc k vr vk vs).toArray :: iv v :: iv d :: cap).toArray (RT k vr vk vs :: FΓ) (SM m) (fun _ : Unit => .bool (β m)) (fun _ => []) (fun _ => if β m then SM (m + 1) else SF m)) :
  Spec prog 106 #[.agg (tc t vr vk vs).toArray, .func (.func c) #[] cap.toArray] (RT t vr vk vs :: FΓ) (SM 0) (fun _ : Unit => .bool (ff β (parts t).length == (parts t).length)) (fun _ => []) (fun _ => if ff β (parts t).length = (parts t).length then SM (parts t).length else SF (ff β (parts t).length)) := by
 refine Db ntmps106 fun B hB => ?_
 refine go_open (fun hk hn hnm => ?_); refine Ao (ts := t.kids) (fun VR VK VS hl1 hA1 => ?_); refine C3 (bs := t.sys) (fun VF VK2 hl2 hA2 => ?_); have hpl := A0r t; refine Aq ?_; refine q0 rfl (Ay fun b2 => ?_); refine Hw ?_; refine Mr ?_; refine F3 (X := Nat) (fun i => i ≤ t.kids.length ∧ ∀ j, j < i → β j = true) (fun i => [(1, .func (.func c) #[] cap.toArray), (2, pz b2), (15, sl vk t.kids.length), (16, iv (t.kids.length : Int)), (17, iv (i : Int))]) (fun i => TLx t.kids vk VR VK VS :: BLx t.sys vs VF VK2 :: RT t vr vk vs :: FΓ) (fun i => A7 b2 (tc t vr vk vs) 26 :: SM i) (fun i => t.kids.length - i) (0) (⟨Nat.zero_le _, fun j hj => by omega⟩) (by exact Ez) ?_ ?_
 ·exact fun w hs => hs.l9
 ·intro i base0 ⟨hi, hβ⟩ next0; refine G3 ?_; refine A4 (fun h18 => ?_) (fun h18 => ?_)
  ·have hlt : i < t.kids.length := by have := of_decide_eq_true h18; omega
   obtain ⟨bk, o, hav⟩ := hA1 A2; refine Zq ?_; refine Dw ?_; refine Q8 ?_; refine K4 ?_; refine q0 rfl (Ax fun b6 => ?_); refine zq2 ?_; refine Jg ?_; refine Bj i hlt ?_; refine Nz ?_; have hpk := Ll t i hlt; refine Na ?_; refine q0 rfl (A0 call62 (Ko t.kind i) (fun x26 => ?_)); refine L3 ?_; refine Lg ?_; refine K5 ?_; refine q0 rfl (Dy hc (hcl i _ _ _ hpk hβ _ _ _) (fun x33 => ?_)); refine Iy ?_; refine A4 (fun h34 => ?_) (fun h34 => ?_)
   ·have hβf : β i = false := by simpa using h34
    refine Ce ?_; have hff := A1q hβf hβ (n := (parts t).length) A2; refine Al f_ rfl A8 () (by simp [hff]; omega) (fun w hs => by rw [hff, if_neg A2]; simp only [hβf, Bool.false_eq_true, if_false] at hs; exact (hs.l8).Aj)
   ·refine Gg ?_; have hβt : β i = true := by simpa using h34
    refine A1 (fun w hs => ?_) (next0 (i + 1) _ ⟨hlt, fun j hj => (by rcases Nat.lt_succ_iff_lt_or_eq.mp hj with h | h; exact hβ j h; subst h; exact hβt)⟩ A2 Ez); simp only [hβt, if_true] at hs; exact ((hs.l9).perm List.perm_append_comm).drop
  ·have hge : i = t.kids.length := by have := of_decide_eq_false h18; omega
   refine P3 ?_; refine Gt ?_; refine Ge ?_; refine K6 ?_; refine Bk ([(1, .func (.func c) #[] cap.toArray), (2, pz b2), (9, iv (more t.kind))]) (fun hK => ?_) (fun base => ?_)
   ·refine A4 (fun h38 => ?_) (fun h38 => ?_)
    ·refine Nz ?_; refine Bt ?_; exact hK _ ⟨rfl, rfl, by first | (rw [more, if_pos (of_decide_eq_true h38)]; rfl) | (rw [more, if_neg (of_decide_eq_false h38)]; rfl), trivial⟩
    ·refine Jd ?_; exact hK _ ⟨rfl, rfl, by first | (rw [more, if_pos (of_decide_eq_true h38)]; rfl) | (rw [more, if_neg (of_decide_eq_false h38)]; rfl), trivial⟩
   ·refine Gt ?_; refine Mr ?_; refine F3 (X := Nat) (fun i2 => i2 ≤ t.sys.length ∧ ∀ j, j < t.kids.length + B9 i2 t.sys → β j = true) (fun i2 => [(1, .func (.func c) #[] cap.toArray), (9, iv (more t.kind)), (40, sl vs t.sys.length), (41, iv (t.sys.length : Int)), (42, iv (i2 : Int))]) (fun i2 => BLx t.sys vs VF VK2 :: FΓ) (fun i2 => SM (t.kids.length + B9 i2 t.sys)) (fun i2 => t.sys.length - i2) (0) (⟨Nat.zero_le _, fun j hj => hβ j (by simp [B9] at hj; omega)⟩) (by exact Ez) ?_ ?_
    ·exact fun w hs => (by simpa [B9, show i = t.kids.length by omega] using (hs.drop.less (Γ' := BLx t.sys vs VF VK2 :: FΓ) sx_))
    ·intro i2 base1 ⟨hi2, hβ2⟩ next1; refine G3 ?_; refine A4 (fun h43 => ?_) (fun h43 => ?_)
     ·have hlt2 : i2 < t.sys.length := by have := of_decide_eq_true h43; omega
      obtain ⟨bk2, o2, hav2⟩ := hA2 A2; refine I0 ?_; refine Q8 ?_; refine A2r ?_; refine q0 rfl (Ax fun b11 => ?_); refine Dd ?_; refine Mr ?_; refine F0 i2 A2 ?_; refine Ao (ts := (t.sys.getD i2 B5).kids) (fun VR3 VK3 VS3 hl3 hA3 => ?_); refine F3 (X := Nat) (fun j => j ≤ (t.sys.getD i2 B5).kids.length ∧ ∀ m, m < t.kids.length + B9 i2 t.sys + j → β m = true) (fun j => [(1, .func (.func c) #[] cap.toArray), (9, iv (more t.kind)), (40, sl vs t.sys.length), (41, iv (t.sys.length : Int)), (42, iv ((i2 : Nat) : Int)), (47, sl (VK2 i2) (t.sys.getD i2 B5).kids.length), (48, iv ((t.sys.getD i2 B5).kids.length : Int)), (49, iv (j : Int))]) (fun j => TLx (t.sys.getD i2 B5).kids (VK2 i2) VR3 VK3 VS3 :: BLx t.sys vs VF VK2 :: FΓ) (fun j => SM (t.kids.length + B9 i2 t.sys + j)) (fun j => (t.sys.getD i2 B5).kids.length - j) (0) (⟨Nat.zero_le _, hβ2⟩) (by exact Ez) ?_ ?_
      ·exact fun w hs => (hs.l9).drop
      ·intro j base2 ⟨hj, hβ3⟩ next2; refine G3 ?_; refine A4 (fun h50 => ?_) (fun h50 => ?_)
       ·have hlt3 : j < (t.sys.getD i2 B5).kids.length := by have := of_decide_eq_true h50; omega
        obtain ⟨bk3, o3, hav3⟩ := hA3 A2; have hps := Lk t i2 j hlt2 hlt3; refine Bj j hlt3 ?_; refine I0 ?_; refine Q8 ?_; refine K4 ?_; refine q0 rfl (Ax fun b13 => ?_); refine Dd ?_; refine Lg ?_; refine Dp ?_; refine q0 rfl (Dy hc (hcl _ _ _ _ hps hβ3 _ _ _) (fun x56 => ?_)); refine Iy ?_; refine A4 (fun h57 => ?_) (fun h57 => ?_)
        ·have hβf : β (t.kids.length + B9 i2 t.sys + j) = false := by simpa using h57
         refine Ce ?_; have hbd := Zy hlt2 hlt3; have hff := A1q hβf hβ3 (n := (parts t).length) A2; refine Al f_ rfl A8 () (by simp [hff]; omega) (fun w hs => by rw [hff, if_neg A2]; simp only [hβf, Bool.false_eq_true, if_false] at hs; exact (hs.l8).Aj)
        ·refine Gg ?_; have hβt : β (t.kids.length + B9 i2 t.sys + j) = true := by simpa using h57
         refine A1 (fun w hs => ?_) (next2 (j + 1) _ ⟨hlt3, fun j2 hj2 => (by rcases Nat.lt_succ_iff_lt_or_eq.mp hj2 with h | h; exact hβ3 j2 h; subst h; exact hβt)⟩ A2 Ez); simp only [hβt, if_true] at hs; exact (hs.l9).Aj
       ·have hge3 : j = (t.sys.getD i2 B5).kids.length := by have := of_decide_eq_false h50; omega
        refine Ee ?_; refine Q6 ?_; refine A1 (fun w hs => ?_) (next1 (i2 + 1) _ ⟨hlt2, by rw [K8 i2 t.sys hlt2]; rw [hge3] at hβ3; simpa [Nat.add_assoc] using hβ3⟩ A2 Ez); rw [hge3] at hs; simp only [K8 i2 t.sys hlt2, ← Nat.add_assoc]; exact hs.l9
     ·refine P3 ?_; have hie : i2 = t.sys.length := by have := of_decide_eq_false h43; omega
      have hff := W8 (β := β) (n := (parts t).length) (by rw [hpl, ← hie]; exact hβ2); refine Al f_ rfl A8 () (by simp [hff]) (fun w hs => by rw [hff, if_pos rfl, hpl, ← hie]; exact hs.l8)
theorem B3k (k : Int) : Spec prog 189 #[iv k] [] [] (fun _ : Unit => iv (D4 k)) (fun _ => []) (fun _ => []) := by
 refine Db ntmps189 fun B hB => ?_
 refine T1 ?_; refine Hm ?_; refine J0 ?_; refine Qg ?_; refine A4 (fun h4 => ?_) (fun h4 => ?_)
 ·refine G9 ?_; refine Al f_ rfl A8 () (by simp_all [D4]) (fun w hs => hs.none)
 ·refine El ?_; refine A4 (fun h4 => ?_) (fun h4 => ?_)
  ·refine G9 ?_; refine Al f_ rfl A8 () (by simp_all [D4]) (fun w hs => hs.none)
  ·refine El ?_; refine A4 (fun h4 => ?_) (fun h4 => ?_)
   ·refine G9 ?_; refine Al f_ rfl A8 () (by simp_all [D4]) (fun w hs => hs.none)
   ·refine El ?_; refine A4 (fun h4 => ?_) (fun h4 => ?_)
    ·refine G9 ?_; refine Al f_ rfl A8 () (by simp_all [D4]) (fun w hs => hs.none)
    ·refine El ?_; refine A4 (fun h4 => ?_) (fun h4 => ?_)
     ·refine G9 ?_; refine Al f_ rfl A8 () (by simp_all [D4]) (fun w hs => hs.none)
     ·refine El ?_; refine A4 (fun h4 => ?_) (fun h4 => ?_)
      ·refine G9 ?_; refine Al f_ rfl A8 () (by simp_all [D4]) (fun w hs => hs.none)
      ·refine El ?_; refine A4 (fun h4 => ?_) (fun h4 => ?_)
       ·refine G9 ?_; refine Al f_ rfl A8 () (by simp_all [D4]) (fun w hs => hs.none)
       ·refine P4 ?_; refine A4 (fun h4 => ?_) (fun h4 => ?_)
        ·refine Ce ?_; refine Al f_ rfl A8 () (by simp_all [D4]) (fun w hs => hs.none)
        ·refine Qg ?_; refine A4 (fun h13 => ?_) (fun h13 => ?_)
         ·refine G9 ?_; refine Al f_ rfl A8 () (by simp_all [D4]) (fun w hs => hs.none)
         ·refine El ?_; refine A4 (fun h13 => ?_) (fun h13 => ?_)
          ·refine G9 ?_; refine Al f_ rfl A8 () (by simp_all [D4]) (fun w hs => hs.none)
          ·refine El ?_; refine A4 (fun h13 => ?_) (fun h13 => ?_)
           ·refine G9 ?_; refine Al f_ rfl A8 () (by simp_all [D4]) (fun w hs => hs.none)
           ·refine El ?_; refine A4 (fun h13 => ?_) (fun h13 => ?_)
            ·refine G9 ?_; refine Al f_ rfl A8 () (by simp_all [D4]) (fun w hs => hs.none)
            ·refine El ?_; refine A4 (fun h13 => ?_) (fun h13 => ?_)
             ·refine G9 ?_; refine Al f_ rfl A8 () (by simp_all [D4]) (fun w hs => hs.none)
             ·refine El ?_; refine A4 (fun h13 => ?_) (fun h13 => ?_)
              ·refine G9 ?_; refine Al f_ rfl A8 () (by simp_all [D4]) (fun w hs => hs.none)
              ·refine El ?_; refine A4 (fun h13 => ?_) (fun h13 => ?_)
               ·refine G9 ?_; refine Al f_ rfl A8 () (by simp_all [D4]) (fun w hs => hs.none)
               ·refine El ?_; refine A4 (fun h13 => ?_) (fun h13 => ?_)
                ·refine G9 ?_; refine Al f_ rfl A8 () (by simp_all [D4]) (fun w hs => hs.none)
                ·refine P4 ?_; refine A4 (fun h13 => ?_) (fun h13 => ?_)
                 ·refine Ce ?_; refine Al f_ rfl A8 () (by simp_all [D4]) (fun w hs => hs.none)
                 ·refine Qg ?_; refine A4 (fun h23 => ?_) (fun h23 => ?_)
                  ·refine G9 ?_; refine Al f_ rfl A8 () (by simp_all [D4]) (fun w hs => hs.none)
                  ·refine El ?_; refine A4 (fun h23 => ?_) (fun h23 => ?_)
                   ·refine G9 ?_; refine Al f_ rfl A8 () (by simp_all [D4]) (fun w hs => hs.none)
                   ·refine El ?_; refine A4 (fun h23 => ?_) (fun h23 => ?_)
                    ·refine G9 ?_; refine Al f_ rfl A8 () (by simp_all [D4]) (fun w hs => hs.none)
                    ·refine El ?_; refine A4 (fun h23 => ?_) (fun h23 => ?_)
                     ·refine G9 ?_; refine Al f_ rfl A8 () (by simp_all [D4]) (fun w hs => hs.none)
                     ·refine El ?_; refine A4 (fun h23 => ?_) (fun h23 => ?_)
                      ·refine G9 ?_; refine Al f_ rfl A8 () (by simp_all [D4]) (fun w hs => hs.none)
                      ·refine El ?_; refine A4 (fun h23 => ?_) (fun h23 => ?_)
                       ·refine G9 ?_; refine Al f_ rfl A8 () (by simp_all [D4]) (fun w hs => hs.none)
                       ·refine P4 ?_; refine A4 (fun h23 => ?_) (fun h23 => ?_)
                        ·refine Ce ?_; refine Al f_ rfl A8 () (by simp_all [D4]) (fun w hs => hs.none)
                        ·refine Qg ?_; refine A4 (fun h31 => ?_) (fun h31 => ?_)
                         ·refine G9 ?_; refine Al f_ rfl A8 () (by simp_all [D4]) (fun w hs => hs.none)
                         ·refine P4 ?_; refine A4 (fun h31 => ?_) (fun h31 => ?_)
                          ·refine Ce ?_; refine Al f_ rfl A8 () (by simp_all [D4]) (fun w hs => hs.none)
                          ·refine El ?_; refine A4 (fun h34 => ?_) (fun h34 => ?_)
                           ·refine Ce ?_; refine Al f_ rfl A8 () (by simp_all [D4]) (fun w hs => hs.none)
                           ·refine El ?_; refine A4 (fun h36 => ?_) (fun h36 => ?_)
                            ·refine Ce ?_; refine Al f_ rfl A8 () (by simp_all [D4]) (fun w hs => hs.none)
                            ·refine H8 ?_; refine Ce ?_; refine Al f_ rfl A8 () (by simp_all [D4]) (fun w hs => hs.none)
theorem Kd (k : Int) : Spec prog 190 #[iv k] [] [] (fun _ : Unit => iv (Ds k)) (fun _ => []) (fun _ => []) := by
 refine Db ntmps190 fun B hB => ?_
 refine T1 ?_; refine Hm ?_; refine J0 ?_; refine Qg ?_; refine A4 (fun h4 => ?_) (fun h4 => ?_)
 ·refine G9 ?_; refine Al f_ rfl A8 () (by simp_all [Ds]) (fun w hs => hs.none)
 ·refine El ?_; refine A4 (fun h4 => ?_) (fun h4 => ?_)
  ·refine G9 ?_; refine Al f_ rfl A8 () (by simp_all [Ds]) (fun w hs => hs.none)
  ·refine P4 ?_; refine A4 (fun h4 => ?_) (fun h4 => ?_)
   ·refine Ce ?_; refine Al f_ rfl A8 () (by simp_all [Ds]) (fun w hs => hs.none)
   ·refine El ?_; refine A4 (fun h8 => ?_) (fun h8 => ?_)
    ·refine Ce ?_; refine Al f_ rfl A8 () (by simp_all [Ds]) (fun w hs => hs.none)
    ·refine H8 ?_; refine Ce ?_; refine Al f_ rfl A8 () (by simp_all [Ds]) (fun w hs => hs.none)
theorem A5u (t : T) (vr vk vs : SH) (c : FuncId) (cap : List Value) (FΓ : List Fact) (SM : Nat → List Az)
  (hc : ∀ (args : Array Value) (w : World), (callFunc c args).run prog w = .ok (.enter c args) w)
  (hcl : ∀ m k v d, (parts t)[m]? = some (k, v, d) → ∀ vr vk vs, Spec prog c (.agg (tc k vr vk vs).toArray :: iv v :: iv d :: cap).toArray (RT k vr vk vs :: FΓ) (SM m) (fun _ : Unit => .bool true) (fun _ => []) (fun _ => SM (m + 1))) :
  Spec prog 106 #[.agg (tc t vr vk vs).toArray, .func (.func c) #[] cap.toArray] (RT t vr vk vs :: FΓ) (SM 0) (fun _ : Unit => .bool true) (fun _ => []) (fun _ => SM (parts t).length) := by
 have h := Ss t vr vk vs c cap FΓ SM SM (fun _ => true) hc (fun m k v d hm _ vr vk vs => by simpa using hcl m k v d hm vr vk vs); have hf : ∀ n, ff (fun _ => true) n = n := fun n => W8 (fun _ _ => rfl)
 simpa [hf] using h
theorem Int.ofNat_max' (a b : Nat) : ((max a b : Nat) : Int) = if (b : Int) > (a : Int) then (b : Int) else (a : Int) := by
 split <;> omega
theorem A7d (k : T) (vr vk vs : SH) (b a : Nat) (v d : Int) (ha : a + size k ≤ 1152921504606846976) (ih : ∀ vr vk vs, Spec prog 80 #[.agg (tc k vr vk vs).toArray] [RT k vr vk vs] [] (fun _ : Unit => iv (size k : Int)) (fun _ => []) (fun _ => [])) : Spec prog 151 #[.agg (tc k vr vk vs).toArray, iv v, iv d, pz b] [RT k vr vk vs] [A7 b [iv (a : Int)] 3] (fun _ : Unit => .bool true) (fun _ => []) (fun _ => [A7 b [iv ((a + size k : Nat) : Int)] 3]) := by
 refine Db ntmps151 fun B hB => ?_
 refine Aq ?_; refine q0 rfl (Ay fun b4 => ?_); refine Hw ?_; refine B0 (pn := 1000000) (tn := false) (A := [0, 0, 2, 7, 15]) (l := [0, 1, 2, 3]) (fin := [4]) Tab.mixed ⟨_, func151⟩ (by rfl) ?_; refine C3b ?_; refine Pk ?_; refine n0 rfl (B1 call80 (ih vr vk vs) (fun x10 => ?_)); refine Lx ?_; refine Jb ?_; refine A2t ?_; refine Ce ?_; refine Al f_ rfl A8 () rfl (fun w hs => (hs.l8).Aj (A := [_]))
theorem B2h (t : T) (vr vk vs : SH) (hsz : size t ≤ 1152921504606846976) (ih : ∀ p, p ∈ parts t → size p.1 ≤ 1152921504606846976 → ∀ vr vk vs, Spec prog 80 #[.agg (tc p.1 vr vk vs).toArray] [RT p.1 vr vk vs] [] (fun _ : Unit => iv (size p.1 : Int)) (fun _ => []) (fun _ => [])) : Spec prog 80 #[.agg (tc t vr vk vs).toArray] [RT t vr vk vs] [] (fun _ : Unit => iv (size t : Int)) (fun _ => []) (fun _ => []) := by
 refine Db ntmps80 fun B hB => ?_
 have hds := Hc t; have hdu := Gy t (parts t).length; refine Aq ?_; refine q0 rfl (Ay fun b1 => ?_); refine Bt ?_; refine Aq ?_; refine q0 rfl (Ax fun b3 => ?_); refine Dd ?_; refine Fb ?_; refine N0 ?_; have hE := A5u t vr vk vs 151 [pz b3] [] (fun m => [A7 b3 [iv (Bi t m : Int)] 3]) call151 (fun m k v d hm vr vk vs => (by have hx := Sc hm; have hy := Hc k; have hz := Gy t m; have := A7d k vr vk vs b3 (Bi t m) v d (by simp only at hx; omega) (ih _ (Hp hm) A2); simpa only [It hm] using this)); simp only [Is, I4] at hE; refine q0 rfl (A0 call106 (hE) (fun x6 => ?_)); refine Hm ?_; refine N9 ?_; refine Bt ?_; refine Al f_ rfl A8 () rfl (fun w hs => hs.none)
theorem Y6 : ∀ (t : T), size t ≤ 1152921504606846976 → ∀ vr vk vs, Spec prog 80 #[.agg (tc t vr vk vs).toArray] [RT t vr vk vs] [] (fun _ : Unit => iv (size t : Int)) (fun _ => []) (fun _ => []) :=
 T.ind fun t ih hsz vr vk vs => B2h t vr vk vs hsz ih
theorem A5w (k : T) (vr vk vs : SH) (b a : Nat) (v d : Int) (ih : ∀ vr vk vs, Spec prog 84 #[.agg (tc k vr vk vs).toArray] [RT k vr vk vs] [] (fun _ : Unit => iv (depth k : Int)) (fun _ => []) (fun _ => [])) : Spec prog 154 #[.agg (tc k vr vk vs).toArray, iv v, iv d, pz b] [RT k vr vk vs] [A7 b [iv (a : Int)] 3] (fun _ : Unit => .bool true) (fun _ => []) (fun _ => [A7 b [iv ((max a (depth k) : Nat) : Int)] 3]) := by
 refine Db ntmps154 fun B hB => ?_
 refine Aq ?_; refine q0 rfl (Ay fun b4 => ?_); refine Hw ?_; refine B0 (pn := 1000000) (tn := false) (A := [0, 0, 2, 7, 15]) (l := [0, 1, 2, 3]) (fin := [4]) Tab.mixed ⟨_, func154⟩ (by rfl) ?_; refine C3b ?_; refine Pk ?_; refine n0 rfl (B1 call84 (ih vr vk vs) (fun x10 => ?_)); refine n0 rfl (C7s ?_); refine Jb ?_; refine A2t ?_; refine Ce ?_; refine Al f_ rfl A8 () rfl (fun w hs => by rw [Int.ofNat_max']; exact (hs.l8).Aj (A := [_]))
theorem A8s (t : T) (vr vk vs : SH) (hsz : size t ≤ 1152921504606846976) (ih : ∀ p, p ∈ parts t → size p.1 ≤ 1152921504606846976 → ∀ vr vk vs, Spec prog 84 #[.agg (tc p.1 vr vk vs).toArray] [RT p.1 vr vk vs] [] (fun _ : Unit => iv (depth p.1 : Int)) (fun _ => []) (fun _ => [])) : Spec prog 84 #[.agg (tc t vr vk vs).toArray] [RT t vr vk vs] [] (fun _ : Unit => iv (depth t : Int)) (fun _ => []) (fun _ => []) := by
 refine Db ntmps84 fun B hB => ?_
 have hds := Hc t; have hdu := Gy t (parts t).length; refine Aq ?_; refine q0 rfl (Ay fun b1 => ?_); refine Bt ?_; refine Aq ?_; refine q0 rfl (Ax fun b3 => ?_); refine Dd ?_; refine Fb ?_; refine N0 ?_; have hE := A5u t vr vk vs 154 [pz b3] [] (fun m => [A7 b3 [iv (Fo t m : Int)] 3]) call154 (fun m k v d hm vr vk vs => (by have hx := Sc hm; have hy := Hc k; have hz := Gy t m; have := A5w k vr vk vs b3 (Fo t m) v d (ih _ (Hp hm) A2); simpa only [Kn hm] using this)); simp only [Wg] at hE; refine q0 rfl (A0 call106 (hE) (fun x6 => ?_)); refine Hm ?_; refine N9 ?_; refine Mq ?_; refine Al f_ rfl A8 () (by rw [← Pg t]; rfl) (fun w hs => hs.none)
theorem A8u : ∀ (t : T), size t ≤ 1152921504606846976 → ∀ vr vk vs, Spec prog 84 #[.agg (tc t vr vk vs).toArray] [RT t vr vk vs] [] (fun _ : Unit => iv (depth t : Int)) (fun _ => []) (fun _ => []) :=
 T.ind fun t ih hsz vr vk vs => A8s t vr vk vs hsz ih
theorem Z5 (t : T) (vr vk vs : SH) (c : FuncId) (cap : List Value) (FΓ : List Fact) (M : List Az) (g : Part → Bool)
  (hc : ∀ (args : Array Value) (w : World), (callFunc c args).run prog w = .ok (.enter c args) w)
  (hcl : ∀ k v d, (k, v, d) ∈ parts t → ∀ vr vk vs, Spec prog c (.agg (tc k vr vk vs).toArray :: iv v :: iv d :: cap).toArray (RT k vr vk vs :: FΓ) M (fun _ : Unit => .bool (g (k, v, d))) (fun _ => []) (fun _ => M)) :
  Spec prog 106 #[.agg (tc t vr vk vs).toArray, .func (.func c) #[] cap.toArray] (RT t vr vk vs :: FΓ) M (fun _ : Unit => .bool ((parts t).all g)) (fun _ => []) (fun _ => M) := by
 have h := Ss t vr vk vs c cap FΓ (fun _ => M) (fun _ => M) (A2e t g) hc (fun m k v d hm _ vr vk vs => by simpa [O3 hm] using hcl k v d (Hp hm) vr vk vs); rw [B8h] at h; simpa using h
abbrev Sz (t : T) : Prop := ∀ (left : Int) vr vk vs, An left → Spec prog 103 #[.agg (tc t vr vk vs).toArray, iv left] [RT t vr vk vs] [] (fun _ : Unit => .bool (decide ((depth t : Int) ≤ left))) (fun _ => []) (fun _ => [])
theorem X7 (k : T) (vr vk vs : SH) (b : Nat) (left v d : Int) (h0 : 0 < left) (hl : An left) (ih : Sz k) : Spec prog 186 #[.agg (tc k vr vk vs).toArray, iv v, iv d, pz b] [RT k vr vk vs] [A7 b [iv left] 3] (fun _ : Unit => .bool (decide ((depth k : Int) ≤ left - 1))) (fun _ => []) (fun _ => [A7 b [iv left] 3]) := by
 refine Db ntmps186 fun B hB => ?_
 refine Aq ?_; refine q0 rfl (Ay fun b4 => ?_); refine Bt ?_; refine Fb ?_; refine zq9 ?_; refine B1x ?_; refine q0 rfl (A0 call103 (ih (left - 1) vr vk vs (by unfold An at *; omega)) (fun x11 => ?_)); refine Bt ?_; refine Al f_ rfl A8 () rfl (fun w hs => (hs.l8).drop)
theorem A0f (t : T) (ih : ∀ p, p ∈ parts t → Sz p.1) (left : Int) (vr vk vs : SH) (hl : An left) : Spec prog 103 #[.agg (tc t vr vk vs).toArray, iv left] [RT t vr vk vs] [] (fun _ : Unit => .bool (decide ((depth t : Int) ≤ left))) (fun _ => []) (fun _ => []) := by
 refine Db ntmps103 fun B hB => ?_
 refine Aq ?_; refine q0 rfl (Ay fun b2 => ?_); refine q0 rfl (Ay fun b3 => ?_); refine Bt ?_; refine N9 ?_; refine A2q ?_; refine Dp ?_; refine qI rfl rfl rfl Kr (fun hg7 => Nn ?_) (fun hg7 => ?_)
 ·refine qT rfl rfl rfl (A7z ?_); have h0 : 0 < left := of_decide_eq_true hg7; have hE := Z5 t vr vk vs 186 [pz b3] [] [A7 b3 [iv left] 3] (fun p => decide ((depth p.1 : Int) ≤ left - 1)) call186 (fun k v d hm vr vk vs => X7 k vr vk vs b3 left v d h0 hl (ih _ hm)); rw [← B4a t left h0] at hE; refine qT rfl rfl rfl (A0 call106 (hE) (fun x10 => ?_)); refine Gf ?_; refine Al f_ rfl A8 () rfl (fun w hs => hs.none)
 ·refine Fw ?_; refine G8 ?_; have h0 : ¬ 0 < left := of_decide_eq_false hg7; have hp := Za t; refine Al f_ rfl A8 () (by rw [decide_eq_false A2]) (fun w hs => hs.none)
theorem A0g : ∀ t : T, Sz t := T.ind fun t ih left vr vk vs hl => A0f t ih left vr vk vs hl
def leftOf (t : T) (m : Int) : Int := if (size t : Int) ≤ m then m - size t else -1
abbrev X0 (b bc : Nat) : List Value := [pz b, pz bc]
abbrev H3 (b bc : Nat) (m : Int) : List Az := [A7 b [iv m] 3, A7 bc [.func (.func 187) #[] (X0 b bc).toArray] 30]
abbrev U9 (t : T) : Prop := ∀ (m : Int) b bc vr vk vs, 0 ≤ m → An m → Spec prog 187 #[.agg (tc t vr vk vs).toArray, pz b, pz bc] [RT t vr vk vs] (H3 b bc m) (fun _ : Unit => .bool (decide ((size t : Int) ≤ m))) (fun _ => []) (fun _ => H3 b bc (leftOf t m))
theorem A0b (k : T) (vr vk vs : SH) (b bc : Nat) (m v d : Int) (h0 : 0 ≤ m) (hl : An m) (ih : U9 k) : Spec prog 188 #[.agg (tc k vr vk vs).toArray, iv v, iv d, pz bc] [RT k vr vk vs] (H3 b bc m) (fun _ : Unit => .bool (decide ((size k : Int) ≤ m))) (fun _ => []) (fun _ => H3 b bc (leftOf k m)) := by
 refine Db ntmps188 fun B hB => ?_
 refine Aq ?_; refine q0 rfl (Ay fun b4 => ?_); refine Bt ?_; refine N9 ?_; refine Hg ?_; refine q0 rfl (Dy call187 (ih m b bc vr vk vs h0 hl) (cap := X0 b bc) (fun x10 => ?_)); refine Bt ?_; refine Al f_ rfl A8 () rfl (fun w hs => (hs.l8).Aj (A := H3 b bc (leftOf k m)))
theorem A8x (t : T) (ih : ∀ p, p ∈ parts t → U9 p.1) (m : Int) (b bc : Nat) (vr vk vs : SH) (h0 : 0 < m) (hl : An m) :
  Spec prog 106 #[.agg (tc t vr vk vs).toArray, .func (.func 188) #[] #[pz bc]] [RT t vr vk vs] (H3 b bc (m - 1)) (fun _ : Unit => .bool (decide ((size t : Int) ≤ m))) (fun _ => []) (fun _ => H3 b bc (leftOf t m)) := by
 have h := Ss t vr vk vs 188 [pz bc] [] (fun j => H3 b bc (if (Bi t j : Int) ≤ m then m - Bi t j else -1)) (fun _ => H3 b bc (-1)) (fun j => decide ((Bi t (j + 1) : Int) ≤ m)) call188 ?_
 ·have hall : (ff (fun j => decide ((Bi t (j + 1) : Int) ≤ m)) (parts t).length == (parts t).length) = decide ((size t : Int) ≤ m) := by
   rw [Bool.eq_iff_iff, beq_iff_eq, Sr, decide_eq_true_iff]; constructor
   ·intro h; cases hn : (parts t).length with
    | zero => have := I4 t; rw [hn, Is] at this; omega
    | succ n =>
     have := h n A2; rw [← hn, I4] at this; exact of_decide_eq_true this
   ·intro h j hj; have := Ng t (j + 1); exact decide_eq_true A2
  simp only [hall, Is, I4, beq_iff_eq] at h; rw [if_pos A2] at h; by_cases hs : (size t : Int) ≤ m
  ·have e : ff (fun j => decide ((Bi t (j + 1) : Int) ≤ m)) (parts t).length = (parts t).length := by rw [← beq_iff_eq, hall]; exact decide_eq_true hs
   simp only [e, if_true, if_pos hs] at h; unfold leftOf; rw [if_pos hs]; exact h
  ·have e : ¬ ff (fun j => decide ((Bi t (j + 1) : Int) ≤ m)) (parts t).length = (parts t).length := by rw [← beq_iff_eq, hall]; simpa using hs
   simp only [if_neg e] at h; unfold leftOf; rw [if_neg hs]; exact h
 ·intro j k v d hm hβ vr vk vs; have hs := It hm; simp only at hs; have hp := size_pos k
  have hj : (Bi t j : Int) ≤ m := by
   cases j with
   | zero => rw [Is]; omega
   | succ j => exact of_decide_eq_true (hβ j A2)
  have := A0b k vr vk vs b bc (m - Bi t j) v d A2 (by unfold An at *; omega) (ih _ (Hp hm)); rw [if_pos hj]; have e1 : decide ((size k : Int) ≤ m - Bi t j) = decide ((Bi t (j + 1) : Int) ≤ m) := by rw [hs]; congr 1; apply propext; omega
  rw [e1] at this
  have e2 : H3 b bc (leftOf k (m - Bi t j)) = if decide ((Bi t (j + 1) : Int) ≤ m) = true then H3 b bc (if (Bi t (j + 1) : Int) ≤ m then m - Bi t (j + 1) else -1) else H3 b bc (-1) := by
   unfold leftOf; by_cases hk : (Bi t (j + 1) : Int) ≤ m
   ·rw [if_pos A2, if_pos (decide_eq_true hk), if_pos hk, hs]; congr 1; omega
   ·rw [if_neg A2, if_neg (by simpa using hk)]
  rw [e2] at this; exact this
theorem A3i (t : T) (ih : ∀ p, p ∈ parts t → U9 p.1) (m : Int) (b bc : Nat) (vr vk vs : SH) (h0 : 0 ≤ m) (hl : An m) : Spec prog 187 #[.agg (tc t vr vk vs).toArray, pz b, pz bc] [RT t vr vk vs] (H3 b bc m) (fun _ : Unit => .bool (decide ((size t : Int) ≤ m))) (fun _ => []) (fun _ => H3 b bc (leftOf t m)) := by
 refine Db ntmps187 fun B hB => ?_
 refine Aq ?_; refine q0 rfl (Ay fun b3 => ?_); refine Bt ?_; refine N9 ?_; refine B1x ?_; refine A2t ?_; refine N9 ?_; refine A6r ?_; refine Dp ?_; refine qI rfl rfl rfl Kr (fun hg9 => Nn ?_) (fun hg9 => ?_)
 ·refine qT rfl rfl rfl (A7z ?_); have h1 : 0 ≤ m - 1 := of_decide_eq_true hg9; have hE := A8x t ih m b bc vr vk vs A2 hl; refine qT rfl rfl rfl (A0 call106 (hE) (fun x12 => ?_) (hm := (List.Perm.swap _ _ _).cons _)); refine Gf ?_; refine Al f_ rfl A8 () rfl (fun w hs => (hs.l8).Aj (A := H3 b bc (leftOf t m)))
 ·refine Fw ?_; refine G8 ?_; have h1 : ¬ 0 ≤ m - 1 := of_decide_eq_false hg9; have hp := size_pos t; refine Al f_ rfl A8 () (by rw [decide_eq_false A2]) (fun w hs => by rw [leftOf, if_neg A2, show (-1 : Int) = m - 1 by omega]; exact ((hs.l7).perm ((List.Perm.swap _ _ _).cons _)).Aj (A := H3 b bc (m - 1)))
theorem A8w : ∀ t : T, U9 t := T.ind fun t ih m b bc vr vk vs h0 hl => A3i t ih m b bc vr vk vs h0 hl
def B9f : Prop := ∀ (l : List Cl) (a : SH), Spec prog 63 #[sl a l.length] [CL l a] [] (fun _ : Unit => .bool (Bb l)) (fun _ => []) (fun _ => [])
def Zp : Prop := ∀ (l : List Cl) (a : SH), Spec prog 193 #[sl a l.length] [CL l a] [] (fun _ : Unit => .bool (Cj l)) (fun _ => []) (fun _ => [])
def B9g : Prop := ∀ (l : List Cl) (a : SH), Spec prog 64 #[sl a l.length] [CL l a] [] (fun _ : Unit => .int .u32 (Pe l : Int)) (fun _ => []) (fun _ => [])
def B4p : Prop := B9f ∧ Zp ∧ B9g
theorem A7b (t : T) (vr vk vs : SH) (Cr : Int) (h0 : 0 ≤ Cr) (hl : An Cr) : Spec prog 104 #[.agg (tc t vr vk vs).toArray, iv Cr] [RT t vr vk vs] [] (fun _ : Unit => .bool (decide ((size t : Int) ≤ Cr))) (fun _ => []) (fun _ => []) := by
 refine Db ntmps104 fun B hB => ?_
 refine Aq ?_; refine q0 rfl (Ay fun b2 => ?_); refine q0 rfl (Ay fun b3 => ?_); refine Bt ?_; refine Aq ?_; refine q0 rfl (Ax fun b5 => ?_); refine Hm ?_; refine Aq ?_; refine N0 ?_; refine Dd ?_; refine N9 ?_; refine Hg ?_; refine q0 rfl (Dy call187 (A8w t Cr b3 b5 vr vk vs h0 hl) (cap := X0 b3 b5) (fun x9 => ?_)); refine Bt ?_; refine Al f_ rfl A8 () rfl (fun w hs => hs.none)
theorem A7c (t : T) (vr vk vs : SH) : Spec prog 59 #[.agg (tc t vr vk vs).toArray] [RT t vr vk vs] [] (fun _ : Unit => iv (sized t)) (fun _ => []) (fun _ => []) := by
 refine Db ntmps59 fun B hB => ?_
 refine Aq ?_; refine q0 rfl (Ay fun b1 => ?_); refine Hw ?_; refine J0 ?_; refine Fb ?_; refine q0 rfl (A0 call103 (A0g t 200 vr vk vs (by unfold An; omega)) (fun x5 => ?_)); refine B1y ?_; refine Bt ?_; refine A4 (fun h3 => ?_) (fun h3 => ?_)
 ·refine Ce ?_; have h : 200 < depth t := by simp at h3; omega
  refine Al f_ rfl A8 () (by rw [sized, if_pos h]) (fun w hs => hs.none)
 ·refine Fb ?_; refine q0 rfl (A0 call104 (A7b t vr vk vs 20000 A2 (by unfold An; omega)) (fun x9 => ?_)); refine B1y ?_; refine Bt ?_; refine A4 (fun h7 => ?_) (fun h7 => ?_)
  ·refine Ce ?_; have h : ¬ 200 < depth t := by simp at h3; omega
   have h2 : 20000 < size t := by simp at h7; omega
   refine Al f_ rfl A8 () (by rw [sized, if_neg h, if_pos h2]) (fun w hs => hs.none)
  ·refine H8 ?_; refine Ce ?_; have h : ¬ 200 < depth t := by simp at h3; omega
   have h2 : ¬ 20000 < size t := by simp at h7; omega
   refine Al f_ rfl A8 () (by rw [sized, if_neg h, if_neg h2]) (fun w hs => hs.none)
theorem B3a (s : ByteArray) (hs : s.size ≤ Fp) : Spec prog 191 #[.string s] [] [] (fun _ : Unit => .bool (Np s)) (fun _ => []) (fun _ => []) := by
 refine Db ntmps191 fun B hB => ?_
 refine T1 ?_; refine q0 rfl (Vn ?_); refine C2z ?_; refine J0 ?_; refine F3 (X := Nat) (fun i => i ≤ s.size ∧ ∀ j, j < i → Xb s j = true) (fun i => [(0, .string s), (7, iv (s.size : Int)), (8, iv (i : Int))]) (fun i => []) (fun i => []) (fun i => s.size - i) (0) (⟨Nat.zero_le _, fun j hj => by omega⟩) (by exact Ez) ?_ ?_
 ·exact fun w hs => hs.none
 ·intro i base0 ⟨hi, hok⟩ next0; refine G3 ?_; refine A4 (fun h9 => ?_) (fun h9 => ?_)
  ·have hlt : i < s.size := by have := of_decide_eq_true h9; omega
   obtain ⟨c, hc, hca⟩ := C1j hlt; refine Zq ?_; refine Jf ?_; refine Dw ?_; refine Dp ?_; refine q0 rfl (C0p ?_); refine Hw ?_; refine Bk ([(0, .string s), (3, iv (i : Int)), (4, .int .u8 c.toNat), (5, .bool (Gn c.toNat)), (7, iv (s.size : Int)), (8, iv (i : Int))]) (fun hK => ?_) (fun base => ?_)
   ·refine Ed ?_; refine A6r ?_; refine Dp ?_; refine qI rfl rfl rfl Kr (fun hg16 => Ff ?_) (fun hg16 => ?_)
    ·refine B1w ?_; refine Hk ?_; refine qI rfl rfl rfl Kr (fun hg20 => Ff ?_) (fun hg20 => ?_)
     ·refine qT rfl rfl rfl (Yq ?_); refine Ht ?_; refine qI rfl rfl rfl Kr (fun hg23 => Ff ?_) (fun hg23 => ?_)
      ·refine B1w ?_; refine A6q ?_; refine Ig ?_; refine qI rfl rfl rfl Kr (fun hg28 => Ff ?_) (fun hg28 => ?_)
       ·refine A2p ?_; refine G8 ?_; exact hK _ ⟨rfl, rfl, rfl, (by (conv => lhs; whnf); first | (simp_all [Gn]; done) | (simp_all [Gn]; omega)), rfl, rfl, trivial⟩
       ·refine Ud ?_; refine Gf ?_; exact hK _ ⟨rfl, rfl, rfl, (by (conv => lhs; whnf); first | (simp_all [Gn]; done) | (simp_all [Gn]; omega)), rfl, rfl, trivial⟩
      ·refine Ud ?_; refine B1v ?_; refine Ig ?_; refine Ht ?_; refine A2p ?_; refine G8 ?_; exact hK _ ⟨rfl, rfl, rfl, (by (conv => lhs; whnf); first | (simp_all [Gn]; done) | (simp_all [Gn]; omega)), rfl, rfl, trivial⟩
     ·refine Fw ?_; refine N8 ?_; refine Ud ?_; refine Hk ?_; refine Fw ?_; refine Gf ?_; exact hK _ ⟨rfl, rfl, rfl, (by (conv => lhs; whnf); first | (simp_all [Gn]; done) | (simp_all [Gn]; omega)), rfl, rfl, trivial⟩
    ·refine Ud ?_; refine Ig ?_; refine Ht ?_; refine qT rfl rfl rfl (Yq ?_); refine Ht ?_; refine qI rfl rfl rfl Kr (fun hg23 => Ff ?_) (fun hg23 => ?_)
     ·refine B1w ?_; refine A6q ?_; refine Ig ?_; refine qI rfl rfl rfl Kr (fun hg28 => Ff ?_) (fun hg28 => ?_)
      ·refine A2p ?_; refine G8 ?_; exact hK _ ⟨rfl, rfl, rfl, (by (conv => lhs; whnf); first | (simp_all [Gn]; done) | (simp_all [Gn]; omega)), rfl, rfl, trivial⟩
      ·refine Ud ?_; refine Gf ?_; exact hK _ ⟨rfl, rfl, rfl, (by (conv => lhs; whnf); first | (simp_all [Gn]; done) | (simp_all [Gn]; omega)), rfl, rfl, trivial⟩
     ·refine Ud ?_; refine B1v ?_; refine Ig ?_; refine Ht ?_; refine A2p ?_; refine G8 ?_; exact hK _ ⟨rfl, rfl, rfl, (by (conv => lhs; whnf); first | (simp_all [Gn]; done) | (simp_all [Gn]; omega)), rfl, rfl, trivial⟩
   ·refine Gt ?_; refine Bk ([(0, .string s), (7, iv (s.size : Int)), (8, iv (i : Int)), (45, .bool (!(Xb s i)))]) (fun hK => ?_) (fun base => ?_)
    ·refine Ed ?_; refine B1y ?_; refine Dp ?_; refine qI rfl rfl rfl Kr (fun hg34 => Ff ?_) (fun hg34 => ?_)
     ·refine A2p ?_; refine Ht ?_; refine qI rfl rfl rfl Kr (fun hg37 => Ff ?_) (fun hg37 => ?_)
      ·refine qT rfl rfl rfl (Yp ?_); refine B1v ?_; refine Ht ?_; refine qI rfl rfl rfl Kr (fun hg41 => Ff ?_) (fun hg41 => ?_)
       ·refine qT rfl rfl rfl (A4q ?_); refine B1v ?_; refine F8 ?_; exact hK _ ⟨rfl, rfl, rfl, (by (conv => lhs; whnf); rw [hca]; first | (simp_all [digit]; done) | (simp_all [digit]; omega) | (simp_all [digit]; rw [← decide_not]; congr 1; apply propext; omega)), trivial⟩
       ·refine Ud ?_; refine A6q ?_; refine F8 ?_; exact hK _ ⟨rfl, rfl, rfl, (by (conv => lhs; whnf); rw [hca]; first | (simp_all [digit]; done) | (simp_all [digit]; omega) | (simp_all [digit]; rw [← decide_not]; congr 1; apply propext; omega)), trivial⟩
      ·refine Ud ?_; refine A6q ?_; refine Ht ?_; refine Fw ?_; refine A6q ?_; refine F8 ?_; exact hK _ ⟨rfl, rfl, rfl, (by (conv => lhs; whnf); rw [hca]; first | (simp_all [digit]; done) | (simp_all [digit]; omega) | (simp_all [digit]; rw [← decide_not]; congr 1; apply propext; omega)), trivial⟩
     ·refine Fw ?_; refine N8 ?_; refine Fw ?_; refine N8 ?_; refine Ud ?_; refine Hj ?_; exact hK _ ⟨rfl, rfl, rfl, (by (conv => lhs; whnf); rw [hca]; first | (simp_all [digit]; done) | (simp_all [digit]; omega) | (simp_all [digit]; rw [← decide_not]; congr 1; apply propext; omega)), trivial⟩
    ·refine A4 (fun h45 => ?_) (fun h45 => ?_)
     ·refine Ce ?_; refine Al f_ rfl A8 () (by rw [A8a hlt (by simpa using h45)]) (fun w hs => hs.none)
     ·refine Gg ?_; have hb : Xb s i = true := by simpa using h45
      refine A1 (fun w hs => hs) (next0 (i + 1) _ ⟨hlt, fun j hj => (by rcases Nat.lt_succ_iff_lt_or_eq.mp hj with h | h; exact hok j h; subst h; exact hb)⟩ A2 Ez)
  ·have hge : i = s.size := by have := of_decide_eq_false h9; omega
   refine Ee ?_; refine Dw ?_; refine q0 rfl (C2g ?_); refine Bt ?_; refine Al f_ rfl A8 () (by rw [A8b (by rw [← hge]; exact hok), empty_eq]; rfl) (fun w hs => hs.none)
theorem J1 (hF : B9g) (l : List Cl) (a : SH) (dims : Int) (h0 : 0 ≤ dims) (hl : An dims) : Spec prog 192 #[sl a l.length, iv dims] [CL l a] [] (fun _ : Unit => .bool (within l dims)) (fun _ => []) (fun _ => []) := by
 refine Db ntmps192 fun B hB => ?_
 refine H7 ?_; refine A6r ?_; refine Dp ?_; refine qI rfl rfl rfl Kr (fun hg7 => Ff ?_) (fun hg7 => ?_)
 ·refine qT rfl rfl rfl (A0 call64 (hF l a) (fun x9 => ?_)); refine Ht ?_; refine qT rfl rfl rfl (C4j ?_); refine qT rfl rfl rfl (Vk ?_ (m := dims.toNat) (hy := congrArg (Value.int .u64) (B2c h0 hl))); refine A2p ?_; refine G8 ?_; refine Al f_ rfl A8 () (by first | (simp_all [within]; done) | (simp_all [within]; intros; omega)) (fun w hs => hs.none)
 ·refine Fw ?_; refine Fc ?_; refine Gf ?_; refine Al f_ rfl A8 () (by first | (simp_all [within]; done) | (simp_all [within]; intros; omega)) (fun w hs => hs.none)
theorem A4g (t : T) (hf : Nj t = true ∨ B4p) (vr vk vs : SH) (vars dims : Int) (hd : 0 ≤ dims) (hl : An dims) : Spec prog 105 #[.agg (tc t vr vk vs).toArray, iv vars, iv dims] [RT t vr vk vs] [] (fun _ : Unit => .bool (N1 t vars dims)) (fun _ => []) (fun _ => []) := by
 refine Db ntmps105 fun B hB => ?_
 refine go_open (fun hk hn hnm => ?_); refine Ao (ts := t.kids) (fun VR VK VS hl1 hA1 => ?_); refine C3 (bs := t.sys) (fun VF VK2 hl2 hA2 => ?_); refine Aq ?_; refine q0 rfl (Ay fun b3 => ?_); refine Qe ?_; refine Bk ([(1, iv vars), (2, iv dims), (3, pz b3), (47, .bool (Ip t))]) (fun hK => ?_) (fun base => ?_)
 ·refine B0 (pn := 1000000) (tn := false) (A := [0, 1, 3, 0, 8, 24, 63, 127, 255, 511, 1023, 2047, 4095, 8191, 16383, 32767, 65535, 131071, 262143, 524287, 1048575, 2097151, 4194303, 8388607, 16777215, 33554431, 67108863, 134217727, 268435455, 536870911, 1073741823, 2147483647, 4294967295, 8589934591, 17179869183, 34359738367, 68719476735, 137438953471, 274877906943]) (l := [0, 1, 3, 4, 5, 2, 6, 7, 8, 9, 10, 11, 12, 13, 14, 15, 16, 17, 18, 19, 20, 21, 22, 23, 24, 25, 26, 27, 28, 29, 30, 31, 32, 33, 34, 35, 36, 37, 38]) (fin := []) Tab.mixed ⟨_, func105⟩ (by rfl) ?_; refine Ek ?_; refine Ek ?_; refine n0 rfl (Xq ?_); refine n0 rfl (B1 call189 (B3k t.kind) (fun x11 => ?_)); refine n0 rfl (Xp ?_); refine Ea ?_; refine nI rfl rfl rfl Kr (fun hg16 => Oy ?_) (fun hg16 => ?_)
  ·refine Mz ?_; refine nT rfl rfl rfl (Xp ?_); refine X2 ?_; refine nI rfl rfl rfl Kr (fun hg20 => Oy ?_) (fun hg20 => ?_)
   ·refine Mz ?_; refine nT rfl rfl rfl (Xp ?_); refine A6p ?_; refine A2s ?_; refine Ea ?_; refine nI rfl rfl rfl Kr (fun hg26 => Oy ?_) (fun hg26 => ?_)
    ·refine Mz ?_; refine nT rfl rfl rfl (Xp ?_); refine X2 ?_; refine nI rfl rfl rfl Kr (fun hg30 => Oy ?_) (fun hg30 => ?_)
     ·refine Mz ?_; refine nT rfl rfl rfl (C1y ?_); refine A6p ?_; refine A2s ?_; refine Ea ?_; refine nI rfl rfl rfl Kr (fun hg36 => Oy ?_) (fun hg36 => ?_)
      ·refine Mz ?_; refine nT rfl rfl rfl (B1 call190 (Kd t.kind) (fun x39 => ?_)); refine nT rfl rfl rfl (A2z ?_); refine X2 ?_; refine nI rfl rfl rfl Kr (fun hg41 => Oy ?_) (fun hg41 => ?_)
       ·refine Mz ?_; refine nT rfl rfl rfl (Xq ?_); refine nT rfl rfl rfl (A2y ?_); refine A6p ?_; refine P2 ?_; exact hK _ ⟨rfl, rfl, rfl, (by (conv => lhs; whnf); first | (simp_all [Ip]; done) | (simp_all [Ip]; omega)), trivial⟩
       ·refine N7 ?_; refine A6o ?_; refine P2 ?_; exact hK _ ⟨rfl, rfl, rfl, (by (conv => lhs; whnf); first | (simp_all [Ip]; done) | (simp_all [Ip]; omega)), trivial⟩
      ·refine Hl ?_; refine Hl ?_; refine N6 ?_; refine N6 ?_; refine X3 ?_; refine Uc ?_; refine Gz ?_; exact hK _ ⟨rfl, rfl, rfl, (by (conv => lhs; whnf); first | (simp_all [Ip]; done) | (simp_all [Ip]; omega)), trivial⟩
     ·refine Hl ?_; refine A6o ?_; refine A2s ?_; refine Ea ?_; refine B1u ?_; refine Mz ?_; refine nT rfl rfl rfl (B1 call190 (Kd t.kind) (fun x39 => ?_)); refine nT rfl rfl rfl (A2z ?_); refine X2 ?_; refine nI rfl rfl rfl Kr (fun hg41 => Oy ?_) (fun hg41 => ?_)
      ·refine Mz ?_; refine nT rfl rfl rfl (Xq ?_); refine nT rfl rfl rfl (A2y ?_); refine A6p ?_; refine P2 ?_; exact hK _ ⟨rfl, rfl, rfl, (by (conv => lhs; whnf); first | (simp_all [Ip]; done) | (simp_all [Ip]; omega)), trivial⟩
      ·refine N7 ?_; refine A6o ?_; refine P2 ?_; exact hK _ ⟨rfl, rfl, rfl, (by (conv => lhs; whnf); first | (simp_all [Ip]; done) | (simp_all [Ip]; omega)), trivial⟩
    ·refine N7 ?_; refine N6 ?_; refine B4t ?_; refine X3 ?_; refine Uc ?_; refine Ea ?_; refine Hl ?_; refine N7 ?_; refine N6 ?_; refine N6 ?_; refine X3 ?_; refine Uc ?_; refine Gz ?_; exact hK _ ⟨rfl, rfl, rfl, (by (conv => lhs; whnf); first | (simp_all [Ip]; done) | (simp_all [Ip]; omega)), trivial⟩
   ·refine Hl ?_; refine A6o ?_; refine A2s ?_; refine Ea ?_; refine B1u ?_; refine Mz ?_; refine nT rfl rfl rfl (Xp ?_); refine X2 ?_; refine nI rfl rfl rfl Kr (fun hg30 => Oy ?_) (fun hg30 => ?_)
    ·refine Mz ?_; refine nT rfl rfl rfl (C1y ?_); refine A6p ?_; refine A2s ?_; refine Ea ?_; refine nI rfl rfl rfl Kr (fun hg36 => Oy ?_) (fun hg36 => ?_)
     ·refine Mz ?_; refine nT rfl rfl rfl (B1 call190 (Kd t.kind) (fun x39 => ?_)); refine nT rfl rfl rfl (A2z ?_); refine X2 ?_; refine nI rfl rfl rfl Kr (fun hg41 => Oy ?_) (fun hg41 => ?_)
      ·refine Mz ?_; refine nT rfl rfl rfl (Xq ?_); refine nT rfl rfl rfl (A2y ?_); refine A6p ?_; refine P2 ?_; exact hK _ ⟨rfl, rfl, rfl, (by (conv => lhs; whnf); first | (simp_all [Ip]; done) | (simp_all [Ip]; omega)), trivial⟩
      ·refine N7 ?_; refine A6o ?_; refine P2 ?_; exact hK _ ⟨rfl, rfl, rfl, (by (conv => lhs; whnf); first | (simp_all [Ip]; done) | (simp_all [Ip]; omega)), trivial⟩
     ·refine Hl ?_; refine Hl ?_; refine N6 ?_; refine N6 ?_; refine X3 ?_; refine Uc ?_; refine Gz ?_; exact hK _ ⟨rfl, rfl, rfl, (by (conv => lhs; whnf); first | (simp_all [Ip]; done) | (simp_all [Ip]; omega)), trivial⟩
    ·refine Hl ?_; refine A6o ?_; refine A2s ?_; refine Ea ?_; refine B1u ?_; refine Mz ?_; refine nT rfl rfl rfl (B1 call190 (Kd t.kind) (fun x39 => ?_)); refine nT rfl rfl rfl (A2z ?_); refine X2 ?_; refine nI rfl rfl rfl Kr (fun hg41 => Oy ?_) (fun hg41 => ?_)
     ·refine Mz ?_; refine nT rfl rfl rfl (Xq ?_); refine nT rfl rfl rfl (A2y ?_); refine A6p ?_; refine P2 ?_; exact hK _ ⟨rfl, rfl, rfl, (by (conv => lhs; whnf); first | (simp_all [Ip]; done) | (simp_all [Ip]; omega)), trivial⟩
     ·refine N7 ?_; refine A6o ?_; refine P2 ?_; exact hK _ ⟨rfl, rfl, rfl, (by (conv => lhs; whnf); first | (simp_all [Ip]; done) | (simp_all [Ip]; omega)), trivial⟩
  ·refine N7 ?_; refine N6 ?_; refine B4t ?_; refine X3 ?_; refine Uc ?_; refine Ea ?_; refine Hl ?_; refine Hl ?_; refine N6 ?_; refine B4t ?_; refine X3 ?_; refine Uc ?_; refine Ea ?_; refine Hl ?_; refine N7 ?_; refine N6 ?_; refine N6 ?_; refine X3 ?_; refine Uc ?_; refine Gz ?_; exact hK _ ⟨rfl, rfl, rfl, (by (conv => lhs; whnf); first | (simp_all [Ip]; done) | (simp_all [Ip]; omega)), trivial⟩
 ·refine A4 (fun h47 => ?_) (fun h47 => ?_)
  ·refine Ce ?_; refine Al f_ rfl A8 () (by simp [N1, h47]) (fun w hs => hs.none)
  ·refine Hs ?_; refine Ge ?_; refine Hm ?_; refine J0 ?_; refine El ?_; refine A4 (fun h50 => ?_) (fun h50 => ?_)
   ·refine Gt ?_; refine Bk ([(6, .bool (decide ((t.r.length : Int) = 0) && decide (0 ≤ t.n) && (decide (vars < 0) || decide (t.n < vars))))]) (fun hK => ?_) (fun base => ?_)
    ·refine H5 ?_; refine Jc ?_; refine Qd ?_; refine qI rfl rfl rfl Kr (fun hg56 => Mc ?_) (fun hg56 => ?_)
     ·refine Hz ?_; refine qT rfl rfl rfl (Yq ?_); refine Hk ?_; refine qI rfl rfl rfl Kr (fun hg61 => Ff ?_) (fun hg61 => ?_)
      ·refine qT rfl rfl rfl (Yp ?_); refine Ht ?_; refine qI rfl rfl rfl Kr (fun hg64 => Mc ?_) (fun hg64 => ?_)
       ·refine Hz ?_; refine Ht ?_; refine qT rfl rfl rfl (Yp ?_); refine B1v ?_; refine Gf ?_; exact hK _ ⟨(by (conv => lhs; whnf); first | (simp_all [Bool.and_assoc]; done) | (simp_all [Bool.and_assoc]; omega)), trivial⟩
       ·refine Fc ?_; refine A6q ?_; refine Gf ?_; exact hK _ ⟨(by (conv => lhs; whnf); first | (simp_all [Bool.and_assoc]; done) | (simp_all [Bool.and_assoc]; omega)), trivial⟩
      ·refine Fw ?_; refine N8 ?_; refine N8 ?_; refine Ud ?_; refine G8 ?_; exact hK _ ⟨(by (conv => lhs; whnf); first | (simp_all [Bool.and_assoc]; done) | (simp_all [Bool.and_assoc]; omega)), trivial⟩
     ·refine Fw ?_; refine Ig ?_; refine Fc ?_; refine N8 ?_; refine N8 ?_; refine Ud ?_; refine G8 ?_; exact hK _ ⟨(by (conv => lhs; whnf); first | (simp_all [Bool.and_assoc]; done) | (simp_all [Bool.and_assoc]; omega)), trivial⟩
    ·refine Al f_ rfl A8 () (by simp_all [N1, Bool.and_assoc]) (fun w hs => hs.none)
   ·refine El ?_; refine A4 (fun h71 => ?_) (fun h71 => ?_)
    ·refine Gt ?_; refine Bk ([(6, .bool (decide ((t.r.length : Int) = 0) && Np t.name))]) (fun hK => ?_) (fun base => ?_)
     ·refine H5 ?_; refine Jc ?_; refine Qd ?_; refine qI rfl rfl rfl Kr (fun hg77 => Mc ?_) (fun hg77 => ?_)
      ·refine Hz ?_; refine qT rfl rfl rfl (A0 call191 (B3a t.name hnm) (fun x80 => ?_)); refine Gf ?_; exact hK _ ⟨(by (conv => lhs; whnf); first | (simp_all [Bool.and_assoc]; done) | (simp_all [Bool.and_assoc]; omega)), trivial⟩
      ·refine Fw ?_; refine G8 ?_; exact hK _ ⟨(by (conv => lhs; whnf); first | (simp_all [Bool.and_assoc]; done) | (simp_all [Bool.and_assoc]; omega)), trivial⟩
     ·refine Al f_ rfl A8 () (by simp_all [N1, Bool.and_assoc]) (fun w hs => hs.none)
    ·refine Qg ?_; refine A4 (fun h82 => ?_) (fun h82 => ?_)
     ·refine A2n ?_; refine Gt ?_; refine Bk ([(6, .bool (Bb t.r && within t.r dims))]) (fun hK => ?_) (fun base => ?_)
      ·refine H5 ?_; refine q0 rfl (A0 call63 ((Hr hf (by simp_all)).1 t.r vr) (fun x88 => ?_)); refine Dp ?_; refine qI rfl rfl rfl Kr (fun hg89 => Mc ?_) (fun hg89 => ?_)
       ·refine Hz ?_; refine Ht ?_; refine qT rfl rfl rfl (A0 call192 (J1 (Hr hf (by simp_all)).2.2 t.r vr dims hd hl) (fun x93 => ?_)); refine Gf ?_; exact hK _ ⟨(by (conv => lhs; whnf); first | (simp_all [Bool.and_assoc]; done) | (simp_all [Bool.and_assoc]; omega)), trivial⟩
       ·refine Fc ?_; refine G8 ?_; exact hK _ ⟨(by (conv => lhs; whnf); first | (simp_all [Bool.and_assoc]; done) | (simp_all [Bool.and_assoc]; omega)), trivial⟩
      ·refine Al f_ rfl A8 () (by simp_all [N1, Bool.and_assoc]) (fun w hs => hs.none)
     ·refine El ?_; refine A4 (fun h82 => ?_) (fun h82 => ?_)
      ·refine A2n ?_; refine Gt ?_; refine Bk ([(6, .bool (Bb t.r && within t.r dims))]) (fun hK => ?_) (fun base => ?_)
       ·refine H5 ?_; refine q0 rfl (A0 call63 ((Hr hf (by simp_all)).1 t.r vr) (fun x88 => ?_)); refine Dp ?_; refine qI rfl rfl rfl Kr (fun hg89 => Mc ?_) (fun hg89 => ?_)
        ·refine Hz ?_; refine Ht ?_; refine qT rfl rfl rfl (A0 call192 (J1 (Hr hf (by simp_all)).2.2 t.r vr dims hd hl) (fun x93 => ?_)); refine Gf ?_; exact hK _ ⟨(by (conv => lhs; whnf); first | (simp_all [Bool.and_assoc]; done) | (simp_all [Bool.and_assoc]; omega)), trivial⟩
        ·refine Fc ?_; refine G8 ?_; exact hK _ ⟨(by (conv => lhs; whnf); first | (simp_all [Bool.and_assoc]; done) | (simp_all [Bool.and_assoc]; omega)), trivial⟩
       ·refine Al f_ rfl A8 () (by simp_all [N1, Bool.and_assoc]) (fun w hs => hs.none)
      ·refine P4 ?_; refine A4 (fun h82 => ?_) (fun h82 => ?_)
       ·refine Gt ?_; refine Bk ([(6, .bool (Bb t.r && within t.r dims))]) (fun hK => ?_) (fun base => ?_)
        ·refine H5 ?_; refine q0 rfl (A0 call63 ((Hr hf (by simp_all)).1 t.r vr) (fun x88 => ?_)); refine Dp ?_; refine qI rfl rfl rfl Kr (fun hg89 => Mc ?_) (fun hg89 => ?_)
         ·refine Hz ?_; refine Ht ?_; refine qT rfl rfl rfl (A0 call192 (J1 (Hr hf (by simp_all)).2.2 t.r vr dims hd hl) (fun x93 => ?_)); refine Gf ?_; exact hK _ ⟨(by (conv => lhs; whnf); first | (simp_all [Bool.and_assoc]; done) | (simp_all [Bool.and_assoc]; omega)), trivial⟩
         ·refine Fc ?_; refine G8 ?_; exact hK _ ⟨(by (conv => lhs; whnf); first | (simp_all [Bool.and_assoc]; done) | (simp_all [Bool.and_assoc]; omega)), trivial⟩
        ·refine Al f_ rfl A8 () (by simp_all [N1, Bool.and_assoc]) (fun w hs => hs.none)
       ·refine El ?_; refine A4 (fun h95 => ?_) (fun h95 => ?_)
        ·refine Gt ?_; refine Bk ([(6, .bool (Cj t.r && within t.r dims))]) (fun hK => ?_) (fun base => ?_)
         ·refine H5 ?_; refine q0 rfl (A0 call193 ((Hr hf (by simp_all)).2.1 t.r vr) (fun x99 => ?_)); refine Dp ?_; refine qI rfl rfl rfl Kr (fun hg100 => Mc ?_) (fun hg100 => ?_)
          ·refine Hz ?_; refine Ht ?_; refine qT rfl rfl rfl (A0 call192 (J1 (Hr hf (by simp_all)).2.2 t.r vr dims hd hl) (fun x104 => ?_)); refine Gf ?_; exact hK _ ⟨(by (conv => lhs; whnf); first | (simp_all [Bool.and_assoc]; done) | (simp_all [Bool.and_assoc]; omega)), trivial⟩
          ·refine Fc ?_; refine G8 ?_; exact hK _ ⟨(by (conv => lhs; whnf); first | (simp_all [Bool.and_assoc]; done) | (simp_all [Bool.and_assoc]; omega)), trivial⟩
         ·refine Al f_ rfl A8 () (by simp_all [N1, Bool.and_assoc]) (fun w hs => hs.none)
        ·refine H8 ?_; refine Gt ?_; refine Mr ?_; refine F3 (X := Nat) (fun i => i ≤ t.sys.length ∧ ∀ j, j < i → R0 t dims (t.sys.getD j B5) = true) (fun i => [(2, iv dims), (3, pz b3), (107, sl vs t.sys.length), (108, iv (t.sys.length : Int)), (109, iv (i : Int))]) (fun i => BLx t.sys vs VF VK2 :: RT t vr vk vs :: []) (fun i => [A7 b3 (tc t vr vk vs) 26]) (fun i => t.sys.length - i) (0) (⟨Nat.zero_le _, fun j hj => by omega⟩) (by exact Ez) ?_ ?_
         ·exact fun w hs => hs.l9
         ·intro i base0 ⟨hi, hok⟩ next0; refine G3 ?_; refine A4 (fun h110 => ?_) (fun h110 => ?_)
          ·have hlt : i < t.sys.length := by have := of_decide_eq_true h110; omega
           obtain ⟨bk, o, hav⟩ := hA2 A2; refine I0 ?_; refine Q8 ?_; refine A2r ?_; refine q0 rfl (Ax fun b8 => ?_); refine Jg ?_; refine F0 i hlt ?_; refine Bk ([(2, iv dims), (3, pz b3), (107, sl vs t.sys.length), (108, iv (t.sys.length : Int)), (109, iv (i : Int)), (132, .bool (!(R0 t dims (t.sys.getD i B5))))]) (fun hK => ?_) (fun base => ?_)
           ·refine B0 (pn := 1000000) (tn := false) (A := [0, 1, 3, 0, 8, 24, 63, 127, 255, 511, 1023, 2047, 4095, 8191, 16383, 32767, 16383, 131071, 262143, 524287]) (l := [0, 1, 2, 3, 4, 5, 6, 7, 8, 9, 10, 11, 12, 13, 14, 15, 16, 17, 18, 19]) (fin := []) Tab.mixed ⟨_, func105⟩ (by rfl) ?_; refine Ek ?_; refine n0 rfl (Xq ?_); refine Ek ?_; refine n0 rfl (B1 call190 (Kd t.kind) (fun x118 => ?_)); refine n0 rfl (Xp ?_); refine Ea ?_; refine nI rfl rfl rfl Kr (fun hg120 => Oy ?_) (fun hg120 => ?_)
            ·refine Mz ?_; refine nT rfl rfl rfl (B1 call193 ((A5n hf hlt).2.1 _ (VF i)) (fun x123 => ?_)); refine nT rfl rfl rfl (T5 ?_); refine A2s ?_; refine Ea ?_; refine nI rfl rfl rfl Kr (fun hg126 => Oy ?_) (fun hg126 => ?_)
             ·refine Mz ?_; refine X2 ?_; refine nT rfl rfl rfl (B1 call192 (J1 (A5n hf hlt).2.2 _ (VF i) dims hd hl) (fun x130 => ?_)); refine nT rfl rfl rfl (T5 ?_); refine P2 ?_; exact hK _ ⟨rfl, rfl, rfl, rfl, rfl, (by (conv => lhs; whnf); first | (simp_all [R0]; done) | (simp_all [R0]; omega)), trivial⟩
             ·refine Hl ?_; refine Hl ?_; refine Uc ?_; refine Gz ?_; exact hK _ ⟨rfl, rfl, rfl, rfl, rfl, (by (conv => lhs; whnf); first | (simp_all [R0]; done) | (simp_all [R0]; omega)), trivial⟩
            ·refine N7 ?_; refine Uc ?_; refine Ea ?_; refine Hl ?_; refine N7 ?_; refine Uc ?_; refine Gz ?_; exact hK _ ⟨rfl, rfl, rfl, rfl, rfl, (by (conv => lhs; whnf); first | (simp_all [R0]; done) | (simp_all [R0]; omega)), trivial⟩
           ·refine A4 (fun h132 => ?_) (fun h132 => ?_)
            ·refine Ce ?_; have ha := A2g hlt (by simpa using h132); refine Al f_ rfl A8 () (by rw [N1, ha]; clear hok ha h132; simp_all [Bool.and_assoc]) (fun w hs => hs.none)
            ·refine Gg ?_; have hb : R0 t dims (t.sys.getD i B5) = true := by simpa using h132
             refine A1 (fun w hs => ?_) (next0 (i + 1) _ ⟨hlt, fun j hj => (by rcases Nat.lt_succ_iff_lt_or_eq.mp hj with h | h; exact hok j h; subst h; exact hb)⟩ A2 Ez); exact (hs.l9).drop
          ·have hge : i = t.sys.length := by have := of_decide_eq_false h110; omega
           refine Ee ?_; refine Ge ?_; refine Jc ?_; refine Ua ?_; have ha := B9b (t := t) (g := R0 t dims) (by rw [← hge]; exact hok); refine Al f_ rfl A8 () (by rw [N1, ha]; clear hok ha; simp_all [Bool.and_assoc]) (fun w hs => hs.none)
abbrev B9j (t : T) : Prop := (L6 t = true ∨ B4p) → ∀ (vars dims : Int) (bound : Bool) vr vk vs, An vars → 0 ≤ dims → dims + depth t ≤ 1152921504606846976 → Spec prog 60 #[.agg (tc t vr vk vs).toArray, iv vars, iv dims, .bool bound] [RT t vr vk vs] [] (fun _ : Unit => .bool (Rx t vars dims bound)) (fun _ => []) (fun _ => [])
abbrev C7l (b1 b2 b3 : Nat) : List Value := [pz b1, pz b2, pz b3]
abbrev C7k (b1 b2 b3 : Nat) (vars dims : Int) (bound : Bool) : List Az := [A7 b1 [iv vars] 3, A7 b2 [iv dims] 3, A7 b3 [.bool bound] 4]
def Mk (v d : Int) : Prop := 0 ≤ v ∧ v ≤ 1 ∧ 0 ≤ d ∧ d ≤ 1
theorem B8v (k i : Int) : Mk (binds k i).1 (binds k i).2 := by
 unfold binds Mk; repeat (split; (simp))
 simp
theorem B6n {t : T} {k : T} {v d : Int} (h : (k, v, d) ∈ parts t) : Mk v d := by
 have hk : ∀ (kind : Int) (i : Nat) (ks : List T), (k, v, d) ∈ Da kind i ks → Mk v d := by
  intro kind i ks
  induction ks generalizing i with
  | nil => intro h; simp [Da] at h
  | cons a ks ih =>
   intro h; simp only [Da, List.mem_cons] at h; rcases h with h | h
   ·have e : (v, d) = binds kind i := (Prod.mk.inj h).2; have := B8v kind i; rw [← e] at this; exact this
   ·exact ih _ h
 have hs : ∀ (kind : Int) (bs : List Br), (k, v, d) ∈ D8 kind bs → Mk v d := by
  intro kind bs
  induction bs with
  | nil => intro h; simp [D8] at h
  | cons b bs ih =>
   intro h; simp only [D8, List.mem_append, List.mem_map] at h; rcases h with ⟨a, ha, e⟩ | h
   ·have e2 := (Prod.mk.inj e).2; have e3 := (Prod.mk.inj e2); rw [← e3.1, ← e3.2]; unfold Mk more; split <;> simp
   ·exact ih h
 unfold parts at h; rcases List.mem_append.mp h with h | h
 ·exact hk _ _ _ h
 ·exact hs _ _ h
theorem B3z {t : T} {p : Part} (h : p ∈ parts t) : depth p.1 < depth t := by
 obtain ⟨m, hm⟩ := List.mem_iff_getElem?.mp h; exact A8v hm
theorem B4o (k : T) (vr vk vs : SH) (b1 b2 b3 : Nat) (vars dims v d : Int) (bound : Bool) (hv : An vars) (h0 : 0 ≤ dims) (hvd : Mk v d) (hl : dims + 1 + depth k ≤ 1152921504606846976) (hp : L6 k = true ∨ B4p) (ih : B9j k) : Spec prog 107 #[.agg (tc k vr vk vs).toArray, iv v, iv d, pz b1, pz b2, pz b3] [RT k vr vk vs] (C7k b1 b2 b3 vars dims bound) (fun _ : Unit => .bool (Rx k (IntKind.i64.wrap (vars + if vars < 0 then 0 else v)) (dims + d) bound)) (fun _ => []) (fun _ => C7k b1 b2 b3 vars dims bound) := by
 refine Db ntmps107 fun B hB => ?_
 obtain ⟨hv0, hv1, hd0, hd1⟩ := hvd; refine Aq ?_; refine q0 rfl (Ay fun b6 => ?_); refine Hw ?_; refine N9 ?_; refine S1 ?_; refine Hm ?_; refine Bk ([(1, iv (if vars < 0 then 0 else v)), (2, iv d), (3, pz b1), (4, pz b2), (5, pz b3), (6, pz b6)]) (fun hK => ?_) (fun base => ?_)
 ·refine A4 (fun h11 => ?_) (fun h11 => ?_)
  ·refine Nz ?_; refine Bt ?_; exact hK _ ⟨(by first | (rw [if_pos (of_decide_eq_true h11)]; rfl) | (rw [if_neg (of_decide_eq_false h11)]; rfl)), rfl, rfl, rfl, rfl, rfl, trivial⟩
  ·refine Jd ?_; exact hK _ ⟨(by first | (rw [if_pos (of_decide_eq_true h11)]; rfl) | (rw [if_neg (of_decide_eq_false h11)]; rfl)), rfl, rfl, rfl, rfl, rfl, trivial⟩
 ·refine Fb ?_; refine zq9 ?_; refine Dp ?_; refine q0 rfl (C4k ?_); refine zq9 ?_; refine Dp ?_; refine Ox ?_; refine zq9 ?_; refine q0 rfl (A0 call60 (ih hp (IntKind.i64.wrap (vars + if vars < 0 then 0 else v)) (dims + d) bound vr vk vs (B9m _) A2 A2) (fun x20 => ?_)); refine Bt ?_; refine Al f_ rfl A8 () rfl (fun w hs => (hs.l8).drop)
theorem B8z (t : T) (hp : L6 t = true ∨ B4p) (ih : ∀ p, p ∈ parts t → B9j p.1) (vars dims : Int) (bound : Bool) (vr vk vs : SH) (hv : An vars) (h0 : 0 ≤ dims) (hl : dims + depth t ≤ 1152921504606846976) : Spec prog 60 #[.agg (tc t vr vk vs).toArray, iv vars, iv dims, .bool bound] [RT t vr vk vs] [] (fun _ : Unit => .bool (Rx t vars dims bound)) (fun _ => []) (fun _ => []) := by
 refine Db ntmps60 fun B hB => ?_
 refine Aq ?_; refine q0 rfl (Ay fun b4 => ?_); refine q0 rfl (Ay fun b5 => ?_); refine q0 rfl (Ay fun b6 => ?_); refine q0 rfl (Ay fun b7 => ?_); refine Qe ?_; refine Bk ([(4, pz b4), (5, pz b5), (6, pz b6), (7, pz b7), (20, .bool ((bound && decide (24 < dims)) || !(N1 t vars dims)))]) (fun hK => ?_) (fun base => ?_)
 ·refine Nz ?_; refine zq9 ?_; refine Dp ?_; refine qI rfl rfl rfl Kr (fun hg10 => C4i ?_) (fun hg10 => ?_)
  ·refine qT rfl rfl rfl (A4q ?_); refine Hk ?_; refine qI rfl rfl rfl Kr (fun hg14 => Nn ?_) (fun hg14 => ?_)
   ·refine Hz ?_; refine Hz ?_; refine qT rfl rfl rfl (A0 call105 (A4g t (V7 hp) vr vk vs vars dims h0 (by unfold An; omega)) (fun x18 => ?_)); refine Ub ?_; refine Hj ?_; exact hK _ ⟨rfl, rfl, rfl, rfl, (by (conv => lhs; whnf); first | (simp_all [Bool.and_assoc]; done) | (simp_all [Bool.and_assoc]; omega)), trivial⟩
   ·refine T0 ?_; refine F8 ?_; exact hK _ ⟨rfl, rfl, rfl, rfl, (by (conv => lhs; whnf); first | (simp_all [Bool.and_assoc]; done) | (simp_all [Bool.and_assoc]; omega)), trivial⟩
  ·refine Ud ?_; refine Ig ?_; refine B1t ?_; refine Hz ?_; refine Hz ?_; refine qT rfl rfl rfl (A0 call105 (A4g t (V7 hp) vr vk vs vars dims h0 (by unfold An; omega)) (fun x18 => ?_)); refine Ub ?_; refine Hj ?_; exact hK _ ⟨rfl, rfl, rfl, rfl, (by (conv => lhs; whnf); first | (simp_all [Bool.and_assoc]; done) | (simp_all [Bool.and_assoc]; omega)), trivial⟩
 ·refine A4 (fun h20 => ?_) (fun h20 => ?_)
  ·refine Ce ?_; refine Al f_ rfl A8 () (by rw [A2h, h20]; rfl) (fun w hs => hs.none)
  ·refine Jd ?_; refine Fb ?_; refine N0 ?_; have hE := Z5 t vr vk vs 107 (C7l b5 b6 b7) [] (C7k b5 b6 b7 vars dims bound) (fun p => Rx p.1 (IntKind.i64.wrap (vars + if vars < 0 then 0 else p.2.1)) (dims + p.2.2) bound) call107 (fun k v d hm vr vk vs => B4o k vr vk vs b5 b6 b7 vars dims v d bound hv h0 (B6n hm) (by have := B3z hm; simp only at this; omega) (A7m hp hm) (ih _ hm)); refine q0 rfl (A0 call106 (hE) (fun x23 => ?_)); refine Bt ?_; refine Al f_ rfl A8 () (by rw [A2h, h20]; rfl) (fun w hs => hs.none)
theorem B9a : ∀ t : T, B9j t := T.ind fun t ih hp vars dims bound vr vk vs hv h0 hl => B8z t hp ih vars dims bound vr vk vs hv h0 hl
theorem Ft (t : T) (hp : L6 t = true ∨ B4p) (vr vk vs : SH) (hsz : size t ≤ 1152921504606846) : Spec prog 39 #[.agg (tc t vr vk vs).toArray] [RT t vr vk vs] [] (fun _ : Unit => iv (A6 t)) (fun _ => []) (fun _ => []) := by
 refine Db ntmps39 fun B hB => ?_
 have hds := Hc t; refine Aq ?_; refine q0 rfl (Ay fun b1 => ?_); refine Hw ?_; refine Fb ?_; refine q0 rfl (A0 call59 (A7c t vr vk vs) (fun x5 => ?_)); refine N5 ?_; refine A4 (fun h7 => ?_) (fun h7 => ?_)
 ·have hs := of_decide_eq_true h7; refine Jf ?_; refine Al f_ rfl A8 () (by rw [A6, if_pos hs]) (fun w hs => hs.none)
 ·have hs := of_decide_eq_false h7; refine Hs ?_; refine Fb ?_; refine q0 rfl (A0 call60 (B9a t hp (-1) 24 false vr vk vs (by unfold An; omega) A2 A2) (fun x10 => ?_)); refine Iy ?_; refine A4 (fun h11 => ?_) (fun h11 => ?_)
  ·refine Ce ?_; refine Al f_ rfl A8 () (by rw [A6, if_neg hs]; simp_all) (fun w hs => hs.none)
  ·refine Jd ?_; refine Ce ?_; refine Al f_ rfl A8 () (by rw [A6, if_neg hs]; simp_all) (fun w hs => hs.none)
theorem A8o (l : List Part) (a : Nat) : l.foldl (fun a p => a + size p.1) a = a + (l.map fun p => size p.1).sum := by
 induction l generalizing a with
 | nil => simp
 | cons b l ih => rw [List.foldl_cons, ih]; simp; omega
theorem B5m (t : T) : size t = 1 + ((parts t).map fun p => size p.1).sum := by rw [size_eq, A8o]
theorem P8 (t : T) : size t = 1 + (t.kids.map size).sum + ((t.sys.map fun b => b.kids.map size).flatten).sum := by
 rw [B5m, Jz, List.sum_append]; omega
theorem A5l {t : T} : A6 t = 0 ↔ sized t = 0 ∧ Rx t (-1) 24 false = true := by
 unfold A6
 split
 ·rename_i h; constructor
  ·intro h2; exact absurd h2 h
  ·intro h2; exact absurd h2.1 h
 ·rename_i h
  have h : sized t = 0 := by simpa using h
  split
  ·rename_i h3; simp [h, h3]
  ·rename_i h3; simp [h3]
def G6 (s : Nat) (i : Int) : Nat := if 0 ≤ i ∧ i < 24 then ((s &&& 16777215) &&& (2 ^ i.toNat - 1)) ||| ((s &&& 16777215) / 2 ^ (i.toNat + 1) * 2 ^ i.toNat) else s &&& 16777215
theorem He (s : Nat) : s &&& 16777215 < 16777216 := by rw [B1j]; exact Nat.mod_lt _ Gu
theorem Rq (s : Nat) (i : Int) : G6 s i < 16777216 := by
 have h := He s
 unfold G6
 split
 ·refine Nat.or_lt_two_pow (n := 24) (Nat.lt_of_le_of_lt Nat.and_le_left h) ?_
  generalize s &&& 16777215 = q at *
  have h1 : q / 2 ^ (i.toNat + 1) * 2 ^ i.toNat ≤ q / 2 ^ i.toNat * 2 ^ i.toNat := Nat.mul_le_mul_right _ (Nat.div_le_div_left (Nat.pow_le_pow_right A2 A2) (Nat.pow_pos A2))
  have h2 := Nat.div_mul_le_self q (2 ^ i.toNat)
  show _ < 16777216
  omega
 ·exact h
theorem A5s (l : List Cl) : Pe l < 16777216 := by rw [A5t]; exact He _
def Bd (s : Nat) (f b : Int) : Int × Nat :=
 if f < 0 ∨ b < 0 then (2, 0) else
 if Bh (s &&& 16777215) (2 ^ (min f.toNat 24) - 1) = 0 then (0, (s &&& 16777215) &&& (2 ^ (min f.toNat 24) - 1)) else
 if 24 ≤ b ∨ 16777215 < Bh (s &&& 16777215) (2 ^ (min f.toNat 24) - 1) * 2 ^ b.toNat then (10, 0) else
 (0, ((s &&& 16777215) &&& (2 ^ (min f.toNat 24) - 1)) ||| (Bh (s &&& 16777215) (2 ^ (min f.toNat 24) - 1) * 2 ^ b.toNat))
theorem Rv (a b i : Nat) : (Bh a b).testBit i = (decide (i < 32) && a.testBit i && !b.testBit i) := by
 unfold Bh
 rw [BitVec.testBit_toNat]
 by_cases h : i < 32
 ·rw [BitVec.getLsbD_and, BitVec.getLsbD_not, BitVec.getLsbD_ofNat, BitVec.getLsbD_ofNat]
  simp [h]
 ·have : (BitVec.ofNat 32 a &&& ~~~BitVec.ofNat 32 b).getLsbD i = false := BitVec.getLsbD_of_ge _ _ A2
  rw [this]; simp [h]
theorem Zl (s i : Nat) : (s &&& 16777215).testBit i = (decide (i < 24) && s.testBit i) := by
 rw [B1j, Nat.testBit_mod_two_pow]
theorem B4m {q m : Nat} (h : q < 16777216) : Bh q m < 16777216 := by
 refine Nat.lt_pow_two_of_testBit (n := 24) _ (fun i hi => ?_)
 rw [Rv, Nat.testBit_lt_two_pow (x := q) (Nat.lt_of_lt_of_le h (Nat.pow_le_pow_right (n := 2) Gu hi))]
 simp
theorem Kx (s : Nat) (f b : Int) : (Bd s f b).2 < 16777216 := by
 unfold Bd
 split
 ·decide
 ·split
  ·exact Nat.lt_of_le_of_lt Nat.and_le_left (He s)
  ·split
   ·decide
   ·refine Nat.or_lt_two_pow (n := 24) ?_ ?_
    ·exact Nat.lt_of_le_of_lt Nat.and_le_left (He s)
    ·rename_i h; simp only [not_or] at h; have := h.2; omega
def C5 (c : Cl) (f b : Int) : Int × Cl :=
 if Eu c = false then (2, B2) else
 if (Bd c.pos f b).1 ≠ 0 then ((Bd c.pos f b).1, B2) else
 if (Bd c.neg f b).1 ≠ 0 then ((Bd c.neg f b).1, B2) else
 (0, ⟨(Bd c.pos f b).2, (Bd c.neg f b).2⟩)
theorem Q0 (c : Cl) (f b : Int) : u32 (C5 c f b).2 := by
 have h1 := Kx c.pos f b
 have h2 := Kx c.neg f b
 unfold C5
 split
 ·exact ⟨(by decide : (0 : Nat) < 4294967296), (by decide : (0 : Nat) < 4294967296)⟩
 ·split
  ·exact ⟨(by decide : (0 : Nat) < 4294967296), (by decide : (0 : Nat) < 4294967296)⟩
  ·split
   ·exact ⟨(by decide : (0 : Nat) < 4294967296), (by decide : (0 : Nat) < 4294967296)⟩
   ·exact ⟨by show (Bd c.pos f b).2 < _; omega, by show (Bd c.neg f b).2 < _; omega⟩
def Hb (g : Cl → Int × Cl) (l : List Cl) : Int × List Cl := match l.find? (fun c => (g c).1 ≠ 0) with
 | some c => ((g c).1, [])
 | none => (0, l.map fun c => (g c).2)
theorem B3r {g : Cl → Int × Cl} {l : List Cl} {i : Nat} (hi : i < l.length) (h0 : ∀ j, j < i → (g (l.getD j B2)).1 = 0) (h : (g (l.getD i B2)).1 ≠ 0) : Hb g l = ((g (l.getD i B2)).1, []) := by
 have : l.find? (fun c => (g c).1 ≠ 0) = some (l.getD i B2) := by
  rw [List.find?_eq_some_iff_getElem]
  rw [Gp (d := B2) hi] at h ⊢
  refine ⟨by simpa using h, i, hi, rfl, fun j hj => ?_⟩
  have := h0 j hj
  rw [Gp (d := B2) A2] at this
  simp [this]
 rw [Hb, this]
theorem B8e {g : Cl → Int × Cl} {l : List Cl} (h0 : ∀ j, j < l.length → (g (l.getD j B2)).1 = 0) : Hb g l = (0, l.map fun c => (g c).2) := by
 have : l.find? (fun c => (g c).1 ≠ 0) = none := by
  rw [List.find?_eq_none]
  intro x hx
  obtain ⟨j, hj, e⟩ := List.mem_iff_getElem.mp hx
  have := h0 j hj
  rw [Gp (d := B2) hj, e] at this
  simp [this]
 rw [Hb, this]
def Bc (l : List Cl) (f b : Int) : Int × List Cl :=
 if Bb l = false then (2, []) else
 if (Hb (fun c => C5 c f b) l).1 ≠ 0 then ((Hb (fun c => C5 c f b) l).1, []) else Cd (Hb (fun c => C5 c f b) l).2
def C9 (by_ : Int) (l : List Cl) (f : Int) : Af (List Cl) :=
 if by_ = 0 ∨ 24 ≤ f then .ok l else if (Bc l f by_).1 = 0 then .ok (Bc l f by_).2 else .bad (Bc l f by_).1
def Be (vb db : Int) : Tr (Int × Int) where
 own c k n _ r := (C9 db r c.2).bind fun r' => if k = 1 ∧ c.1 ≤ n then (if 1000000000 - vb < n then .bad 100 else .ok (.inr (n + vb, r'))) else .ok (.inr (n, r'))
 Ap c f := (C9 db f c.2).bind fun f' => .ok (some f')
 Nv c b := .ok (c.1 + b.1, c.2 + b.2)
section
variable {C : Type} {A : Tr C} {t : T} {c : C} {e : Int}
theorem Lz (h : A.own c t.kind t.n t.name t.r = .bad e) : Bm A t c = .bad e := by rw [Fx, h]; rfl
theorem Ql {p : Int × List Cl} {i : Nat} {l : List T} (h : A.own c t.kind t.n t.name t.r = .ok (.inr p)) (hi : i < t.kids.length) (hl : Dc A t.kind 0 (t.kids.take i) c = .ok l) {c' : C} (hc : A.Nv c (binds t.kind i) = .ok c') (hb : Bm A (t.kids.getD i t0) c' = .bad e) : Bm A t c = .bad e := by
 have h1 : Dc A t.kind 0 (t.kids.take (i + 1)) c = .bad e := by
  rw [Ab (d := t0) hi, Po, hl]
  simp only [Af.bind, List.length_take, Nat.zero_add, Nat.min_eq_left (Nat.le_of_lt hi)]
  rw [hc]; simp only; rw [hb]
 have h2 := Xy (m := t.kids.drop (i + 1)) h1
 rw [List.take_append_drop] at h2
 rw [Fx, h]; simp only [Af.bind]; rw [h2]
theorem T6 {k : Int} {ts : List T} {i : Nat} {l : List T} {u : T} (hi : i < ts.length) (hl : Dc A k 0 (ts.take i) c = .ok l) {c' : C} (hc : A.Nv c (binds k i) = .ok c') (hb : Bm A (ts.getD i t0) c' = .ok u) : Dc A k 0 (ts.take (i + 1)) c = .ok (l ++ [u]) := by
 rw [Ab (d := t0) hi, Po, hl]
 simp only [Af.bind, List.length_take, Nat.zero_add, Nat.min_eq_left (Nat.le_of_lt hi)]
 rw [hc]; simp only; rw [hb]
theorem Qm {k : Int} {ts : List T} {i : Nat} {l : List T} (hi : i < ts.length) (hl : Co A k (ts.take i) c = .ok l) {c' : C} (hc : A.Nv c (0, more k) = .ok c') (hb : Bm A (ts.getD i t0) c' = .bad e) : Co A k ts c = .bad e := by
 have h1 : Co A k (ts.take (i + 1)) c = .bad e := by
  rw [Ab (d := t0) hi, Pn, hl]
  simp only [Af.bind]
  rw [hc]; simp only; rw [hb]
 have h2 := Xv (m := ts.drop (i + 1)) h1
 rwa [List.take_append_drop] at h2
theorem T7 {k : Int} {ts : List T} {i : Nat} {l : List T} {u : T} (hi : i < ts.length) (hl : Co A k (ts.take i) c = .ok l) {c' : C} (hc : A.Nv c (0, more k) = .ok c') (hb : Bm A (ts.getD i t0) c' = .ok u) : Co A k (ts.take (i + 1)) c = .ok (l ++ [u]) := by
 rw [Ab (d := t0) hi, Pn, hl]
 simp only [Af.bind]
 rw [hc]; simp only; rw [hb]
theorem I2 {p : Int × List Cl} {s : Nat} {l : List T} {bs : List Br} (h : A.own c t.kind t.n t.name t.r = .ok (.inr p)) (hl : Dc A t.kind 0 t.kids c = .ok l) (hs : s < t.sys.length) (hb : D7 A t.kind (t.sys.take s) c = .ok bs) (hf : A.Ap c (t.sys.getD s B5).Ap = .bad e ∨ ∃ f', A.Ap c (t.sys.getD s B5).Ap = .ok (some f') ∧ Co A t.kind (t.sys.getD s B5).kids c = .bad e) : Bm A t c = .bad e := by
 have h1 : D7 A t.kind (t.sys.take (s + 1)) c = .bad e := by
  rw [Ab (d := B5) hs, M0, hb]
  simp only [Af.bind]
  rcases hf with hf | ⟨f', hf, h2⟩
  ·rw [hf]
  ·rw [hf]; simp only; rw [h2]
 have h2 := S9 (m := t.sys.drop (s + 1)) h1
 rw [List.take_append_drop] at h2
 rw [Fx, h]; simp only [Af.bind]; rw [hl]; simp only; rw [h2]
theorem Nc {k : Int} {ss : List Br} {s : Nat} {bs : List Br} {f' : List Cl} {ks : List T} (hs : s < ss.length) (hb : D7 A k (ss.take s) c = .ok bs) (hf : A.Ap c (ss.getD s B5).Ap = .ok (some f')) (hk : Co A k (ss.getD s B5).kids c = .ok ks) : D7 A k (ss.take (s + 1)) c = .ok (bs ++ [.mk f' ks]) := by
 rw [Ab (d := B5) hs, M0, hb]
 simp only [Af.bind]
 rw [hf]; simp only; rw [hk]
theorem Pm {p : Int × List Cl} {l : List T} {bs : List Br} (h : A.own c t.kind t.n t.name t.r = .ok (.inr p)) (hl : Dc A t.kind 0 t.kids c = .ok l) (hb : D7 A t.kind t.sys c = .ok bs) : Bm A t c = .ok (.mk t.kind p.1 t.name p.2 l bs) := by
 rw [Fx, h]; simp only [Af.bind]; rw [hl]; simp only; rw [hb]
end
theorem Z1 {g : Cl → Int × Cl} {l : List Cl} (h : ∀ c, u32 (g c).2) : ∀ c, c ∈ (Hb g l).2 → u32 c := by
 intro c hc
 unfold Hb at hc
 split at hc
 ·cases hc
 ·obtain ⟨d, _, rfl⟩ := List.mem_map.mp hc; exact h d
theorem B3q {g : Cl → Int × Cl} {l : List Cl} : (Hb g l).2.length ≤ l.length := by
 unfold Hb
 split <;> simp
theorem A1d (k : Int) : 0 ≤ more k ∧ more k ≤ 1 := by unfold more; split <;> omega
theorem F2 {t : T} {i : Nat} (h : i < t.kids.length) : size (t.kids.getD i t0) < size t := by
 obtain ⟨p, hp, e⟩ := F7 (Am (d := t0) h); exact e ▸ Jp hp
theorem J2 {t : T} {s k : Nat} (h : s < t.sys.length) (h2 : k < (t.sys.getD s B5).kids.length) : size ((t.sys.getD s B5).kids.getD k t0) < size t := by
 obtain ⟨p, hp, e⟩ := G7 (Am (d := B5) h) (Am (d := t0) h2); exact e ▸ Jp hp
def Ji (vb : Int) (v : Int) (k n : Int) : Int := if k = 1 ∧ v ≤ n then n + vb else n
theorem B7j {vb db v d : Int} {t : T} {g : List Cl} (hg : C9 db t.r d = .ok g) (h : ¬ (t.kind = 1 ∧ v ≤ t.n ∧ 1000000000 - vb < t.n)) : (Be vb db).own (v, d) t.kind t.n t.name t.r = .ok (.inr (Ji vb v t.kind t.n, g)) := by
 simp only [Be, hg, Af.bind, Ji]
 split
 ·rename_i h1
  rw [if_neg (fun h2 => h ⟨h1.1, h1.2, h2⟩)]
 ·rfl
theorem A1e {vb db v d : Int} {t : T} {e : Int} (hg : C9 db t.r d = .bad e) : (Be vb db).own (v, d) t.kind t.n t.name t.r = .bad e := by
 simp only [Be, hg, Af.bind]
theorem A1g {vb db v d : Int} {t : T} {g : List Cl} (hg : C9 db t.r d = .ok g) (h : t.kind = 1 ∧ v ≤ t.n ∧ 1000000000 - vb < t.n) : (Be vb db).own (v, d) t.kind t.n t.name t.r = .bad 100 := by
 simp only [Be, hg, Af.bind]
 rw [if_pos ⟨h.1, h.2.1⟩, if_pos h.2.2]
theorem R9 {vb db v d : Int} {f g : List Cl} (hg : C9 db f d = .ok g) : (Be vb db).Ap (v, d) f = .ok (some g) := by simp only [Be, hg, Af.bind]
theorem Xe {vb db v d : Int} {f : List Cl} {e : Int} (hg : C9 db f d = .bad e) : (Be vb db).Ap (v, d) f = .bad e := by simp only [Be, hg, Af.bind]
theorem A5b {vb db v d : Int} {b : Int × Int} : (Be vb db).Nv (v, d) b = .ok (v + b.1, d + b.2) := rfl
theorem Xz {vb db : Int} {k : Int} {c : Int × Int} : ∀ {l l' : List Br}, D7 (Be vb db) k l c = .ok l' → l'.length = l.length
 | [], l', h => by rw [Di] at h; injection h with h; subst h; rfl
 | a :: l, l', h => by
  rw [Dj] at h
  obtain ⟨o, ho, h⟩ := Af.A9 h
  obtain ⟨g, _, hg⟩ := Af.A9 (x := C9 db a.Ap c.2) ho
  injection hg with hg
  subst hg
  obtain ⟨ks', _, h⟩ := Af.A9 h
  obtain ⟨bs', h3, h⟩ := Af.A9 h
  injection h with h
  subst h
  simp [Xz h3]
theorem Mw : h0.er = t0 := by simp [h0, HT.er, HT.erL, HT.erB, t0]
theorem St.h0R {B : By} {Γ : List Fact} {Ms : List Az} {w : World} (y : Tys) (hs : St B Γ Ms w) : St B Γ (Cc (Eo y h0) :: Ms) w := by
 have h1 := ((((hs.Lc).Lc).Bg 2 y.b).Bg 6 y.t).Bg 2 y.c
 exact St.B0u (y := y) (k := 0) (n := 0) (nm := ByteArray.mk #[]) (r := []) (v := B6) (u := B6) (x := B6) (ks := []) (ss := []) rfl rfl rfl rfl rfl rfl (by simpa [Dh, La] using h1)
def Bw (t : T) (ns : List Int) (r : Af T) : Int × T := if A6 t ≠ 0 then (A6 t, t0) else if ns.all (fun n => decide (0 ≤ n)) = false then (2, t0) else match r with
 | .ok u => (0, u)
 | .bad e => (e, t0)
theorem A8l {t : T} {ns : List Int} {r : Af T} (h : A6 t ≠ 0) : Bw t ns r = (A6 t, t0) := by unfold Bw; rw [if_pos h]
theorem B3n {t : T} {ns : List Int} {r : Af T} (h : A6 t = 0) (h2 : ns.all (fun n => decide (0 ≤ n)) = false) : Bw t ns r = (2, t0) := by unfold Bw; rw [if_neg (by simp [h]), if_pos h2]
theorem B7y {t u : T} {ns : List Int} {r : Af T} (h : A6 t = 0) (h2 : ns.all (fun n => decide (0 ≤ n)) = true) (hr : r = .ok u) : Bw t ns r = (0, u) := by unfold Bw; rw [if_neg (by simp [h]), if_neg (by simp [h2]), hr]
theorem B3o {t : T} {e : Int} {ns : List Int} {r : Af T} (h : A6 t = 0) (h2 : ns.all (fun n => decide (0 ≤ n)) = true) (hr : r = .bad e) : Bw t ns r = (e, t0) := by unfold Bw; rw [if_neg (by simp [h]), if_neg (by simp [h2]), hr]
theorem Spec.I5 {P : Program} {k : FuncId} {args : Array Value} {pre : List Fact} (y : Tys) {u : T} (g : Value → Value) (h : Spec P k args pre [] (fun x : {h : HT // h.er = u} => g (.agg (tc u x.1.vr x.1.vk x.1.vs).toArray)) (fun _ => []) (fun x => [Cc (Eo y x.1)])) (hok : ∀ ok w, St ⟨ok, B3 [], w⟩ pre [] w → Lp u) :
  Spec P k args pre [] (fun x : SH × SH × SH => g (.agg (tc u x.1 x.2.1 x.2.2).toArray)) (fun x => [RT u x.1 x.2.1 x.2.2]) (fun _ => []) := fun ok w hk hs => (h ok w hk hs).mono fun e w' hh => by
 obtain ⟨x, he, hs'⟩ := hh
 have h1 : St ⟨ok, B3 [], w⟩ [] (Eo y x.1 ++ []) w' := hs'.unpack
 have h2 := St.I5 y trivial x.1 (by rw [x.2]; exact hok ok w hs) h1
 rw [x.2] at h2
 exact ⟨(x.1.vr, x.1.vk, x.1.vs), he, h2⟩
theorem Jl.I5 {P : Program} {Te : TypeId} {k : FuncId} {args : Array Value} {pre : List Fact} (y : Tys) {r : Af T} (h : Jl P Te k args pre r (fun (u : T) => fun x : {h : HT // h.er = u} => .agg (tc u x.1.vr x.1.vk x.1.vs).toArray) (fun _ _ => []) (fun (u : T) => fun x : {h : HT // h.er = u} => [Cc (Eo y x.1)])) (hok : ∀ u, r = .ok u → ∀ ok w, St ⟨ok, B3 [], w⟩ pre [] w → Lp u) :
  Jl P Te k args pre r (fun (u : T) => fun x : SH × SH × SH => .agg (tc u x.1 x.2.1 x.2.2).toArray) (fun u x => [RT u x.1 x.2.1 x.2.2]) (fun _ _ => []) := ⟨fun u hu => Spec.I5 y (fun v => v) (h.1 u hu) (hok u hu), h.2⟩
abbrev Au (l : List Cl) : Prop := (∀ c, c ∈ l → u32 c) ∧ l.length * 8 ≤ reach
section
variable {C : Type} {A : Tr C}
mutual
theorem Qk (ho : ∀ c k n nm r p, An k → An n → Au r → A.own c k n nm r = .ok (.inr p) → An p.1 ∧ Au p.2) (hi : ∀ c k n nm r u, A.own c k n nm r = .ok (.inl u) → Lp u) (hf : ∀ c f f', Au f → A.Ap c f = .ok (some f') → Au f') : ∀ (t : T) (c : C) (u : T), Lp t → Bm A t c = .ok u → Lp u
 | .mk k n nm r ks ss, c, u, h, hu => by
  simp only [Lp] at h
  obtain ⟨h1, h2, h3, h4, h5, h6, h7, h8⟩ := h
  rw [Fx] at hu
  simp only [T.kind, T.n, T.name, T.r, T.kids, T.sys] at hu
  obtain ⟨o, h9, hu⟩ := Af.A9 hu
  cases o with
  | inl v => injection hu with hu; subst hu; exact hi _ _ _ _ _ _ h9
  | inr p =>
   obtain ⟨ks', h10, hu⟩ := Af.A9 hu
   obtain ⟨ss', h11, hu⟩ := Af.A9 hu
   injection hu with hu
   subst hu
   obtain ⟨p1, p2⟩ := ho _ _ _ _ _ _ h1 h2 h4 h9
   simp only [Lp]
   exact ⟨h1, p1, h3, p2, by rw [Ob h10]; exact h5, Nat.le_trans (Nat.mul_le_mul_right _ (Oc h11)) h6, Xx ho hi hf ks 0 c ks' h7 h10, S8 ho hi hf ss c ss' h8 h11⟩
theorem Xx (ho : ∀ c k n nm r p, An k → An n → Au r → A.own c k n nm r = .ok (.inr p) → An p.1 ∧ Au p.2) (hi : ∀ c k n nm r u, A.own c k n nm r = .ok (.inl u) → Lp u) (hf : ∀ c f f', Au f → A.Ap c f = .ok (some f') → Au f') {kd : Int} : ∀ (ts : List T) (i : Nat) (c : C) (us : List T), okL ts → Dc A kd i ts c = .ok us → okL us
 | [], i, c, us, h, hu => by rw [Em] at hu; injection hu with hu; subst hu; simp only [okL]
 | t :: ts, i, c, us, h, hu => by
  simp only [okL] at h
  rw [E5] at hu
  obtain ⟨c', _, hu⟩ := Af.A9 hu
  obtain ⟨t', h2, hu⟩ := Af.A9 hu
  obtain ⟨ts', h3, hu⟩ := Af.A9 hu
  injection hu with hu
  subst hu
  simp only [okL]
  exact ⟨Qk ho hi hf t c' t' h.1 h2, Xx ho hi hf ts (i + 1) c ts' h.2 h3⟩
theorem Xu (ho : ∀ c k n nm r p, An k → An n → Au r → A.own c k n nm r = .ok (.inr p) → An p.1 ∧ Au p.2) (hi : ∀ c k n nm r u, A.own c k n nm r = .ok (.inl u) → Lp u) (hf : ∀ c f f', Au f → A.Ap c f = .ok (some f') → Au f') {kd : Int} : ∀ (ts : List T) (c : C) (us : List T), okL ts → Co A kd ts c = .ok us → okL us
 | [], c, us, h, hu => by rw [Ey] at hu; injection hu with hu; subst hu; simp only [okL]
 | t :: ts, c, us, h, hu => by
  simp only [okL] at h
  rw [E4] at hu
  obtain ⟨c', _, hu⟩ := Af.A9 hu
  obtain ⟨t', h2, hu⟩ := Af.A9 hu
  obtain ⟨ts', h3, hu⟩ := Af.A9 hu
  injection hu with hu
  subst hu
  simp only [okL]
  exact ⟨Qk ho hi hf t c' t' h.1 h2, Xu ho hi hf ts c ts' h.2 h3⟩
theorem S8 (ho : ∀ c k n nm r p, An k → An n → Au r → A.own c k n nm r = .ok (.inr p) → An p.1 ∧ Au p.2) (hi : ∀ c k n nm r u, A.own c k n nm r = .ok (.inl u) → Lp u) (hf : ∀ c f f', Au f → A.Ap c f = .ok (some f') → Au f') {kd : Int} : ∀ (bs : List Br) (c : C) (us : List Br), okB bs → D7 A kd bs c = .ok us → okB us
 | [], c, us, h, hu => by rw [Di] at hu; injection hu with hu; subst hu; simp only [okB]
 | .mk f ks :: bs, c, us, h, hu => by
  simp only [okB] at h
  obtain ⟨h1, h2, h3, h4⟩ := h
  rw [Dj] at hu
  simp only [Br.Ap, Br.kids] at hu
  obtain ⟨o, h5, hu⟩ := Af.A9 hu
  cases o with
  | none => exact S8 ho hi hf bs c us h4 hu
  | some f' =>
   obtain ⟨ks', h6, hu⟩ := Af.A9 hu
   obtain ⟨bs', h7, hu⟩ := Af.A9 hu
   injection hu with hu
   subst hu
   simp only [okB]
   exact ⟨hf _ _ _ h1 h5, by rw [Oa h6]; exact h2, Xu ho hi hf ks c ks' h3 h6, S8 ho hi hf bs c bs' h4 h7⟩
end
end
theorem Dx : Au [] := ⟨fun c hc => (by cases hc), by unfold reach; decide⟩
theorem Yz {l : List Cl} (h : ∀ c, c ∈ l → u32 c) : Au (Cd l).2 := by
 unfold Cd
 split
 ·exact Dx
 ·split
  ·exact Dx
  ·rename_i h64
   exact ⟨fun c hc => h c (Qu.mp hc).1, by show (Gi l).length * 8 ≤ reach; unfold reach; omega⟩
theorem J6 (l : List Cl) (f b : Int) : Au (Bc l f b).2 := by
 unfold Bc
 split
 ·exact Dx
 ·split
  ·exact Dx
  ·exact Yz (Z1 (fun c => Q0 c f b))
theorem V0 {l g : List Cl} {f b : Int} (h : Au l) (hg : C9 b l f = .ok g) : Au g := by
 unfold C9 at hg
 split at hg
 ·injection hg with hg; subst hg; exact h
 ·split at hg
  ·injection hg with hg; subst hg; exact J6 l f b
  ·cases hg
theorem Vt {vb db : Int} (hv : 0 ≤ vb ∧ vb ≤ 1000000) {t u : T} {c : Int × Int} (h : Lp t) (hu : Bm (Be vb db) t c = .ok u) : Lp u := by
 refine Qk (A := Be vb db) ?_ ?_ ?_ t c u h hu
 ·intro c k n nm r p _ hn hr ho
  obtain ⟨g, hg, ho⟩ := Af.A9 (x := C9 db r c.2) ho
  have hgo := V0 hr hg
  split at ho
  ·rename_i h1
   split at ho
   ·cases ho
   ·injection ho with ho; injection ho with ho; subst ho
    exact ⟨by unfold An at *; dsimp only; omega, hgo⟩
  ·injection ho with ho; injection ho with ho; subst ho
   exact ⟨hn, hgo⟩
 ·intro c k n nm r u ho
  obtain ⟨g, hg, ho⟩ := Af.A9 (x := C9 db r c.2) ho
  split at ho
  ·split at ho
   ·cases ho
   ·injection ho with ho; cases ho
  ·injection ho with ho; cases ho
 ·intro c f f' hr ho
  obtain ⟨g, hg, ho⟩ := Af.A9 (x := C9 db f c.2) ho
  injection ho with ho; injection ho with ho; subst ho
  exact V0 hr hg
theorem M8 : Lp t0 := by simp [t0, Lp, okL, okB, An, Fp, reach]; decide
theorem guard_okT' {t : T} {ns : List Int} {r : Af T} (h : ns.all (fun n => decide (0 ≤ n)) = true → ∀ u, r = .ok u → Lp u) : Lp (Bw t ns r).2 := by
 unfold Bw
 split
 ·exact M8
 ·split
  ·exact M8
  ·rename_i ha
   cases r with
   | ok u => exact h (by simpa using ha) u rfl
   | bad e => exact M8
abbrev A6d (t : T) (v d : Int) : Af T := (Bm (Be v 0) t (0, 0)).bind fun u => Bm (Be 0 d) u (0, 0)
def Cr (b : Int) : Int := IntKind.i64.wrap (1000000 - b)
theorem C0s (b : Int) : An (Cr b) := by
 have h : Cr b = (1000000 - b + 9223372036854775808) % 18446744073709551616 - 9223372036854775808 := by
  unfold Cr; rw [IntKind.wrap_i64]
 unfold An; rw [h]; omega
theorem B0o {b : Int} (hb : An b) (h0 : 0 ≤ b) (h : 0 ≤ Cr b) : b ≤ 1000000 := by
 have h1 : Cr b = (1000000 - b + 9223372036854775808) % 18446744073709551616 - 9223372036854775808 := by
  unfold Cr; rw [IntKind.wrap_i64]
 unfold An at hb; omega
def Ck (t : T) (v d : Int) : Int × T := Bw t [v, d, Cr v] (A6d t v d)
theorem Af.B8w {α β : Type} {x : Af α} {e : Int} {k : α → Af β} (h : x = .bad e) : x.bind k = .bad e := by rw [h]; rfl
theorem Af.B1g {α β : Type} {x : Af α} {a : α} {y : Af β} {k : α → Af β} (h : x = .ok a) (h2 : k a = y) : x.bind k = y := by rw [h]; exact h2
theorem A1f {vb db : Int} {c : Int × Int} {k n : Int} {nm : ByteArray} {r : List Cl} {u : T} : (Be vb db).own c k n nm r ≠ .ok (.inl u) := by
 intro ho
 obtain ⟨g, hg, ho⟩ := Af.A9 (x := C9 db r c.2) ho
 split at ho
 ·split at ho
  ·cases ho
  ·injection ho with ho; cases ho
 ·injection ho with ho; cases ho
mutual
theorem Lq {vb db : Int} : ∀ {t u : T} {c : Int × Int}, Bm (Be vb db) t c = .ok u → size u = size t
 | .mk k n nm r ks ss, u, c, hu => by
  rw [Fx] at hu
  simp only [T.kind, T.n, T.name, T.r, T.kids, T.sys] at hu
  obtain ⟨o, h9, hu⟩ := Af.A9 hu
  cases o with
  | inl v => exact absurd h9 A1f
  | inr p =>
   obtain ⟨ks', h10, hu⟩ := Af.A9 hu
   obtain ⟨ss', h11, hu⟩ := Af.A9 hu
   injection hu with hu
   subst hu
   rw [P8, P8]
   simp only [T.kids, T.sys]
   rw [Vv h10, Vx h11]
theorem Vv {vb db k : Int} : ∀ {ts us : List T} {i : Nat} {c : Int × Int}, Dc (Be vb db) k i ts c = .ok us → us.map size = ts.map size
 | [], us, i, c, hu => by rw [Em] at hu; injection hu with hu; subst hu; rfl
 | t :: ts, us, i, c, hu => by
  rw [E5] at hu
  obtain ⟨c', _, hu⟩ := Af.A9 hu
  obtain ⟨t', h2, hu⟩ := Af.A9 hu
  obtain ⟨ts', h3, hu⟩ := Af.A9 hu
  injection hu with hu
  subst hu
  simp only [List.map_cons]
  rw [Lq h2, Vv h3]
theorem Vu {vb db k : Int} : ∀ {ts us : List T} {c : Int × Int}, Co (Be vb db) k ts c = .ok us → us.map size = ts.map size
 | [], us, c, hu => by rw [Ey] at hu; injection hu with hu; subst hu; rfl
 | t :: ts, us, c, hu => by
  rw [E4] at hu
  obtain ⟨c', _, hu⟩ := Af.A9 hu
  obtain ⟨t', h2, hu⟩ := Af.A9 hu
  obtain ⟨ts', h3, hu⟩ := Af.A9 hu
  injection hu with hu
  subst hu
  simp only [List.map_cons]
  rw [Lq h2, Vu h3]
theorem Vx {vb db k : Int} : ∀ {bs us : List Br} {c : Int × Int}, D7 (Be vb db) k bs c = .ok us → (us.map fun b => b.kids.map size) = bs.map fun b => b.kids.map size
 | [], us, c, hu => by rw [Di] at hu; injection hu with hu; subst hu; rfl
 | .mk f ks :: bs, us, c, hu => by
  rw [Dj] at hu
  simp only [Br.Ap, Br.kids] at hu
  obtain ⟨o, h5, hu⟩ := Af.A9 hu
  obtain ⟨g, _, h6⟩ := Af.A9 (x := C9 db f c.2) h5
  injection h6 with h6
  subst h6
  obtain ⟨ks', h7, hu⟩ := Af.A9 hu
  obtain ⟨bs', h8, hu⟩ := Af.A9 hu
  injection hu with hu
  subst hu
  show (ks'.map size :: (bs'.map fun b => b.kids.map size)) = (ks.map size :: (bs.map fun b => b.kids.map size))
  rw [Vu h7, Vx h8]
end
theorem C1r {t : T} {v d : Int} {b : Bool} : Rx t v d b = true ↔ (¬ (b = true ∧ 24 < d)) ∧ N1 t v d = true ∧ ∀ p, p ∈ parts t → Rx p.1 (IntKind.i64.wrap (v + if v < 0 then 0 else p.2.1)) (d + p.2.2) b = true := by
 rw [A2h, Bool.and_eq_true, List.all_eq_true]
 simp only [Bool.not_eq_true', Bool.or_eq_false_iff, Bool.and_eq_false_iff, decide_eq_false_iff_not, Bool.not_eq_false']
 constructor
 ·rintro ⟨⟨h1, h2⟩, h3⟩
  refine ⟨?_, h2, h3⟩
  rintro ⟨h4, h5⟩
  rcases h1 with h1 | h1
  ·rw [h1] at h4; cases h4
  ·exact h1 h5
 ·rintro ⟨h1, h2, h3⟩
  refine ⟨⟨?_, h2⟩, h3⟩
  cases b
  ·exact .inl rfl
  ·exact .inr (fun h => h1 ⟨rfl, h⟩)
theorem A7p {t : T} {p : Part} (hp : p ∈ parts t) : (∃ i, i < t.kids.length ∧ p = (t.kids.getD i t0, binds t.kind (i : Int))) ∨ ∃ s k, s < t.sys.length ∧ k < (t.sys.getD s B5).kids.length ∧ p = ((t.sys.getD s B5).kids.getD k t0, 0, more t.kind) := by
 unfold parts at hp
 rcases List.mem_append.mp hp with hp | hp
 ·left
  have key : ∀ (ks : List T) (s : Nat), p ∈ Da t.kind s ks → ∃ i, i < ks.length ∧ p = (ks.getD i t0, binds t.kind ((s + i : Nat) : Int)) := by
   intro ks
   induction ks with
   | nil => intro s h; simp [Da] at h
   | cons k ks ih =>
    intro s h
    simp only [Da, List.mem_cons] at h
    rcases h with h | h
    ·exact ⟨0, by simp, by simpa using h⟩
    ·obtain ⟨i, hi, e⟩ := ih (s + 1) h
     exact ⟨i + 1, by simpa using hi, by rw [e]; simp only [List.getD_cons_succ]; rw [show s + 1 + i = s + (i + 1) by omega]⟩
  obtain ⟨i, hi, e⟩ := key t.kids 0 hp
  exact ⟨i, hi, by rw [e]; simp⟩
 ·right
  have key : ∀ (bs : List Br), p ∈ D8 t.kind bs → ∃ s k, s < bs.length ∧ k < (bs.getD s B5).kids.length ∧ p = ((bs.getD s B5).kids.getD k t0, 0, more t.kind) := by
   intro bs
   induction bs with
   | nil => intro h; simp [D8] at h
   | cons b bs ih =>
    intro h
    simp only [D8, List.mem_append, List.mem_map] at h
    rcases h with ⟨k, hk, e⟩ | h
    ·obtain ⟨j, hj, e2⟩ := List.mem_iff_getElem.mp hk
     exact ⟨0, j, by simp, by simpa using hj, by rw [← e]; simp only [List.getD_cons_zero]; rw [Gp (d := t0) hj, e2]⟩
    ·obtain ⟨s, k, h1, h2, e⟩ := ih h
     exact ⟨s + 1, k, by simpa using h1, by simpa using h2, by rw [e]; simp⟩
  exact key t.sys hp
def Nx (k n : Int) (nm : ByteArray) (r : List Cl) : Prop :=
 (k ≠ 1 → n = 0) ∧ (k ≠ 2 → nm.toList = (ByteArray.mk #[]).toList) ∧ (k = 1 → r = [] ∧ 0 ≤ n) ∧ (k = 2 → r = [] ∧ Np nm = true) ∧ (k = 13 ∨ k = 21 ∨ k = 26 → Bb r = true) ∧ (k = 14 → Cj r = true) ∧ (k ≠ 13 ∧ k ≠ 21 ∧ k ≠ 26 ∧ k ≠ 14 → r = [])
mutual
def Gb : T → Prop
 | .mk k n nm r ks ss => Nx k n nm r ∧ D4 k = (ks.length : Int) ∧ (Ds k = 0 → ss = []) ∧ Pd ks ∧ To k ss
def Pd : List T → Prop
 | [] => True
 | t :: ts => Gb t ∧ Pd ts
def To (k : Int) : List Br → Prop
 | [] => True
 | .mk f ks :: bs => (ks.length : Int) = Ds k ∧ Cj f = true ∧ Pd ks ∧ To k bs
end
theorem Kw {k : Int} (h : k = 1 ∨ k = 2 ∨ k = 13 ∨ k = 21 ∨ k = 26 ∨ k = 14) : Ds k = 0 := by
 unfold Ds
 rcases h with h | h | h | h | h | h <;> subst h <;> decide
theorem Xo (l : List Cl) {d : Int} (h : 24 ≤ d) : within l d = true := by unfold within; rw [decide_eq_true h]; rfl
theorem len_nil {α : Type} {l : List α} : ((l.length : Int) = 0) ↔ l = [] := by
 constructor
 ·intro h; exact List.eq_nil_of_length_eq_zero A2
 ·rintro rfl; rfl
theorem Si {k n : Int} {nm : ByteArray} {r : List Cl} {ks : List T} {ss : List Br} {d : Int} (hd : 24 ≤ d) : N1 (.mk k n nm r ks ss) (-1) d = true ↔ Nx k n nm r ∧ D4 k = (ks.length : Int) ∧ (Ds k = 0 → ss = []) ∧ ∀ b, b ∈ ss → (b.kids.length : Int) = Ds k ∧ Cj b.Ap = true := by
 have hB : ∀ b : Br, R0 (.mk k n nm r ks ss) d b = (decide ((b.kids.length : Int) = Ds k) && Cj b.Ap) := fun b => by
  unfold R0; rw [Xo _ hd, Bool.and_true]; rfl
 have hL : (0 : Int) < (ss.length : Int) ↔ ss ≠ [] := by
  constructor
  ·intro h e; subst e; simp at h
  ·intro h; have := List.length_pos_iff.mpr h; omega
 have hs : ∀ p : Bool, (ss.all (R0 (.mk k n nm r ks ss) d) = true) ↔ ∀ b, b ∈ ss → (b.kids.length : Int) = Ds k ∧ Cj b.Ap = true := fun _ => by
  rw [List.all_eq_true]
  exact forall_congr' fun b => forall_congr' fun _ => by rw [hB]; simp
 unfold N1 Ip Nx
 simp only [T.kind, T.n, T.name, T.r, T.kids, T.sys, Xo _ hd, Bool.and_true, Bool.and_eq_true, Bool.not_eq_true', Bool.or_eq_false_iff, Bool.and_eq_false_iff, decide_eq_false_iff_not, Decidable.not_not, ne_eq, Int.not_lt, Bool.not_eq_false', beq_iff_eq]
 constructor
 ·rintro ⟨⟨⟨⟨h1, h2⟩, h3⟩, h4⟩, h5⟩
  replace h1 : D4 k = (ks.length : Int) := Decidable.not_not.mp (of_decide_eq_false h1)
  replace h2 : k = 1 ∨ n = 0 := h2.imp (fun h => Decidable.not_not.mp (of_decide_eq_false h)) (fun h => Decidable.not_not.mp (of_decide_eq_false h))
  replace h3 : k = 2 ∨ nm.toList = (ByteArray.mk #[]).toList := h3.imp (fun h => Decidable.not_not.mp (of_decide_eq_false h)) id
  replace h4 : ¬ Ds k = 0 ∨ ¬ (0 : Int) < (ss.length : Int) := h4.imp (fun h => of_decide_eq_false h) (fun h => of_decide_eq_false h)
  have hss : Ds k = 0 → ss = [] := by
   intro h
   rcases h4 with h4 | h4
   ·exact absurd h h4
   ·exact List.eq_nil_of_length_eq_zero A2
  split at h5
  ·rename_i hk
   have he := hss (Kw A2)
   subst he
   simp only [Bool.and_eq_true, decide_eq_true_eq] at h5
   exact ⟨⟨by omega, fun _ => h3.resolve_left A2, fun _ => ⟨len_nil.mp (of_decide_eq_true h5.1.1), of_decide_eq_true h5.1.2⟩, by omega, by omega, by omega, fun _ => len_nil.mp (of_decide_eq_true h5.1.1)⟩, h1, hss, fun b hb => by cases hb⟩
  ·split at h5
   ·rename_i hk1 hk
    have he := hss (Kw A2)
    subst he
    simp only [Bool.and_eq_true, decide_eq_true_eq] at h5
    exact ⟨⟨by omega, fun h => absurd hk h, by omega, fun _ => ⟨len_nil.mp (of_decide_eq_true h5.1), h5.2⟩, by omega, by omega, fun _ => len_nil.mp (of_decide_eq_true h5.1)⟩, h1, hss, fun b hb => by cases hb⟩
   ·split at h5
    ·rename_i hk1 hk2 hk
     have he := hss (Kw A2)
     subst he
     exact ⟨⟨by omega, fun _ => h3.resolve_left A2, by omega, by omega, fun _ => h5, by omega, by omega⟩, h1, hss, fun b hb => by cases hb⟩
    ·split at h5
     ·rename_i hk1 hk2 hk3 hk
      have he := hss (Kw A2)
      subst he
      exact ⟨⟨by omega, fun _ => h3.resolve_left A2, by omega, by omega, by omega, fun _ => h5, by omega⟩, h1, hss, fun b hb => by cases hb⟩
     ·rename_i hk1 hk2 hk3 hk4
      simp only [Bool.and_eq_true, decide_eq_true_eq] at h5
      exact ⟨⟨by omega, fun _ => h3.resolve_left A2, by omega, by omega, by omega, by omega, fun _ => len_nil.mp (of_decide_eq_true h5.2)⟩, h1, hss, (hs true).mp h5.1⟩
 ·rintro ⟨⟨a1, a2, a3, a4, a5, a6, a7⟩, b1, b2, b3⟩
  refine ⟨⟨⟨⟨decide_eq_false (Decidable.not_not.mpr b1), ?_⟩, ?_⟩, ?_⟩, ?_⟩
  ·by_cases h : k = 1
   ·exact .inl (decide_eq_false (Decidable.not_not.mpr h))
   ·exact .inr (decide_eq_false (Decidable.not_not.mpr (a1 h)))
  ·by_cases h : k = 2
   ·exact .inl (decide_eq_false (Decidable.not_not.mpr h))
   ·exact .inr (a2 h)
  ·by_cases h : Ds k = 0
   ·exact .inr (decide_eq_false (by rw [b2 h]; decide))
   ·exact .inl (decide_eq_false h)
  ·split
   ·rename_i h; simp [(a3 h).1, (a3 h).2]
   ·split
    ·rename_i h; simp [(a4 h).1, (a4 h).2]
    ·split
     ·rename_i h; exact a5 h
     ·split
      ·rename_i h; exact a6 h
      ·rename_i h1 h2 h3 h4
       rw [Bool.and_eq_true, (hs true)]
       exact ⟨b3, by simp [a7 A2]⟩
theorem Oo : ∀ {ts : List T}, Pd ts ↔ ∀ t, t ∈ ts → Gb t
 | [] => by simp [Pd]
 | t :: ts => by simp [Pd, Oo (ts := ts)]
theorem Sp {k : Int} : ∀ {bs : List Br}, To k bs ↔ ∀ b, b ∈ bs → (b.kids.length : Int) = Ds k ∧ Cj b.Ap = true ∧ Pd b.kids
 | [] => by simp [To]
 | .mk f ks :: bs => by
  simp only [To, Sp (bs := bs), List.forall_mem_cons, Br.kids, Br.Ap]
  constructor
  ·rintro ⟨h1, h2, h3, h4⟩; exact ⟨⟨h1, h2, h3⟩, h4⟩
  ·rintro ⟨⟨h1, h2, h3⟩, h4⟩; exact ⟨h1, h2, h3, h4⟩
theorem K2 {t : T} : Gb t ↔ Nx t.kind t.n t.name t.r ∧ D4 t.kind = (t.kids.length : Int) ∧ (Ds t.kind = 0 → t.sys = []) ∧ Pd t.kids ∧ To t.kind t.sys := by
 obtain ⟨k, n, nm, r, ks, ss⟩ := t
 simp only [Gb, T.kind, T.n, T.name, T.r, T.kids, T.sys]
theorem W6 {t : T} : Gb t ↔ (∀ d : Int, 24 ≤ d → N1 t (-1) d = true) ∧ ∀ p, p ∈ parts t → Gb p.1 := by
 rw [K2, Oo, Sp]
 have ho : ∀ d : Int, 24 ≤ d → (N1 t (-1) d = true ↔ Nx t.kind t.n t.name t.r ∧ D4 t.kind = (t.kids.length : Int) ∧ (Ds t.kind = 0 → t.sys = []) ∧ ∀ b, b ∈ t.sys → (b.kids.length : Int) = Ds t.kind ∧ Cj b.Ap = true) := by
  intro d hd
  obtain ⟨k, n, nm, r, ks, ss⟩ := t
  exact Si hd
 constructor
 ·rintro ⟨h1, h2, h3, h4, h5⟩
  refine ⟨fun d hd => (ho d hd).mpr ⟨h1, h2, h3, fun b hb => ⟨(h5 b hb).1, (h5 b hb).2.1⟩⟩, fun p hp => ?_⟩
  rcases A7p hp with ⟨i, hi, rfl⟩ | ⟨s, k, hs, hk, rfl⟩
  ·exact h4 _ (Am hi)
  ·exact Oo.mp (h5 _ (Am hs)).2.2 _ (Am hk)
 ·rintro ⟨h1, h2⟩
  obtain ⟨a1, a2, a3, a4⟩ := (ho 24 A2).mp (h1 24 A2)
  refine ⟨a1, a2, a3, fun k hk => ?_, fun b hb => ⟨(a4 b hb).1, (a4 b hb).2, Oo.mpr fun k hk => ?_⟩⟩
  ·obtain ⟨p, hp, e⟩ := F7 hk; exact e ▸ h2 p hp
  ·obtain ⟨p, hp, e⟩ := G7 hb hk; exact e ▸ h2 p hp
theorem Wu : ∀ (t : T) (d : Int), 24 ≤ d → (Rx t (-1) d false = true ↔ Gb t) := T.ind fun t ih d hd => by
 rw [C1r, W6]
 have hw : ∀ p : Part, IntKind.i64.wrap (-1 + if (-1 : Int) < 0 then 0 else p.2.1) = -1 := fun p => by rw [if_pos Gu]; decide
 constructor
 ·rintro ⟨_, h2, h3⟩
  refine ⟨fun d' hd' => ?_, fun p hp => ?_⟩
  ·obtain ⟨k, n, nm, r, ks, ss⟩ := t
   exact (Si hd').mpr ((Si hd).mp h2)
  ·have h4 := h3 p hp
   rw [hw] at h4
   have h5 := A4f hp
   exact (ih p hp (d + p.2.2) A2).mp h4
 ·rintro ⟨h1, h2⟩
  refine ⟨by simp, h1 d hd, fun p hp => ?_⟩
  rw [hw]
  have h5 := A4f hp
  exact (ih p hp (d + p.2.2) A2).mpr (h2 p hp)
theorem Fu {t : T} : A6 t = 0 ↔ sized t = 0 ∧ Gb t := by rw [A5l, Wu t 24 A2]
section
variable {C : Type} {A : Tr C}
end
section
variable {CA CB CC : Type} {A : Tr CA} {B : Tr CB} {D : Tr CC} (R : CA → CB → CC → Prop)
variable {R}
end
section
variable {CA CC : Type} {A : Tr CA} {D : Tr CC} (R : CA → CC → Prop)
variable {R}
end
theorem A1h (l : List Cl) : ((Cd l).1 = 0 ∧ l.all Eu = true ∧ (Cd l).2 = Gi l ∧ (Gi l).length ≤ 64) ∨ (Cd l).1 = 2 ∨ (Cd l).1 = 3 := by
 unfold Cd
 split
 ·exact .inr (.inl rfl)
 ·rename_i h1
  split
  ·exact .inr (.inr rfl)
  ·rename_i h2
   exact .inl ⟨rfl, by simpa using h1, rfl, by omega⟩
section
variable {C : Type} {A : Tr C}
end
theorem A5a {vb db : Int} {c : Int × Int} {k n : Int} {nm : ByteArray} {r : List Cl} : (Be vb db).own c k n nm r = (C9 db r c.2).bind fun r' => if k = 1 ∧ c.1 ≤ n ∧ 1000000000 - vb < n then .bad 100 else .ok (.inr (Ji vb c.1 k n, r')) := by
 simp only [Be, Ji]
 congr 1
 funext g
 by_cases h1 : k = 1 ∧ c.1 ≤ n
 ·rw [if_pos h1, if_pos h1]
  by_cases h2 : 1000000000 - vb < n
  ·rw [if_pos h2, if_pos ⟨h1.1, h1.2, h2⟩]
  ·rw [if_neg h2, if_neg (fun h => h2 h.2.2)]
 ·rw [if_neg h1, if_neg h1, if_neg (fun h => h1 ⟨h.1, h.2.1⟩)]
theorem Xd {vb db : Int} {c : Int × Int} {f : List Cl} : (Be vb db).Ap c f = (C9 db f c.2).bind fun f' => .ok (some f') := rfl
def O4 (r : Af T) : Int × T := match r with
 | .ok u => (0, u)
 | .bad e => (e, t0)
theorem Tb {l : List Cl} {f b e : Int} (h : C9 b l f = .bad e) : e ≠ 0 := by
 unfold C9 at h
 split at h
 ·cases h
 ·split at h
  ·cases h
  ·rename_i h2; injection h with h; exact h ▸ h2
mutual
theorem lift_bad_ne' {vb db : Int} : ∀ {t : T} {c : Int × Int} {e : Int}, Bm (Be vb db) t c = .bad e → e ≠ 0
 | .mk k n nm r ks ss, c, e, h => by
  rw [Fx] at h
  simp only [T.kind, T.n, T.name, T.r, T.kids, T.sys] at h
  rw [A5a] at h
  cases h0 : C9 db r c.2 with
  | bad e' => rw [h0] at h; injection h with h; exact h ▸ Tb h0
  | ok g =>
   rw [h0] at h
   simp only [Af.bind] at h
   by_cases h6 : k = 1 ∧ c.1 ≤ n ∧ 1000000000 - vb < n
   ·rw [if_pos h6] at h; injection h with h; subst h; decide
   ·rw [if_neg h6] at h
    simp only at h
    cases h1 : Dc (Be vb db) k 0 ks c with
    | bad e' => rw [h1] at h; injection h with h; exact h ▸ Rb h1
    | ok x =>
     rw [h1] at h
     simp only at h
     cases h2 : D7 (Be vb db) k ss c with
     | bad e' => rw [h2] at h; injection h with h; exact h ▸ Rc h2
     | ok y => rw [h2] at h; cases h
theorem Rb {vb db k : Int} : ∀ {ts : List T} {i : Nat} {c : Int × Int} {e : Int}, Dc (Be vb db) k i ts c = .bad e → e ≠ 0
 | [], i, c, e, h => by rw [Em] at h; cases h
 | t :: ts, i, c, e, h => by
  rw [E5, A5b] at h
  simp only [Af.bind] at h
  cases h1 : Bm (Be vb db) t (c.1 + (binds k i).1, c.2 + (binds k i).2) with
  | bad e' => rw [h1] at h; injection h with h; exact h ▸ lift_bad_ne' h1
  | ok x =>
   rw [h1] at h
   simp only at h
   cases h2 : Dc (Be vb db) k (i + 1) ts c with
   | bad e' => rw [h2] at h; injection h with h; exact h ▸ Rb h2
   | ok y => rw [h2] at h; cases h
theorem Ra {vb db k : Int} : ∀ {ts : List T} {c : Int × Int} {e : Int}, Co (Be vb db) k ts c = .bad e → e ≠ 0
 | [], c, e, h => by rw [Ey] at h; cases h
 | t :: ts, c, e, h => by
  rw [E4, A5b] at h
  simp only [Af.bind] at h
  cases h1 : Bm (Be vb db) t (c.1 + 0, c.2 + more k) with
  | bad e' => rw [h1] at h; injection h with h; exact h ▸ lift_bad_ne' h1
  | ok x =>
   rw [h1] at h
   simp only at h
   cases h2 : Co (Be vb db) k ts c with
   | bad e' => rw [h2] at h; injection h with h; exact h ▸ Ra h2
   | ok y => rw [h2] at h; cases h
theorem Rc {vb db k : Int} : ∀ {bs : List Br} {c : Int × Int} {e : Int}, D7 (Be vb db) k bs c = .bad e → e ≠ 0
 | [], c, e, h => by rw [Di] at h; cases h
 | .mk f ks :: bs, c, e, h => by
  rw [Dj, Xd] at h
  simp only [Br.Ap, Br.kids] at h
  cases h0 : C9 db f c.2 with
  | bad e' => rw [h0] at h; injection h with h; exact h ▸ Tb h0
  | ok g =>
   rw [h0] at h
   simp only [Af.bind] at h
   cases h1 : Co (Be vb db) k ks c with
   | bad e' => rw [h1] at h; injection h with h; exact h ▸ Ra h1
   | ok x =>
    rw [h1] at h
    simp only at h
    cases h2 : D7 (Be vb db) k bs c with
    | bad e' => rw [h2] at h; injection h with h; exact h ▸ Rc h2
    | ok y => rw [h2] at h; cases h
end
theorem Spec.C1a {P : Program} {k : FuncId} {args : Array Value} {pre : List Fact} {Ms0 : List Az} {α X : Type} (r : α) {val : α → X → Value} {N : α → X → List Fact} {Ms1 : α → X → List Az} (h : Spec P k args pre Ms0 (val r) (N r) (Ms1 r)) :
  Spec P k args pre Ms0 (fun x : {x : α × X // x.1 = r} => val x.1.1 x.1.2) (fun x => N x.1.1 x.1.2) (fun x => Ms1 x.1.1 x.1.2) := fun ok w hk hs => (h ok w hk hs).mono fun e w' hh => by
 obtain ⟨x, he, hs'⟩ := hh
 exact ⟨⟨(r, x), rfl⟩, he, hs'⟩
section
variable {C : Type} {A : Tr C}
theorem B7f {α : Type} {d x : α} {l : List α} (h : x ∈ l) : ∃ i, i < l.length ∧ l.getD i d = x := by
 obtain ⟨i, hi, e⟩ := List.mem_iff_getElem.mp h
 exact ⟨i, hi, by rw [Gp (d := d) hi]; exact e⟩
theorem D1 {α β : Type} {x : Af α} {k : α → Af β} {e : Int} (h : x.bind k = .bad e) : x = .bad e ∨ ∃ a, x = .ok a ∧ k a = .bad e := by
 cases x with
 | ok a => exact .inr ⟨a, rfl, h⟩
 | bad e' => injection h with h; subst h; exact .inl rfl
theorem Xw {k : Int} {c : C} {e : Int} : ∀ {ts : List T} {i : Nat}, Dc A k i ts c = .bad e → ∃ j, j < ts.length ∧ (A.Nv c (binds k ((i + j : Nat) : Int)) = .bad e ∨ ∃ c', A.Nv c (binds k ((i + j : Nat) : Int)) = .ok c' ∧ Bm A (ts.getD j t0) c' = .bad e)
 | [], i, h => by rw [Em] at h; cases h
 | t :: ts, i, h => by
  rw [E5] at h
  rcases D1 h with h | ⟨c', h1, h⟩
  ·exact ⟨0, by simp, .inl (by simpa using h)⟩
  ·rcases D1 h with h | ⟨t', h2, h⟩
   ·exact ⟨0, by simp, .inr ⟨c', by simpa using h1, by simpa using h⟩⟩
   ·rcases D1 h with h | ⟨ts', h3, h⟩
    ·obtain ⟨j, hj, h4⟩ := Xw h
     refine ⟨j + 1, by simpa using hj, ?_⟩
     rw [List.getD_cons_succ, show i + (j + 1) = i + 1 + j by omega]; exact h4
    ·cases h
theorem Xt {k : Int} {c : C} {e : Int} : ∀ {ts : List T}, Co A k ts c = .bad e → ∃ j, j < ts.length ∧ (A.Nv c (0, more k) = .bad e ∨ ∃ c', A.Nv c (0, more k) = .ok c' ∧ Bm A (ts.getD j t0) c' = .bad e)
 | [], h => by rw [Ey] at h; cases h
 | t :: ts, h => by
  rw [E4] at h
  rcases D1 h with h | ⟨c', h1, h⟩
  ·exact ⟨0, by simp, .inl h⟩
  ·rcases D1 h with h | ⟨t', h2, h⟩
   ·exact ⟨0, by simp, .inr ⟨c', h1, by simpa using h⟩⟩
   ·rcases D1 h with h | ⟨ts', h3, h⟩
    ·obtain ⟨j, hj, h4⟩ := Xt h
     exact ⟨j + 1, by simpa using hj, by rw [List.getD_cons_succ]; exact h4⟩
    ·cases h
theorem S7 {k : Int} {c : C} {e : Int} : ∀ {bs : List Br}, D7 A k bs c = .bad e → ∃ b, b ∈ bs ∧ (A.Ap c b.Ap = .bad e ∨ Co A k b.kids c = .bad e)
 | [], h => by rw [Di] at h; cases h
 | b :: bs, h => by
  rw [Dj] at h
  rcases D1 h with h | ⟨o, h1, h⟩
  ·exact ⟨b, List.mem_cons_self, .inl h⟩
  ·cases o with
   | none => obtain ⟨x, hx, h⟩ := S7 h; exact ⟨x, List.mem_cons_of_mem _ hx, h⟩
   | some f' =>
    rcases D1 h with h | ⟨ks, h2, h⟩
    ·exact ⟨b, List.mem_cons_self, .inr h⟩
    ·rcases D1 h with h | ⟨us, h3, h⟩
     ·obtain ⟨x, hx, h⟩ := S7 h; exact ⟨x, List.mem_cons_of_mem _ hx, h⟩
     ·cases h
theorem A3b {t : T} {c : C} {e : Int} (h : Bm A t c = .bad e) : A.own c t.kind t.n t.name t.r = .bad e ∨ (∃ b, b ∈ t.sys ∧ A.Ap c b.Ap = .bad e) ∨ ∃ p, p ∈ parts t ∧ (A.Nv c p.2 = .bad e ∨ ∃ c', A.Nv c p.2 = .ok c' ∧ Bm A p.1 c' = .bad e) := by
 rw [Fx] at h
 rcases D1 h with h | ⟨o, h1, h⟩
 ·exact .inl h
 ·cases o with
  | inl u => cases h
  | inr p =>
   rcases D1 h with h | ⟨ks, h2, h⟩
   ·obtain ⟨j, hj, h3⟩ := Xw h
    rw [Nat.zero_add] at h3
    exact .inr (.inr ⟨_, List.mem_of_getElem? (Ll t j hj), h3⟩)
   ·rcases D1 h with h | ⟨ss, h3, h⟩
    ·obtain ⟨b, hb, h4⟩ := S7 h
     rcases h4 with h4 | h4
     ·exact .inr (.inl ⟨b, hb, h4⟩)
     ·obtain ⟨j, hj, h5⟩ := Xt h4
      obtain ⟨s, hs, e2⟩ := B7f (d := B5) hb
      refine .inr (.inr ⟨_, List.mem_of_getElem? (Lk t s j hs (by rw [e2]; exact hj)), ?_⟩)
      rw [e2]; exact h5
    ·cases h
end
theorem Lt {t : T} (h : Gb t) {p : Part} (hp : p ∈ parts t) : Gb p.1 := (W6.mp h).2 p hp
def vE (n : Int) : T := .mk 1 n ⟨#[]⟩ [] [] []
theorem B8t {t : T} {v d : Int} (hv : An v) (h : Lp t) : Lp (Ck t v d).2 := by
 refine guard_okT' (fun ha u hu => ?_)
 simp only [List.all_cons, List.all_nil, Bool.and_true, Bool.and_eq_true, decide_eq_true_eq] at ha
 obtain ⟨x, hx, hu⟩ := Af.A9 hu
 exact Vt A2 (Vt ⟨ha.1, B0o hv ha.1 ha.2.2⟩ h hx) hu
end Go.Hy
