/- Contracts of this program's functions and the laws that they need. -/
import Derived.Test.YtibignmpjeemeaaGreatDoorP4
set_option linter.unusedVariables false
set_option linter.unusedSimpArgs false
set_option linter.unusedSectionVars false
namespace Go.Hy
open Go.Proofs Go.Proofs.Tryz
theorem sm_ {p q : Prop} (h : p) (e : p = q := by
 try (conv => lhs; simp only [sC, bne_iff_ne, beq_iff_eq, ne_eq])
 try rfl) : q := e ▸ h
class Dk (P : Program) (k : FuncId) (fn : outParam Func) : Prop where
 f : P.funcs[k]? = some fn
structure Aq (p : Prop) : Prop where
 out : p
section
variable {P : Program} {f : FuncId} {R : Ending → World → Prop} {B : Ch} {n : Fz} {K : List Item} {σ : Nat → Value} {Γ Γ' : List Fact} {Ms : List Bb}
theorem f_ {k : FuncId} {fn : Func} [h : Dk P k fn] : P.funcs[k]? = some fn := h.f
theorem Qd {fn : Func} {id : Nat} {ops : Array Oper} [h9 : Dk P f fn] (h : E0 P f R B n K ops (List.range ops.size) σ Γ Ms) : F0 P f R B n (.code (.region id ops false) :: K) σ Γ Ms := go_region ⟨_, h9.f⟩ rfl h
theorem Rp {Q : Program} [Tab Q] {g : FuncId} {S : Ending → World → Prop} {C : Ch} {m : Fz} {L : List Item} {ops : Array Oper} {i : Nat} {l : List Nat} {τ : Nat → Value} {Δ : List Fact} {Ns : List Bb} {dst : Option Tmp} {op : Op} {ty : TypeId} {pos : String} {after : Array Edge} {e d : Nat} {want : Bool} {og : Oper} (ho : ops[i]? = some ⟨dst, op, ty, pos, after, some (e, want)⟩) (t : Bool) {p q : Prop} (kT : t = want → p → Ew Q g S C m L ops l (Cj dst op ty) (Ro τ d (.bool want)) Δ Ns) (kF : t = !want → q → E0 Q g S C m L ops l (Af (Ro τ d (.bool !want)) dst undef) Δ Ns) (hog : ops[e]? = some og := by exact rfl) (hgd : og.dst = some d := by exact rfl) (ht : τ d = .bool t := by exact Ab) (e1 : (t = want) = p := by
 try (conv => lhs; simp only [sC, bne_iff_ne, beq_iff_eq, ne_eq])
 try rfl) (e2 : (t = !want) = q := by
 try (conv => lhs; simp only [Bool.not_true, Bool.not_false, sC, bne_iff_ne, beq_iff_eq, ne_eq])
 try rfl) (hd : Ac m dst = true := by rfl) : E0 Q g S C m L ops (i :: l) τ Δ Ns := qI ho hog hgd ht (fun h => kT h (e1 ▸ h)) (fun h => kF h (e2 ▸ h)) hd
theorem Cc {d : Nat} {x y : Code} (t : Bool) {p q : Prop} (kT : t = true → p → F0 P f R B n (.code x :: K) (Ro σ d (.bool true)) Γ Ms) (kF : t = false → q → F0 P f R B n (.code y :: K) (Ro σ d (.bool false)) Γ Ms) (hc : σ d = .bool t := by exact Ab) (e1 : (t = true) = p := by
 try (conv => lhs; simp only [sC, bne_iff_ne, beq_iff_eq, ne_eq])
 try rfl) (e2 : (t = false) = q := by
 try (conv => lhs; simp only [sC, bne_iff_ne, beq_iff_eq, ne_eq])
 try rfl) : F0 P f R B n (.code (.cond (.tmp d) x y) :: K) σ Γ Ms := A7 (fun h => kT h (e1 ▸ h)) (fun h => kF h (e2 ▸ h)) hc
theorem Dv {fn : Func} {c : Code} {m : Nat} {args : List Value} {pre : List Fact} {Ms0 : List Bb} {X : Type} {val : X → Value} {N : X → List Fact} {Ms1 : X → List Bb} [h9 : Dk P f fn] (hn : fn.ntmps = m) (h : ∀ B : Ch, (∀ b, B.S0 b ↔ Bh Ms0 b) → F0 P f (Ends B val N Ms1) B ⟨m, [], .normal⟩ [.code c] (fun t => args.getD t undef) pre Ms0) (hb : fn.body = some c := by exact rfl) (ha : args.length ≤ m := by exact Nat.le_of_ble_eq_true rfl) : Spec P f args.toArray pre Ms0 val N Ms1 := Mn h9.f hn hb ha h
theorem St.l9 {w : World} (hs : St B Γ Ms w) (h : ∀ F, F ∈ Γ' → F ∈ Γ := by simp +contextual) : St B Γ' Ms w := hs.less h
theorem St.l7 {w : World} (hs : St B Γ Ms w) (h : ∀ F, F ∈ ([] : List Fact) → F ∈ Γ := by simp) : St B [] Ms w := hs.less h
theorem St.l8 {w : World} (hs : St B Γ Ms w) (h : ∀ F, F ∈ Γ' → F ∈ Γ := by simp) : St B Γ' Ms w := hs.less h
end
section
variable {p q : Prop}
theorem Ho (k : p) (h : Aq p → q := by intro h; refine D7d ?_; exact h.1) : q := h ⟨k⟩
theorem Ij (k : p) (h : Aq p → q := by intro h; refine D3n ?_; exact h.1) : q := h ⟨k⟩
theorem zq2 (k : p) (h : Aq p → q := by intro h; refine q0 rfl (C5u ?_); exact h.1) : q := h ⟨k⟩
theorem Ef (k : p) (h : Aq p → q := by intro h; refine q0 rfl (G8 ?_); exact h.1) : q := h ⟨k⟩
theorem zq4 (k : p) (h : Aq p → q := by intro h; refine qF rfl rfl rfl ?_; exact h.1) : q := h ⟨k⟩
theorem Mh (k : p) (h : Aq p → q := by intro h; refine go_skip ?_; exact h.1) : q := h ⟨k⟩
theorem zq6 (k : p) (h : Aq p → q := by intro h; refine q0 rfl (C1f ?_); exact h.1) : q := h ⟨k⟩
theorem zq7 (k : p) (h : Aq p → q := by intro h; refine q0 rfl (E2f ?_); exact h.1) : q := h ⟨k⟩
theorem zq8 (k : p) (h : Aq p → q := by intro h; refine q0 rfl (Xh ?_); exact h.1) : q := h ⟨k⟩
theorem zq9 (k : p) (h : Aq p → q := by intro h; refine q0 rfl (D4k ?_); exact h.1) : q := h ⟨k⟩
theorem Hq (k : p) (h : Aq p → q := by intro h; refine C7f ?_; exact h.1) : q := h ⟨k⟩
theorem D3c (k : p) (h : Aq p → q := by intro h; refine q0 rfl (X1 ?_); exact h.1) : q := h ⟨k⟩
theorem D3b (k : p) (h : Aq p → q := by intro h; refine q0 rfl (B8e ?_); exact h.1) : q := h ⟨k⟩
theorem J5 (k : p) (h : Aq p → q := by intro h; refine q0 rfl (Ul ?_); exact h.1) : q := h ⟨k⟩
theorem F1 (k : p) (h : Aq p → q := by intro h; refine n0 rfl (C3p ?_); exact h.1) : q := h ⟨k⟩
theorem Xz (k : p) (h : Aq p → q := by intro h; refine B6c ?_; exact h.1) : q := h ⟨k⟩
theorem Rm (k : p) (h : Aq p → q := by intro h; refine q0 rfl (D9h ?_); exact h.1) : q := h ⟨k⟩
theorem A1g (k : p) (h : Aq p → q := by intro h; refine nF rfl rfl rfl ?_; exact h.1) : q := h ⟨k⟩
theorem Dz (k : p) (h : Aq p → q := by intro h; refine D0x rfl ?_; exact h.1) : q := h ⟨k⟩
theorem D3a (k : p) (h : Aq p → q := by intro h; refine q0 rfl (B8f ?_); exact h.1) : q := h ⟨k⟩
theorem Xy (k : p) (h : Aq p → q := by intro h; refine n0 rfl (Rn ?_); exact h.1) : q := h ⟨k⟩
theorem Kg (k : p) (h : Aq p → q := by intro h; refine q0 rfl (A4g ?_); exact h.1) : q := h ⟨k⟩
theorem D2y (k : p) (h : Aq p → q := by intro h; refine n0 rfl (D8a ?_); exact h.1) : q := h ⟨k⟩
theorem Kf (k : p) (h : Aq p → q := by intro h; refine NV.done ?_; exact h.1) : q := h ⟨k⟩
theorem C9b (k : p) (h : Aq p → q := by intro h; refine q0 rfl (B1n ?_); exact h.1) : q := h ⟨k⟩
theorem Vf (k : p) (h : Aq p → q := by intro h; refine q0 rfl (A4f ?_); exact h.1) : q := h ⟨k⟩
theorem Se (k : p) (h : Aq p → q := by intro h; refine qT rfl rfl rfl (D4k ?_); exact h.1) : q := h ⟨k⟩
theorem C3i (k : p) (h : Aq p → q := by intro h; refine C7e ?_; exact h.1) : q := h ⟨k⟩
theorem Lr (k : p) (h : Aq p → q := by intro h; refine n0 rfl (D7y ?_); exact h.1) : q := h ⟨k⟩
theorem Ii (k : p) (h : Aq p → q := by intro h; refine qT rfl rfl rfl (G8 ?_); exact h.1) : q := h ⟨k⟩
theorem O8 (k : p) (h : Aq p → q := by intro h; refine q0 rfl (D9e ?_); exact h.1) : q := h ⟨k⟩
theorem C3h (k : p) (h : Aq p → q := by intro h; refine nU rfl rfl rfl ?_; exact h.1) : q := h ⟨k⟩
theorem Lq (k : p) (h : Aq p → q := by intro h; refine q0 rfl (D9f ?_); exact h.1) : q := h ⟨k⟩
theorem B9x (k : p) (h : Aq p → q := by intro h; refine q0 rfl (D2b ?_); exact h.1) : q := h ⟨k⟩
theorem C9a (k : p) (h : Aq p → q := by intro h; refine qU rfl rfl rfl ?_; exact h.1) : q := h ⟨k⟩
theorem O7 (k : p) (h : Aq p → q := by intro h; refine n0 rfl (D8c ?_); exact h.1) : q := h ⟨k⟩
theorem Pf (k : p) (h : Aq p → q := by intro h; refine q0 rfl (B5m ?_); exact h.1) : q := h ⟨k⟩
theorem A1f (k : p) (h : Aq p → q := by intro h; refine qT rfl rfl rfl (X1 ?_); exact h.1) : q := h ⟨k⟩
theorem Pe (k : p) (h : Aq p → q := by intro h; refine nT rfl rfl rfl (D8a ?_); exact h.1) : q := h ⟨k⟩
theorem A9g (k : p) (h : Aq p → q := by intro h; refine n0 rfl (B7e ?_); exact h.1) : q := h ⟨k⟩
theorem A5w (k : p) (h : Aq p → q := by intro h; refine n0 rfl (D7z ?_); exact h.1) : q := h ⟨k⟩
theorem D2x (k : p) (h : Aq p → q := by intro h; refine q0 rfl (D8y ?_); exact h.1) : q := h ⟨k⟩
theorem Tf (k : p) (h : Aq p → q := by intro h; refine q0 rfl (Ct ?_); exact h.1) : q := h ⟨k⟩
theorem Td (k : p) (h : Aq p → q := by intro h; refine q0 rfl (B8h ?_); exact h.1) : q := h ⟨k⟩
theorem Xg (k : p) (h : Aq p → q := by intro h; refine G8 ?_; exact h.1) : q := h ⟨k⟩
theorem Xx (k : p) (h : Aq p → q := by intro h; refine n0 rfl (B7d ?_); exact h.1) : q := h ⟨k⟩
theorem A1d (k : p) (h : Aq p → q := by intro h; refine nT rfl rfl rfl (C3p ?_); exact h.1) : q := h ⟨k⟩
theorem A1c (k : p) (h : Aq p → q := by intro h; refine n0 rfl (C3r ?_); exact h.1) : q := h ⟨k⟩
theorem A5v (k : p) (h : Aq p → q := by intro h; refine qT rfl rfl rfl (D2b ?_); exact h.1) : q := h ⟨k⟩
theorem A9f (k : p) (h : Aq p → q := by intro h; refine q0 rfl (D9g ?_); exact h.1) : q := h ⟨k⟩
theorem A9e (k : p) (h : Aq p → q := by intro h; refine q0 rfl (Ze ?_); exact h.1) : q := h ⟨k⟩
theorem A9d (k : p) (h : Aq p → q := by intro h; refine qT rfl rfl rfl (B8e ?_); exact h.1) : q := h ⟨k⟩
theorem A9c (k : p) (h : Aq p → q := by intro h; refine n0 rfl (B9z ?_); exact h.1) : q := h ⟨k⟩
theorem B4b (k : p) (h : Aq p → q := by intro h; refine q0 rfl (A4h ?_); exact h.1) : q := h ⟨k⟩
theorem B4a (k : p) (h : Aq p → q := by intro h; refine qT rfl rfl rfl (B8f ?_); exact h.1) : q := h ⟨k⟩
theorem B3z (k : p) (h : Aq p → q := by intro h; refine nT rfl rfl rfl (B7d ?_); exact h.1) : q := h ⟨k⟩
theorem B3y (k : p) (h : Aq p → q := by intro h; refine nT rfl rfl rfl (B7e ?_); exact h.1) : q := h ⟨k⟩
theorem B9w (k : p) (h : Aq p → q := by intro h; refine q0 rfl (D8x ?_); exact h.1) : q := h ⟨k⟩
theorem B9v (k : p) (h : Aq p → q := by intro h; refine qT rfl rfl rfl (D9d ?_); exact h.1) : q := h ⟨k⟩
theorem B9u (k : p) (h : Aq p → q := by intro h; refine nT rfl rfl rfl (Rn ?_); exact h.1) : q := h ⟨k⟩
theorem B9t (k : p) (h : Aq p → q := by intro h; refine q0 rfl (D4g ?_); exact h.1) : q := h ⟨k⟩
theorem B9s (k : p) (h : Aq p → q := by intro h; refine q0 rfl (D4i ?_); exact h.1) : q := h ⟨k⟩
theorem Ay (k : p) (h : Aq p → q := by intro h; refine Ho ?_; refine Qd ?_; exact h.1) : q := h ⟨k⟩
theorem Ce (k : p) (h : Aq p → q := by intro h; refine zq2 ?_; refine Ij ?_; exact h.1) : q := h ⟨k⟩
theorem Es (k : p) (h : Aq p → q := by intro h; refine Ay ?_; refine Ef ?_; exact h.1) : q := h ⟨k⟩
theorem J9 (k : p) (h : Aq p → q := by intro h; refine zq2 ?_; refine Ce ?_; exact h.1) : q := h ⟨k⟩
theorem Cv (k : p) (h : Aq p → q := by intro h; refine Ay ?_; refine Ce ?_; exact h.1) : q := h ⟨k⟩
theorem Fc (k : p) (h : Aq p → q := by intro h; refine zq4 ?_; refine zq4 ?_; exact h.1) : q := h ⟨k⟩
theorem Lp (k : p) (h : Aq p → q := by intro h; refine zq8 ?_; refine zq9 ?_; exact h.1) : q := h ⟨k⟩
theorem D2w (k : p) (h : Aq p → q := by intro h; refine Ef ?_; refine Ij ?_; exact h.1) : q := h ⟨k⟩
theorem B9r (k : p) (h : Aq p → q := by intro h; refine zq6 ?_; refine zq6 ?_; exact h.1) : q := h ⟨k⟩
theorem Ha (k : p) (h : Aq p → q := by intro h; refine Ho ?_; refine Es ?_; exact h.1) : q := h ⟨k⟩
theorem E8 (k : p) (h : Aq p → q := by intro h; refine zq7 ?_; refine Ij ?_; exact h.1) : q := h ⟨k⟩
theorem A1b (k : p) (h : Aq p → q := by intro h; refine D3c ?_; refine Ce ?_; exact h.1) : q := h ⟨k⟩
theorem Ey (k : p) (h : Aq p → q := by intro h; refine Qd ?_; refine Ef ?_; exact h.1) : q := h ⟨k⟩
theorem Jt (k : p) (h : Aq p → q := by intro h; refine Mh ?_; refine Ho ?_; exact h.1) : q := h ⟨k⟩
theorem Ex (k : p) (h : Aq p → q := by intro h; refine zq7 ?_; refine Ce ?_; exact h.1) : q := h ⟨k⟩
theorem Mj (k : p) (h : Aq p → q := by intro h; refine B9r ?_; refine J9 ?_; exact h.1) : q := h ⟨k⟩
theorem Fa (k : p) (h : Aq p → q := by intro h; refine Ay ?_; refine A1b ?_; exact h.1) : q := h ⟨k⟩
theorem Gl (k : p) (h : Aq p → q := by intro h; refine Xy ?_; refine D2y ?_; exact h.1) : q := h ⟨k⟩
theorem D7v (k : p) (h : Aq p → q := by intro h; refine Qd ?_; refine Rm ?_; refine D2w ?_; exact h.1) : q := h ⟨k⟩
theorem Xf (k : p) (h : Aq p → q := by intro h; refine C9b ?_; refine Ij ?_; exact h.1) : q := h ⟨k⟩
theorem Tc (k : p) (h : Aq p → q := by intro h; refine Xz ?_; refine D7v ?_; exact h.1) : q := h ⟨k⟩
theorem Xe (k : p) (h : Aq p → q := by intro h; refine Ij ?_; refine Ho ?_; exact h.1) : q := h ⟨k⟩
theorem Hd (k : p) (h : Aq p → q := by intro h; refine Ay ?_; refine Lp ?_; exact h.1) : q := h ⟨k⟩
theorem Sd (k : p) (h : Aq p → q := by intro h; refine D3b ?_; refine Ef ?_; exact h.1) : q := h ⟨k⟩
theorem A5u (k : p) (h : Aq p → q := by intro h; refine Jt ?_; refine Hq ?_; exact h.1) : q := h ⟨k⟩
theorem Hc (k : p) (h : Aq p → q := by intro h; refine Ay ?_; refine J9 ?_; exact h.1) : q := h ⟨k⟩
theorem Hp (k : p) (h : Aq p → q := by intro h; refine Ay ?_; refine J5 ?_; exact h.1) : q := h ⟨k⟩
theorem Mi (k : p) (h : Aq p → q := by intro h; refine Fc ?_; refine zq4 ?_; exact h.1) : q := h ⟨k⟩
theorem J4 (k : p) (h : Aq p → q := by intro h; refine Ce ?_; refine Ho ?_; exact h.1) : q := h ⟨k⟩
theorem Gs (k : p) (h : Aq p → q := by intro h; refine Ay ?_; refine Vf ?_; refine Xe ?_; exact h.1) : q := h ⟨k⟩
theorem D2v (k : p) (h : Aq p → q := by intro h; refine Kg ?_; refine D2w ?_; exact h.1) : q := h ⟨k⟩
theorem N0 (k : p) (h : Aq p → q := by intro h; refine Ef ?_; refine Mj ?_; exact h.1) : q := h ⟨k⟩
theorem Ve (k : p) (h : Aq p → q := by intro h; refine D2v ?_; refine Hq ?_; exact h.1) : q := h ⟨k⟩
theorem Ke (k : p) (h : Aq p → q := by intro h; refine D3b ?_; refine Ij ?_; exact h.1) : q := h ⟨k⟩
theorem I0 (k : p) (h : Aq p → q := by intro h; refine Qd ?_; refine Lp ?_; exact h.1) : q := h ⟨k⟩
theorem Nk (k : p) (h : Aq p → q := by intro h; refine Mh ?_; refine Es ?_; exact h.1) : q := h ⟨k⟩
theorem I3 (k : p) (h : Aq p → q := by intro h; refine Es ?_; refine J9 ?_; exact h.1) : q := h ⟨k⟩
theorem A9b (k : p) (h : Aq p → q := by intro h; refine Mh ?_; refine C3i ?_; exact h.1) : q := h ⟨k⟩
theorem I6 (k : p) (h : Aq p → q := by intro h; refine Kf ?_; refine Ij ?_; exact h.1) : q := h ⟨k⟩
theorem Iq (k : p) (h : Aq p → q := by intro h; refine A1g ?_; refine A1g ?_; exact h.1) : q := h ⟨k⟩
theorem Lu (k : p) (h : Aq p → q := by intro h; refine D3c ?_; refine Ij ?_; exact h.1) : q := h ⟨k⟩
theorem Gt (k : p) (h : Aq p → q := by intro h; refine D3a ?_; refine Ce ?_; exact h.1) : q := h ⟨k⟩
theorem H8 (k : p) (h : Aq p → q := by intro h; refine A9b ?_; refine Cv ?_; exact h.1) : q := h ⟨k⟩
theorem H7 (k : p) (h : Aq p → q := by intro h; refine D3b ?_; refine Ce ?_; exact h.1) : q := h ⟨k⟩
theorem He (k : p) (h : Aq p → q := by intro h; refine Mh ?_; refine Tc ?_; exact h.1) : q := h ⟨k⟩
theorem Hz (k : p) (h : Aq p → q := by intro h; refine D3a ?_; refine Ef ?_; exact h.1) : q := h ⟨k⟩
theorem Hx (k : p) (h : Aq p → q := by intro h; refine F1 ?_; refine F1 ?_; exact h.1) : q := h ⟨k⟩
theorem A2f (k : p) (h : Aq p → q := by intro h; refine Ha ?_; refine Xf ?_; exact h.1) : q := h ⟨k⟩
theorem Ml (k : p) (h : Aq p → q := by intro h; refine Sd ?_; refine Mi ?_; exact h.1) : q := h ⟨k⟩
theorem I5 (k : p) (h : Aq p → q := by intro h; refine Mh ?_; refine Xz ?_; exact h.1) : q := h ⟨k⟩
theorem I4 (k : p) (h : Aq p → q := by intro h; refine Cv ?_; refine Es ?_; exact h.1) : q := h ⟨k⟩
theorem Ip (k : p) (h : Aq p → q := by intro h; refine Ef ?_; refine Ef ?_; exact h.1) : q := h ⟨k⟩
theorem Tp (k : p) (h : Aq p → q := by intro h; refine Es ?_; refine Xf ?_; exact h.1) : q := h ⟨k⟩
theorem P8 (k : p) (h : Aq p → q := by intro h; refine Xh ?_; refine Se ?_; exact h.1) : q := h ⟨k⟩
theorem Jb (k : p) (h : Aq p → q := by intro h; refine A5u ?_; refine Ay ?_; exact h.1) : q := h ⟨k⟩
theorem Wi (k : p) (h : Aq p → q := by intro h; refine Cv ?_; refine Ha ?_; exact h.1) : q := h ⟨k⟩
theorem Ja (k : p) (h : Aq p → q := by intro h; refine D3a ?_; refine Ij ?_; exact h.1) : q := h ⟨k⟩
theorem Jw (k : p) (h : Aq p → q := by intro h; refine B9x ?_; refine Ij ?_; exact h.1) : q := h ⟨k⟩
theorem To (k : p) (h : Aq p → q := by intro h; refine Fc ?_; refine Fc ?_; exact h.1) : q := h ⟨k⟩
theorem Jv (k : p) (h : Aq p → q := by intro h; refine A5u ?_; refine Ho ?_; exact h.1) : q := h ⟨k⟩
theorem Ki (k : p) (h : Aq p → q := by intro h; refine E8 ?_; refine Ho ?_; exact h.1) : q := h ⟨k⟩
theorem Kh (k : p) (h : Aq p → q := by intro h; refine N0 ?_; refine A2f ?_; exact h.1) : q := h ⟨k⟩
theorem L0 (k : p) (h : Aq p → q := by intro h; refine Es ?_; refine Ce ?_; exact h.1) : q := h ⟨k⟩
theorem Kz (k : p) (h : Aq p → q := by intro h; refine Ce ?_; refine Tc ?_; exact h.1) : q := h ⟨k⟩
theorem Ky (k : p) (h : Aq p → q := by intro h; refine Ey ?_; refine Ef ?_; exact h.1) : q := h ⟨k⟩
theorem Lt (k : p) (h : Aq p → q := by intro h; refine Ho ?_; refine Ho ?_; exact h.1) : q := h ⟨k⟩
theorem Ls (k : p) (h : Aq p → q := by intro h; refine Ef ?_; refine B9r ?_; exact h.1) : q := h ⟨k⟩
theorem No (k : p) (h : Aq p → q := by intro h; refine Ha ?_; refine Lu ?_; exact h.1) : q := h ⟨k⟩
theorem Nn (k : p) (h : Aq p → q := by intro h; refine Es ?_; refine J5 ?_; exact h.1) : q := h ⟨k⟩
theorem A9h (k : p) (h : Aq p → q := by intro h; refine D2x ?_; refine Ij ?_; exact h.1) : q := h ⟨k⟩
theorem Nl (k : p) (h : Aq p → q := by intro h; refine Nk ?_; refine Ef ?_; exact h.1) : q := h ⟨k⟩
theorem P7 (k : p) (h : Aq p → q := by intro h; refine Hd ?_; refine Ve ?_; exact h.1) : q := h ⟨k⟩
theorem P6 (k : p) (h : Aq p → q := by intro h; refine Rm ?_; refine Ce ?_; exact h.1) : q := h ⟨k⟩
theorem P5 (k : p) (h : Aq p → q := by intro h; refine Ce ?_; refine Tp ?_; exact h.1) : q := h ⟨k⟩
theorem P4 (k : p) (h : Aq p → q := by intro h; refine Wi ?_; refine Ve ?_; exact h.1) : q := h ⟨k⟩
theorem P3 (k : p) (h : Aq p → q := by intro h; refine B9r ?_; refine Ex ?_; exact h.1) : q := h ⟨k⟩
theorem P2 (k : p) (h : Aq p → q := by intro h; refine zq8 ?_; refine O8 ?_; exact h.1) : q := h ⟨k⟩
theorem Pp (k : p) (h : Aq p → q := by intro h; refine Lp ?_; refine Ef ?_; exact h.1) : q := h ⟨k⟩
theorem Po (k : p) (h : Aq p → q := by intro h; refine Cv ?_; refine Ho ?_; exact h.1) : q := h ⟨k⟩
theorem Pn (k : p) (h : Aq p → q := by intro h; refine Ay ?_; refine zq9 ?_; exact h.1) : q := h ⟨k⟩
theorem Pm (k : p) (h : Aq p → q := by intro h; refine Iq ?_; refine A1g ?_; exact h.1) : q := h ⟨k⟩
theorem Pl (k : p) (h : Aq p → q := by intro h; refine C3h ?_; refine C3h ?_; exact h.1) : q := h ⟨k⟩
theorem Pk (k : p) (h : Aq p → q := by intro h; refine zq7 ?_; refine E8 ?_; exact h.1) : q := h ⟨k⟩
theorem D1r (k : p) (h : Aq p → q := by intro h; refine Mh ?_; refine Dz ?_; exact h.1) : q := h ⟨k⟩
theorem Rz (k : p) (h : Aq p → q := by intro h; refine Qd ?_; refine A1b ?_; exact h.1) : q := h ⟨k⟩
theorem Ry (k : p) (h : Aq p → q := by intro h; refine C9a ?_; refine C9a ?_; exact h.1) : q := h ⟨k⟩
theorem Rx (k : p) (h : Aq p → q := by intro h; refine J4 ?_; refine Ho ?_; exact h.1) : q := h ⟨k⟩
theorem Rw (k : p) (h : Aq p → q := by intro h; refine A9g ?_; refine I6 ?_; exact h.1) : q := h ⟨k⟩
theorem Rv (k : p) (h : Aq p → q := by intro h; refine D3c ?_; refine Ef ?_; exact h.1) : q := h ⟨k⟩
theorem Ru (k : p) (h : Aq p → q := by intro h; refine Mh ?_; refine Hp ?_; exact h.1) : q := h ⟨k⟩
theorem Rt (k : p) (h : Aq p → q := by intro h; refine Gl ?_; refine Lr ?_; exact h.1) : q := h ⟨k⟩
theorem Rs (k : p) (h : Aq p → q := by intro h; refine Sd ?_; refine To ?_; exact h.1) : q := h ⟨k⟩
theorem Tn (k : p) (h : Aq p → q := by intro h; refine Ho ?_; refine Fa ?_; exact h.1) : q := h ⟨k⟩
theorem Tm (k : p) (h : Aq p → q := by intro h; refine D1r ?_; refine Hc ?_; exact h.1) : q := h ⟨k⟩
theorem Tl (k : p) (h : Aq p → q := by intro h; refine Ey ?_; refine J5 ?_; exact h.1) : q := h ⟨k⟩
theorem Tk (k : p) (h : Aq p → q := by intro h; refine Ml ?_; refine Ke ?_; exact h.1) : q := h ⟨k⟩
theorem Tj (k : p) (h : Aq p → q := by intro h; refine zq8 ?_; refine A9h ?_; exact h.1) : q := h ⟨k⟩
theorem Ti (k : p) (h : Aq p → q := by intro h; refine qT rfl rfl rfl (Xh ?_); refine Se ?_; exact h.1) : q := h ⟨k⟩
theorem Th (k : p) (h : Aq p → q := by intro h; refine A5w ?_; refine Gl ?_; exact h.1) : q := h ⟨k⟩
theorem Tg (k : p) (h : Aq p → q := by intro h; refine P8 ?_; refine A1f ?_; exact h.1) : q := h ⟨k⟩
end
instance : Dk prog 11 f11 := ⟨func11⟩
instance : Dk prog 20 f20 := ⟨func20⟩
instance : Dk prog 24 f24 := ⟨func24⟩
instance : Dk prog 31 f31 := ⟨func31⟩
instance : Dk prog 36 f36 := ⟨func36⟩
instance : Dk prog 37 f37 := ⟨func37⟩
instance : Dk prog 39 f39 := ⟨func39⟩
instance : Dk prog 40 f40 := ⟨func40⟩
instance : Dk prog 41 f41 := ⟨func41⟩
instance : Dk prog 42 f42 := ⟨func42⟩
instance : Dk prog 43 f43 := ⟨func43⟩
instance : Dk prog 45 f45 := ⟨func45⟩
instance : Dk prog 58 f58 := ⟨func58⟩
instance : Dk prog 59 f59 := ⟨func59⟩
instance : Dk prog 60 f60 := ⟨func60⟩
instance : Dk prog 61 f61 := ⟨func61⟩
instance : Dk prog 62 f62 := ⟨func62⟩
instance : Dk prog 63 f63 := ⟨func63⟩
instance : Dk prog 64 f64 := ⟨func64⟩
instance : Dk prog 75 f75 := ⟨func75⟩
instance : Dk prog 76 f76 := ⟨func76⟩
instance : Dk prog 77 f77 := ⟨func77⟩
instance : Dk prog 80 f80 := ⟨func80⟩
instance : Dk prog 81 f81 := ⟨func81⟩
instance : Dk prog 82 f82 := ⟨func82⟩
instance : Dk prog 83 f83 := ⟨func83⟩
instance : Dk prog 84 f84 := ⟨func84⟩
instance : Dk prog 85 f85 := ⟨func85⟩
instance : Dk prog 86 f86 := ⟨func86⟩
instance : Dk prog 87 f87 := ⟨func87⟩
instance : Dk prog 88 f88 := ⟨func88⟩
instance : Dk prog 89 f89 := ⟨func89⟩
instance : Dk prog 90 f90 := ⟨func90⟩
instance : Dk prog 103 f103 := ⟨func103⟩
instance : Dk prog 104 f104 := ⟨func104⟩
instance : Dk prog 105 f105 := ⟨func105⟩
instance : Dk prog 106 f106 := ⟨func106⟩
instance : Dk prog 107 f107 := ⟨func107⟩
instance : Dk prog 108 f108 := ⟨func108⟩
instance : Dk prog 109 f109 := ⟨func109⟩
instance : Dk prog 110 f110 := ⟨func110⟩
instance : Dk prog 111 f111 := ⟨func111⟩
instance : Dk prog 112 f112 := ⟨func112⟩
instance : Dk prog 114 f114 := ⟨func114⟩
instance : Dk prog 118 f118 := ⟨func118⟩
instance : Dk prog 124 f124 := ⟨func124⟩
instance : Dk prog 132 f132 := ⟨func132⟩
instance : Dk prog 133 f133 := ⟨func133⟩
instance : Dk prog 134 f134 := ⟨func134⟩
instance : Dk prog 135 f135 := ⟨func135⟩
instance : Dk prog 136 f136 := ⟨func136⟩
instance : Dk prog 137 f137 := ⟨func137⟩
instance : Dk prog 138 f138 := ⟨func138⟩
instance : Dk prog 139 f139 := ⟨func139⟩
instance : Dk prog 140 f140 := ⟨func140⟩
instance : Dk prog 141 f141 := ⟨func141⟩
instance : Dk prog 142 f142 := ⟨func142⟩
instance : Dk prog 151 f151 := ⟨func151⟩
instance : Dk prog 152 f152 := ⟨func152⟩
instance : Dk prog 153 f153 := ⟨func153⟩
instance : Dk prog 154 f154 := ⟨func154⟩
instance : Dk prog 155 f155 := ⟨func155⟩
instance : Dk prog 156 f156 := ⟨func156⟩
instance : Dk prog 157 f157 := ⟨func157⟩
instance : Dk prog 158 f158 := ⟨func158⟩
instance : Dk prog 159 f159 := ⟨func159⟩
instance : Dk prog 160 f160 := ⟨func160⟩
instance : Dk prog 161 f161 := ⟨func161⟩
instance : Dk prog 162 f162 := ⟨func162⟩
instance : Dk prog 163 f163 := ⟨func163⟩
instance : Dk prog 164 f164 := ⟨func164⟩
instance : Dk prog 165 f165 := ⟨func165⟩
instance : Dk prog 166 f166 := ⟨func166⟩
instance : Dk prog 167 f167 := ⟨func167⟩
instance : Dk prog 168 f168 := ⟨func168⟩
instance : Dk prog 169 f169 := ⟨func169⟩
instance : Dk prog 170 f170 := ⟨func170⟩
instance : Dk prog 171 f171 := ⟨func171⟩
instance : Dk prog 173 f173 := ⟨func173⟩
instance : Dk prog 174 f174 := ⟨func174⟩
instance : Dk prog 186 f186 := ⟨func186⟩
instance : Dk prog 187 f187 := ⟨func187⟩
instance : Dk prog 188 f188 := ⟨func188⟩
instance : Dk prog 189 f189 := ⟨func189⟩
instance : Dk prog 190 f190 := ⟨func190⟩
instance : Dk prog 191 f191 := ⟨func191⟩
instance : Dk prog 192 f192 := ⟨func192⟩
instance : Dk prog 193 f193 := ⟨func193⟩
instance : Dk prog 194 f194 := ⟨func194⟩
instance : Dk prog 195 f195 := ⟨func195⟩
instance : Dk prog 196 f196 := ⟨func196⟩
instance : Dk prog 197 f197 := ⟨func197⟩
instance : Dk prog 198 f198 := ⟨func198⟩
instance : Dk prog 199 f199 := ⟨func199⟩
instance : Dk prog 200 f200 := ⟨func200⟩
instance : Dk prog 203 f203 := ⟨func203⟩
instance : Dk prog 204 f204 := ⟨func204⟩
instance : Dk prog 205 f205 := ⟨func205⟩
instance : Dk prog 219 f219 := ⟨func219⟩
instance : Dk prog 220 f220 := ⟨func220⟩
instance : Dk prog 221 f221 := ⟨func221⟩
instance : Dk prog 222 f222 := ⟨func222⟩
instance : Dk prog 223 f223 := ⟨func223⟩
instance : Dk prog 231 f231 := ⟨func231⟩
instance : Dk prog 232 f232 := ⟨func232⟩
instance : Dk prog 233 f233 := ⟨func233⟩
instance : Dk prog 234 f234 := ⟨func234⟩
instance : Dk prog 235 f235 := ⟨func235⟩
instance : Dk prog 236 f236 := ⟨func236⟩
instance : Dk prog 237 f237 := ⟨func237⟩
instance : Dk prog 238 f238 := ⟨func238⟩
instance : Dk prog 239 f239 := ⟨func239⟩
instance : Dk prog 240 f240 := ⟨func240⟩
instance : Dk prog 241 f241 := ⟨func241⟩
instance : Dk prog 248 f248 := ⟨func248⟩
instance : Dk prog 249 f249 := ⟨func249⟩
instance : Dk prog 250 f250 := ⟨func250⟩
instance : Dk prog 251 f251 := ⟨func251⟩
instance : Dk prog 255 f255 := ⟨func255⟩
instance : Dk prog 256 f256 := ⟨func256⟩
instance : Dk prog 264 f264 := ⟨func264⟩
instance : Dk prog 265 f265 := ⟨func265⟩
instance : Dk prog 270 f270 := ⟨func270⟩
instance : Dk prog 271 f271 := ⟨func271⟩
instance : Dk prog 272 f272 := ⟨func272⟩
set_option maxRecDepth 100000
theorem Mg (k i : Int) : Spec prog 62 #[iv k, iv i] [] [] (fun _ : Unit => .tuple #[iv (binds k i).1, iv (binds k i).2]) (fun _ => []) (fun _ => []) := by
 refine Dv ntmps62 fun B hB => ?_
 refine Hc ?_; refine Ha ?_; refine Ij ?_; refine Hq ?_; refine Ho ?_; refine Hq ?_; refine Ho ?_; refine Hq ?_; refine Hq ?_; refine Hq ?_; refine Ho ?_; refine Hq ?_; refine Lt ?_; refine Tn ?_; refine A7 (fun h7 => ?_) (fun h7 => ?_)
 ·refine A9b ?_; refine Dz ?_; refine No ?_; refine A7 (fun h21 => ?_) (fun h21 => ?_)
  ·refine Hc ?_; refine C9 f_ rfl Ab Ab () (by simp_all [binds]) (fun w hs => hs.none)
  ·refine Tm ?_; refine C9 f_ rfl Ab Ab () (by simp_all [binds]) (fun w hs => hs.none)
 ·refine Rz ?_; refine A7 (fun h7 => ?_) (fun h7 => ?_)
  ·refine Dz ?_; refine No ?_; refine A7 (fun h21 => ?_) (fun h21 => ?_)
   ·refine Hc ?_; refine C9 f_ rfl Ab Ab () (by simp_all [binds]) (fun w hs => hs.none)
   ·refine Tm ?_; refine C9 f_ rfl Ab Ab () (by simp_all [binds]) (fun w hs => hs.none)
  ·refine Jt ?_; refine Fa ?_; refine A7 (fun h10 => ?_) (fun h10 => ?_)
   ·refine Dz ?_; refine Xz ?_; refine Xz ?_; refine No ?_; refine A7 (fun h23 => ?_) (fun h23 => ?_)
    ·refine Hc ?_; refine C9 f_ rfl Ab Ab () (by simp_all [binds]) (fun w hs => hs.none)
    ·refine Tm ?_; refine C9 f_ rfl Ab Ab () (by simp_all [binds]) (fun w hs => hs.none)
   ·refine Jt ?_; refine Fa ?_; refine A7 (fun h12 => ?_) (fun h12 => ?_)
    ·refine Dz ?_; refine Xz ?_; refine No ?_; refine A7 (fun h23 => ?_) (fun h23 => ?_)
     ·refine Hc ?_; refine C9 f_ rfl Ab Ab () (by simp_all [binds]) (fun w hs => hs.none)
     ·refine Tm ?_; refine C9 f_ rfl Ab Ab () (by simp_all [binds]) (fun w hs => hs.none)
    ·refine Jt ?_; refine Fa ?_; refine A7 (fun h14 => ?_) (fun h14 => ?_)
     ·refine Dz ?_; refine No ?_; refine A7 (fun h23 => ?_) (fun h23 => ?_)
      ·refine Hc ?_; refine C9 f_ rfl Ab Ab () (by simp_all [binds]) (fun w hs => hs.none)
      ·refine Tm ?_; refine C9 f_ rfl Ab Ab () (by simp_all [binds]) (fun w hs => hs.none)
     ·refine Jt ?_; refine Fa ?_; refine A7 (fun h16 => ?_) (fun h16 => ?_)
      ·refine A9b ?_; refine Dz ?_; refine No ?_; refine A7 (fun h25 => ?_) (fun h25 => ?_)
       ·refine Hc ?_; refine C9 f_ rfl Ab Ab () (by simp_all [binds]) (fun w hs => hs.none)
       ·refine Tm ?_; refine C9 f_ rfl Ab Ab () (by simp_all [binds]) (fun w hs => hs.none)
      ·refine Fa ?_; refine A7 (fun h16 => ?_) (fun h16 => ?_)
       ·refine A9b ?_; refine Dz ?_; refine No ?_; refine A7 (fun h25 => ?_) (fun h25 => ?_)
        ·refine Hc ?_; refine C9 f_ rfl Ab Ab () (by simp_all [binds]) (fun w hs => hs.none)
        ·refine Tm ?_; refine C9 f_ rfl Ab Ab () (by simp_all [binds]) (fun w hs => hs.none)
       ·refine Rz ?_; refine A7 (fun h16 => ?_) (fun h16 => ?_)
        ·refine Dz ?_; refine No ?_; refine A7 (fun h25 => ?_) (fun h25 => ?_)
         ·refine Hc ?_; refine C9 f_ rfl Ab Ab () (by simp_all [binds]) (fun w hs => hs.none)
         ·refine Tm ?_; refine C9 f_ rfl Ab Ab () (by simp_all [binds]) (fun w hs => hs.none)
        ·refine Tm ?_; refine C9 f_ rfl Ab Ab () (by simp_all [binds]) (fun w hs => hs.none)
theorem W9 (t : T) (vr vk vs : SH) (c : FuncId) (cap : List Value) (FΓ : List Fact) (SM SF : Nat → List Bb) (β : Nat → Bool)
  (hc : ∀ (args : Array Value) (w : World), (callFunc c args).run prog w = .ok (.enter c args) w)
  (hcl : ∀ m k v d, (parts t)[m]? = some (k, v, d) → (∀ j, j < m → β j = true) → ∀ vr vk vs, Spec prog c (.agg (tc k vr vk vs).toArray :: iv v :: iv d :: cap).toArray (RT k vr vk vs :: FΓ) (SM m) (fun _ : Unit => .bool (β m)) (fun _ => []) (fun _ => if β m then SM (m + 1) else SF m)) :
  Spec prog 106 #[.agg (tc t vr vk vs).toArray, .func (.func c) #[] cap.toArray] (RT t vr vk vs :: FΓ) (SM 0) (fun _ : Unit => .bool (ff β (parts t).length == (parts t).length)) (fun _ => []) (fun _ => if ff β (parts t).length = (parts t).length then SM (parts t).length else SF (ff β (parts t).length)) := by
 refine Dv ntmps106 fun B hB => ?_
 refine go_open (fun hk hn hnm => ?_); refine As (ts := t.kids) (fun VR VK VS hl1 hA1 => ?_); refine C5 (bs := t.sys) (fun VF VK2 hl2 hA2 => ?_); have hpl := A6w t; refine Ay ?_; refine q0 rfl (B8 fun b2 => ?_); refine J4 ?_; refine P7 ?_; refine Fv (X := Nat) (fun i => i ≤ t.kids.length ∧ ∀ j, j < i → β j = true) (fun i => [(1, .func (.func c) #[] cap.toArray), (2, pz b2), (15, sl vk t.kids.length), (16, iv (t.kids.length : Int)), (17, iv (i : Int))]) (fun i => TLx t.kids vk VR VK VS :: BLx t.sys vs VF VK2 :: RT t vr vk vs :: FΓ) (fun i => Aa b2 (tc t vr vk vs) 26 :: SM i) (fun i => t.kids.length - i) (0) (⟨Nat.zero_le _, fun j hj => by omega⟩) (by exact Fm) ?_ ?_
 ·exact fun w hs => hs.l9
 ·intro i base0 ⟨hi, hβ⟩ next0; refine Gs ?_; refine A7 (fun h18 => ?_) (fun h18 => ?_)
  ·have hlt : i < t.kids.length := by have := of_decide_eq_true h18; omega
   obtain ⟨bk, o, hav⟩ := hA1 A2; refine A5u ?_; refine Es ?_; refine Tf ?_; refine Lq ?_; refine q0 rfl (B7 fun b6 => ?_); refine zq2 ?_; refine Ki ?_; refine Bz i hlt ?_; refine Qd ?_; have hpk := Ix t i hlt; refine Pp ?_; refine q0 rfl (A1 call62 (Mg t.kind i) (fun x26 => ?_)); refine N0 ?_; refine Nn ?_; refine Ip ?_; refine q0 rfl (Eo hc (hcl i _ _ _ hpk hβ _ _ _) (fun x33 => ?_)); refine Jw ?_; refine A7 (fun h34 => ?_) (fun h34 => ?_)
   ·have hβf : β i = false := by simpa using h34
    refine Cv ?_; have hff := A7z hβf hβ (n := (parts t).length) A2; refine Av f_ rfl Ab () (by simp [hff]; omega) (fun w hs => by rw [hff, if_neg A2]; simp only [hβf, Bool.false_eq_true, if_false] at hs; exact (hs.l8).Au)
   ·refine He ?_; have hβt : β i = true := by simpa using h34
    refine A3 (fun w hs => ?_) (next0 (i + 1) _ ⟨hlt, fun j hj => (by rcases Nat.lt_succ_iff_lt_or_eq.mp hj with h | h; exact hβ j h; subst h; exact hβt)⟩ A2 Fm); simp only [hβt, if_true] at hs; exact ((hs.l9).perm List.perm_append_comm).drop
  ·have hge : i = t.kids.length := by have := of_decide_eq_false h18; omega
   refine Dz ?_; refine Po ?_; refine Hd ?_; refine Lu ?_; refine C0 ([(1, .func (.func c) #[] cap.toArray), (2, pz b2), (9, iv (more t.kind))]) (fun hK => ?_) (fun base => ?_)
   ·refine A7 (fun h38 => ?_) (fun h38 => ?_)
    ·refine Qd ?_; refine Ce ?_; exact hK _ ⟨rfl, rfl, by first | (rw [more, if_pos (of_decide_eq_true h38)]; rfl) | (rw [more, if_neg (of_decide_eq_false h38)]; rfl), trivial⟩
    ·refine Mh ?_; exact hK _ ⟨rfl, rfl, by first | (rw [more, if_pos (of_decide_eq_true h38)]; rfl) | (rw [more, if_neg (of_decide_eq_false h38)]; rfl), trivial⟩
   ·refine Ho ?_; refine P7 ?_; refine Fv (X := Nat) (fun i2 => i2 ≤ t.sys.length ∧ ∀ j, j < t.kids.length + Bp i2 t.sys → β j = true) (fun i2 => [(1, .func (.func c) #[] cap.toArray), (9, iv (more t.kind)), (40, sl vs t.sys.length), (41, iv (t.sys.length : Int)), (42, iv (i2 : Int))]) (fun i2 => BLx t.sys vs VF VK2 :: FΓ) (fun i2 => SM (t.kids.length + Bp i2 t.sys)) (fun i2 => t.sys.length - i2) (0) (⟨Nat.zero_le _, fun j hj => hβ j (by simp [Bp] at hj; omega)⟩) (by exact Fm) ?_ ?_
    ·exact fun w hs => (by simpa [Bp, show i = t.kids.length by omega] using (hs.drop.less (Γ' := BLx t.sys vs VF VK2 :: FΓ) sx_))
    ·intro i2 base1 ⟨hi2, hβ2⟩ next1; refine Gs ?_; refine A7 (fun h43 => ?_) (fun h43 => ?_)
     ·have hlt2 : i2 < t.sys.length := by have := of_decide_eq_true h43; omega
      obtain ⟨bk2, o2, hav2⟩ := hA2 A2; refine Jb ?_; refine Tf ?_; refine A9f ?_; refine q0 rfl (B7 fun b11 => ?_); refine E8 ?_; refine P7 ?_; refine Fo i2 A2 ?_; refine As (ts := (t.sys.getD i2 Bf).kids) (fun VR3 VK3 VS3 hl3 hA3 => ?_); refine Fv (X := Nat) (fun j => j ≤ (t.sys.getD i2 Bf).kids.length ∧ ∀ m, m < t.kids.length + Bp i2 t.sys + j → β m = true) (fun j => [(1, .func (.func c) #[] cap.toArray), (9, iv (more t.kind)), (40, sl vs t.sys.length), (41, iv (t.sys.length : Int)), (42, iv ((i2 : Nat) : Int)), (47, sl (VK2 i2) (t.sys.getD i2 Bf).kids.length), (48, iv ((t.sys.getD i2 Bf).kids.length : Int)), (49, iv (j : Int))]) (fun j => TLx (t.sys.getD i2 Bf).kids (VK2 i2) VR3 VK3 VS3 :: BLx t.sys vs VF VK2 :: FΓ) (fun j => SM (t.kids.length + Bp i2 t.sys + j)) (fun j => (t.sys.getD i2 Bf).kids.length - j) (0) (⟨Nat.zero_le _, hβ2⟩) (by exact Fm) ?_ ?_
      ·exact fun w hs => (hs.l9).drop
      ·intro j base2 ⟨hj, hβ3⟩ next2; refine Gs ?_; refine A7 (fun h50 => ?_) (fun h50 => ?_)
       ·have hlt3 : j < (t.sys.getD i2 Bf).kids.length := by have := of_decide_eq_true h50; omega
        obtain ⟨bk3, o3, hav3⟩ := hA3 A2; have hps := Iv t i2 j hlt2 hlt3; refine Bz j hlt3 ?_; refine Jb ?_; refine Tf ?_; refine Lq ?_; refine q0 rfl (B7 fun b13 => ?_); refine E8 ?_; refine Nn ?_; refine Ef ?_; refine q0 rfl (Eo hc (hcl _ _ _ _ hps hβ3 _ _ _) (fun x56 => ?_)); refine Jw ?_; refine A7 (fun h57 => ?_) (fun h57 => ?_)
        ·have hβf : β (t.kids.length + Bp i2 t.sys + j) = false := by simpa using h57
         refine Cv ?_; have hbd := A6c hlt2 hlt3; have hff := A7z hβf hβ3 (n := (parts t).length) A2; refine Av f_ rfl Ab () (by simp [hff]; omega) (fun w hs => by rw [hff, if_neg A2]; simp only [hβf, Bool.false_eq_true, if_false] at hs; exact (hs.l8).Au)
        ·refine He ?_; have hβt : β (t.kids.length + Bp i2 t.sys + j) = true := by simpa using h57
         refine A3 (fun w hs => ?_) (next2 (j + 1) _ ⟨hlt3, fun j2 hj2 => (by rcases Nat.lt_succ_iff_lt_or_eq.mp hj2 with h | h; exact hβ3 j2 h; subst h; exact hβt)⟩ A2 Fm); simp only [hβt, if_true] at hs; exact (hs.l9).Au
       ·have hge3 : j = (t.sys.getD i2 Bf).kids.length := by have := of_decide_eq_false h50; omega
        refine Dz ?_; refine Tc ?_; refine A3 (fun w hs => ?_) (next1 (i2 + 1) _ ⟨hlt2, by rw [Lw i2 t.sys hlt2]; rw [hge3] at hβ3; simpa [Nat.add_assoc] using hβ3⟩ A2 Fm); rw [hge3] at hs; simp only [Lw i2 t.sys hlt2, ← Nat.add_assoc]; exact hs.l9
     ·refine Dz ?_; refine Cv ?_; have hie : i2 = t.sys.length := by have := of_decide_eq_false h43; omega
      have hff := A0a (β := β) (n := (parts t).length) (by rw [hpl, ← hie]; exact hβ2); refine Av f_ rfl Ab () (by simp [hff]) (fun w hs => by rw [hff, if_pos rfl, hpl, ← hie]; exact hs.l8)
theorem C1s (k : Int) : Spec prog 189 #[iv k] [] [] (fun _ : Unit => iv (De k)) (fun _ => []) (fun _ => []) := by
 refine Dv ntmps189 fun B hB => ?_
 refine Wi ?_; refine Ij ?_; refine Hq ?_; refine Tn ?_; refine A7 (fun h4 => ?_) (fun h4 => ?_)
 ·refine H8 ?_; refine Av f_ rfl Ab () (by simp_all [De]) (fun w hs => hs.none)
 ·refine Fa ?_; refine A7 (fun h4 => ?_) (fun h4 => ?_)
  ·refine H8 ?_; refine Av f_ rfl Ab () (by simp_all [De]) (fun w hs => hs.none)
  ·refine Fa ?_; refine A7 (fun h4 => ?_) (fun h4 => ?_)
   ·refine H8 ?_; refine Av f_ rfl Ab () (by simp_all [De]) (fun w hs => hs.none)
   ·refine Fa ?_; refine A7 (fun h4 => ?_) (fun h4 => ?_)
    ·refine H8 ?_; refine Av f_ rfl Ab () (by simp_all [De]) (fun w hs => hs.none)
    ·refine Fa ?_; refine A7 (fun h4 => ?_) (fun h4 => ?_)
     ·refine H8 ?_; refine Av f_ rfl Ab () (by simp_all [De]) (fun w hs => hs.none)
     ·refine Fa ?_; refine A7 (fun h4 => ?_) (fun h4 => ?_)
      ·refine H8 ?_; refine Av f_ rfl Ab () (by simp_all [De]) (fun w hs => hs.none)
      ·refine Fa ?_; refine A7 (fun h4 => ?_) (fun h4 => ?_)
       ·refine H8 ?_; refine Av f_ rfl Ab () (by simp_all [De]) (fun w hs => hs.none)
       ·refine Rz ?_; refine A7 (fun h4 => ?_) (fun h4 => ?_)
        ·refine Cv ?_; refine Av f_ rfl Ab () (by simp_all [De]) (fun w hs => hs.none)
        ·refine Tn ?_; refine A7 (fun h13 => ?_) (fun h13 => ?_)
         ·refine H8 ?_; refine Av f_ rfl Ab () (by simp_all [De]) (fun w hs => hs.none)
         ·refine Fa ?_; refine A7 (fun h13 => ?_) (fun h13 => ?_)
          ·refine H8 ?_; refine Av f_ rfl Ab () (by simp_all [De]) (fun w hs => hs.none)
          ·refine Fa ?_; refine A7 (fun h13 => ?_) (fun h13 => ?_)
           ·refine H8 ?_; refine Av f_ rfl Ab () (by simp_all [De]) (fun w hs => hs.none)
           ·refine Fa ?_; refine A7 (fun h13 => ?_) (fun h13 => ?_)
            ·refine H8 ?_; refine Av f_ rfl Ab () (by simp_all [De]) (fun w hs => hs.none)
            ·refine Fa ?_; refine A7 (fun h13 => ?_) (fun h13 => ?_)
             ·refine H8 ?_; refine Av f_ rfl Ab () (by simp_all [De]) (fun w hs => hs.none)
             ·refine Fa ?_; refine A7 (fun h13 => ?_) (fun h13 => ?_)
              ·refine H8 ?_; refine Av f_ rfl Ab () (by simp_all [De]) (fun w hs => hs.none)
              ·refine Fa ?_; refine A7 (fun h13 => ?_) (fun h13 => ?_)
               ·refine H8 ?_; refine Av f_ rfl Ab () (by simp_all [De]) (fun w hs => hs.none)
               ·refine Fa ?_; refine A7 (fun h13 => ?_) (fun h13 => ?_)
                ·refine H8 ?_; refine Av f_ rfl Ab () (by simp_all [De]) (fun w hs => hs.none)
                ·refine Rz ?_; refine A7 (fun h13 => ?_) (fun h13 => ?_)
                 ·refine Cv ?_; refine Av f_ rfl Ab () (by simp_all [De]) (fun w hs => hs.none)
                 ·refine Tn ?_; refine A7 (fun h23 => ?_) (fun h23 => ?_)
                  ·refine H8 ?_; refine Av f_ rfl Ab () (by simp_all [De]) (fun w hs => hs.none)
                  ·refine Fa ?_; refine A7 (fun h23 => ?_) (fun h23 => ?_)
                   ·refine H8 ?_; refine Av f_ rfl Ab () (by simp_all [De]) (fun w hs => hs.none)
                   ·refine Fa ?_; refine A7 (fun h23 => ?_) (fun h23 => ?_)
                    ·refine H8 ?_; refine Av f_ rfl Ab () (by simp_all [De]) (fun w hs => hs.none)
                    ·refine Fa ?_; refine A7 (fun h23 => ?_) (fun h23 => ?_)
                     ·refine H8 ?_; refine Av f_ rfl Ab () (by simp_all [De]) (fun w hs => hs.none)
                     ·refine Fa ?_; refine A7 (fun h23 => ?_) (fun h23 => ?_)
                      ·refine H8 ?_; refine Av f_ rfl Ab () (by simp_all [De]) (fun w hs => hs.none)
                      ·refine Fa ?_; refine A7 (fun h23 => ?_) (fun h23 => ?_)
                       ·refine H8 ?_; refine Av f_ rfl Ab () (by simp_all [De]) (fun w hs => hs.none)
                       ·refine Rz ?_; refine A7 (fun h23 => ?_) (fun h23 => ?_)
                        ·refine Cv ?_; refine Av f_ rfl Ab () (by simp_all [De]) (fun w hs => hs.none)
                        ·refine Tn ?_; refine A7 (fun h31 => ?_) (fun h31 => ?_)
                         ·refine H8 ?_; refine Av f_ rfl Ab () (by simp_all [De]) (fun w hs => hs.none)
                         ·refine Rz ?_; refine A7 (fun h31 => ?_) (fun h31 => ?_)
                          ·refine Cv ?_; refine Av f_ rfl Ab () (by simp_all [De]) (fun w hs => hs.none)
                          ·refine Fa ?_; refine A7 (fun h34 => ?_) (fun h34 => ?_)
                           ·refine Cv ?_; refine Av f_ rfl Ab () (by simp_all [De]) (fun w hs => hs.none)
                           ·refine Fa ?_; refine A7 (fun h36 => ?_) (fun h36 => ?_)
                            ·refine Cv ?_; refine Av f_ rfl Ab () (by simp_all [De]) (fun w hs => hs.none)
                            ·refine I5 ?_; refine Cv ?_; refine Av f_ rfl Ab () (by simp_all [De]) (fun w hs => hs.none)
theorem M3 (k : Int) : Spec prog 190 #[iv k] [] [] (fun _ : Unit => iv (Ei k)) (fun _ => []) (fun _ => []) := by
 refine Dv ntmps190 fun B hB => ?_
 refine Wi ?_; refine Ij ?_; refine Hq ?_; refine Tn ?_; refine A7 (fun h4 => ?_) (fun h4 => ?_)
 ·refine H8 ?_; refine Av f_ rfl Ab () (by simp_all [Ei]) (fun w hs => hs.none)
 ·refine Fa ?_; refine A7 (fun h4 => ?_) (fun h4 => ?_)
  ·refine H8 ?_; refine Av f_ rfl Ab () (by simp_all [Ei]) (fun w hs => hs.none)
  ·refine Rz ?_; refine A7 (fun h4 => ?_) (fun h4 => ?_)
   ·refine Cv ?_; refine Av f_ rfl Ab () (by simp_all [Ei]) (fun w hs => hs.none)
   ·refine Fa ?_; refine A7 (fun h8 => ?_) (fun h8 => ?_)
    ·refine Cv ?_; refine Av f_ rfl Ab () (by simp_all [Ei]) (fun w hs => hs.none)
    ·refine I5 ?_; refine Cv ?_; refine Av f_ rfl Ab () (by simp_all [Ei]) (fun w hs => hs.none)
theorem B2x (t : T) (vr vk vs : SH) (c : FuncId) (cap : List Value) (FΓ : List Fact) (SM : Nat → List Bb)
  (hc : ∀ (args : Array Value) (w : World), (callFunc c args).run prog w = .ok (.enter c args) w)
  (hcl : ∀ m k v d, (parts t)[m]? = some (k, v, d) → ∀ vr vk vs, Spec prog c (.agg (tc k vr vk vs).toArray :: iv v :: iv d :: cap).toArray (RT k vr vk vs :: FΓ) (SM m) (fun _ : Unit => .bool true) (fun _ => []) (fun _ => SM (m + 1))) :
  Spec prog 106 #[.agg (tc t vr vk vs).toArray, .func (.func c) #[] cap.toArray] (RT t vr vk vs :: FΓ) (SM 0) (fun _ : Unit => .bool true) (fun _ => []) (fun _ => SM (parts t).length) := by
 have h := W9 t vr vk vs c cap FΓ SM SM (fun _ => true) hc (fun m k v d hm _ vr vk vs => by simpa using hcl m k v d hm vr vk vs); have hf : ∀ n, ff (fun _ => true) n = n := fun n => A0a (fun _ _ => rfl)
 simpa [hf] using h
theorem Int.ofNat_max' (a b : Nat) : ((max a b : Nat) : Int) = if (b : Int) > (a : Int) then (b : Int) else (a : Int) := by
 split <;> omega
theorem B4o (k : T) (vr vk vs : SH) (b a : Nat) (v d : Int) (ha : a + size k ≤ 1152921504606846976) (ih : ∀ vr vk vs, Spec prog 80 #[.agg (tc k vr vk vs).toArray] [RT k vr vk vs] [] (fun _ : Unit => iv (size k : Int)) (fun _ => []) (fun _ => [])) : Spec prog 151 #[.agg (tc k vr vk vs).toArray, iv v, iv d, pz b] [RT k vr vk vs] [Aa b [iv (a : Int)] 3] (fun _ : Unit => .bool true) (fun _ => []) (fun _ => [Aa b [iv ((a + size k : Nat) : Int)] 3]) := by
 refine Dv ntmps151 fun B hB => ?_
 refine Ay ?_; refine q0 rfl (B8 fun b4 => ?_); refine J4 ?_; refine Bd (pn := 1000000) (tn := false) (A := [0, 0, 2, 7, 15]) (l := [0, 1, 2, 3]) (fin := [4]) Tab.mixed ⟨_, func151⟩ (by rfl) ?_; refine D2y ?_; refine Lr ?_; refine n0 rfl (Be call80 (ih vr vk vs) (fun x10 => ?_)); refine O7 ?_; refine Kf ?_; refine A9h ?_; refine Cv ?_; refine Av f_ rfl Ab () rfl (fun w hs => (hs.l8).Au (A := [_]))
theorem C0i (t : T) (vr vk vs : SH) (hsz : size t ≤ 1152921504606846976) (ih : ∀ p, p ∈ parts t → size p.1 ≤ 1152921504606846976 → ∀ vr vk vs, Spec prog 80 #[.agg (tc p.1 vr vk vs).toArray] [RT p.1 vr vk vs] [] (fun _ : Unit => iv (size p.1 : Int)) (fun _ => []) (fun _ => [])) : Spec prog 80 #[.agg (tc t vr vk vs).toArray] [RT t vr vk vs] [] (fun _ : Unit => iv (size t : Int)) (fun _ => []) (fun _ => []) := by
 refine Dv ntmps80 fun B hB => ?_
 have hds := I9 t; have hdu := Hw t (parts t).length; refine Ay ?_; refine q0 rfl (B8 fun b1 => ?_); refine Ce ?_; refine Ay ?_; refine q0 rfl (B7 fun b3 => ?_); refine E8 ?_; refine Hp ?_; refine Pf ?_; have hE := B2x t vr vk vs 151 [pz b3] [] (fun m => [Aa b3 [iv (By t m : Int)] 3]) call151 (fun m k v d hm vr vk vs => (by have hx := Qx hm; have hy := I9 k; have hz := Hw t m; have := B4o k vr vk vs b3 (By t m) v d (by simp only at hx; omega) (ih _ (Iw hm) A2); simpa only [Kb hm] using this)); simp only [Ka, Jg] at hE; refine q0 rfl (A1 call106 (hE) (fun x6 => ?_)); refine Ij ?_; refine Pn ?_; refine Ce ?_; refine Av f_ rfl Ab () rfl (fun w hs => hs.none)
theorem A3g : ∀ (t : T), size t ≤ 1152921504606846976 → ∀ vr vk vs, Spec prog 80 #[.agg (tc t vr vk vs).toArray] [RT t vr vk vs] [] (fun _ : Unit => iv (size t : Int)) (fun _ => []) (fun _ => []) :=
 T.ind fun t ih hsz vr vk vs => C0i t vr vk vs hsz ih
theorem B3c (k : T) (vr vk vs : SH) (b a : Nat) (v d : Int) (ih : ∀ vr vk vs, Spec prog 84 #[.agg (tc k vr vk vs).toArray] [RT k vr vk vs] [] (fun _ : Unit => iv (depth k : Int)) (fun _ => []) (fun _ => [])) : Spec prog 154 #[.agg (tc k vr vk vs).toArray, iv v, iv d, pz b] [RT k vr vk vs] [Aa b [iv (a : Int)] 3] (fun _ : Unit => .bool true) (fun _ => []) (fun _ => [Aa b [iv ((max a (depth k) : Nat) : Int)] 3]) := by
 refine Dv ntmps154 fun B hB => ?_
 refine Ay ?_; refine q0 rfl (B8 fun b4 => ?_); refine J4 ?_; refine Bd (pn := 1000000) (tn := false) (A := [0, 0, 2, 7, 15]) (l := [0, 1, 2, 3]) (fin := [4]) Tab.mixed ⟨_, func154⟩ (by rfl) ?_; refine D2y ?_; refine Lr ?_; refine n0 rfl (Be call84 (ih vr vk vs) (fun x10 => ?_)); refine n0 rfl (D7x ?_); refine Kf ?_; refine A9h ?_; refine Cv ?_; refine Av f_ rfl Ab () rfl (fun w hs => by rw [Int.ofNat_max']; exact (hs.l8).Au (A := [_]))
theorem B6k (t : T) (vr vk vs : SH) (hsz : size t ≤ 1152921504606846976) (ih : ∀ p, p ∈ parts t → size p.1 ≤ 1152921504606846976 → ∀ vr vk vs, Spec prog 84 #[.agg (tc p.1 vr vk vs).toArray] [RT p.1 vr vk vs] [] (fun _ : Unit => iv (depth p.1 : Int)) (fun _ => []) (fun _ => [])) : Spec prog 84 #[.agg (tc t vr vk vs).toArray] [RT t vr vk vs] [] (fun _ : Unit => iv (depth t : Int)) (fun _ => []) (fun _ => []) := by
 refine Dv ntmps84 fun B hB => ?_
 have hds := I9 t; have hdu := Hw t (parts t).length; refine Ay ?_; refine q0 rfl (B8 fun b1 => ?_); refine Ce ?_; refine Ay ?_; refine q0 rfl (B7 fun b3 => ?_); refine E8 ?_; refine Hp ?_; refine Pf ?_; have hE := B2x t vr vk vs 154 [pz b3] [] (fun m => [Aa b3 [iv (Gf t m : Int)] 3]) call154 (fun m k v d hm vr vk vs => (by have hx := Qx hm; have hy := I9 k; have hz := Hw t m; have := B3c k vr vk vs b3 (Gf t m) v d (ih _ (Iw hm) A2); simpa only [Me hm] using this)); simp only [A0i] at hE; refine q0 rfl (A1 call106 (hE) (fun x6 => ?_)); refine Ij ?_; refine Pn ?_; refine P6 ?_; refine Av f_ rfl Ab () (by rw [← Sa t]; rfl) (fun w hs => hs.none)
theorem B6l : ∀ (t : T), size t ≤ 1152921504606846976 → ∀ vr vk vs, Spec prog 84 #[.agg (tc t vr vk vs).toArray] [RT t vr vk vs] [] (fun _ : Unit => iv (depth t : Int)) (fun _ => []) (fun _ => []) :=
 T.ind fun t ih hsz vr vk vs => B6k t vr vk vs hsz ih
theorem A4x (t : T) (vr vk vs : SH) (c : FuncId) (cap : List Value) (FΓ : List Fact) (M : List Bb) (g : Part → Bool)
  (hc : ∀ (args : Array Value) (w : World), (callFunc c args).run prog w = .ok (.enter c args) w)
  (hcl : ∀ k v d, (k, v, d) ∈ parts t → ∀ vr vk vs, Spec prog c (.agg (tc k vr vk vs).toArray :: iv v :: iv d :: cap).toArray (RT k vr vk vs :: FΓ) M (fun _ : Unit => .bool (g (k, v, d))) (fun _ => []) (fun _ => M)) :
  Spec prog 106 #[.agg (tc t vr vk vs).toArray, .func (.func c) #[] cap.toArray] (RT t vr vk vs :: FΓ) M (fun _ : Unit => .bool ((parts t).all g)) (fun _ => []) (fun _ => M) := by
 have h := W9 t vr vk vs c cap FΓ (fun _ => M) (fun _ => M) (A8r t g) hc (fun m k v d hm _ vr vk vs => by simpa [Qn hm] using hcl k v d (Iw hm) vr vk vs); rw [C7m] at h; simpa using h
abbrev Wh (t : T) : Prop := ∀ (left : Int) vr vk vs, Ao left → Spec prog 103 #[.agg (tc t vr vk vs).toArray, iv left] [RT t vr vk vs] [] (fun _ : Unit => .bool (decide ((depth t : Int) ≤ left))) (fun _ => []) (fun _ => [])
theorem A1k (k : T) (vr vk vs : SH) (b : Nat) (left v d : Int) (h0 : 0 < left) (hl : Ao left) (ih : Wh k) : Spec prog 186 #[.agg (tc k vr vk vs).toArray, iv v, iv d, pz b] [RT k vr vk vs] [Aa b [iv left] 3] (fun _ : Unit => .bool (decide ((depth k : Int) ≤ left - 1))) (fun _ => []) (fun _ => [Aa b [iv left] 3]) := by
 refine Dv ntmps186 fun B hB => ?_
 refine Ay ?_; refine q0 rfl (B8 fun b4 => ?_); refine Ce ?_; refine Hp ?_; refine zq9 ?_; refine B9w ?_; refine q0 rfl (A1 call103 (ih (left - 1) vr vk vs (by unfold Ao at *; omega)) (fun x11 => ?_)); refine Ce ?_; refine Av f_ rfl Ab () rfl (fun w hs => (hs.l8).drop)
theorem A6j (t : T) (ih : ∀ p, p ∈ parts t → Wh p.1) (left : Int) (vr vk vs : SH) (hl : Ao left) : Spec prog 103 #[.agg (tc t vr vk vs).toArray, iv left] [RT t vr vk vs] [] (fun _ : Unit => .bool (decide ((depth t : Int) ≤ left))) (fun _ => []) (fun _ => []) := by
 refine Dv ntmps103 fun B hB => ?_
 refine Ay ?_; refine q0 rfl (B8 fun b2 => ?_); refine q0 rfl (B8 fun b3 => ?_); refine Ce ?_; refine Pn ?_; refine A9e ?_; refine Ef ?_; refine qI rfl rfl rfl Mk (fun hg7 => Ul ?_) (fun hg7 => ?_)
 ·refine qT rfl rfl rfl (B5m ?_); have h0 : 0 < left := of_decide_eq_true hg7; have hE := A4x t vr vk vs 186 [pz b3] [] [Aa b3 [iv left] 3] (fun p => decide ((depth p.1 : Int) ≤ left - 1)) call186 (fun k v d hm vr vk vs => A1k k vr vk vs b3 left v d h0 hl (ih _ hm)); rw [← C2n t left h0] at hE; refine qT rfl rfl rfl (A1 call106 (hE) (fun x10 => ?_)); refine H7 ?_; refine Av f_ rfl Ab () rfl (fun w hs => hs.none)
 ·refine Fc ?_; refine Gt ?_; have h0 : ¬ 0 < left := of_decide_eq_false hg7; have hp := A5b t; refine Av f_ rfl Ab () (by rw [decide_eq_false A2]) (fun w hs => hs.none)
theorem A6k : ∀ t : T, Wh t := T.ind fun t ih left vr vk vs hl => A6j t ih left vr vk vs hl
def leftOf (t : T) (m : Int) : Int := if (size t : Int) ≤ m then m - size t else -1
abbrev A0z (b bc : Nat) : List Value := [pz b, pz bc]
abbrev I2 (b bc : Nat) (m : Int) : List Bb := [Aa b [iv m] 3, Aa bc [.func (.func 187) #[] (A0z b bc).toArray] 30]
abbrev Xw (t : T) : Prop := ∀ (m : Int) b bc vr vk vs, 0 ≤ m → Ao m → Spec prog 187 #[.agg (tc t vr vk vs).toArray, pz b, pz bc] [RT t vr vk vs] (I2 b bc m) (fun _ : Unit => .bool (decide ((size t : Int) ≤ m))) (fun _ => []) (fun _ => I2 b bc (leftOf t m))
theorem A6f (k : T) (vr vk vs : SH) (b bc : Nat) (m v d : Int) (h0 : 0 ≤ m) (hl : Ao m) (ih : Xw k) : Spec prog 188 #[.agg (tc k vr vk vs).toArray, iv v, iv d, pz bc] [RT k vr vk vs] (I2 b bc m) (fun _ : Unit => .bool (decide ((size k : Int) ≤ m))) (fun _ => []) (fun _ => I2 b bc (leftOf k m)) := by
 refine Dv ntmps188 fun B hB => ?_
 refine Ay ?_; refine q0 rfl (B8 fun b4 => ?_); refine Ce ?_; refine Pn ?_; refine J5 ?_; refine q0 rfl (Eo call187 (ih m b bc vr vk vs h0 hl) (cap := A0z b bc) (fun x10 => ?_)); refine Ce ?_; refine Av f_ rfl Ab () rfl (fun w hs => (hs.l8).Au (A := I2 b bc (leftOf k m)))
theorem B6o (t : T) (ih : ∀ p, p ∈ parts t → Xw p.1) (m : Int) (b bc : Nat) (vr vk vs : SH) (h0 : 0 < m) (hl : Ao m) :
  Spec prog 106 #[.agg (tc t vr vk vs).toArray, .func (.func 188) #[] #[pz bc]] [RT t vr vk vs] (I2 b bc (m - 1)) (fun _ : Unit => .bool (decide ((size t : Int) ≤ m))) (fun _ => []) (fun _ => I2 b bc (leftOf t m)) := by
 have h := W9 t vr vk vs 188 [pz bc] [] (fun j => I2 b bc (if (By t j : Int) ≤ m then m - By t j else -1)) (fun _ => I2 b bc (-1)) (fun j => decide ((By t (j + 1) : Int) ≤ m)) call188 ?_
 ·have hall : (ff (fun j => decide ((By t (j + 1) : Int) ≤ m)) (parts t).length == (parts t).length) = decide ((size t : Int) ≤ m) := by
   rw [Bool.eq_iff_iff, beq_iff_eq, W7, decide_eq_true_iff]; constructor
   ·intro h; cases hn : (parts t).length with
    | zero => have := Jg t; rw [hn, Ka] at this; omega
    | succ n =>
     have := h n A2; rw [← hn, Jg] at this; exact of_decide_eq_true this
   ·intro h j hj; have := Pt t (j + 1); exact decide_eq_true A2
  simp only [hall, Ka, Jg, beq_iff_eq] at h; rw [if_pos A2] at h; by_cases hs : (size t : Int) ≤ m
  ·have e : ff (fun j => decide ((By t (j + 1) : Int) ≤ m)) (parts t).length = (parts t).length := by rw [← beq_iff_eq, hall]; exact decide_eq_true hs
   simp only [e, if_true, if_pos hs] at h; unfold leftOf; rw [if_pos hs]; exact h
  ·have e : ¬ ff (fun j => decide ((By t (j + 1) : Int) ≤ m)) (parts t).length = (parts t).length := by rw [← beq_iff_eq, hall]; simpa using hs
   simp only [if_neg e] at h; unfold leftOf; rw [if_neg hs]; exact h
 ·intro j k v d hm hβ vr vk vs; have hs := Kb hm; simp only at hs; have hp := size_pos k
  have hj : (By t j : Int) ≤ m := by
   cases j with
   | zero => rw [Ka]; omega
   | succ j => exact of_decide_eq_true (hβ j A2)
  have := A6f k vr vk vs b bc (m - By t j) v d A2 (by unfold Ao at *; omega) (ih _ (Iw hm)); rw [if_pos hj]; have e1 : decide ((size k : Int) ≤ m - By t j) = decide ((By t (j + 1) : Int) ≤ m) := by rw [hs]; congr 1; apply propext; omega
  rw [e1] at this
  have e2 : I2 b bc (leftOf k (m - By t j)) = if decide ((By t (j + 1) : Int) ≤ m) = true then I2 b bc (if (By t (j + 1) : Int) ≤ m then m - By t (j + 1) else -1) else I2 b bc (-1) := by
   unfold leftOf; by_cases hk : (By t (j + 1) : Int) ≤ m
   ·rw [if_pos A2, if_pos (decide_eq_true hk), if_pos hk, hs]; congr 1; omega
   ·rw [if_neg A2, if_neg (by simpa using hk)]
  rw [e2] at this; exact this
theorem B0b (t : T) (ih : ∀ p, p ∈ parts t → Xw p.1) (m : Int) (b bc : Nat) (vr vk vs : SH) (h0 : 0 ≤ m) (hl : Ao m) : Spec prog 187 #[.agg (tc t vr vk vs).toArray, pz b, pz bc] [RT t vr vk vs] (I2 b bc m) (fun _ : Unit => .bool (decide ((size t : Int) ≤ m))) (fun _ => []) (fun _ => I2 b bc (leftOf t m)) := by
 refine Dv ntmps187 fun B hB => ?_
 refine Ay ?_; refine q0 rfl (B8 fun b3 => ?_); refine Ce ?_; refine Pn ?_; refine B9w ?_; refine A9h ?_; refine Pn ?_; refine B4b ?_; refine Ef ?_; refine qI rfl rfl rfl Mk (fun hg9 => Ul ?_) (fun hg9 => ?_)
 ·refine qT rfl rfl rfl (B5m ?_); have h1 : 0 ≤ m - 1 := of_decide_eq_true hg9; have hE := B6o t ih m b bc vr vk vs A2 hl; refine qT rfl rfl rfl (A1 call106 (hE) (fun x12 => ?_) (hm := (List.Perm.swap _ _ _).cons _)); refine H7 ?_; refine Av f_ rfl Ab () rfl (fun w hs => (hs.l8).Au (A := I2 b bc (leftOf t m)))
 ·refine Fc ?_; refine Gt ?_; have h1 : ¬ 0 ≤ m - 1 := of_decide_eq_false hg9; have hp := size_pos t; refine Av f_ rfl Ab () (by rw [decide_eq_false A2]) (fun w hs => by rw [leftOf, if_neg A2, show (-1 : Int) = m - 1 by omega]; exact ((hs.l7).perm ((List.Perm.swap _ _ _).cons _)).Au (A := I2 b bc (m - 1)))
theorem B6n : ∀ t : T, Xw t := T.ind fun t ih m b bc vr vk vs h0 hl => B0b t ih m b bc vr vk vs h0 hl
def C8s : Prop := ∀ (l : List Cl) (a : SH), Spec prog 63 #[sl a l.length] [CL l a] [] (fun _ : Unit => .bool (Ag l)) (fun _ => []) (fun _ => [])
def A5t : Prop := ∀ (l : List Cl) (a : SH), Spec prog 193 #[sl a l.length] [CL l a] [] (fun _ : Unit => .bool (Aj l)) (fun _ => []) (fun _ => [])
def C8t : Prop := ∀ (l : List Cl) (a : SH), Spec prog 64 #[sl a l.length] [CL l a] [] (fun _ : Unit => .int .u32 (G3 l : Int)) (fun _ => []) (fun _ => [])
def C3e : Prop := C8s ∧ A5t ∧ C8t
theorem B4l (t : T) (vr vk vs : SH) (Df : Int) (h0 : 0 ≤ Df) (hl : Ao Df) : Spec prog 104 #[.agg (tc t vr vk vs).toArray, iv Df] [RT t vr vk vs] [] (fun _ : Unit => .bool (decide ((size t : Int) ≤ Df))) (fun _ => []) (fun _ => []) := by
 refine Dv ntmps104 fun B hB => ?_
 refine Ay ?_; refine q0 rfl (B8 fun b2 => ?_); refine q0 rfl (B8 fun b3 => ?_); refine Ce ?_; refine Ay ?_; refine q0 rfl (B7 fun b5 => ?_); refine Ij ?_; refine Ay ?_; refine Pf ?_; refine E8 ?_; refine Pn ?_; refine J5 ?_; refine q0 rfl (Eo call187 (B6n t Df b3 b5 vr vk vs h0 hl) (cap := A0z b3 b5) (fun x9 => ?_)); refine Ce ?_; refine Av f_ rfl Ab () rfl (fun w hs => hs.none)
theorem B4n (t : T) (vr vk vs : SH) : Spec prog 59 #[.agg (tc t vr vk vs).toArray] [RT t vr vk vs] [] (fun _ : Unit => iv (sized t)) (fun _ => []) (fun _ => []) := by
 refine Dv ntmps59 fun B hB => ?_
 refine Ay ?_; refine q0 rfl (B8 fun b1 => ?_); refine J4 ?_; refine Hq ?_; refine Hp ?_; refine q0 rfl (A1 call103 (A6k t 200 vr vk vs (by unfold Ao; omega)) (fun x5 => ?_)); refine B9x ?_; refine Ce ?_; refine A7 (fun h3 => ?_) (fun h3 => ?_)
 ·refine Cv ?_; have h : 200 < depth t := by simp at h3; omega
  refine Av f_ rfl Ab () (by rw [sized, if_pos h]) (fun w hs => hs.none)
 ·refine Hp ?_; refine q0 rfl (A1 call104 (B4l t vr vk vs 20000 A2 (by unfold Ao; omega)) (fun x9 => ?_)); refine B9x ?_; refine Ce ?_; refine A7 (fun h7 => ?_) (fun h7 => ?_)
  ·refine Cv ?_; have h : ¬ 200 < depth t := by simp at h3; omega
   have h2 : 20000 < size t := by simp at h7; omega
   refine Av f_ rfl Ab () (by rw [sized, if_neg h, if_pos h2]) (fun w hs => hs.none)
  ·refine I5 ?_; refine Cv ?_; have h : ¬ 200 < depth t := by simp at h3; omega
   have h2 : ¬ 20000 < size t := by simp at h7; omega
   refine Av f_ rfl Ab () (by rw [sized, if_neg h, if_neg h2]) (fun w hs => hs.none)
theorem C1i (s : ByteArray) (hs : s.size ≤ Gg) : Spec prog 191 #[.string s] [] [] (fun _ : Unit => .bool (Q3 s)) (fun _ => []) (fun _ => []) := by
 refine Dv ntmps191 fun B hB => ?_
 refine Wi ?_; refine q0 rfl (Zc ?_); refine D2w ?_; refine Hq ?_; refine Fv (X := Nat) (fun i => i ≤ s.size ∧ ∀ j, j < i → A1s s j = true) (fun i => [(0, .string s), (7, iv (s.size : Int)), (8, iv (i : Int))]) (fun i => []) (fun i => []) (fun i => s.size - i) (0) (⟨Nat.zero_le _, fun j hj => by omega⟩) (by exact Fm) ?_ ?_
 ·exact fun w hs => hs.none
 ·intro i base0 ⟨hi, hok⟩ next0; refine Gs ?_; refine A7 (fun h9 => ?_) (fun h9 => ?_)
  ·have hlt : i < s.size := by have := of_decide_eq_true h9; omega
   obtain ⟨c, hc, hca⟩ := D1d hlt; refine A5u ?_; refine L0 ?_; refine Es ?_; refine Ef ?_; refine q0 rfl (D0k ?_); refine J4 ?_; refine C0 ([(0, .string s), (3, iv (i : Int)), (4, .int .u8 c.toNat), (5, .bool (Hj c.toNat)), (7, iv (s.size : Int)), (8, iv (i : Int))]) (fun hK => ?_) (fun base => ?_)
   ·refine Ey ?_; refine B4b ?_; refine Ef ?_; refine qI rfl rfl rfl Mk (fun hg16 => G8 ?_) (fun hg16 => ?_)
    ·refine B9v ?_; refine Sd ?_; refine qI rfl rfl rfl Mk (fun hg20 => G8 ?_) (fun hg20 => ?_)
     ·refine qT rfl rfl rfl (A4h ?_); refine Ii ?_; refine qI rfl rfl rfl Mk (fun hg23 => G8 ?_) (fun hg23 => ?_)
      ·refine B9v ?_; refine A9d ?_; refine Hz ?_; refine qI rfl rfl rfl Mk (fun hg28 => G8 ?_) (fun hg28 => ?_)
       ·refine A1f ?_; refine Gt ?_; exact hK _ ⟨rfl, rfl, rfl, (by (conv => lhs; whnf); first | (simp_all [Hj]; done) | (simp_all [Hj]; omega)), rfl, rfl, trivial⟩
       ·refine zq4 ?_; refine H7 ?_; exact hK _ ⟨rfl, rfl, rfl, (by (conv => lhs; whnf); first | (simp_all [Hj]; done) | (simp_all [Hj]; omega)), rfl, rfl, trivial⟩
      ·refine zq4 ?_; refine B4a ?_; refine Hz ?_; refine Ii ?_; refine A1f ?_; refine Gt ?_; exact hK _ ⟨rfl, rfl, rfl, (by (conv => lhs; whnf); first | (simp_all [Hj]; done) | (simp_all [Hj]; omega)), rfl, rfl, trivial⟩
     ·refine Fc ?_; refine Ry ?_; refine zq4 ?_; refine Sd ?_; refine Fc ?_; refine H7 ?_; exact hK _ ⟨rfl, rfl, rfl, (by (conv => lhs; whnf); first | (simp_all [Hj]; done) | (simp_all [Hj]; omega)), rfl, rfl, trivial⟩
    ·refine zq4 ?_; refine Hz ?_; refine Ii ?_; refine qT rfl rfl rfl (A4h ?_); refine Ii ?_; refine qI rfl rfl rfl Mk (fun hg23 => G8 ?_) (fun hg23 => ?_)
     ·refine B9v ?_; refine A9d ?_; refine Hz ?_; refine qI rfl rfl rfl Mk (fun hg28 => G8 ?_) (fun hg28 => ?_)
      ·refine A1f ?_; refine Gt ?_; exact hK _ ⟨rfl, rfl, rfl, (by (conv => lhs; whnf); first | (simp_all [Hj]; done) | (simp_all [Hj]; omega)), rfl, rfl, trivial⟩
      ·refine zq4 ?_; refine H7 ?_; exact hK _ ⟨rfl, rfl, rfl, (by (conv => lhs; whnf); first | (simp_all [Hj]; done) | (simp_all [Hj]; omega)), rfl, rfl, trivial⟩
     ·refine zq4 ?_; refine B4a ?_; refine Hz ?_; refine Ii ?_; refine A1f ?_; refine Gt ?_; exact hK _ ⟨rfl, rfl, rfl, (by (conv => lhs; whnf); first | (simp_all [Hj]; done) | (simp_all [Hj]; omega)), rfl, rfl, trivial⟩
   ·refine Ho ?_; refine C0 ([(0, .string s), (7, iv (s.size : Int)), (8, iv (i : Int)), (45, .bool (!(A1s s i)))]) (fun hK => ?_) (fun base => ?_)
    ·refine Ey ?_; refine B9x ?_; refine Ef ?_; refine qI rfl rfl rfl Mk (fun hg34 => G8 ?_) (fun hg34 => ?_)
     ·refine A1f ?_; refine Ii ?_; refine qI rfl rfl rfl Mk (fun hg37 => G8 ?_) (fun hg37 => ?_)
      ·refine qT rfl rfl rfl (A4f ?_); refine B4a ?_; refine Ii ?_; refine qI rfl rfl rfl Mk (fun hg41 => G8 ?_) (fun hg41 => ?_)
       ·refine qT rfl rfl rfl (Ze ?_); refine B4a ?_; refine Ke ?_; exact hK _ ⟨rfl, rfl, rfl, (by (conv => lhs; whnf); rw [hca]; first | (simp_all [digit]; done) | (simp_all [digit]; omega) | (simp_all [digit]; rw [← decide_not]; congr 1; apply propext; omega)), trivial⟩
       ·refine zq4 ?_; refine A9d ?_; refine Ke ?_; exact hK _ ⟨rfl, rfl, rfl, (by (conv => lhs; whnf); rw [hca]; first | (simp_all [digit]; done) | (simp_all [digit]; omega) | (simp_all [digit]; rw [← decide_not]; congr 1; apply propext; omega)), trivial⟩
      ·refine zq4 ?_; refine A9d ?_; refine Ii ?_; refine Fc ?_; refine A9d ?_; refine Ke ?_; exact hK _ ⟨rfl, rfl, rfl, (by (conv => lhs; whnf); rw [hca]; first | (simp_all [digit]; done) | (simp_all [digit]; omega) | (simp_all [digit]; rw [← decide_not]; congr 1; apply propext; omega)), trivial⟩
     ·refine Fc ?_; refine Ry ?_; refine Fc ?_; refine Ry ?_; refine zq4 ?_; refine Ja ?_; exact hK _ ⟨rfl, rfl, rfl, (by (conv => lhs; whnf); rw [hca]; first | (simp_all [digit]; done) | (simp_all [digit]; omega) | (simp_all [digit]; rw [← decide_not]; congr 1; apply propext; omega)), trivial⟩
    ·refine A7 (fun h45 => ?_) (fun h45 => ?_)
     ·refine Cv ?_; refine Av f_ rfl Ab () (by rw [B5o hlt (by simpa using h45)]) (fun w hs => hs.none)
     ·refine He ?_; have hb : A1s s i = true := by simpa using h45
      refine A3 (fun w hs => hs) (next0 (i + 1) _ ⟨hlt, fun j hj => (by rcases Nat.lt_succ_iff_lt_or_eq.mp hj with h | h; exact hok j h; subst h; exact hb)⟩ A2 Fm)
  ·have hge : i = s.size := by have := of_decide_eq_false h9; omega
   refine Dz ?_; refine Es ?_; refine q0 rfl (D2c ?_); refine Ce ?_; refine Av f_ rfl Ab () (by rw [B5p (by rw [← hge]; exact hok), empty_eq]; rfl) (fun w hs => hs.none)
theorem Kj (hF : C8t) (l : List Cl) (a : SH) (dims : Int) (h0 : 0 ≤ dims) (hl : Ao dims) : Spec prog 192 #[sl a l.length, iv dims] [CL l a] [] (fun _ : Unit => .bool (within l dims)) (fun _ => []) (fun _ => []) := by
 refine Dv ntmps192 fun B hB => ?_
 refine I4 ?_; refine B4b ?_; refine Ef ?_; refine qI rfl rfl rfl Mk (fun hg7 => G8 ?_) (fun hg7 => ?_)
 ·refine qT rfl rfl rfl (A1 call64 (hF l a) (fun x9 => ?_)); refine Ii ?_; refine qT rfl rfl rfl (D4l ?_); refine qT rfl rfl rfl (Za ?_ (m := dims.toNat) (hy := congrArg (Value.int .u64) (C0d h0 hl))); refine A1f ?_; refine Gt ?_; refine Av f_ rfl Ab () (by first | (simp_all [within]; done) | (simp_all [within]; intros; omega)) (fun w hs => hs.none)
 ·refine Fc ?_; refine Mi ?_; refine H7 ?_; refine Av f_ rfl Ab () (by first | (simp_all [within]; done) | (simp_all [within]; intros; omega)) (fun w hs => hs.none)
theorem B1f (t : T) (hf : Py t = true ∨ C3e) (vr vk vs : SH) (vars dims : Int) (hd : 0 ≤ dims) (hl : Ao dims) : Spec prog 105 #[.agg (tc t vr vk vs).toArray, iv vars, iv dims] [RT t vr vk vs] [] (fun _ : Unit => .bool (N5 t vars dims)) (fun _ => []) (fun _ => []) := by
 refine Dv ntmps105 fun B hB => ?_
 refine go_open (fun hk hn hnm => ?_); refine As (ts := t.kids) (fun VR VK VS hl1 hA1 => ?_); refine C5 (bs := t.sys) (fun VF VK2 hl2 hA2 => ?_); refine Ay ?_; refine q0 rfl (B8 fun b3 => ?_); refine Rx ?_; refine C0 ([(1, iv vars), (2, iv dims), (3, pz b3), (47, .bool (K4 t))]) (fun hK => ?_) (fun base => ?_)
 ·refine Bd (pn := 1000000) (tn := false) (A := [0, 1, 3, 0, 8, 24, 63, 127, 255, 511, 1023, 2047, 4095, 8191, 16383, 32767, 65535, 131071, 262143, 524287, 1048575, 2097151, 4194303, 8388607, 16777215, 33554431, 67108863, 134217727, 268435455, 536870911, 1073741823, 2147483647, 4294967295, 8589934591, 17179869183, 34359738367, 68719476735, 137438953471, 274877906943]) (l := [0, 1, 3, 4, 5, 2, 6, 7, 8, 9, 10, 11, 12, 13, 14, 15, 16, 17, 18, 19, 20, 21, 22, 23, 24, 25, 26, 27, 28, 29, 30, 31, 32, 33, 34, 35, 36, 37, 38]) (fin := []) Tab.mixed ⟨_, func105⟩ (by rfl) ?_; refine Gl ?_; refine Gl ?_; refine n0 rfl (A2m ?_); refine n0 rfl (Be call189 (C1s t.kind) (fun x11 => ?_)); refine n0 rfl (A2l ?_); refine F1 ?_; refine nI rfl rfl rfl Mk (fun hg16 => Rn ?_) (fun hg16 => ?_)
  ·refine Pe ?_; refine nT rfl rfl rfl (A2l ?_); refine A1d ?_; refine nI rfl rfl rfl Mk (fun hg20 => Rn ?_) (fun hg20 => ?_)
   ·refine Pe ?_; refine nT rfl rfl rfl (A2l ?_); refine B3z ?_; refine A9g ?_; refine F1 ?_; refine nI rfl rfl rfl Mk (fun hg26 => Rn ?_) (fun hg26 => ?_)
    ·refine Pe ?_; refine nT rfl rfl rfl (A2l ?_); refine A1d ?_; refine nI rfl rfl rfl Mk (fun hg30 => Rn ?_) (fun hg30 => ?_)
     ·refine Pe ?_; refine nT rfl rfl rfl (D1t ?_); refine B3z ?_; refine A9g ?_; refine F1 ?_; refine nI rfl rfl rfl Mk (fun hg36 => Rn ?_) (fun hg36 => ?_)
      ·refine Pe ?_; refine nT rfl rfl rfl (Be call190 (M3 t.kind) (fun x39 => ?_)); refine nT rfl rfl rfl (A9m ?_); refine A1d ?_; refine nI rfl rfl rfl Mk (fun hg41 => Rn ?_) (fun hg41 => ?_)
       ·refine Pe ?_; refine nT rfl rfl rfl (A2m ?_); refine nT rfl rfl rfl (A9l ?_); refine B3z ?_; refine Rw ?_; exact hK _ ⟨rfl, rfl, rfl, (by (conv => lhs; whnf); first | (simp_all [K4]; done) | (simp_all [K4]; omega)), trivial⟩
       ·refine Pm ?_; refine B3y ?_; refine Rw ?_; exact hK _ ⟨rfl, rfl, rfl, (by (conv => lhs; whnf); first | (simp_all [K4]; done) | (simp_all [K4]; omega)), trivial⟩
      ·refine Iq ?_; refine Iq ?_; refine Pl ?_; refine Pl ?_; refine A1g ?_; refine Xx ?_; refine I6 ?_; exact hK _ ⟨rfl, rfl, rfl, (by (conv => lhs; whnf); first | (simp_all [K4]; done) | (simp_all [K4]; omega)), trivial⟩
     ·refine Iq ?_; refine B3y ?_; refine A9g ?_; refine F1 ?_; refine B9u ?_; refine Pe ?_; refine nT rfl rfl rfl (Be call190 (M3 t.kind) (fun x39 => ?_)); refine nT rfl rfl rfl (A9m ?_); refine A1d ?_; refine nI rfl rfl rfl Mk (fun hg41 => Rn ?_) (fun hg41 => ?_)
      ·refine Pe ?_; refine nT rfl rfl rfl (A2m ?_); refine nT rfl rfl rfl (A9l ?_); refine B3z ?_; refine Rw ?_; exact hK _ ⟨rfl, rfl, rfl, (by (conv => lhs; whnf); first | (simp_all [K4]; done) | (simp_all [K4]; omega)), trivial⟩
      ·refine Pm ?_; refine B3y ?_; refine Rw ?_; exact hK _ ⟨rfl, rfl, rfl, (by (conv => lhs; whnf); first | (simp_all [K4]; done) | (simp_all [K4]; omega)), trivial⟩
    ·refine Pm ?_; refine Pl ?_; refine C3h ?_; refine A1g ?_; refine Xx ?_; refine F1 ?_; refine Iq ?_; refine Pm ?_; refine Pl ?_; refine Pl ?_; refine A1g ?_; refine Xx ?_; refine I6 ?_; exact hK _ ⟨rfl, rfl, rfl, (by (conv => lhs; whnf); first | (simp_all [K4]; done) | (simp_all [K4]; omega)), trivial⟩
   ·refine Iq ?_; refine B3y ?_; refine A9g ?_; refine F1 ?_; refine B9u ?_; refine Pe ?_; refine nT rfl rfl rfl (A2l ?_); refine A1d ?_; refine nI rfl rfl rfl Mk (fun hg30 => Rn ?_) (fun hg30 => ?_)
    ·refine Pe ?_; refine nT rfl rfl rfl (D1t ?_); refine B3z ?_; refine A9g ?_; refine F1 ?_; refine nI rfl rfl rfl Mk (fun hg36 => Rn ?_) (fun hg36 => ?_)
     ·refine Pe ?_; refine nT rfl rfl rfl (Be call190 (M3 t.kind) (fun x39 => ?_)); refine nT rfl rfl rfl (A9m ?_); refine A1d ?_; refine nI rfl rfl rfl Mk (fun hg41 => Rn ?_) (fun hg41 => ?_)
      ·refine Pe ?_; refine nT rfl rfl rfl (A2m ?_); refine nT rfl rfl rfl (A9l ?_); refine B3z ?_; refine Rw ?_; exact hK _ ⟨rfl, rfl, rfl, (by (conv => lhs; whnf); first | (simp_all [K4]; done) | (simp_all [K4]; omega)), trivial⟩
      ·refine Pm ?_; refine B3y ?_; refine Rw ?_; exact hK _ ⟨rfl, rfl, rfl, (by (conv => lhs; whnf); first | (simp_all [K4]; done) | (simp_all [K4]; omega)), trivial⟩
     ·refine Iq ?_; refine Iq ?_; refine Pl ?_; refine Pl ?_; refine A1g ?_; refine Xx ?_; refine I6 ?_; exact hK _ ⟨rfl, rfl, rfl, (by (conv => lhs; whnf); first | (simp_all [K4]; done) | (simp_all [K4]; omega)), trivial⟩
    ·refine Iq ?_; refine B3y ?_; refine A9g ?_; refine F1 ?_; refine B9u ?_; refine Pe ?_; refine nT rfl rfl rfl (Be call190 (M3 t.kind) (fun x39 => ?_)); refine nT rfl rfl rfl (A9m ?_); refine A1d ?_; refine nI rfl rfl rfl Mk (fun hg41 => Rn ?_) (fun hg41 => ?_)
     ·refine Pe ?_; refine nT rfl rfl rfl (A2m ?_); refine nT rfl rfl rfl (A9l ?_); refine B3z ?_; refine Rw ?_; exact hK _ ⟨rfl, rfl, rfl, (by (conv => lhs; whnf); first | (simp_all [K4]; done) | (simp_all [K4]; omega)), trivial⟩
     ·refine Pm ?_; refine B3y ?_; refine Rw ?_; exact hK _ ⟨rfl, rfl, rfl, (by (conv => lhs; whnf); first | (simp_all [K4]; done) | (simp_all [K4]; omega)), trivial⟩
  ·refine Pm ?_; refine Pl ?_; refine C3h ?_; refine A1g ?_; refine Xx ?_; refine F1 ?_; refine Iq ?_; refine Iq ?_; refine Pl ?_; refine C3h ?_; refine A1g ?_; refine Xx ?_; refine F1 ?_; refine Iq ?_; refine Pm ?_; refine Pl ?_; refine Pl ?_; refine A1g ?_; refine Xx ?_; refine I6 ?_; exact hK _ ⟨rfl, rfl, rfl, (by (conv => lhs; whnf); first | (simp_all [K4]; done) | (simp_all [K4]; omega)), trivial⟩
 ·refine A7 (fun h47 => ?_) (fun h47 => ?_)
  ·refine Cv ?_; refine Av f_ rfl Ab () (by simp [N5, h47]) (fun w hs => hs.none)
  ·refine Jt ?_; refine Hd ?_; refine Ij ?_; refine Hq ?_; refine Fa ?_; refine A7 (fun h50 => ?_) (fun h50 => ?_)
   ·refine Ho ?_; refine C0 ([(6, .bool (decide ((t.r.length : Int) = 0) && decide (0 ≤ t.n) && (decide (vars < 0) || decide (t.n < vars))))]) (fun hK => ?_) (fun base => ?_)
    ·refine I0 ?_; refine Kg ?_; refine Rv ?_; refine qI rfl rfl rfl Mk (fun hg56 => Xh ?_) (fun hg56 => ?_)
     ·refine Se ?_; refine qT rfl rfl rfl (A4h ?_); refine Sd ?_; refine qI rfl rfl rfl Mk (fun hg61 => G8 ?_) (fun hg61 => ?_)
      ·refine qT rfl rfl rfl (A4f ?_); refine Ii ?_; refine qI rfl rfl rfl Mk (fun hg64 => Xh ?_) (fun hg64 => ?_)
       ·refine Se ?_; refine Ii ?_; refine qT rfl rfl rfl (A4f ?_); refine B4a ?_; refine H7 ?_; exact hK _ ⟨(by (conv => lhs; whnf); first | (simp_all [Bool.and_assoc]; done) | (simp_all [Bool.and_assoc]; omega)), trivial⟩
       ·refine Mi ?_; refine A9d ?_; refine H7 ?_; exact hK _ ⟨(by (conv => lhs; whnf); first | (simp_all [Bool.and_assoc]; done) | (simp_all [Bool.and_assoc]; omega)), trivial⟩
      ·refine Fc ?_; refine Ry ?_; refine Ry ?_; refine zq4 ?_; refine Gt ?_; exact hK _ ⟨(by (conv => lhs; whnf); first | (simp_all [Bool.and_assoc]; done) | (simp_all [Bool.and_assoc]; omega)), trivial⟩
     ·refine Fc ?_; refine Hz ?_; refine Mi ?_; refine Ry ?_; refine Ry ?_; refine zq4 ?_; refine Gt ?_; exact hK _ ⟨(by (conv => lhs; whnf); first | (simp_all [Bool.and_assoc]; done) | (simp_all [Bool.and_assoc]; omega)), trivial⟩
    ·refine Av f_ rfl Ab () (by simp_all [N5, Bool.and_assoc]) (fun w hs => hs.none)
   ·refine Fa ?_; refine A7 (fun h71 => ?_) (fun h71 => ?_)
    ·refine Ho ?_; refine C0 ([(6, .bool (decide ((t.r.length : Int) = 0) && Q3 t.name))]) (fun hK => ?_) (fun base => ?_)
     ·refine I0 ?_; refine Kg ?_; refine Rv ?_; refine qI rfl rfl rfl Mk (fun hg77 => Xh ?_) (fun hg77 => ?_)
      ·refine Se ?_; refine qT rfl rfl rfl (A1 call191 (C1i t.name hnm) (fun x80 => ?_)); refine H7 ?_; exact hK _ ⟨(by (conv => lhs; whnf); first | (simp_all [Bool.and_assoc]; done) | (simp_all [Bool.and_assoc]; omega)), trivial⟩
      ·refine Fc ?_; refine Gt ?_; exact hK _ ⟨(by (conv => lhs; whnf); first | (simp_all [Bool.and_assoc]; done) | (simp_all [Bool.and_assoc]; omega)), trivial⟩
     ·refine Av f_ rfl Ab () (by simp_all [N5, Bool.and_assoc]) (fun w hs => hs.none)
    ·refine Tn ?_; refine A7 (fun h82 => ?_) (fun h82 => ?_)
     ·refine A9b ?_; refine Ho ?_; refine C0 ([(6, .bool (Ag t.r && within t.r dims))]) (fun hK => ?_) (fun base => ?_)
      ·refine I0 ?_; refine q0 rfl (A1 call63 ((J0 hf (by simp_all)).1 t.r vr) (fun x88 => ?_)); refine Ef ?_; refine qI rfl rfl rfl Mk (fun hg89 => Xh ?_) (fun hg89 => ?_)
       ·refine Se ?_; refine Ii ?_; refine qT rfl rfl rfl (A1 call192 (Kj (J0 hf (by simp_all)).2.2 t.r vr dims hd hl) (fun x93 => ?_)); refine H7 ?_; exact hK _ ⟨(by (conv => lhs; whnf); first | (simp_all [Bool.and_assoc]; done) | (simp_all [Bool.and_assoc]; omega)), trivial⟩
       ·refine Mi ?_; refine Gt ?_; exact hK _ ⟨(by (conv => lhs; whnf); first | (simp_all [Bool.and_assoc]; done) | (simp_all [Bool.and_assoc]; omega)), trivial⟩
      ·refine Av f_ rfl Ab () (by simp_all [N5, Bool.and_assoc]) (fun w hs => hs.none)
     ·refine Fa ?_; refine A7 (fun h82 => ?_) (fun h82 => ?_)
      ·refine A9b ?_; refine Ho ?_; refine C0 ([(6, .bool (Ag t.r && within t.r dims))]) (fun hK => ?_) (fun base => ?_)
       ·refine I0 ?_; refine q0 rfl (A1 call63 ((J0 hf (by simp_all)).1 t.r vr) (fun x88 => ?_)); refine Ef ?_; refine qI rfl rfl rfl Mk (fun hg89 => Xh ?_) (fun hg89 => ?_)
        ·refine Se ?_; refine Ii ?_; refine qT rfl rfl rfl (A1 call192 (Kj (J0 hf (by simp_all)).2.2 t.r vr dims hd hl) (fun x93 => ?_)); refine H7 ?_; exact hK _ ⟨(by (conv => lhs; whnf); first | (simp_all [Bool.and_assoc]; done) | (simp_all [Bool.and_assoc]; omega)), trivial⟩
        ·refine Mi ?_; refine Gt ?_; exact hK _ ⟨(by (conv => lhs; whnf); first | (simp_all [Bool.and_assoc]; done) | (simp_all [Bool.and_assoc]; omega)), trivial⟩
       ·refine Av f_ rfl Ab () (by simp_all [N5, Bool.and_assoc]) (fun w hs => hs.none)
      ·refine Rz ?_; refine A7 (fun h82 => ?_) (fun h82 => ?_)
       ·refine Ho ?_; refine C0 ([(6, .bool (Ag t.r && within t.r dims))]) (fun hK => ?_) (fun base => ?_)
        ·refine I0 ?_; refine q0 rfl (A1 call63 ((J0 hf (by simp_all)).1 t.r vr) (fun x88 => ?_)); refine Ef ?_; refine qI rfl rfl rfl Mk (fun hg89 => Xh ?_) (fun hg89 => ?_)
         ·refine Se ?_; refine Ii ?_; refine qT rfl rfl rfl (A1 call192 (Kj (J0 hf (by simp_all)).2.2 t.r vr dims hd hl) (fun x93 => ?_)); refine H7 ?_; exact hK _ ⟨(by (conv => lhs; whnf); first | (simp_all [Bool.and_assoc]; done) | (simp_all [Bool.and_assoc]; omega)), trivial⟩
         ·refine Mi ?_; refine Gt ?_; exact hK _ ⟨(by (conv => lhs; whnf); first | (simp_all [Bool.and_assoc]; done) | (simp_all [Bool.and_assoc]; omega)), trivial⟩
        ·refine Av f_ rfl Ab () (by simp_all [N5, Bool.and_assoc]) (fun w hs => hs.none)
       ·refine Fa ?_; refine A7 (fun h95 => ?_) (fun h95 => ?_)
        ·refine Ho ?_; refine C0 ([(6, .bool (Aj t.r && within t.r dims))]) (fun hK => ?_) (fun base => ?_)
         ·refine I0 ?_; refine q0 rfl (A1 call193 ((J0 hf (by simp_all)).2.1 t.r vr) (fun x99 => ?_)); refine Ef ?_; refine qI rfl rfl rfl Mk (fun hg100 => Xh ?_) (fun hg100 => ?_)
          ·refine Se ?_; refine Ii ?_; refine qT rfl rfl rfl (A1 call192 (Kj (J0 hf (by simp_all)).2.2 t.r vr dims hd hl) (fun x104 => ?_)); refine H7 ?_; exact hK _ ⟨(by (conv => lhs; whnf); first | (simp_all [Bool.and_assoc]; done) | (simp_all [Bool.and_assoc]; omega)), trivial⟩
          ·refine Mi ?_; refine Gt ?_; exact hK _ ⟨(by (conv => lhs; whnf); first | (simp_all [Bool.and_assoc]; done) | (simp_all [Bool.and_assoc]; omega)), trivial⟩
         ·refine Av f_ rfl Ab () (by simp_all [N5, Bool.and_assoc]) (fun w hs => hs.none)
        ·refine I5 ?_; refine Ho ?_; refine P7 ?_; refine Fv (X := Nat) (fun i => i ≤ t.sys.length ∧ ∀ j, j < i → Pz t dims (t.sys.getD j Bf) = true) (fun i => [(2, iv dims), (3, pz b3), (107, sl vs t.sys.length), (108, iv (t.sys.length : Int)), (109, iv (i : Int))]) (fun i => BLx t.sys vs VF VK2 :: RT t vr vk vs :: []) (fun i => [Aa b3 (tc t vr vk vs) 26]) (fun i => t.sys.length - i) (0) (⟨Nat.zero_le _, fun j hj => by omega⟩) (by exact Fm) ?_ ?_
         ·exact fun w hs => hs.l9
         ·intro i base0 ⟨hi, hok⟩ next0; refine Gs ?_; refine A7 (fun h110 => ?_) (fun h110 => ?_)
          ·have hlt : i < t.sys.length := by have := of_decide_eq_true h110; omega
           obtain ⟨bk, o, hav⟩ := hA2 A2; refine Jb ?_; refine Tf ?_; refine A9f ?_; refine q0 rfl (B7 fun b8 => ?_); refine Ki ?_; refine Fo i hlt ?_; refine C0 ([(2, iv dims), (3, pz b3), (107, sl vs t.sys.length), (108, iv (t.sys.length : Int)), (109, iv (i : Int)), (132, .bool (!(Pz t dims (t.sys.getD i Bf))))]) (fun hK => ?_) (fun base => ?_)
           ·refine Bd (pn := 1000000) (tn := false) (A := [0, 1, 3, 0, 8, 24, 63, 127, 255, 511, 1023, 2047, 4095, 8191, 16383, 32767, 16383, 131071, 262143, 524287]) (l := [0, 1, 2, 3, 4, 5, 6, 7, 8, 9, 10, 11, 12, 13, 14, 15, 16, 17, 18, 19]) (fin := []) Tab.mixed ⟨_, func105⟩ (by rfl) ?_; refine Gl ?_; refine n0 rfl (A2m ?_); refine Gl ?_; refine n0 rfl (Be call190 (M3 t.kind) (fun x118 => ?_)); refine n0 rfl (A2l ?_); refine F1 ?_; refine nI rfl rfl rfl Mk (fun hg120 => Rn ?_) (fun hg120 => ?_)
            ·refine Pe ?_; refine nT rfl rfl rfl (Be call193 ((B2n hf hlt).2.1 _ (VF i)) (fun x123 => ?_)); refine nT rfl rfl rfl (Wl ?_); refine A9g ?_; refine F1 ?_; refine nI rfl rfl rfl Mk (fun hg126 => Rn ?_) (fun hg126 => ?_)
             ·refine Pe ?_; refine A1d ?_; refine nT rfl rfl rfl (Be call192 (Kj (B2n hf hlt).2.2 _ (VF i) dims hd hl) (fun x130 => ?_)); refine nT rfl rfl rfl (Wl ?_); refine Rw ?_; exact hK _ ⟨rfl, rfl, rfl, rfl, rfl, (by (conv => lhs; whnf); first | (simp_all [Pz]; done) | (simp_all [Pz]; omega)), trivial⟩
             ·refine Iq ?_; refine Iq ?_; refine Xx ?_; refine I6 ?_; exact hK _ ⟨rfl, rfl, rfl, rfl, rfl, (by (conv => lhs; whnf); first | (simp_all [Pz]; done) | (simp_all [Pz]; omega)), trivial⟩
            ·refine Pm ?_; refine Xx ?_; refine F1 ?_; refine Iq ?_; refine Pm ?_; refine Xx ?_; refine I6 ?_; exact hK _ ⟨rfl, rfl, rfl, rfl, rfl, (by (conv => lhs; whnf); first | (simp_all [Pz]; done) | (simp_all [Pz]; omega)), trivial⟩
           ·refine A7 (fun h132 => ?_) (fun h132 => ?_)
            ·refine Cv ?_; have ha := A8t hlt (by simpa using h132); refine Av f_ rfl Ab () (by rw [N5, ha]; clear hok ha h132; simp_all [Bool.and_assoc]) (fun w hs => hs.none)
            ·refine He ?_; have hb : Pz t dims (t.sys.getD i Bf) = true := by simpa using h132
             refine A3 (fun w hs => ?_) (next0 (i + 1) _ ⟨hlt, fun j hj => (by rcases Nat.lt_succ_iff_lt_or_eq.mp hj with h | h; exact hok j h; subst h; exact hb)⟩ A2 Fm); exact (hs.l9).drop
          ·have hge : i = t.sys.length := by have := of_decide_eq_false h110; omega
           refine Dz ?_; refine Hd ?_; refine Kg ?_; refine A1b ?_; have ha := C8n (t := t) (g := Pz t dims) (by rw [← hge]; exact hok); refine Av f_ rfl Ab () (by rw [N5, ha]; clear hok ha; simp_all [Bool.and_assoc]) (fun w hs => hs.none)
abbrev C8w (t : T) : Prop := (N4 t = true ∨ C3e) → ∀ (vars dims : Int) (bound : Bool) vr vk vs, Ao vars → 0 ≤ dims → dims + depth t ≤ 1152921504606846976 → Spec prog 60 #[.agg (tc t vr vk vs).toArray, iv vars, iv dims, .bool bound] [RT t vr vk vs] [] (fun _ : Unit => .bool (Rr t vars dims bound)) (fun _ => []) (fun _ => [])
abbrev D7q (b1 b2 b3 : Nat) : List Value := [pz b1, pz b2, pz b3]
abbrev D7p (b1 b2 b3 : Nat) (vars dims : Int) (bound : Bool) : List Bb := [Aa b1 [iv vars] 3, Aa b2 [iv dims] 3, Aa b3 [.bool bound] 4]
def Ig (v d : Int) : Prop := 0 ≤ v ∧ v ≤ 1 ∧ 0 ≤ d ∧ d ≤ 1
theorem C8i (k i : Int) : Ig (binds k i).1 (binds k i).2 := by
 unfold binds Ig; repeat (split; (simp))
 simp
theorem Uh {t : T} {k : T} {v d : Int} (h : (k, v, d) ∈ parts t) : Ig v d := by
 have hk : ∀ (kind : Int) (i : Nat) (ks : List T), (k, v, d) ∈ Dw kind i ks → Ig v d := by
  intro kind i ks
  induction ks generalizing i with
  | nil => intro h; simp [Dw] at h
  | cons a ks ih =>
   intro h; simp only [Dw, List.mem_cons] at h; rcases h with h | h
   ·have e : (v, d) = binds kind i := (Prod.mk.inj h).2; have := C8i kind i; rw [← e] at this; exact this
   ·exact ih _ h
 have hs : ∀ (kind : Int) (bs : List Br), (k, v, d) ∈ Dt kind bs → Ig v d := by
  intro kind bs
  induction bs with
  | nil => intro h; simp [Dt] at h
  | cons b bs ih =>
   intro h; simp only [Dt, List.mem_append, List.mem_map] at h; rcases h with ⟨a, ha, e⟩ | h
   ·have e2 := (Prod.mk.inj e).2; have e3 := (Prod.mk.inj e2); rw [← e3.1, ← e3.2]; unfold Ig more; split <;> simp
   ·exact ih h
 unfold parts at h; rcases List.mem_append.mp h with h | h
 ·exact hk _ _ _ h
 ·exact hs _ _ h
theorem A5c {t : T} {p : Part} (h : p ∈ parts t) : depth p.1 < depth t := by
 obtain ⟨m, hm⟩ := List.mem_iff_getElem?.mp h; exact B6m hm
theorem C4c {t : T} {p : Part} (h : p ∈ parts t) : size p.1 < size t := by
 obtain ⟨m, hm⟩ := List.mem_iff_getElem?.mp h; have := Qx hm; have := U0 t m; omega
theorem C3c (k : T) (vr vk vs : SH) (b1 b2 b3 : Nat) (vars dims v d : Int) (bound : Bool) (hv : Ao vars) (h0 : 0 ≤ dims) (hvd : Ig v d) (hl : dims + 1 + depth k ≤ 1152921504606846976) (hp : N4 k = true ∨ C3e) (ih : C8w k) : Spec prog 107 #[.agg (tc k vr vk vs).toArray, iv v, iv d, pz b1, pz b2, pz b3] [RT k vr vk vs] (D7p b1 b2 b3 vars dims bound) (fun _ : Unit => .bool (Rr k (IntKind.i64.wrap (vars + if vars < 0 then 0 else v)) (dims + d) bound)) (fun _ => []) (fun _ => D7p b1 b2 b3 vars dims bound) := by
 refine Dv ntmps107 fun B hB => ?_
 obtain ⟨hv0, hv1, hd0, hd1⟩ := hvd; refine Ay ?_; refine q0 rfl (B8 fun b6 => ?_); refine J4 ?_; refine Pn ?_; refine Vf ?_; refine Ij ?_; refine C0 ([(1, iv (if vars < 0 then 0 else v)), (2, iv d), (3, pz b1), (4, pz b2), (5, pz b3), (6, pz b6)]) (fun hK => ?_) (fun base => ?_)
 ·refine A7 (fun h11 => ?_) (fun h11 => ?_)
  ·refine Qd ?_; refine Ce ?_; exact hK _ ⟨(by first | (rw [if_pos (of_decide_eq_true h11)]; rfl) | (rw [if_neg (of_decide_eq_false h11)]; rfl)), rfl, rfl, rfl, rfl, rfl, trivial⟩
  ·refine Mh ?_; exact hK _ ⟨(by first | (rw [if_pos (of_decide_eq_true h11)]; rfl) | (rw [if_neg (of_decide_eq_false h11)]; rfl)), rfl, rfl, rfl, rfl, rfl, trivial⟩
 ·refine Hp ?_; refine zq9 ?_; refine Ef ?_; refine q0 rfl (D4m ?_); refine zq9 ?_; refine Ef ?_; refine Rm ?_; refine zq9 ?_; refine q0 rfl (A1 call60 (ih hp (IntKind.i64.wrap (vars + if vars < 0 then 0 else v)) (dims + d) bound vr vk vs (C9c _) A2 A2) (fun x20 => ?_)); refine Ce ?_; refine Av f_ rfl Ab () rfl (fun w hs => (hs.l8).drop)
theorem C8l (t : T) (hp : N4 t = true ∨ C3e) (ih : ∀ p, p ∈ parts t → C8w p.1) (vars dims : Int) (bound : Bool) (vr vk vs : SH) (hv : Ao vars) (h0 : 0 ≤ dims) (hl : dims + depth t ≤ 1152921504606846976) : Spec prog 60 #[.agg (tc t vr vk vs).toArray, iv vars, iv dims, .bool bound] [RT t vr vk vs] [] (fun _ : Unit => .bool (Rr t vars dims bound)) (fun _ => []) (fun _ => []) := by
 refine Dv ntmps60 fun B hB => ?_
 refine Ay ?_; refine q0 rfl (B8 fun b4 => ?_); refine q0 rfl (B8 fun b5 => ?_); refine q0 rfl (B8 fun b6 => ?_); refine q0 rfl (B8 fun b7 => ?_); refine Rx ?_; refine C0 ([(4, pz b4), (5, pz b5), (6, pz b6), (7, pz b7), (20, .bool ((bound && decide (24 < dims)) || !(N5 t vars dims)))]) (fun hK => ?_) (fun base => ?_)
 ·refine Qd ?_; refine zq9 ?_; refine Ef ?_; refine qI rfl rfl rfl Mk (fun hg10 => D4k ?_) (fun hg10 => ?_)
  ·refine qT rfl rfl rfl (Ze ?_); refine Sd ?_; refine qI rfl rfl rfl Mk (fun hg14 => Ul ?_) (fun hg14 => ?_)
   ·refine Se ?_; refine Se ?_; refine qT rfl rfl rfl (A1 call105 (B1f t (Yy hp) vr vk vs vars dims h0 (by unfold Ao; omega)) (fun x18 => ?_)); refine A5v ?_; refine Ja ?_; exact hK _ ⟨rfl, rfl, rfl, rfl, (by (conv => lhs; whnf); first | (simp_all [Bool.and_assoc]; done) | (simp_all [Bool.and_assoc]; omega)), trivial⟩
   ·refine To ?_; refine Ke ?_; exact hK _ ⟨rfl, rfl, rfl, rfl, (by (conv => lhs; whnf); first | (simp_all [Bool.and_assoc]; done) | (simp_all [Bool.and_assoc]; omega)), trivial⟩
  ·refine zq4 ?_; refine Hz ?_; refine qT rfl rfl rfl (Ul ?_); refine Se ?_; refine Se ?_; refine qT rfl rfl rfl (A1 call105 (B1f t (Yy hp) vr vk vs vars dims h0 (by unfold Ao; omega)) (fun x18 => ?_)); refine A5v ?_; refine Ja ?_; exact hK _ ⟨rfl, rfl, rfl, rfl, (by (conv => lhs; whnf); first | (simp_all [Bool.and_assoc]; done) | (simp_all [Bool.and_assoc]; omega)), trivial⟩
 ·refine A7 (fun h20 => ?_) (fun h20 => ?_)
  ·refine Cv ?_; refine Av f_ rfl Ab () (by rw [Rl, h20]; rfl) (fun w hs => hs.none)
  ·refine Ru ?_; refine Pf ?_; have hE := A4x t vr vk vs 107 (D7q b5 b6 b7) [] (D7p b5 b6 b7 vars dims bound) (fun p => Rr p.1 (IntKind.i64.wrap (vars + if vars < 0 then 0 else p.2.1)) (dims + p.2.2) bound) call107 (fun k v d hm vr vk vs => C3c k vr vk vs b5 b6 b7 vars dims v d bound hv h0 (Uh hm) (by have := A5c hm; simp only at this; omega) (B5b hp hm) (ih _ hm)); refine q0 rfl (A1 call106 (hE) (fun x23 => ?_)); refine Ce ?_; refine Av f_ rfl Ab () (by rw [Rl, h20]; rfl) (fun w hs => hs.none)
theorem C8m : ∀ t : T, C8w t := T.ind fun t ih hp vars dims bound vr vk vs hv h0 hl => C8l t hp ih vars dims bound vr vk vs hv h0 hl
theorem Iz (t : T) (hp : N4 t = true ∨ C3e) (vr vk vs : SH) (hsz : size t ≤ 1152921504606846) : Spec prog 39 #[.agg (tc t vr vk vs).toArray] [RT t vr vk vs] [] (fun _ : Unit => iv (A9 t)) (fun _ => []) (fun _ => []) := by
 refine Dv ntmps39 fun B hB => ?_
 have hds := I9 t; refine Ay ?_; refine q0 rfl (B8 fun b1 => ?_); refine J4 ?_; refine Hp ?_; refine q0 rfl (A1 call59 (B4n t vr vk vs) (fun x5 => ?_)); refine P5 ?_; refine A7 (fun h7 => ?_) (fun h7 => ?_)
 ·have hs := of_decide_eq_true h7; refine L0 ?_; refine Av f_ rfl Ab () (by rw [A9, if_pos hs]) (fun w hs => hs.none)
 ·have hs := of_decide_eq_false h7; refine Jt ?_; refine Hp ?_; refine q0 rfl (A1 call60 (C8m t hp (-1) 24 false vr vk vs (by unfold Ao; omega) A2 A2) (fun x10 => ?_)); refine Jw ?_; refine A7 (fun h11 => ?_) (fun h11 => ?_)
  ·refine Cv ?_; refine Av f_ rfl Ab () (by rw [A9, if_neg hs]; simp_all) (fun w hs => hs.none)
  ·refine Mh ?_; refine Cv ?_; refine Av f_ rfl Ab () (by rw [A9, if_neg hs]; simp_all) (fun w hs => hs.none)
theorem B6f (l : List Part) (a : Nat) : l.foldl (fun a p => a + size p.1) a = a + (l.map fun p => size p.1).sum := by
 induction l generalizing a with
 | nil => simp
 | cons b l ih => rw [List.foldl_cons, ih]; simp; omega
theorem C4b (t : T) : size t = 1 + ((parts t).map fun p => size p.1).sum := by rw [size_eq, B6f]
theorem S4 (t : T) : size t = 1 + (t.kids.map size).sum + ((t.sys.map fun b => b.kids.map size).flatten).sum := by
 rw [C4b, Lk, List.sum_append]; omega
theorem C9d {n : Int} (h : Ao n) : IntKind.i64.wrap n = n := by rw [IntKind.wrap_i64]; unfold Ao at h; omega
theorem B4m {t : T} : sized t = 0 ↔ depth t ≤ 200 ∧ size t ≤ 20000 := by
 unfold sized
 split
 ·simp; omega
 ·split
  ·simp; omega
  ·simp; omega
theorem X6 {t : T} : A9 t = 0 ↔ sized t = 0 ∧ Rr t (-1) 24 false = true := by
 unfold A9
 split
 ·rename_i h; constructor
  ·intro h2; exact absurd h2 h
  ·intro h2; exact absurd h2.1 h
 ·rename_i h
  have h : sized t = 0 := by simpa using h
  split
  ·rename_i h3; simp [h, h3]
  ·rename_i h3; simp [h3]
theorem Oa {l : List Cl} {d : Int} (h : 24 ≤ d) : within l d = true := by unfold within; rw [decide_eq_true h]; rfl
theorem D0b {t : T} {v d e : Int} (h : 24 ≤ d) (h2 : 24 ≤ e) : N5 t v d = N5 t v e := by
 unfold N5
 rw [Oa h, Oa h2]
 have : Pz t d = Pz t e := by funext b; unfold Pz; rw [Oa h, Oa h2]
 rw [this]
theorem D1m : ∀ (t : T) (v d e : Int), 24 ≤ d → 24 ≤ e → Rr t v d false = Rr t v e false := T.ind fun t ih v d e hd he => by
 rw [Rl, Rl, D0b hd he]
 simp only [Bool.false_and, Bool.false_or]
 congr 1
 rw [Bool.eq_iff_iff, List.all_eq_true, List.all_eq_true]
 have hx : ∀ p, p ∈ parts t → Rr p.1 (IntKind.i64.wrap (v + if v < 0 then 0 else p.2.1)) (d + p.2.2) false = Rr p.1 (IntKind.i64.wrap (v + if v < 0 then 0 else p.2.1)) (e + p.2.2) false := fun p hp => by
  have := Uh (k := p.1) (v := p.2.1) (d := p.2.2) hp
  exact ih p hp _ _ _ (by unfold Ig at this; omega) (by unfold Ig at this; omega)
 exact ⟨fun h p hp => by rw [← hx p hp]; exact h p hp, fun h p hp => by rw [hx p hp]; exact h p hp⟩
theorem B2m {t : T} {p : Part} (h : A9 t = 0) (hp : p ∈ parts t) : A9 p.1 = 0 := by
 rw [X6, B4m] at h ⊢
 have h1 := A5c hp
 have h2 := C4c hp
 refine ⟨⟨by omega, by omega⟩, ?_⟩
 have h3 := h.2
 rw [Rl, Bool.and_eq_true] at h3
 have h4 := List.all_eq_true.mp h3.2 p hp
 have h5 := Uh (k := p.1) (v := p.2.1) (d := p.2.2) hp
 unfold Ig at h5
 rw [D1m p.1 _ 24 (24 + p.2.2) A2 A2]
 simpa [show (-1 : Int) < 0 by omega, C9d (show Ao (-1) by unfold Ao; omega)] using h4
theorem B6d {t k : T} (h : A9 t = 0) (hk : k ∈ t.kids) : A9 k = 0 := by obtain ⟨p, hp, e⟩ := F8 hk; exact e ▸ B2m h hp
def E6 (s : Nat) (i : Int) : Nat := if 0 ≤ i ∧ i < 24 then ((s &&& 16777215) &&& (2 ^ i.toNat - 1)) ||| ((s &&& 16777215) / 2 ^ (i.toNat + 1) * 2 ^ i.toNat) else s &&& 16777215
theorem Hn (s : Nat) : s &&& 16777215 < 16777216 := by rw [A5p]; exact Nat.mod_lt _ Fb
theorem Qh (s : Nat) (i : Int) : E6 s i < 16777216 := by
 have h := Hn s
 unfold E6
 split
 ·refine Nat.or_lt_two_pow (n := 24) (Nat.lt_of_le_of_lt Nat.and_le_left h) ?_
  generalize s &&& 16777215 = q at *
  have h1 : q / 2 ^ (i.toNat + 1) * 2 ^ i.toNat ≤ q / 2 ^ i.toNat * 2 ^ i.toNat := Nat.mul_le_mul_right _ (Nat.div_le_div_left (Nat.pow_le_pow_right A2 A2) (Nat.pow_pos A2))
  have h2 := Nat.div_mul_le_self q (2 ^ i.toNat)
  show _ < 16777216
  omega
 ·exact h
def B9a (t : T) (i : Nat) : Nat := (t.sys.take i).foldl (fun a b => a ||| G3 b.Ad) (G3 t.r)
def Re (p : Part × Nat) : Nat := if p.1.2.2 = 1 then E6 p.2 0 else p.2
def D2m (t : T) (l : List (Part × Nat)) : Nat := l.foldl (fun a p => a ||| Re p) (B9a t t.sys.length)
def V8 : T → Nat := pf D2m
def O4 (p : Part) : Nat := Re (p, V8 p.1)
def A0g (t : T) (m : Nat) : Nat := ((parts t).take m).foldl (fun a p => a ||| O4 p) (B9a t t.sys.length)
theorem V7 (t : T) : A0g t (parts t).length = V8 t := by
 unfold A0g
 rw [List.take_length]
 conv => rhs; rw [V8, B0v]
 unfold D2m
 rw [List.foldl_map]
 rfl
theorem O2 (l : List Cl) : G3 l < 16777216 := by rw [B2v]; exact Hn _
theorem Qf {α : Type} (f : α → Nat) : ∀ (l : List α) (a : Nat), a < 16777216 → (∀ x, x ∈ l → f x < 16777216) → l.foldl (fun a x => a ||| f x) a < 16777216
 | [], a, h, _ => h
 | x :: l, a, h, hx => Qf f l _ (Nat.or_lt_two_pow (n := 24) h (hx x List.mem_cons_self)) (fun y hy => hx y (List.mem_cons_of_mem _ hy))
theorem C7x (t : T) (i : Nat) : B9a t i < 16777216 := Qf _ _ _ (O2 _) (fun b _ => O2 _)
theorem V6 : ∀ t, V8 t < 16777216 := T.ind fun t ih => by
 rw [← V7]
 refine Qf _ _ _ (C7x _ _) (fun p hp => ?_)
 have hp : p ∈ parts t := List.mem_of_mem_take hp
 unfold O4 Re
 split
 ·exact Qh _ _
 ·exact ih p hp
def An (s : Nat) (f b : Int) : Int × Nat :=
 if f < 0 ∨ b < 0 then (2, 0) else
 if Bm (s &&& 16777215) (2 ^ (min f.toNat 24) - 1) = 0 then (0, (s &&& 16777215) &&& (2 ^ (min f.toNat 24) - 1)) else
 if 24 ≤ b ∨ 16777215 < Bm (s &&& 16777215) (2 ^ (min f.toNat 24) - 1) * 2 ^ b.toNat then (10, 0) else
 (0, ((s &&& 16777215) &&& (2 ^ (min f.toNat 24) - 1)) ||| (Bm (s &&& 16777215) (2 ^ (min f.toNat 24) - 1) * 2 ^ b.toNat))
theorem Gr (a b i : Nat) : (Bm a b).testBit i = (decide (i < 32) && a.testBit i && !b.testBit i) := by
 unfold Bm
 rw [BitVec.testBit_toNat]
 by_cases h : i < 32
 ·rw [BitVec.getLsbD_and, BitVec.getLsbD_not, BitVec.getLsbD_ofNat, BitVec.getLsbD_ofNat]
  simp [h]
 ·have : (BitVec.ofNat 32 a &&& ~~~BitVec.ofNat 32 b).getLsbD i = false := BitVec.getLsbD_of_ge _ _ A2
  rw [this]; simp [h]
theorem Dy (s i : Nat) : (s &&& 16777215).testBit i = (decide (i < 24) && s.testBit i) := by
 rw [A5p, Nat.testBit_mod_two_pow]
theorem M7 (m i : Nat) : (2 ^ m - 1).testBit i = decide (i < m) := Nat.testBit_two_pow_sub_one m i
theorem A5o {q m : Nat} (h : q < 16777216) : Bm q m < 16777216 := by
 refine Nat.lt_pow_two_of_testBit (n := 24) _ (fun i hi => ?_)
 rw [Gr, Nat.testBit_lt_two_pow (x := q) (Nat.lt_of_lt_of_le h (Nat.pow_le_pow_right (n := 2) Fb hi))]
 simp
theorem Mv (s : Nat) (f b : Int) : (An s f b).2 < 16777216 := by
 unfold An
 split
 ·decide
 ·split
  ·exact Nat.lt_of_le_of_lt Nat.and_le_left (Hn s)
  ·split
   ·decide
   ·refine Nat.or_lt_two_pow (n := 24) ?_ ?_
    ·exact Nat.lt_of_le_of_lt Nat.and_le_left (Hn s)
    ·rename_i h; simp only [not_or] at h; have := h.2; omega
def Bl (c : Cl) (f b : Int) : Int × Cl :=
 if Bw c = false then (2, Bc) else
 if (An c.pos f b).1 ≠ 0 then ((An c.pos f b).1, Bc) else
 if (An c.neg f b).1 ≠ 0 then ((An c.neg f b).1, Bc) else
 (0, ⟨(An c.pos f b).2, (An c.neg f b).2⟩)
theorem T5 (c : Cl) (f b : Int) : u32 (Bl c f b).2 := by
 have h1 := Mv c.pos f b
 have h2 := Mv c.neg f b
 unfold Bl
 split
 ·exact ⟨(by decide : (0 : Nat) < 4294967296), (by decide : (0 : Nat) < 4294967296)⟩
 ·split
  ·exact ⟨(by decide : (0 : Nat) < 4294967296), (by decide : (0 : Nat) < 4294967296)⟩
  ·split
   ·exact ⟨(by decide : (0 : Nat) < 4294967296), (by decide : (0 : Nat) < 4294967296)⟩
   ·exact ⟨by show (An c.pos f b).2 < _; omega, by show (An c.neg f b).2 < _; omega⟩
def Fw (g : Cl → Int × Cl) (l : List Cl) : Int × List Cl := match l.find? (fun c => (g c).1 ≠ 0) with
 | some c => ((g c).1, [])
 | none => (0, l.map fun c => (g c).2)
theorem C2d {g : Cl → Int × Cl} {l : List Cl} {i : Nat} (hi : i < l.length) (h0 : ∀ j, j < i → (g (l.getD j Bc)).1 = 0) (h : (g (l.getD i Bc)).1 ≠ 0) : Fw g l = ((g (l.getD i Bc)).1, []) := by
 have : l.find? (fun c => (g c).1 ≠ 0) = some (l.getD i Bc) := by
  rw [List.find?_eq_some_iff_getElem]
  rw [Gx (d := Bc) hi] at h ⊢
  refine ⟨by simpa using h, i, hi, rfl, fun j hj => ?_⟩
  have := h0 j hj
  rw [Gx (d := Bc) A2] at this
  simp [this]
 rw [Fw, this]
theorem B2p {g : Cl → Int × Cl} {l : List Cl} (h0 : ∀ j, j < l.length → (g (l.getD j Bc)).1 = 0) : Fw g l = (0, l.map fun c => (g c).2) := by
 have : l.find? (fun c => (g c).1 ≠ 0) = none := by
  rw [List.find?_eq_none]
  intro x hx
  obtain ⟨j, hj, e⟩ := List.mem_iff_getElem.mp hx
  have := h0 j hj
  rw [Gx (d := Bc) hj, e] at this
  simp [this]
 rw [Fw, this]
theorem A4u {g : Cl → Int × Cl} {l : List Cl} : (Fw g l).1 = 0 ↔ ∀ c, c ∈ l → (g c).1 = 0 := by
 unfold Fw
 cases h : l.find? (fun c => (g c).1 ≠ 0) with
 | none =>
  rw [List.find?_eq_none] at h
  simp only [true_iff]
  intro c hc
  simpa using h c hc
 | some c =>
  have h1 := List.find?_some h
  have h2 := List.mem_of_find?_eq_some h
  simp only
  refine ⟨fun h3 => ?_, fun h3 => h3 c h2⟩
  simp at h1; exact absurd h3 h1
theorem C2b {g : Cl → Int × Cl} {l : List Cl} (h : (Fw g l).1 = 0) : Fw g l = (0, l.map fun c => (g c).2) :=
 B2p fun j hj => A4u.mp h _ (Ai hj)
theorem Nc {l : List Cl} : Ag l = true ↔ Bk l = (0, l) := by
 rw [← Ut, Bool.and_eq_true, decide_eq_true_eq, decide_eq_true_eq]
 constructor
 ·rintro ⟨h1, h2⟩; exact Prod.ext h1 h2
 ·intro h; rw [h]; exact ⟨rfl, rfl⟩
def A6 (l : List Cl) (f b : Int) : Int × List Cl :=
 if Ag l = false then (2, []) else
 if (Fw (fun c => Bl c f b) l).1 ≠ 0 then ((Fw (fun c => Bl c f b) l).1, []) else Bk (Fw (fun c => Bl c f b) l).2
def Az (by_ : Int) (l : List Cl) (f : Int) : A5 (List Cl) :=
 if by_ = 0 ∨ 24 ≤ f then .ok l else if (A6 l f by_).1 = 0 then .ok (A6 l f by_).2 else .bad (A6 l f by_).1
def Ba (vb db : Int) : Tr (Int × Int) where
 own c k n _ r := (Az db r c.2).bind fun r' => if k = 1 ∧ c.1 ≤ n then (if 1000000000 - vb < n then .bad 100 else .ok (.inr (n + vb, r'))) else .ok (.inr (n, r'))
 Ad c f := (Az db f c.2).bind fun f' => .ok (some f')
 Hu c b := .ok (c.1 + b.1, c.2 + b.2)
section
variable {C : Type} {A : Tr C} {t : T} {c : C} {e : Int}
theorem Ob (h : A.own c t.kind t.n t.name t.r = .bad e) : B1 A t c = .bad e := by rw [Cy, h]; rfl
theorem Tt {p : Int × List Cl} {i : Nat} {l : List T} (h : A.own c t.kind t.n t.name t.r = .ok (.inr p)) (hi : i < t.kids.length) (hl : Cn A t.kind 0 (t.kids.take i) c = .ok l) {c' : C} (hc : A.Hu c (binds t.kind i) = .ok c') (hb : B1 A (t.kids.getD i t0) c' = .bad e) : B1 A t c = .bad e := by
 have h1 : Cn A t.kind 0 (t.kids.take (i + 1)) c = .bad e := by
  rw [Ae (d := t0) hi, Sj, hl]
  simp only [A5.bind, List.length_take, Nat.zero_add, Nat.min_eq_left (Nat.le_of_lt hi)]
  rw [hc]; simp only; rw [hb]
 have h2 := A2v (m := t.kids.drop (i + 1)) h1
 rw [List.take_append_drop] at h2
 rw [Cy, h]; simp only [A5.bind]; rw [h2]
theorem Wm {k : Int} {ts : List T} {i : Nat} {l : List T} {u : T} (hi : i < ts.length) (hl : Cn A k 0 (ts.take i) c = .ok l) {c' : C} (hc : A.Hu c (binds k i) = .ok c') (hb : B1 A (ts.getD i t0) c' = .ok u) : Cn A k 0 (ts.take (i + 1)) c = .ok (l ++ [u]) := by
 rw [Ae (d := t0) hi, Sj, hl]
 simp only [A5.bind, List.length_take, Nat.zero_add, Nat.min_eq_left (Nat.le_of_lt hi)]
 rw [hc]; simp only; rw [hb]
theorem Tu {k : Int} {ts : List T} {i : Nat} {l : List T} (hi : i < ts.length) (hl : Bv A k (ts.take i) c = .ok l) {c' : C} (hc : A.Hu c (0, more k) = .ok c') (hb : B1 A (ts.getD i t0) c' = .bad e) : Bv A k ts c = .bad e := by
 have h1 : Bv A k (ts.take (i + 1)) c = .bad e := by
  rw [Ae (d := t0) hi, Si, hl]
  simp only [A5.bind]
  rw [hc]; simp only; rw [hb]
 have h2 := A2s (m := ts.drop (i + 1)) h1
 rwa [List.take_append_drop] at h2
theorem Wn {k : Int} {ts : List T} {i : Nat} {l : List T} {u : T} (hi : i < ts.length) (hl : Bv A k (ts.take i) c = .ok l) {c' : C} (hc : A.Hu c (0, more k) = .ok c') (hb : B1 A (ts.getD i t0) c' = .ok u) : Bv A k (ts.take (i + 1)) c = .ok (l ++ [u]) := by
 rw [Ae (d := t0) hi, Si, hl]
 simp only [A5.bind]
 rw [hc]; simp only; rw [hb]
theorem Je {p : Int × List Cl} {s : Nat} {l : List T} {bs : List Br} (h : A.own c t.kind t.n t.name t.r = .ok (.inr p)) (hl : Cn A t.kind 0 t.kids c = .ok l) (hs : s < t.sys.length) (hb : C6 A t.kind (t.sys.take s) c = .ok bs) (hf : A.Ad c (t.sys.getD s Bf).Ad = .bad e ∨ ∃ f', A.Ad c (t.sys.getD s Bf).Ad = .ok (some f') ∧ Bv A t.kind (t.sys.getD s Bf).kids c = .bad e) : B1 A t c = .bad e := by
 have h1 : C6 A t.kind (t.sys.take (s + 1)) c = .bad e := by
  rw [Ae (d := Bf) hs, Oc, hb]
  simp only [A5.bind]
  rcases hf with hf | ⟨f', hf, h2⟩
  ·rw [hf]
  ·rw [hf]; simp only; rw [h2]
 have h2 := Vn (m := t.sys.drop (s + 1)) h1
 rw [List.take_append_drop] at h2
 rw [Cy, h]; simp only [A5.bind]; rw [hl]; simp only; rw [h2]
theorem Pr {k : Int} {ss : List Br} {s : Nat} {bs : List Br} {f' : List Cl} {ks : List T} (hs : s < ss.length) (hb : C6 A k (ss.take s) c = .ok bs) (hf : A.Ad c (ss.getD s Bf).Ad = .ok (some f')) (hk : Bv A k (ss.getD s Bf).kids c = .ok ks) : C6 A k (ss.take (s + 1)) c = .ok (bs ++ [.mk f' ks]) := by
 rw [Ae (d := Bf) hs, Oc, hb]
 simp only [A5.bind]
 rw [hf]; simp only; rw [hk]
theorem Sh {p : Int × List Cl} {l : List T} {bs : List Br} (h : A.own c t.kind t.n t.name t.r = .ok (.inr p)) (hl : Cn A t.kind 0 t.kids c = .ok l) (hb : C6 A t.kind t.sys c = .ok bs) : B1 A t c = .ok (.mk t.kind p.1 t.name p.2 l bs) := by
 rw [Cy, h]; simp only [A5.bind]; rw [hl]; simp only; rw [hb]
end
theorem A4t {g : Cl → Int × Cl} {l : List Cl} (h : ∀ c, u32 (g c).2) : ∀ c, c ∈ (Fw g l).2 → u32 c := by
 intro c hc
 unfold Fw at hc
 split at hc
 ·cases hc
 ·obtain ⟨d, _, rfl⟩ := List.mem_map.mp hc; exact h d
theorem C2c {g : Cl → Int × Cl} {l : List Cl} : (Fw g l).2.length ≤ l.length := by
 unfold Fw
 split <;> simp
theorem R7 (k : Int) : 0 ≤ more k ∧ more k ≤ 1 := by unfold more; split <;> omega
theorem Fs {t : T} {i : Nat} (h : i < t.kids.length) : size (t.kids.getD i t0) < size t := by
 obtain ⟨p, hp, e⟩ := F8 (Ai (d := t0) h); exact e ▸ L7 hp
theorem Kk {t : T} {s k : Nat} (h : s < t.sys.length) (h2 : k < (t.sys.getD s Bf).kids.length) : size ((t.sys.getD s Bf).kids.getD k t0) < size t := by
 obtain ⟨p, hp, e⟩ := H0 (Ai (d := Bf) h) (Ai (d := t0) h2); exact e ▸ L7 hp
def Gv (vb : Int) (v : Int) (k n : Int) : Int := if k = 1 ∧ v ≤ n then n + vb else n
theorem C6k {vb db v d : Int} {t : T} {g : List Cl} (hg : Az db t.r d = .ok g) (h : ¬ (t.kind = 1 ∧ v ≤ t.n ∧ 1000000000 - vb < t.n)) : (Ba vb db).own (v, d) t.kind t.n t.name t.r = .ok (.inr (Gv vb v t.kind t.n, g)) := by
 simp only [Ba, hg, A5.bind, Gv]
 split
 ·rename_i h1
  rw [if_neg (fun h2 => h ⟨h1.1, h1.2, h2⟩)]
 ·rfl
theorem A7n {vb db v d : Int} {t : T} {e : Int} (hg : Az db t.r d = .bad e) : (Ba vb db).own (v, d) t.kind t.n t.name t.r = .bad e := by
 simp only [Ba, hg, A5.bind]
theorem A7o {vb db v d : Int} {t : T} {g : List Cl} (hg : Az db t.r d = .ok g) (h : t.kind = 1 ∧ v ≤ t.n ∧ 1000000000 - vb < t.n) : (Ba vb db).own (v, d) t.kind t.n t.name t.r = .bad 100 := by
 simp only [Ba, hg, A5.bind]
 rw [if_pos ⟨h.1, h.2.1⟩, if_pos h.2.2]
theorem Up {vb db v d : Int} {f g : List Cl} (hg : Az db f d = .ok g) : (Ba vb db).Ad (v, d) f = .ok (some g) := by simp only [Ba, hg, A5.bind]
theorem A1v {vb db v d : Int} {f : List Cl} {e : Int} (hg : Az db f d = .bad e) : (Ba vb db).Ad (v, d) f = .bad e := by simp only [Ba, hg, A5.bind]
theorem B2b {vb db v d : Int} {b : Int × Int} : (Ba vb db).Hu (v, d) b = .ok (v + b.1, d + b.2) := rfl
theorem A2w {vb db : Int} {k : Int} {c : Int × Int} : ∀ {l l' : List Br}, C6 (Ba vb db) k l c = .ok l' → l'.length = l.length
 | [], l', h => by rw [Bs] at h; injection h with h; subst h; rfl
 | a :: l, l', h => by
  rw [Bq] at h
  obtain ⟨o, ho, h⟩ := A5.A0 h
  obtain ⟨g, _, hg⟩ := A5.A0 (x := Az db a.Ad c.2) ho
  injection hg with hg
  subst hg
  obtain ⟨ks', _, h⟩ := A5.A0 h
  obtain ⟨bs', h3, h⟩ := A5.A0 h
  injection h with h
  subst h
  simp [A2w h3]
theorem Nz : h0.er = t0 := by simp [h0, HT.er, HT.erL, HT.erB, t0]
theorem St.h0R {B : Ch} {Γ : List Fact} {Ms : List Bb} {w : World} (y : Tys) (hs : St B Γ Ms w) : St B Γ (Cu (F6 y h0) :: Ms) w := by
 have h1 := ((((hs.Ni).Ni).Bu 2 y.b).Bu 6 y.t).Bu 2 y.c
 exact St.B8u (y := y) (k := 0) (n := 0) (nm := ByteArray.mk #[]) (r := []) (v := Bo) (u := Bo) (x := Bo) (ks := []) (ss := []) rfl rfl rfl rfl rfl rfl (by simpa [E4, Ng] using h1)
def Cg (t : T) (ns : List Int) (r : A5 T) : Int × T := if A9 t ≠ 0 then (A9 t, t0) else if ns.all (fun n => decide (0 ≤ n)) = false then (2, t0) else match r with
 | .ok u => (0, u)
 | .bad e => (e, t0)
theorem B6a {t : T} {ns : List Int} {r : A5 T} (h : A9 t ≠ 0) : Cg t ns r = (A9 t, t0) := by unfold Cg; rw [if_pos h]
theorem C1w {t : T} {ns : List Int} {r : A5 T} (h : A9 t = 0) (h2 : ns.all (fun n => decide (0 ≤ n)) = false) : Cg t ns r = (2, t0) := by unfold Cg; rw [if_neg (by simp [h]), if_pos h2]
theorem C7d {t u : T} {ns : List Int} {r : A5 T} (h : A9 t = 0) (h2 : ns.all (fun n => decide (0 ≤ n)) = true) (hr : r = .ok u) : Cg t ns r = (0, u) := by unfold Cg; rw [if_neg (by simp [h]), if_neg (by simp [h2]), hr]
theorem C1x {t : T} {e : Int} {ns : List Int} {r : A5 T} (h : A9 t = 0) (h2 : ns.all (fun n => decide (0 ≤ n)) = true) (hr : r = .bad e) : Cg t ns r = (e, t0) := by unfold Cg; rw [if_neg (by simp [h]), if_neg (by simp [h2]), hr]
theorem Spec.Ic {P : Program} {k : FuncId} {args : Array Value} {pre : List Fact} (y : Tys) {u : T} (g : Value → Value) (h : Spec P k args pre [] (fun x : {h : HT // h.er = u} => g (.agg (tc u x.1.vr x.1.vk x.1.vs).toArray)) (fun _ => []) (fun x => [Cu (F6 y x.1)])) (hok : ∀ ok w, St ⟨ok, Bh [], w⟩ pre [] w → N9 u) :
  Spec P k args pre [] (fun x : SH × SH × SH => g (.agg (tc u x.1 x.2.1 x.2.2).toArray)) (fun x => [RT u x.1 x.2.1 x.2.2]) (fun _ => []) := fun ok w hk hs => (h ok w hk hs).mono fun e w' hh => by
 obtain ⟨x, he, hs'⟩ := hh
 have h1 : St ⟨ok, Bh [], w⟩ [] (F6 y x.1 ++ []) w' := hs'.unpack
 have h2 := St.Ic y trivial x.1 (by rw [x.2]; exact hok ok w hs) h1
 rw [x.2] at h2
 exact ⟨(x.1.vr, x.1.vk, x.1.vs), he, h2⟩
theorem L3.Ic {P : Program} {Te : TypeId} {k : FuncId} {args : Array Value} {pre : List Fact} (y : Tys) {r : A5 T} (h : L3 P Te k args pre r (fun (u : T) => fun x : {h : HT // h.er = u} => .agg (tc u x.1.vr x.1.vk x.1.vs).toArray) (fun _ _ => []) (fun (u : T) => fun x : {h : HT // h.er = u} => [Cu (F6 y x.1)])) (hok : ∀ u, r = .ok u → ∀ ok w, St ⟨ok, Bh [], w⟩ pre [] w → N9 u) :
  L3 P Te k args pre r (fun (u : T) => fun x : SH × SH × SH => .agg (tc u x.1 x.2.1 x.2.2).toArray) (fun u x => [RT u x.1 x.2.1 x.2.2]) (fun _ _ => []) := ⟨fun u hu => Spec.Ic y (fun v => v) (h.1 u hu) (hok u hu), h.2⟩
abbrev B3 (l : List Cl) : Prop := (∀ c, c ∈ l → u32 c) ∧ l.length * 8 ≤ reach
section
variable {C : Type} {A : Tr C}
mutual
theorem Ts (ho : ∀ c k n nm r p, Ao k → Ao n → B3 r → A.own c k n nm r = .ok (.inr p) → Ao p.1 ∧ B3 p.2) (hi : ∀ c k n nm r u, A.own c k n nm r = .ok (.inl u) → N9 u) (hf : ∀ c f f', B3 f → A.Ad c f = .ok (some f') → B3 f') : ∀ (t : T) (c : C) (u : T), N9 t → B1 A t c = .ok u → N9 u
 | .mk k n nm r ks ss, c, u, h, hu => by
  simp only [N9] at h
  obtain ⟨h1, h2, h3, h4, h5, h6, h7, h8⟩ := h
  rw [Cy] at hu
  simp only [T.kind, T.n, T.name, T.r, T.kids, T.sys] at hu
  obtain ⟨o, h9, hu⟩ := A5.A0 hu
  cases o with
  | inl v => injection hu with hu; subst hu; exact hi _ _ _ _ _ _ h9
  | inr p =>
   obtain ⟨ks', h10, hu⟩ := A5.A0 hu
   obtain ⟨ss', h11, hu⟩ := A5.A0 hu
   injection hu with hu
   subst hu
   obtain ⟨p1, p2⟩ := ho _ _ _ _ _ _ h1 h2 h4 h9
   simp only [N9]
   exact ⟨h1, p1, h3, p2, by rw [Qu h10]; exact h5, Nat.le_trans (Nat.mul_le_mul_right _ (Qv h11)) h6, A2u ho hi hf ks 0 c ks' h7 h10, Vm ho hi hf ss c ss' h8 h11⟩
theorem A2u (ho : ∀ c k n nm r p, Ao k → Ao n → B3 r → A.own c k n nm r = .ok (.inr p) → Ao p.1 ∧ B3 p.2) (hi : ∀ c k n nm r u, A.own c k n nm r = .ok (.inl u) → N9 u) (hf : ∀ c f f', B3 f → A.Ad c f = .ok (some f') → B3 f') {kd : Int} : ∀ (ts : List T) (i : Nat) (c : C) (us : List T), okL ts → Cn A kd i ts c = .ok us → okL us
 | [], i, c, us, h, hu => by rw [C4] at hu; injection hu with hu; subst hu; simp only [okL]
 | t :: ts, i, c, us, h, hu => by
  simp only [okL] at h
  rw [C3] at hu
  obtain ⟨c', _, hu⟩ := A5.A0 hu
  obtain ⟨t', h2, hu⟩ := A5.A0 hu
  obtain ⟨ts', h3, hu⟩ := A5.A0 hu
  injection hu with hu
  subst hu
  simp only [okL]
  exact ⟨Ts ho hi hf t c' t' h.1 h2, A2u ho hi hf ts (i + 1) c ts' h.2 h3⟩
theorem A2r (ho : ∀ c k n nm r p, Ao k → Ao n → B3 r → A.own c k n nm r = .ok (.inr p) → Ao p.1 ∧ B3 p.2) (hi : ∀ c k n nm r u, A.own c k n nm r = .ok (.inl u) → N9 u) (hf : ∀ c f f', B3 f → A.Ad c f = .ok (some f') → B3 f') {kd : Int} : ∀ (ts : List T) (c : C) (us : List T), okL ts → Bv A kd ts c = .ok us → okL us
 | [], c, us, h, hu => by rw [Cr] at hu; injection hu with hu; subst hu; simp only [okL]
 | t :: ts, c, us, h, hu => by
  simp only [okL] at h
  rw [C2] at hu
  obtain ⟨c', _, hu⟩ := A5.A0 hu
  obtain ⟨t', h2, hu⟩ := A5.A0 hu
  obtain ⟨ts', h3, hu⟩ := A5.A0 hu
  injection hu with hu
  subst hu
  simp only [okL]
  exact ⟨Ts ho hi hf t c' t' h.1 h2, A2r ho hi hf ts c ts' h.2 h3⟩
theorem Vm (ho : ∀ c k n nm r p, Ao k → Ao n → B3 r → A.own c k n nm r = .ok (.inr p) → Ao p.1 ∧ B3 p.2) (hi : ∀ c k n nm r u, A.own c k n nm r = .ok (.inl u) → N9 u) (hf : ∀ c f f', B3 f → A.Ad c f = .ok (some f') → B3 f') {kd : Int} : ∀ (bs : List Br) (c : C) (us : List Br), okB bs → C6 A kd bs c = .ok us → okB us
 | [], c, us, h, hu => by rw [Bs] at hu; injection hu with hu; subst hu; simp only [okB]
 | .mk f ks :: bs, c, us, h, hu => by
  simp only [okB] at h
  obtain ⟨h1, h2, h3, h4⟩ := h
  rw [Bq] at hu
  simp only [Br.Ad, Br.kids] at hu
  obtain ⟨o, h5, hu⟩ := A5.A0 hu
  cases o with
  | none => exact Vm ho hi hf bs c us h4 hu
  | some f' =>
   obtain ⟨ks', h6, hu⟩ := A5.A0 hu
   obtain ⟨bs', h7, hu⟩ := A5.A0 hu
   injection hu with hu
   subst hu
   simp only [okB]
   exact ⟨hf _ _ _ h1 h5, by rw [Qs h6]; exact h2, A2r ho hi hf ks c ks' h3 h6, Vm ho hi hf bs c bs' h4 h7⟩
end
end
theorem En : B3 [] := ⟨fun c hc => (by cases hc), by unfold reach; decide⟩
theorem A4q {l : List Cl} (h : ∀ c, c ∈ l → u32 c) : B3 (Bk l).2 := by
 unfold Bk
 split
 ·exact En
 ·split
  ·exact En
  ·rename_i h64
   exact ⟨fun c hc => h c (Ec.mp hc).1, by show (Eh l).length * 8 ≤ reach; unfold reach; omega⟩
theorem Ks (l : List Cl) (f b : Int) : B3 (A6 l f b).2 := by
 unfold A6
 split
 ·exact En
 ·split
  ·exact En
  ·exact A4q (A4t (fun c => T5 c f b))
theorem Yn {l g : List Cl} {f b : Int} (h : B3 l) (hg : Az b l f = .ok g) : B3 g := by
 unfold Az at hg
 split at hg
 ·injection hg with hg; subst hg; exact h
 ·split at hg
  ·injection hg with hg; subst hg; exact Ks l f b
  ·cases hg
theorem Zm {vb db : Int} (hv : 0 ≤ vb ∧ vb ≤ 1000000) {t u : T} {c : Int × Int} (h : N9 t) (hu : B1 (Ba vb db) t c = .ok u) : N9 u := by
 refine Ts (A := Ba vb db) ?_ ?_ ?_ t c u h hu
 ·intro c k n nm r p _ hn hr ho
  obtain ⟨g, hg, ho⟩ := A5.A0 (x := Az db r c.2) ho
  have hgo := Yn hr hg
  split at ho
  ·rename_i h1
   split at ho
   ·cases ho
   ·injection ho with ho; injection ho with ho; subst ho
    exact ⟨by unfold Ao at *; dsimp only; omega, hgo⟩
  ·injection ho with ho; injection ho with ho; subst ho
   exact ⟨hn, hgo⟩
 ·intro c k n nm r u ho
  obtain ⟨g, hg, ho⟩ := A5.A0 (x := Az db r c.2) ho
  split at ho
  ·split at ho
   ·cases ho
   ·injection ho with ho; cases ho
  ·injection ho with ho; cases ho
 ·intro c f f' hr ho
  obtain ⟨g, hg, ho⟩ := A5.A0 (x := Az db f c.2) ho
  injection ho with ho; injection ho with ho; subst ho
  exact Yn hr hg
theorem N8 : N9 t0 := by simp [t0, N9, okL, okB, Ao, Gg, reach]; decide
theorem guard_okT' {t : T} {ns : List Int} {r : A5 T} (h : ns.all (fun n => decide (0 ≤ n)) = true → ∀ u, r = .ok u → N9 u) : N9 (Cg t ns r).2 := by
 unfold Cg
 split
 ·exact N8
 ·split
  ·exact N8
  ·rename_i ha
   cases r with
   | ok u => exact h (by simpa using ha) u rfl
   | bad e => exact N8
abbrev B3k (t : T) (v d : Int) : A5 T := (B1 (Ba v 0) t (0, 0)).bind fun u => B1 (Ba 0 d) u (0, 0)
def Df (b : Int) : Int := IntKind.i64.wrap (1000000 - b)
theorem D0n (b : Int) : Ao (Df b) := by
 have h : Df b = (1000000 - b + 9223372036854775808) % 18446744073709551616 - 9223372036854775808 := by
  unfold Df; rw [IntKind.wrap_i64]
 unfold Ao; rw [h]; omega
theorem B8o {b : Int} (hb : Ao b) (h0 : 0 ≤ b) (h : 0 ≤ Df b) : b ≤ 1000000 := by
 have h1 : Df b = (1000000 - b + 9223372036854775808) % 18446744073709551616 - 9223372036854775808 := by
  unfold Df; rw [IntKind.wrap_i64]
 unfold Ao at hb; omega
def Ci (t : T) (v d : Int) : Int × T := Cg t [v, d, Df v] (B3k t v d)
theorem A5.C8j {α β : Type} {x : A5 α} {e : Int} {k : α → A5 β} (h : x = .bad e) : x.bind k = .bad e := by rw [h]; rfl
theorem A5.B9j {α β : Type} {x : A5 α} {a : α} {y : A5 β} {k : α → A5 β} (h : x = .ok a) (h2 : k a = y) : x.bind k = y := by rw [h]; exact h2
theorem Ld {vb db : Int} {c : Int × Int} {k n : Int} {nm : ByteArray} {r : List Cl} {u : T} : (Ba vb db).own c k n nm r ≠ .ok (.inl u) := by
 intro ho
 obtain ⟨g, hg, ho⟩ := A5.A0 (x := Az db r c.2) ho
 split at ho
 ·split at ho
  ·cases ho
  ·injection ho with ho; cases ho
 ·injection ho with ho; cases ho
mutual
theorem Nv {vb db : Int} : ∀ {t u : T} {c : Int × Int}, B1 (Ba vb db) t c = .ok u → size u = size t
 | .mk k n nm r ks ss, u, c, hu => by
  rw [Cy] at hu
  simp only [T.kind, T.n, T.name, T.r, T.kids, T.sys] at hu
  obtain ⟨o, h9, hu⟩ := A5.A0 hu
  cases o with
  | inl v => exact absurd h9 Ld
  | inr p =>
   obtain ⟨ks', h10, hu⟩ := A5.A0 hu
   obtain ⟨ss', h11, hu⟩ := A5.A0 hu
   injection hu with hu
   subst hu
   rw [S4, S4]
   simp only [T.kids, T.sys]
   rw [Zp h10, Zr h11]
theorem Zp {vb db k : Int} : ∀ {ts us : List T} {i : Nat} {c : Int × Int}, Cn (Ba vb db) k i ts c = .ok us → us.map size = ts.map size
 | [], us, i, c, hu => by rw [C4] at hu; injection hu with hu; subst hu; rfl
 | t :: ts, us, i, c, hu => by
  rw [C3] at hu
  obtain ⟨c', _, hu⟩ := A5.A0 hu
  obtain ⟨t', h2, hu⟩ := A5.A0 hu
  obtain ⟨ts', h3, hu⟩ := A5.A0 hu
  injection hu with hu
  subst hu
  simp only [List.map_cons]
  rw [Nv h2, Zp h3]
theorem Zo {vb db k : Int} : ∀ {ts us : List T} {c : Int × Int}, Bv (Ba vb db) k ts c = .ok us → us.map size = ts.map size
 | [], us, c, hu => by rw [Cr] at hu; injection hu with hu; subst hu; rfl
 | t :: ts, us, c, hu => by
  rw [C2] at hu
  obtain ⟨c', _, hu⟩ := A5.A0 hu
  obtain ⟨t', h2, hu⟩ := A5.A0 hu
  obtain ⟨ts', h3, hu⟩ := A5.A0 hu
  injection hu with hu
  subst hu
  simp only [List.map_cons]
  rw [Nv h2, Zo h3]
theorem Zr {vb db k : Int} : ∀ {bs us : List Br} {c : Int × Int}, C6 (Ba vb db) k bs c = .ok us → (us.map fun b => b.kids.map size) = bs.map fun b => b.kids.map size
 | [], us, c, hu => by rw [Bs] at hu; injection hu with hu; subst hu; rfl
 | .mk f ks :: bs, us, c, hu => by
  rw [Bq] at hu
  simp only [Br.Ad, Br.kids] at hu
  obtain ⟨o, h5, hu⟩ := A5.A0 hu
  obtain ⟨g, _, h6⟩ := A5.A0 (x := Az db f c.2) h5
  injection h6 with h6
  subst h6
  obtain ⟨ks', h7, hu⟩ := A5.A0 hu
  obtain ⟨bs', h8, hu⟩ := A5.A0 hu
  injection hu with hu
  subst hu
  show (ks'.map size :: (bs'.map fun b => b.kids.map size)) = (ks.map size :: (bs.map fun b => b.kids.map size))
  rw [Zo h7, Zr h8]
end
theorem D1l {t : T} {v d : Int} {b : Bool} : Rr t v d b = true ↔ (¬ (b = true ∧ 24 < d)) ∧ N5 t v d = true ∧ ∀ p, p ∈ parts t → Rr p.1 (IntKind.i64.wrap (v + if v < 0 then 0 else p.2.1)) (d + p.2.2) b = true := by
 rw [Rl, Bool.and_eq_true, List.all_eq_true]
 simp only [Bool.not_eq_true', Bool.or_eq_false_iff, Bool.and_eq_false_iff, decide_eq_false_iff_not, Bool.not_eq_false']
 constructor
 ·rintro ⟨⟨h1, h2⟩, h3⟩
  refine ⟨?_, h2, h3⟩
  rintro ⟨h4, h5⟩
  rcases h1 with h1 | h1
  ·rw [h1] at h4; cases h4
  ·exact h1 h5
 ·rintro ⟨h1, h2, h3⟩
  refine ⟨⟨?_, h2⟩, h3⟩
  cases b
  ·exact .inl rfl
  ·exact .inr (fun h => h1 ⟨rfl, h⟩)
theorem C2i (s i : Nat) (h : s < 16777216) : (E6 s 0).testBit i = s.testBit (i + 1) := by
 have e : s &&& 16777215 = s := by rw [A5p]; exact Nat.mod_eq_of_lt h
 unfold E6
 rw [if_pos A2, e]
 simp [Nat.testBit_succ]
theorem Ol {t : T} {p : Part} (hp : p ∈ parts t) : (∃ i, i < t.kids.length ∧ p = (t.kids.getD i t0, binds t.kind (i : Int))) ∨ ∃ s k, s < t.sys.length ∧ k < (t.sys.getD s Bf).kids.length ∧ p = ((t.sys.getD s Bf).kids.getD k t0, 0, more t.kind) := by
 unfold parts at hp
 rcases List.mem_append.mp hp with hp | hp
 ·left
  have key : ∀ (ks : List T) (s : Nat), p ∈ Dw t.kind s ks → ∃ i, i < ks.length ∧ p = (ks.getD i t0, binds t.kind ((s + i : Nat) : Int)) := by
   intro ks
   induction ks with
   | nil => intro s h; simp [Dw] at h
   | cons k ks ih =>
    intro s h
    simp only [Dw, List.mem_cons] at h
    rcases h with h | h
    ·exact ⟨0, by simp, by simpa using h⟩
    ·obtain ⟨i, hi, e⟩ := ih (s + 1) h
     exact ⟨i + 1, by simpa using hi, by rw [e]; simp only [List.getD_cons_succ]; rw [show s + 1 + i = s + (i + 1) by omega]⟩
  obtain ⟨i, hi, e⟩ := key t.kids 0 hp
  exact ⟨i, hi, by rw [e]; simp⟩
 ·right
  have key : ∀ (bs : List Br), p ∈ Dt t.kind bs → ∃ s k, s < bs.length ∧ k < (bs.getD s Bf).kids.length ∧ p = ((bs.getD s Bf).kids.getD k t0, 0, more t.kind) := by
   intro bs
   induction bs with
   | nil => intro h; simp [Dt] at h
   | cons b bs ih =>
    intro h
    simp only [Dt, List.mem_append, List.mem_map] at h
    rcases h with ⟨k, hk, e⟩ | h
    ·obtain ⟨j, hj, e2⟩ := List.mem_iff_getElem.mp hk
     exact ⟨0, j, by simp, by simpa using hj, by rw [← e]; simp only [List.getD_cons_zero]; rw [Gx (d := t0) hj, e2]⟩
    ·obtain ⟨s, k, h1, h2, e⟩ := ih h
     exact ⟨s + 1, k, by simpa using h1, by simpa using h2, by rw [e]; simp⟩
  exact key t.sys hp
def D7a (t : T) (i : Int) : Bool := decide (i < 24) && (V8 t).testBit i.toNat
theorem V0 {α : Type} (f : α → Nat) (i : Nat) : ∀ (l : List α) (a : Nat), (l.foldl (fun a x => a ||| f x) a).testBit i = true ↔ a.testBit i = true ∨ ∃ x, x ∈ l ∧ (f x).testBit i = true
 | [], a => by simp
 | x :: l, a => by
  rw [List.foldl_cons, V0 f i l, Nat.testBit_or]
  simp only [Bool.or_eq_true, List.mem_cons, exists_eq_or_imp, or_assoc]
theorem C5h {p : Part} {i : Nat} (hi : i < 24) (hb : Ig p.2.1 p.2.2) : (O4 p).testBit i = D7a p.1 ((i : Int) + p.2.2) := by
 unfold O4 Re D7a
 unfold Ig at hb
 split
 ·rename_i h
  simp only at h
  rw [C2i _ _ (V6 _), h]
  by_cases h2 : (i : Int) + 1 < 24
  ·rw [decide_eq_true h2, Bool.true_and]
   congr 1
  ·rw [decide_eq_false h2, Bool.false_and]
   exact Nat.testBit_lt_two_pow (Nat.lt_of_lt_of_le (V6 p.1) (Nat.pow_le_pow_right (n := 2) (j := i + 1) A2 (show 24 ≤ i + 1 by omega)))
 ·rename_i h
  simp only at h
  have h0 : p.2.2 = 0 := by omega
  rw [h0, Int.add_zero, decide_eq_true (show (i : Int) < 24 by omega), Bool.true_and]
  simp
def Ma (k n : Int) (nm : ByteArray) (r : List Cl) : Prop :=
 (k ≠ 1 → n = 0) ∧ (k ≠ 2 → nm.toList = (ByteArray.mk #[]).toList) ∧ (k = 1 → r = [] ∧ 0 ≤ n) ∧ (k = 2 → r = [] ∧ Q3 nm = true) ∧ (k = 13 ∨ k = 21 ∨ k = 26 → Ag r = true) ∧ (k = 14 → Aj r = true) ∧ (k ≠ 13 ∧ k ≠ 21 ∧ k ≠ 26 ∧ k ≠ 14 → r = [])
mutual
def Er : T → Prop
 | .mk k n nm r ks ss => Ma k n nm r ∧ De k = (ks.length : Int) ∧ (Ei k = 0 → ss = []) ∧ J1 ks ∧ Pb k ss
def J1 : List T → Prop
 | [] => True
 | t :: ts => Er t ∧ J1 ts
def Pb (k : Int) : List Br → Prop
 | [] => True
 | .mk f ks :: bs => (ks.length : Int) = Ei k ∧ Aj f = true ∧ J1 ks ∧ Pb k bs
end
theorem Mt {k : Int} (h : k = 1 ∨ k = 2 ∨ k = 13 ∨ k = 21 ∨ k = 26 ∨ k = 14) : Ei k = 0 := by
 unfold Ei
 rcases h with h | h | h | h | h | h <;> subst h <;> decide
theorem A2i (l : List Cl) {d : Int} (h : 24 ≤ d) : within l d = true := by unfold within; rw [decide_eq_true h]; rfl
theorem len_nil {α : Type} {l : List α} : ((l.length : Int) = 0) ↔ l = [] := by
 constructor
 ·intro h; exact List.eq_nil_of_length_eq_zero A2
 ·rintro rfl; rfl
theorem Vv {k n : Int} {nm : ByteArray} {r : List Cl} {ks : List T} {ss : List Br} {d : Int} (hd : 24 ≤ d) : N5 (.mk k n nm r ks ss) (-1) d = true ↔ Ma k n nm r ∧ De k = (ks.length : Int) ∧ (Ei k = 0 → ss = []) ∧ ∀ b, b ∈ ss → (b.kids.length : Int) = Ei k ∧ Aj b.Ad = true := by
 have hB : ∀ b : Br, Pz (.mk k n nm r ks ss) d b = (decide ((b.kids.length : Int) = Ei k) && Aj b.Ad) := fun b => by
  unfold Pz; rw [A2i _ hd, Bool.and_true]; rfl
 have hL : (0 : Int) < (ss.length : Int) ↔ ss ≠ [] := by
  constructor
  ·intro h e; subst e; simp at h
  ·intro h; have := List.length_pos_iff.mpr h; omega
 have hs : ∀ p : Bool, (ss.all (Pz (.mk k n nm r ks ss) d) = true) ↔ ∀ b, b ∈ ss → (b.kids.length : Int) = Ei k ∧ Aj b.Ad = true := fun _ => by
  rw [List.all_eq_true]
  exact forall_congr' fun b => forall_congr' fun _ => by rw [hB]; simp
 unfold N5 K4 Ma
 simp only [T.kind, T.n, T.name, T.r, T.kids, T.sys, A2i _ hd, Bool.and_true, Bool.and_eq_true, Bool.not_eq_true', Bool.or_eq_false_iff, Bool.and_eq_false_iff, decide_eq_false_iff_not, Decidable.not_not, ne_eq, Int.not_lt, Bool.not_eq_false', beq_iff_eq]
 constructor
 ·rintro ⟨⟨⟨⟨h1, h2⟩, h3⟩, h4⟩, h5⟩
  replace h1 : De k = (ks.length : Int) := Decidable.not_not.mp (of_decide_eq_false h1)
  replace h2 : k = 1 ∨ n = 0 := h2.imp (fun h => Decidable.not_not.mp (of_decide_eq_false h)) (fun h => Decidable.not_not.mp (of_decide_eq_false h))
  replace h3 : k = 2 ∨ nm.toList = (ByteArray.mk #[]).toList := h3.imp (fun h => Decidable.not_not.mp (of_decide_eq_false h)) id
  replace h4 : ¬ Ei k = 0 ∨ ¬ (0 : Int) < (ss.length : Int) := h4.imp (fun h => of_decide_eq_false h) (fun h => of_decide_eq_false h)
  have hss : Ei k = 0 → ss = [] := by
   intro h
   rcases h4 with h4 | h4
   ·exact absurd h h4
   ·exact List.eq_nil_of_length_eq_zero A2
  split at h5
  ·rename_i hk
   have he := hss (Mt A2)
   subst he
   simp only [Bool.and_eq_true, decide_eq_true_eq] at h5
   exact ⟨⟨by omega, fun _ => h3.resolve_left A2, fun _ => ⟨len_nil.mp (of_decide_eq_true h5.1.1), of_decide_eq_true h5.1.2⟩, by omega, by omega, by omega, fun _ => len_nil.mp (of_decide_eq_true h5.1.1)⟩, h1, hss, fun b hb => by cases hb⟩
  ·split at h5
   ·rename_i hk1 hk
    have he := hss (Mt A2)
    subst he
    simp only [Bool.and_eq_true, decide_eq_true_eq] at h5
    exact ⟨⟨by omega, fun h => absurd hk h, by omega, fun _ => ⟨len_nil.mp (of_decide_eq_true h5.1), h5.2⟩, by omega, by omega, fun _ => len_nil.mp (of_decide_eq_true h5.1)⟩, h1, hss, fun b hb => by cases hb⟩
   ·split at h5
    ·rename_i hk1 hk2 hk
     have he := hss (Mt A2)
     subst he
     exact ⟨⟨by omega, fun _ => h3.resolve_left A2, by omega, by omega, fun _ => h5, by omega, by omega⟩, h1, hss, fun b hb => by cases hb⟩
    ·split at h5
     ·rename_i hk1 hk2 hk3 hk
      have he := hss (Mt A2)
      subst he
      exact ⟨⟨by omega, fun _ => h3.resolve_left A2, by omega, by omega, by omega, fun _ => h5, by omega⟩, h1, hss, fun b hb => by cases hb⟩
     ·rename_i hk1 hk2 hk3 hk4
      simp only [Bool.and_eq_true, decide_eq_true_eq] at h5
      exact ⟨⟨by omega, fun _ => h3.resolve_left A2, by omega, by omega, by omega, by omega, fun _ => len_nil.mp (of_decide_eq_true h5.2)⟩, h1, hss, (hs true).mp h5.1⟩
 ·rintro ⟨⟨a1, a2, a3, a4, a5, a6, a7⟩, b1, b2, b3⟩
  refine ⟨⟨⟨⟨decide_eq_false (Decidable.not_not.mpr b1), ?_⟩, ?_⟩, ?_⟩, ?_⟩
  ·by_cases h : k = 1
   ·exact .inl (decide_eq_false (Decidable.not_not.mpr h))
   ·exact .inr (decide_eq_false (Decidable.not_not.mpr (a1 h)))
  ·by_cases h : k = 2
   ·exact .inl (decide_eq_false (Decidable.not_not.mpr h))
   ·exact .inr (a2 h)
  ·by_cases h : Ei k = 0
   ·exact .inr (decide_eq_false (by rw [b2 h]; decide))
   ·exact .inl (decide_eq_false h)
  ·split
   ·rename_i h; simp [(a3 h).1, (a3 h).2]
   ·split
    ·rename_i h; simp [(a4 h).1, (a4 h).2]
    ·split
     ·rename_i h; exact a5 h
     ·split
      ·rename_i h; exact a6 h
      ·rename_i h1 h2 h3 h4
       rw [Bool.and_eq_true, (hs true)]
       exact ⟨b3, by simp [a7 A2]⟩
theorem Rc : ∀ {ts : List T}, J1 ts ↔ ∀ t, t ∈ ts → Er t
 | [] => by simp [J1]
 | t :: ts => by simp [J1, Rc (ts := ts)]
theorem W5 {k : Int} : ∀ {bs : List Br}, Pb k bs ↔ ∀ b, b ∈ bs → (b.kids.length : Int) = Ei k ∧ Aj b.Ad = true ∧ J1 b.kids
 | [] => by simp [Pb]
 | .mk f ks :: bs => by
  simp only [Pb, W5 (bs := bs), List.forall_mem_cons, Br.kids, Br.Ad]
  constructor
  ·rintro ⟨h1, h2, h3, h4⟩; exact ⟨⟨h1, h2, h3⟩, h4⟩
  ·rintro ⟨⟨h1, h2, h3⟩, h4⟩; exact ⟨h1, h2, h3, h4⟩
theorem Hv {t : T} : Er t ↔ Ma t.kind t.n t.name t.r ∧ De t.kind = (t.kids.length : Int) ∧ (Ei t.kind = 0 → t.sys = []) ∧ J1 t.kids ∧ Pb t.kind t.sys := by
 obtain ⟨k, n, nm, r, ks, ss⟩ := t
 simp only [Er, T.kind, T.n, T.name, T.r, T.kids, T.sys]
theorem Zy {t : T} : Er t ↔ (∀ d : Int, 24 ≤ d → N5 t (-1) d = true) ∧ ∀ p, p ∈ parts t → Er p.1 := by
 rw [Hv, Rc, W5]
 have ho : ∀ d : Int, 24 ≤ d → (N5 t (-1) d = true ↔ Ma t.kind t.n t.name t.r ∧ De t.kind = (t.kids.length : Int) ∧ (Ei t.kind = 0 → t.sys = []) ∧ ∀ b, b ∈ t.sys → (b.kids.length : Int) = Ei t.kind ∧ Aj b.Ad = true) := by
  intro d hd
  obtain ⟨k, n, nm, r, ks, ss⟩ := t
  exact Vv hd
 constructor
 ·rintro ⟨h1, h2, h3, h4, h5⟩
  refine ⟨fun d hd => (ho d hd).mpr ⟨h1, h2, h3, fun b hb => ⟨(h5 b hb).1, (h5 b hb).2.1⟩⟩, fun p hp => ?_⟩
  rcases Ol hp with ⟨i, hi, rfl⟩ | ⟨s, k, hs, hk, rfl⟩
  ·exact h4 _ (Ai hi)
  ·exact Rc.mp (h5 _ (Ai hs)).2.2 _ (Ai hk)
 ·rintro ⟨h1, h2⟩
  obtain ⟨a1, a2, a3, a4⟩ := (ho 24 A2).mp (h1 24 A2)
  refine ⟨a1, a2, a3, fun k hk => ?_, fun b hb => ⟨(a4 b hb).1, (a4 b hb).2, Rc.mpr fun k hk => ?_⟩⟩
  ·obtain ⟨p, hp, e⟩ := F8 hk; exact e ▸ h2 p hp
  ·obtain ⟨p, hp, e⟩ := H0 hb hk; exact e ▸ h2 p hp
theorem C8o : ∀ (t : T) (d : Int), 24 ≤ d → (Rr t (-1) d false = true ↔ Er t) := T.ind fun t ih d hd => by
 rw [D1l, Zy]
 have hw : ∀ p : Part, IntKind.i64.wrap (-1 + if (-1 : Int) < 0 then 0 else p.2.1) = -1 := fun p => by rw [if_pos Fb]; decide
 constructor
 ·rintro ⟨_, h2, h3⟩
  refine ⟨fun d' hd' => ?_, fun p hp => ?_⟩
  ·obtain ⟨k, n, nm, r, ks, ss⟩ := t
   exact (Vv hd').mpr ((Vv hd).mp h2)
  ·have h4 := h3 p hp
   rw [hw] at h4
   have h5 := Ui hp
   exact (ih p hp (d + p.2.2) A2).mp h4
 ·rintro ⟨h1, h2⟩
  refine ⟨by simp, h1 d hd, fun p hp => ?_⟩
  rw [hw]
  have h5 := Ui hp
  exact (ih p hp (d + p.2.2) A2).mpr (h2 p hp)
theorem D0 {t : T} : A9 t = 0 ↔ sized t = 0 ∧ Er t := by rw [X6, C8o t 24 A2]
section
variable {C : Type} {A : Tr C}
end
section
variable {CA CB CC : Type} {A : Tr CA} {B : Tr CB} {D : Tr CC} (R : CA → CB → CC → Prop)
structure C3d : Prop where
 inl : ∀ ca cb cc k n nm r u, R ca cb cc → Ma k n nm r → A.own ca k n nm r = .ok (.inl u) → D.own cc k n nm r = (B1 B u cb).bind fun w => .ok (.inl w)
 inr : ∀ ca cb cc k n nm r p, R ca cb cc → Ma k n nm r → A.own ca k n nm r = .ok (.inr p) → B.own cb k p.1 nm p.2 = D.own cc k n nm r
 none : ∀ ca cb cc f, R ca cb cc → Aj f = true → A.Ad ca f = .ok none → D.Ad cc f = .ok none
 some : ∀ ca cb cc f f', R ca cb cc → Aj f = true → A.Ad ca f = .ok (some f') → B.Ad cb f' = D.Ad cc f
 Hu : ∀ ca cb cc b ca', 0 ≤ b.1 → 0 ≤ b.2 → R ca cb cc → A.Hu ca b = .ok ca' → (∃ cb' cc', B.Hu cb b = .ok cb' ∧ D.Hu cc b = .ok cc' ∧ R ca' cb' cc') ∨ ∃ e, B.Hu cb b = .bad e ∧ D.Hu cc b = .bad e
variable {R}
mutual
theorem D1a (F : C3d (A := A) (B := B) (D := D) R) : ∀ {t u : T} {ca : CA} {cb : CB} {cc : CC}, Er t → R ca cb cc → B1 A t ca = .ok u → B1 B u cb = B1 D t cc
 | .mk k n nm r ks ss, u, ca, cb, cc, h, hr, hu => by
  simp only [Er] at h
  obtain ⟨h1, h2, h3, h4, h5⟩ := h
  rw [Cy] at hu
  simp only [T.kind, T.n, T.name, T.r, T.kids, T.sys] at hu
  obtain ⟨o, h9, hu⟩ := A5.A0 hu
  cases o with
  | inl v =>
   injection hu with hu
   subst hu
   conv => rhs; rw [Cy]
   simp only [T.kind, T.n, T.name, T.r, T.kids, T.sys]
   rw [F.inl _ _ _ _ _ _ _ _ hr h1 h9]
   cases B1 B v cb <;> rfl
  | inr p =>
   obtain ⟨ks', h10, hu⟩ := A5.A0 hu
   obtain ⟨ss', h11, hu⟩ := A5.A0 hu
   injection hu with hu
   subst hu
   rw [Cy, Cy]
   simp only [T.kind, T.n, T.name, T.r, T.kids, T.sys]
   rw [F.inr _ _ _ _ _ _ _ _ hr h1 h9, D2j F h4 hr h10, C7g F h5 hr h11]
theorem D2j (F : C3d (A := A) (B := B) (D := D) R) {kd : Int} : ∀ {ts us : List T} {i : Nat} {ca : CA} {cb : CB} {cc : CC}, J1 ts → R ca cb cc → Cn A kd i ts ca = .ok us → Cn B kd i us cb = Cn D kd i ts cc
 | [], us, i, ca, cb, cc, h, hr, hu => by rw [C4] at hu; injection hu with hu; subst hu; rw [C4, C4]
 | t :: ts, us, i, ca, cb, cc, h, hr, hu => by
  simp only [J1] at h
  rw [C3] at hu
  obtain ⟨c', h1, hu⟩ := A5.A0 hu
  obtain ⟨t', h2, hu⟩ := A5.A0 hu
  obtain ⟨ts', h3, hu⟩ := A5.A0 hu
  injection hu with hu
  subst hu
  rw [C3, C3]
  rcases F.Hu _ _ _ _ _ (Jr _ _).1 (Jr _ _).2.2.1 hr h1 with ⟨cb', cc', e1, e2, hr'⟩ | ⟨e, e1, e2⟩
  ·rw [e1, e2]
   simp only [A5.bind]
   rw [D1a F h.1 hr' h2, D2j F h.2 hr h3]
  ·rw [e1, e2]; rfl
theorem D2i (F : C3d (A := A) (B := B) (D := D) R) {kd : Int} : ∀ {ts us : List T} {ca : CA} {cb : CB} {cc : CC}, J1 ts → R ca cb cc → Bv A kd ts ca = .ok us → Bv B kd us cb = Bv D kd ts cc
 | [], us, ca, cb, cc, h, hr, hu => by rw [Cr] at hu; injection hu with hu; subst hu; rw [Cr, Cr]
 | t :: ts, us, ca, cb, cc, h, hr, hu => by
  simp only [J1] at h
  rw [C2] at hu
  obtain ⟨c', h1, hu⟩ := A5.A0 hu
  obtain ⟨t', h2, hu⟩ := A5.A0 hu
  obtain ⟨ts', h3, hu⟩ := A5.A0 hu
  injection hu with hu
  subst hu
  rw [C2, C2]
  rcases F.Hu _ _ _ _ _ (Int.le_refl 0) (R7 _).1 hr h1 with ⟨cb', cc', e1, e2, hr'⟩ | ⟨e, e1, e2⟩
  ·rw [e1, e2]
   simp only [A5.bind]
   rw [D1a F h.1 hr' h2, D2i F h.2 hr h3]
  ·rw [e1, e2]; rfl
theorem C7g (F : C3d (A := A) (B := B) (D := D) R) {kd : Int} : ∀ {bs us : List Br} {ca : CA} {cb : CB} {cc : CC}, Pb kd bs → R ca cb cc → C6 A kd bs ca = .ok us → C6 B kd us cb = C6 D kd bs cc
 | [], us, ca, cb, cc, h, hr, hu => by rw [Bs] at hu; injection hu with hu; subst hu; rw [Bs, Bs]
 | .mk f ks :: bs, us, ca, cb, cc, h, hr, hu => by
  simp only [Pb] at h
  obtain ⟨h1, h2, h3, h4⟩ := h
  rw [Bq] at hu
  simp only [Br.Ad, Br.kids] at hu
  obtain ⟨o, h5, hu⟩ := A5.A0 hu
  cases o with
  | none =>
   rw [C7g F h4 hr hu]
   conv => rhs; rw [Bq]
   simp only [Br.Ad, Br.kids]
   rw [F.none _ _ _ _ hr h2 h5]
   rfl
  | some f' =>
   obtain ⟨ks', h6, hu⟩ := A5.A0 hu
   obtain ⟨bs', h7, hu⟩ := A5.A0 hu
   injection hu with hu
   subst hu
   rw [Bq, Bq]
   simp only [Br.Ad, Br.kids]
   rw [F.some _ _ _ _ _ hr h2 h5, D2i F h3 hr h6, C7g F h4 hr h7]
end
end
section
variable {CA CC : Type} {A : Tr CA} {D : Tr CC} (R : CA → CC → Prop)
variable {R}
end
end Go.Hy
