/- Contracts of this program's functions and the laws that they need. -/
import Derived.Test.YtibignmpjeemeaaGreatDoorP4
set_option linter.unusedVariables false
set_option linter.unusedSimpArgs false
set_option linter.unusedSectionVars false
namespace Go.Hy
open Go.Proofs Go.Proofs.Tryz
theorem sm_ {p q : Prop} (h : p) (e : p = q := by
 try (conv => lhs; simp only [sC, bne_iff_ne, beq_iff_eq, ne_eq])
 try rfl) : q := e ▸ h
class D4 (P : Program) (k : FuncId) (fn : outParam Func) : Prop where
 f : P.funcs[k]? = some fn
structure Ap (p : Prop) : Prop where
 out : p
section
variable {P : Program} {f : FuncId} {R : Ending → World → Prop} {B : C0} {n : Fz} {K : List Item} {σ : Nat → Value} {Γ Γ' : List Fact} {Ms : List B3}
theorem f_ {k : FuncId} {fn : Func} [h : D4 P k fn] : P.funcs[k]? = some fn := h.f
theorem Jo {fn : Func} {id : Nat} {ops : Array Oper} [h9 : D4 P f fn] (h : Dp P f R B n K ops (List.range ops.size) σ Γ Ms) : E4 P f R B n (.code (.region id ops false) :: K) σ Γ Ms := go_region ⟨_, h9.f⟩ rfl h
theorem qi_ {Q : Program} [Tab Q] {g : FuncId} {S : Ending → World → Prop} {C : C0} {m : Fz} {L : List Item} {ops : Array Oper} {i : Nat} {l : List Nat} {τ : Nat → Value} {Δ : List Fact} {Ns : List B3} {dst : Option Tmp} {op : Op} {ty : TypeId} {pos : String} {after : Array Edge} {e d : Nat} {want : Bool} {og : Oper} (ho : ops[i]? = some ⟨dst, op, ty, pos, after, some (e, want)⟩) (t : Bool) {p q : Prop} (kT : t = want → p → E8 Q g S C m L ops l (Cd dst op ty) (Pg τ d (.bool want)) Δ Ns) (kF : t = !want → q → Dp Q g S C m L ops l (Ak (Pg τ d (.bool !want)) dst undef) Δ Ns) (hog : ops[e]? = some og := by exact rfl) (hgd : og.dst = some d := by exact rfl) (ht : τ d = .bool t := by exact Ac) (e1 : (t = want) = p := by
 try (conv => lhs; simp only [sC, bne_iff_ne, beq_iff_eq, ne_eq])
 try rfl) (e2 : (t = !want) = q := by
 try (conv => lhs; simp only [Bool.not_true, Bool.not_false, sC, bne_iff_ne, beq_iff_eq, ne_eq])
 try rfl) (hd : Ae m dst = true := by rfl) : Dp Q g S C m L ops (i :: l) τ Δ Ns := qI ho hog hgd ht (fun h => kT h (e1 ▸ h)) (fun h => kF h (e2 ▸ h)) hd
theorem Dc {d : Nat} {x y : Code} (t : Bool) {p q : Prop} (kT : t = true → p → E4 P f R B n (.code x :: K) (Pg σ d (.bool true)) Γ Ms) (kF : t = false → q → E4 P f R B n (.code y :: K) (Pg σ d (.bool false)) Γ Ms) (hc : σ d = .bool t := by exact Ac) (e1 : (t = true) = p := by
 try (conv => lhs; simp only [sC, bne_iff_ne, beq_iff_eq, ne_eq])
 try rfl) (e2 : (t = false) = q := by
 try (conv => lhs; simp only [sC, bne_iff_ne, beq_iff_eq, ne_eq])
 try rfl) : E4 P f R B n (.code (.cond (.tmp d) x y) :: K) σ Γ Ms := A4 (fun h => kT h (e1 ▸ h)) (fun h => kF h (e2 ▸ h)) hc
theorem Dj {fn : Func} {c : Code} {m : Nat} {args : List Value} {pre : List Fact} {Ms0 : List B3} {X : Type} {val : X → Value} {N : X → List Fact} {Ms1 : X → List B3} [h9 : D4 P f fn] (hn : fn.ntmps = m) (h : ∀ B : C0, (∀ b, B.S0 b ↔ B6 Ms0 b) → E4 P f (Ends B val N Ms1) B ⟨m, [], .normal⟩ [.code c] (fun t => args.getD t undef) pre Ms0) (hb : fn.body = some c := by exact rfl) (ha : args.length ≤ m := by exact Nat.le_of_ble_eq_true rfl) : Spec P f args.toArray pre Ms0 val N Ms1 := Ek h9.f hn hb ha h
theorem St.l9 {w : World} (hs : St B Γ Ms w) (h : ∀ F, F ∈ Γ' → F ∈ Γ := by simp +contextual) : St B Γ' Ms w := hs.less h
theorem St.l7 {w : World} (hs : St B Γ Ms w) (h : ∀ F, F ∈ ([] : List Fact) → F ∈ Γ := by simp) : St B [] Ms w := hs.less h
theorem St.l8 {w : World} (hs : St B Γ Ms w) (h : ∀ F, F ∈ Γ' → F ∈ Γ := by simp) : St B Γ' Ms w := hs.less h
end
section
variable {p q : Prop}
theorem Fq (k : p) (h : Ap p → q := by intro h; refine D1o ?_; exact h.1) : q := h ⟨k⟩
theorem Kj (k : p) (h : Ap p → q := by intro h; refine C7t ?_; exact h.1) : q := h ⟨k⟩
theorem zq2 (k : p) (h : Ap p → q := by intro h; refine q0 rfl (B9f ?_); exact h.1) : q := h ⟨k⟩
theorem Ef (k : p) (h : Ap p → q := by intro h; refine q0 rfl (Eg ?_); exact h.1) : q := h ⟨k⟩
theorem Hg (k : p) (h : Ap p → q := by intro h; refine go_skip ?_; exact h.1) : q := h ⟨k⟩
theorem Qy (k : p) (h : Ap p → q := by intro h; refine qF rfl rfl rfl ?_; exact h.1) : q := h ⟨k⟩
theorem zq6 (k : p) (h : Ap p → q := by intro h; refine q0 rfl (B4t ?_); exact h.1) : q := h ⟨k⟩
theorem Xx (k : p) (h : Ap p → q := by intro h; refine C0v ?_; exact h.1) : q := h ⟨k⟩
theorem zq8 (k : p) (h : Ap p → q := by intro h; refine q0 rfl (Pj ?_); exact h.1) : q := h ⟨k⟩
theorem zq9 (k : p) (h : Ap p → q := by intro h; refine nF rfl rfl rfl ?_; exact h.1) : q := h ⟨k⟩
theorem A7l (k : p) (h : Ap p → q := by intro h; refine q0 rfl (D6p ?_); exact h.1) : q := h ⟨k⟩
theorem Qb (k : p) (h : Ap p → q := by intro h; refine q0 rfl (C8q ?_); exact h.1) : q := h ⟨k⟩
theorem Ff (k : p) (h : Ap p → q := by intro h; refine q0 rfl (Rv ?_); exact h.1) : q := h ⟨k⟩
theorem Hh (k : p) (h : Ap p → q := by intro h; refine n0 rfl (A7m ?_); exact h.1) : q := h ⟨k⟩
theorem A7k (k : p) (h : Ap p → q := by intro h; refine q0 rfl (A4t ?_); exact h.1) : q := h ⟨k⟩
theorem Hw (k : p) (h : Ap p → q := by intro h; refine q0 rfl (A4r ?_); exact h.1) : q := h ⟨k⟩
theorem G4 (k : p) (h : Ap p → q := by intro h; refine C4t rfl ?_; exact h.1) : q := h ⟨k⟩
theorem A7j (k : p) (h : Ap p → q := by intro h; refine q0 rfl (D3o ?_); exact h.1) : q := h ⟨k⟩
theorem C7i (k : p) (h : Ap p → q := by intro h; refine q0 rfl (B1w ?_); exact h.1) : q := h ⟨k⟩
theorem Qa (k : p) (h : Ap p → q := by intro h; refine A9p ?_; exact h.1) : q := h ⟨k⟩
theorem Vc (k : p) (h : Ap p → q := by intro h; refine q0 rfl (C6k ?_); exact h.1) : q := h ⟨k⟩
theorem C2s (k : p) (h : Ap p → q := by intro h; refine q0 rfl (Wg ?_); exact h.1) : q := h ⟨k⟩
theorem C7h (k : p) (h : Ap p → q := by intro h; refine q0 rfl (P2 ?_); exact h.1) : q := h ⟨k⟩
theorem B3o (k : p) (h : Ap p → q := by intro h; refine NV.done ?_; exact h.1) : q := h ⟨k⟩
theorem A3e (k : p) (h : Ap p → q := by intro h; refine n0 rfl (Pf ?_); exact h.1) : q := h ⟨k⟩
theorem Pe (k : p) (h : Ap p → q := by intro h; refine q0 rfl (D3k ?_); exact h.1) : q := h ⟨k⟩
theorem C7g (k : p) (h : Ap p → q := by intro h; refine C0u ?_; exact h.1) : q := h ⟨k⟩
theorem Mb (k : p) (h : Ap p → q := by intro h; refine qT rfl rfl rfl (C8q ?_); exact h.1) : q := h ⟨k⟩
theorem B6j (k : p) (h : Ap p → q := by intro h; refine nU rfl rfl rfl ?_; exact h.1) : q := h ⟨k⟩
theorem D2l (k : p) (h : Ap p → q := by intro h; refine n0 rfl (B6t ?_); exact h.1) : q := h ⟨k⟩
theorem Kd (k : p) (h : Ap p → q := by intro h; refine qT rfl rfl rfl (Eg ?_); exact h.1) : q := h ⟨k⟩
theorem A7i (k : p) (h : Ap p → q := by intro h; refine q0 rfl (Zg ?_); exact h.1) : q := h ⟨k⟩
theorem D2k (k : p) (h : Ap p → q := by intro h; refine n0 rfl (B0w ?_); exact h.1) : q := h ⟨k⟩
theorem C7f (k : p) (h : Ap p → q := by intro h; refine n0 rfl (B0v ?_); exact h.1) : q := h ⟨k⟩
theorem D2j (k : p) (h : Ap p → q := by intro h; refine n0 rfl (B3r ?_); exact h.1) : q := h ⟨k⟩
theorem Ma (k : p) (h : Ap p → q := by intro h; refine q0 rfl (A8v ?_); exact h.1) : q := h ⟨k⟩
theorem M9 (k : p) (h : Ap p → q := by intro h; refine nT rfl rfl rfl (D2o ?_); exact h.1) : q := h ⟨k⟩
theorem Pd (k : p) (h : Ap p → q := by intro h; refine q0 rfl (Du ?_); exact h.1) : q := h ⟨k⟩
theorem Q9 (k : p) (h : Ap p → q := by intro h; refine n0 rfl (A3i ?_); exact h.1) : q := h ⟨k⟩
theorem R0 (k : p) (h : Ap p → q := by intro h; refine q0 rfl (D3l ?_); exact h.1) : q := h ⟨k⟩
theorem Qz (k : p) (h : Ap p → q := by intro h; refine qU rfl rfl rfl ?_; exact h.1) : q := h ⟨k⟩
theorem T1 (k : p) (h : Ap p → q := by intro h; refine q0 rfl (D3n ?_); exact h.1) : q := h ⟨k⟩
theorem T0 (k : p) (h : Ap p → q := by intro h; refine q0 rfl (C8o ?_); exact h.1) : q := h ⟨k⟩
theorem Vb (k : p) (h : Ap p → q := by intro h; refine nT rfl rfl rfl (A7m ?_); exact h.1) : q := h ⟨k⟩
theorem D2i (k : p) (h : Ap p → q := by intro h; refine q0 rfl (D3h ?_); exact h.1) : q := h ⟨k⟩
theorem A0o (k : p) (h : Ap p → q := by intro h; refine q0 rfl (Wi ?_); exact h.1) : q := h ⟨k⟩
theorem A3d (k : p) (h : Ap p → q := by intro h; refine q0 rfl (Zh ?_); exact h.1) : q := h ⟨k⟩
theorem A7h (k : p) (h : Ap p → q := by intro h; refine qT rfl rfl rfl (C6l ?_); exact h.1) : q := h ⟨k⟩
theorem A7g (k : p) (h : Ap p → q := by intro h; refine nT rfl rfl rfl (B0v ?_); exact h.1) : q := h ⟨k⟩
theorem A7f (k : p) (h : Ap p → q := by intro h; refine nT rfl rfl rfl (B0w ?_); exact h.1) : q := h ⟨k⟩
theorem A7e (k : p) (h : Ap p → q := by intro h; refine nT rfl rfl rfl (Pf ?_); exact h.1) : q := h ⟨k⟩
theorem A7d (k : p) (h : Ap p → q := by intro h; refine q0 rfl (D3m ?_); exact h.1) : q := h ⟨k⟩
theorem B3n (k : p) (h : Ap p → q := by intro h; refine qT rfl rfl rfl (B1w ?_); exact h.1) : q := h ⟨k⟩
theorem B3m (k : p) (h : Ap p → q := by intro h; refine qT rfl rfl rfl (A4t ?_); exact h.1) : q := h ⟨k⟩
theorem B3l (k : p) (h : Ap p → q := by intro h; refine qT rfl rfl rfl (C6k ?_); exact h.1) : q := h ⟨k⟩
theorem B3k (k : p) (h : Ap p → q := by intro h; refine Eg ?_; exact h.1) : q := h ⟨k⟩
theorem B3j (k : p) (h : Ap p → q := by intro h; refine q0 rfl (C8p ?_); exact h.1) : q := h ⟨k⟩
theorem B3i (k : p) (h : Ap p → q := by intro h; refine n0 rfl (D2q ?_); exact h.1) : q := h ⟨k⟩
theorem B5 (k : p) (h : Ap p → q := by intro h; refine Fq ?_; refine Jo ?_; exact h.1) : q := h ⟨k⟩
theorem Cu (k : p) (h : Ap p → q := by intro h; refine zq2 ?_; refine Kj ?_; exact h.1) : q := h ⟨k⟩
theorem Ew (k : p) (h : Ap p → q := by intro h; refine B5 ?_; refine Ef ?_; exact h.1) : q := h ⟨k⟩
theorem J5 (k : p) (h : Ap p → q := by intro h; refine zq2 ?_; refine Cu ?_; exact h.1) : q := h ⟨k⟩
theorem Cn (k : p) (h : Ap p → q := by intro h; refine B5 ?_; refine Cu ?_; exact h.1) : q := h ⟨k⟩
theorem Hv (k : p) (h : Ap p → q := by intro h; refine Fq ?_; refine Ew ?_; exact h.1) : q := h ⟨k⟩
theorem C7e (k : p) (h : Ap p → q := by intro h; refine Ef ?_; refine Kj ?_; exact h.1) : q := h ⟨k⟩
theorem Gl (k : p) (h : Ap p → q := by intro h; refine Qy ?_; refine Qy ?_; exact h.1) : q := h ⟨k⟩
theorem A0n (k : p) (h : Ap p → q := by intro h; refine zq6 ?_; refine zq6 ?_; exact h.1) : q := h ⟨k⟩
theorem Ib (k : p) (h : Ap p → q := by intro h; refine zq8 ?_; refine Qb ?_; exact h.1) : q := h ⟨k⟩
theorem Jq (k : p) (h : Ap p → q := by intro h; refine Hg ?_; refine Fq ?_; exact h.1) : q := h ⟨k⟩
theorem A3c (k : p) (h : Ap p → q := by intro h; refine Kj ?_; refine Fq ?_; exact h.1) : q := h ⟨k⟩
theorem E5 (k : p) (h : Ap p → q := by intro h; refine Jo ?_; refine Ef ?_; exact h.1) : q := h ⟨k⟩
theorem F6 (k : p) (h : Ap p → q := by intro h; refine B5 ?_; refine J5 ?_; exact h.1) : q := h ⟨k⟩
theorem J4 (k : p) (h : Ap p → q := by intro h; refine A0n ?_; refine J5 ?_; exact h.1) : q := h ⟨k⟩
theorem Y1 (k : p) (h : Ap p → q := by intro h; refine Jq ?_; refine Xx ?_; exact h.1) : q := h ⟨k⟩
theorem A7c (k : p) (h : Ap p → q := by intro h; refine C2s ?_; refine Kj ?_; exact h.1) : q := h ⟨k⟩
theorem V0 (k : p) (h : Ap p → q := by intro h; refine A7k ?_; refine Cu ?_; exact h.1) : q := h ⟨k⟩
theorem D2h (k : p) (h : Ap p → q := by intro h; refine Jo ?_; refine A7j ?_; refine C7e ?_; exact h.1) : q := h ⟨k⟩
theorem Uz (k : p) (h : Ap p → q := by intro h; refine Qa ?_; refine D2h ?_; exact h.1) : q := h ⟨k⟩
theorem Gb (k : p) (h : Ap p → q := by intro h; refine A7l ?_; refine Cu ?_; exact h.1) : q := h ⟨k⟩
theorem Ej (k : p) (h : Ap p → q := by intro h; refine B5 ?_; refine Vc ?_; refine A3c ?_; exact h.1) : q := h ⟨k⟩
theorem C7d (k : p) (h : Ap p → q := by intro h; refine Hw ?_; refine C7e ?_; exact h.1) : q := h ⟨k⟩
theorem B3h (k : p) (h : Ap p → q := by intro h; refine C7d ?_; refine Xx ?_; exact h.1) : q := h ⟨k⟩
theorem Uy (k : p) (h : Ap p → q := by intro h; refine zq9 ?_; refine zq9 ?_; exact h.1) : q := h ⟨k⟩
theorem Pc (k : p) (h : Ap p → q := by intro h; refine Ew ?_; refine Ef ?_; exact h.1) : q := h ⟨k⟩
theorem Fp (k : p) (h : Ap p → q := by intro h; refine B5 ?_; refine V0 ?_; exact h.1) : q := h ⟨k⟩
theorem Fo (k : p) (h : Ap p → q := by intro h; refine B5 ?_; refine Ff ?_; exact h.1) : q := h ⟨k⟩
theorem B3g (k : p) (h : Ap p → q := by intro h; refine B3o ?_; refine Kj ?_; exact h.1) : q := h ⟨k⟩
theorem G3 (k : p) (h : Ap p → q := by intro h; refine A7l ?_; refine Kj ?_; exact h.1) : q := h ⟨k⟩
theorem G6 (k : p) (h : Ap p → q := by intro h; refine Cu ?_; refine Fq ?_; exact h.1) : q := h ⟨k⟩
theorem Sz (k : p) (h : Ap p → q := by intro h; refine Hv ?_; refine A7c ?_; exact h.1) : q := h ⟨k⟩
theorem Va (k : p) (h : Ap p → q := by intro h; refine Ef ?_; refine J4 ?_; exact h.1) : q := h ⟨k⟩
theorem Gk (k : p) (h : Ap p → q := by intro h; refine A3e ?_; refine n0 rfl (D2o ?_); exact h.1) : q := h ⟨k⟩
theorem L8 (k : p) (h : Ap p → q := by intro h; refine Ew ?_; refine J5 ?_; exact h.1) : q := h ⟨k⟩
theorem Kc (k : p) (h : Ap p → q := by intro h; refine B5 ?_; refine Ib ?_; exact h.1) : q := h ⟨k⟩
theorem B3f (k : p) (h : Ap p → q := by intro h; refine Hg ?_; refine C7g ?_; exact h.1) : q := h ⟨k⟩
theorem B6i (k : p) (h : Ap p → q := by intro h; refine Hv ?_; refine B3h ?_; exact h.1) : q := h ⟨k⟩
theorem Ia (k : p) (h : Ap p → q := by intro h; refine C7i ?_; refine Kj ?_; exact h.1) : q := h ⟨k⟩
theorem J3 (k : p) (h : Ap p → q := by intro h; refine Y1 ?_; refine B5 ?_; exact h.1) : q := h ⟨k⟩
theorem J2 (k : p) (h : Ap p → q := by intro h; refine B3f ?_; refine Cn ?_; exact h.1) : q := h ⟨k⟩
theorem Y0 (k : p) (h : Ap p → q := by intro h; refine Cu ?_; refine Uz ?_; exact h.1) : q := h ⟨k⟩
theorem Gf (k : p) (h : Ap p → q := by intro h; refine Va ?_; refine Sz ?_; exact h.1) : q := h ⟨k⟩
theorem Gy (k : p) (h : Ap p → q := by intro h; refine Ef ?_; refine Ef ?_; exact h.1) : q := h ⟨k⟩
theorem Gx (k : p) (h : Ap p → q := by intro h; refine C7h ?_; refine Cu ?_; exact h.1) : q := h ⟨k⟩
theorem Hi (k : p) (h : Ap p → q := by intro h; refine C7i ?_; refine Cu ?_; exact h.1) : q := h ⟨k⟩
theorem Pt (k : p) (h : Ap p → q := by intro h; refine C7i ?_; refine Ef ?_; exact h.1) : q := h ⟨k⟩
theorem Ps (k : p) (h : Ap p → q := by intro h; refine Gl ?_; refine Gl ?_; exact h.1) : q := h ⟨k⟩
theorem Ht (k : p) (h : Ap p → q := by intro h; refine Jo ?_; refine Ib ?_; exact h.1) : q := h ⟨k⟩
theorem Hs (k : p) (h : Ap p → q := by intro h; refine Y1 ?_; refine Fq ?_; exact h.1) : q := h ⟨k⟩
theorem Ve (k : p) (h : Ap p → q := by intro h; refine zq8 ?_; refine Pe ?_; exact h.1) : q := h ⟨k⟩
theorem Ie (k : p) (h : Ap p → q := by intro h; refine C7h ?_; refine Kj ?_; exact h.1) : q := h ⟨k⟩
theorem Ic (k : p) (h : Ap p → q := by intro h; refine Ef ?_; refine A0n ?_; exact h.1) : q := h ⟨k⟩
theorem Iw (k : p) (h : Ap p → q := by intro h; refine Hg ?_; refine Uz ?_; exact h.1) : q := h ⟨k⟩
theorem B0s (k : p) (h : Ap p → q := by intro h; refine Cn ?_; refine Pc ?_; exact h.1) : q := h ⟨k⟩
theorem Vd (k : p) (h : Ap p → q := by intro h; refine A7k ?_; refine Kj ?_; exact h.1) : q := h ⟨k⟩
theorem Jt (k : p) (h : Ap p → q := by intro h; refine A7i ?_; refine Kj ?_; exact h.1) : q := h ⟨k⟩
theorem Js (k : p) (h : Ap p → q := by intro h; refine C7h ?_; refine Ef ?_; exact h.1) : q := h ⟨k⟩
theorem A3g (k : p) (h : Ap p → q := by intro h; refine Cu ?_; refine Ew ?_; exact h.1) : q := h ⟨k⟩
theorem Jr (k : p) (h : Ap p → q := by intro h; refine Ef ?_; refine Gb ?_; exact h.1) : q := h ⟨k⟩
theorem Ki (k : p) (h : Ap p → q := by intro h; refine Ew ?_; refine Cu ?_; exact h.1) : q := h ⟨k⟩
theorem Kh (k : p) (h : Ap p → q := by intro h; refine Uy ?_; refine zq9 ?_; exact h.1) : q := h ⟨k⟩
theorem Kg (k : p) (h : Ap p → q := by intro h; refine Hh ?_; refine Hh ?_; exact h.1) : q := h ⟨k⟩
theorem A3f (k : p) (h : Ap p → q := by intro h; refine D2l ?_; refine B3g ?_; exact h.1) : q := h ⟨k⟩
theorem Le (k : p) (h : Ap p → q := by intro h; refine A7l ?_; refine A3c ?_; exact h.1) : q := h ⟨k⟩
theorem Ld (k : p) (h : Ap p → q := by intro h; refine Gl ?_; refine Qy ?_; exact h.1) : q := h ⟨k⟩
theorem Lc (k : p) (h : Ap p → q := by intro h; refine F6 ?_; refine B6i ?_; exact h.1) : q := h ⟨k⟩
theorem Lb (k : p) (h : Ap p → q := by intro h; refine B0s ?_; refine J5 ?_; exact h.1) : q := h ⟨k⟩
theorem La (k : p) (h : Ap p → q := by intro h; refine Hg ?_; refine E5 ?_; refine Y0 ?_; exact h.1) : q := h ⟨k⟩
theorem L9 (k : p) (h : Ap p → q := by intro h; refine G4 ?_; refine L8 ?_; exact h.1) : q := h ⟨k⟩
theorem Na (k : p) (h : Ap p → q := by intro h; refine G4 ?_; refine Cn ?_; exact h.1) : q := h ⟨k⟩
theorem N9 (k : p) (h : Ap p → q := by intro h; refine Cu ?_; refine B5 ?_; exact h.1) : q := h ⟨k⟩
theorem N8 (k : p) (h : Ap p → q := by intro h; refine B5 ?_; refine Ve ?_; exact h.1) : q := h ⟨k⟩
theorem Nu (k : p) (h : Ap p → q := by intro h; refine Ew ?_; refine Ff ?_; exact h.1) : q := h ⟨k⟩
theorem Nt (k : p) (h : Ap p → q := by intro h; refine D2k ?_; refine B3g ?_; exact h.1) : q := h ⟨k⟩
theorem Nr (k : p) (h : Ap p → q := by intro h; refine B6j ?_; refine B6j ?_; exact h.1) : q := h ⟨k⟩
theorem Nq (k : p) (h : Ap p → q := by intro h; refine A3g ?_; refine A7c ?_; exact h.1) : q := h ⟨k⟩
theorem Np (k : p) (h : Ap p → q := by intro h; refine A7j ?_; refine Cu ?_; exact h.1) : q := h ⟨k⟩
theorem No (k : p) (h : Ap p → q := by intro h; refine Cn ?_; refine B6i ?_; exact h.1) : q := h ⟨k⟩
theorem Pr (k : p) (h : Ap p → q := by intro h; refine Kc ?_; refine B3h ?_; exact h.1) : q := h ⟨k⟩
theorem Pq (k : p) (h : Ap p → q := by intro h; refine Cn ?_; refine Ew ?_; exact h.1) : q := h ⟨k⟩
theorem Pp (k : p) (h : Ap p → q := by intro h; refine C7f ?_; refine B3g ?_; exact h.1) : q := h ⟨k⟩
theorem Po (k : p) (h : Ap p → q := by intro h; refine Hg ?_; refine Pc ?_; exact h.1) : q := h ⟨k⟩
theorem C5w (k : p) (h : Ap p → q := by intro h; refine D2j ?_; refine D2j ?_; refine D2l ?_; refine A3f ?_; exact h.1) : q := h ⟨k⟩
theorem Pn (k : p) (h : Ap p → q := by intro h; refine Pt ?_; refine Ps ?_; exact h.1) : q := h ⟨k⟩
theorem R9 (k : p) (h : Ap p → q := by intro h; refine Hv ?_; refine Vd ?_; exact h.1) : q := h ⟨k⟩
theorem R8 (k : p) (h : Ap p → q := by intro h; refine Hg ?_; refine G4 ?_; refine F6 ?_; exact h.1) : q := h ⟨k⟩
theorem R7 (k : p) (h : Ap p → q := by intro h; refine D2i ?_; refine Kj ?_; exact h.1) : q := h ⟨k⟩
theorem R6 (k : p) (h : Ap p → q := by intro h; refine D2k ?_; refine Hh ?_; exact h.1) : q := h ⟨k⟩
theorem R5 (k : p) (h : Ap p → q := by intro h; refine Uy ?_; refine Uy ?_; exact h.1) : q := h ⟨k⟩
theorem R4 (k : p) (h : Ap p → q := by intro h; refine C7f ?_; refine Hh ?_; exact h.1) : q := h ⟨k⟩
theorem R2 (k : p) (h : Ap p → q := by intro h; refine Hh ?_; refine C5w ?_; exact h.1) : q := h ⟨k⟩
theorem R1 (k : p) (h : Ap p → q := by intro h; refine Pj ?_; refine Mb ?_; exact h.1) : q := h ⟨k⟩
end
instance : D4 prog 7 f7 := ⟨func7⟩
instance : D4 prog 15 f15 := ⟨func15⟩
instance : D4 prog 16 f16 := ⟨func16⟩
instance : D4 prog 18 f18 := ⟨func18⟩
instance : D4 prog 20 f20 := ⟨func20⟩
instance : D4 prog 22 f22 := ⟨func22⟩
instance : D4 prog 24 f24 := ⟨func24⟩
instance : D4 prog 27 f27 := ⟨func27⟩
instance : D4 prog 29 f29 := ⟨func29⟩
instance : D4 prog 31 f31 := ⟨func31⟩
instance : D4 prog 39 f39 := ⟨func39⟩
instance : D4 prog 46 f46 := ⟨func46⟩
instance : D4 prog 47 f47 := ⟨func47⟩
instance : D4 prog 48 f48 := ⟨func48⟩
instance : D4 prog 49 f49 := ⟨func49⟩
instance : D4 prog 50 f50 := ⟨func50⟩
instance : D4 prog 51 f51 := ⟨func51⟩
instance : D4 prog 52 f52 := ⟨func52⟩
instance : D4 prog 58 f58 := ⟨func58⟩
instance : D4 prog 59 f59 := ⟨func59⟩
instance : D4 prog 60 f60 := ⟨func60⟩
instance : D4 prog 61 f61 := ⟨func61⟩
instance : D4 prog 62 f62 := ⟨func62⟩
instance : D4 prog 63 f63 := ⟨func63⟩
instance : D4 prog 64 f64 := ⟨func64⟩
instance : D4 prog 65 f65 := ⟨func65⟩
instance : D4 prog 66 f66 := ⟨func66⟩
instance : D4 prog 70 f70 := ⟨func70⟩
instance : D4 prog 71 f71 := ⟨func71⟩
instance : D4 prog 72 f72 := ⟨func72⟩
instance : D4 prog 73 f73 := ⟨func73⟩
instance : D4 prog 76 f76 := ⟨func76⟩
instance : D4 prog 89 f89 := ⟨func89⟩
instance : D4 prog 91 f91 := ⟨func91⟩
instance : D4 prog 92 f92 := ⟨func92⟩
instance : D4 prog 93 f93 := ⟨func93⟩
instance : D4 prog 94 f94 := ⟨func94⟩
instance : D4 prog 95 f95 := ⟨func95⟩
instance : D4 prog 96 f96 := ⟨func96⟩
instance : D4 prog 103 f103 := ⟨func103⟩
instance : D4 prog 104 f104 := ⟨func104⟩
instance : D4 prog 105 f105 := ⟨func105⟩
instance : D4 prog 106 f106 := ⟨func106⟩
instance : D4 prog 107 f107 := ⟨func107⟩
instance : D4 prog 108 f108 := ⟨func108⟩
instance : D4 prog 109 f109 := ⟨func109⟩
instance : D4 prog 110 f110 := ⟨func110⟩
instance : D4 prog 111 f111 := ⟨func111⟩
instance : D4 prog 112 f112 := ⟨func112⟩
instance : D4 prog 113 f113 := ⟨func113⟩
instance : D4 prog 114 f114 := ⟨func114⟩
instance : D4 prog 115 f115 := ⟨func115⟩
instance : D4 prog 116 f116 := ⟨func116⟩
instance : D4 prog 117 f117 := ⟨func117⟩
instance : D4 prog 118 f118 := ⟨func118⟩
instance : D4 prog 119 f119 := ⟨func119⟩
instance : D4 prog 120 f120 := ⟨func120⟩
instance : D4 prog 121 f121 := ⟨func121⟩
instance : D4 prog 122 f122 := ⟨func122⟩
instance : D4 prog 124 f124 := ⟨func124⟩
instance : D4 prog 139 f139 := ⟨func139⟩
instance : D4 prog 140 f140 := ⟨func140⟩
instance : D4 prog 166 f166 := ⟨func166⟩
instance : D4 prog 167 f167 := ⟨func167⟩
instance : D4 prog 168 f168 := ⟨func168⟩
instance : D4 prog 169 f169 := ⟨func169⟩
instance : D4 prog 172 f172 := ⟨func172⟩
instance : D4 prog 173 f173 := ⟨func173⟩
instance : D4 prog 174 f174 := ⟨func174⟩
instance : D4 prog 175 f175 := ⟨func175⟩
instance : D4 prog 176 f176 := ⟨func176⟩
instance : D4 prog 177 f177 := ⟨func177⟩
instance : D4 prog 186 f186 := ⟨func186⟩
instance : D4 prog 187 f187 := ⟨func187⟩
instance : D4 prog 188 f188 := ⟨func188⟩
instance : D4 prog 189 f189 := ⟨func189⟩
instance : D4 prog 190 f190 := ⟨func190⟩
instance : D4 prog 191 f191 := ⟨func191⟩
instance : D4 prog 192 f192 := ⟨func192⟩
instance : D4 prog 193 f193 := ⟨func193⟩
instance : D4 prog 194 f194 := ⟨func194⟩
instance : D4 prog 195 f195 := ⟨func195⟩
instance : D4 prog 196 f196 := ⟨func196⟩
instance : D4 prog 197 f197 := ⟨func197⟩
instance : D4 prog 198 f198 := ⟨func198⟩
instance : D4 prog 199 f199 := ⟨func199⟩
instance : D4 prog 200 f200 := ⟨func200⟩
instance : D4 prog 203 f203 := ⟨func203⟩
instance : D4 prog 204 f204 := ⟨func204⟩
instance : D4 prog 205 f205 := ⟨func205⟩
instance : D4 prog 231 f231 := ⟨func231⟩
instance : D4 prog 233 f233 := ⟨func233⟩
instance : D4 prog 236 f236 := ⟨func236⟩
instance : D4 prog 237 f237 := ⟨func237⟩
instance : D4 prog 238 f238 := ⟨func238⟩
instance : D4 prog 239 f239 := ⟨func239⟩
instance : D4 prog 240 f240 := ⟨func240⟩
instance : D4 prog 241 f241 := ⟨func241⟩
instance : D4 prog 242 f242 := ⟨func242⟩
instance : D4 prog 243 f243 := ⟨func243⟩
instance : D4 prog 244 f244 := ⟨func244⟩
instance : D4 prog 248 f248 := ⟨func248⟩
instance : D4 prog 249 f249 := ⟨func249⟩
instance : D4 prog 250 f250 := ⟨func250⟩
instance : D4 prog 251 f251 := ⟨func251⟩
instance : D4 prog 255 f255 := ⟨func255⟩
instance : D4 prog 256 f256 := ⟨func256⟩
instance : D4 prog 270 f270 := ⟨func270⟩
instance : D4 prog 271 f271 := ⟨func271⟩
instance : D4 prog 272 f272 := ⟨func272⟩
instance : D4 prog 273 f273 := ⟨func273⟩
instance : D4 prog 274 f274 := ⟨func274⟩
instance : D4 prog 275 f275 := ⟨func275⟩
instance : D4 prog 276 f276 := ⟨func276⟩
instance : D4 prog 277 f277 := ⟨func277⟩
instance : D4 prog 297 f297 := ⟨func297⟩
instance : D4 prog 298 f298 := ⟨func298⟩
set_option maxRecDepth 100000
theorem Qs (k i : Int) : Spec prog 62 #[iv k, iv i] [] [] (fun _ : Unit => .tuple #[iv (binds k i).1, iv (binds k i).2]) (fun _ => []) (fun _ => []) := by
 refine Dj ntmps62 fun B hB => ?_
 refine F6 ?_; refine Hv ?_; refine Kj ?_; refine Xx ?_; refine Fq ?_; refine Xx ?_; refine Fq ?_; refine Xx ?_; refine Xx ?_; refine Xx ?_; refine Fq ?_; refine Xx ?_; refine Fq ?_; refine Fq ?_; refine Fq ?_; refine Fp ?_; refine A4 (fun h7 => ?_) (fun h7 => ?_)
 ·refine B3f ?_; refine G4 ?_; refine R9 ?_; refine A4 (fun h21 => ?_) (fun h21 => ?_)
  ·refine F6 ?_; refine Bf f_ rfl Ac Ac () (by simp_all [binds]) (fun w hs => hs.none)
  ·refine R8 ?_; refine Bf f_ rfl Ac Ac () (by simp_all [binds]) (fun w hs => hs.none)
 ·refine Jo ?_; refine V0 ?_; refine A4 (fun h7 => ?_) (fun h7 => ?_)
  ·refine G4 ?_; refine R9 ?_; refine A4 (fun h21 => ?_) (fun h21 => ?_)
   ·refine F6 ?_; refine Bf f_ rfl Ac Ac () (by simp_all [binds]) (fun w hs => hs.none)
   ·refine R8 ?_; refine Bf f_ rfl Ac Ac () (by simp_all [binds]) (fun w hs => hs.none)
  ·refine Jq ?_; refine Fp ?_; refine A4 (fun h10 => ?_) (fun h10 => ?_)
   ·refine G4 ?_; refine Qa ?_; refine Qa ?_; refine R9 ?_; refine A4 (fun h23 => ?_) (fun h23 => ?_)
    ·refine F6 ?_; refine Bf f_ rfl Ac Ac () (by simp_all [binds]) (fun w hs => hs.none)
    ·refine R8 ?_; refine Bf f_ rfl Ac Ac () (by simp_all [binds]) (fun w hs => hs.none)
   ·refine Jq ?_; refine Fp ?_; refine A4 (fun h12 => ?_) (fun h12 => ?_)
    ·refine G4 ?_; refine Qa ?_; refine R9 ?_; refine A4 (fun h23 => ?_) (fun h23 => ?_)
     ·refine F6 ?_; refine Bf f_ rfl Ac Ac () (by simp_all [binds]) (fun w hs => hs.none)
     ·refine R8 ?_; refine Bf f_ rfl Ac Ac () (by simp_all [binds]) (fun w hs => hs.none)
    ·refine Jq ?_; refine Fp ?_; refine A4 (fun h14 => ?_) (fun h14 => ?_)
     ·refine G4 ?_; refine R9 ?_; refine A4 (fun h23 => ?_) (fun h23 => ?_)
      ·refine F6 ?_; refine Bf f_ rfl Ac Ac () (by simp_all [binds]) (fun w hs => hs.none)
      ·refine R8 ?_; refine Bf f_ rfl Ac Ac () (by simp_all [binds]) (fun w hs => hs.none)
     ·refine Jq ?_; refine Fp ?_; refine A4 (fun h16 => ?_) (fun h16 => ?_)
      ·refine B3f ?_; refine G4 ?_; refine R9 ?_; refine A4 (fun h25 => ?_) (fun h25 => ?_)
       ·refine F6 ?_; refine Bf f_ rfl Ac Ac () (by simp_all [binds]) (fun w hs => hs.none)
       ·refine R8 ?_; refine Bf f_ rfl Ac Ac () (by simp_all [binds]) (fun w hs => hs.none)
      ·refine Fp ?_; refine A4 (fun h16 => ?_) (fun h16 => ?_)
       ·refine B3f ?_; refine G4 ?_; refine R9 ?_; refine A4 (fun h25 => ?_) (fun h25 => ?_)
        ·refine F6 ?_; refine Bf f_ rfl Ac Ac () (by simp_all [binds]) (fun w hs => hs.none)
        ·refine R8 ?_; refine Bf f_ rfl Ac Ac () (by simp_all [binds]) (fun w hs => hs.none)
       ·refine Jo ?_; refine V0 ?_; refine A4 (fun h16 => ?_) (fun h16 => ?_)
        ·refine G4 ?_; refine R9 ?_; refine A4 (fun h25 => ?_) (fun h25 => ?_)
         ·refine F6 ?_; refine Bf f_ rfl Ac Ac () (by simp_all [binds]) (fun w hs => hs.none)
         ·refine R8 ?_; refine Bf f_ rfl Ac Ac () (by simp_all [binds]) (fun w hs => hs.none)
        ·refine R8 ?_; refine Bf f_ rfl Ac Ac () (by simp_all [binds]) (fun w hs => hs.none)
theorem A0a (t : T) (vr vk vs : SH) (c : FuncId) (cap : List Value) (FΓ : List Fact) (SM SF : Nat → List B3) (β : Nat → Bool)
  (hc : ∀ (args : Array Value) (w : World), (callFunc c args).run prog w = .ok (.enter c args) w)
  (hcl : ∀ m k v d, (parts t)[m]? = some (k, v, d) → (∀ j, j < m → β j = true) → ∀ vr vk vs, Spec prog c (.agg (tc k vr vk vs).toArray :: iv v :: iv d :: cap).toArray (RT k vr vk vs :: FΓ) (SM m) (fun _ : Unit => .bool (β m)) (fun _ => []) (fun _ => if β m then SM (m + 1) else SF m)) :
  Spec prog 106 #[.agg (tc t vr vk vs).toArray, .func (.func c) #[] cap.toArray] (RT t vr vk vs :: FΓ) (SM 0) (fun _ : Unit => .bool (ff β (parts t).length == (parts t).length)) (fun _ => []) (fun _ => if ff β (parts t).length = (parts t).length then SM (parts t).length else SF (ff β (parts t).length)) := by
 refine Dj ntmps106 fun B hB => ?_
 refine go_open (fun hk hn hnm => ?_); refine B4 (ts := t.kids) (fun VR VK VS hl1 hA1 => ?_); refine G1 (bs := t.sys) (fun VF VK2 hl2 hA2 => ?_); have hpl := A1m t; refine B5 ?_; refine q0 rfl (B2 fun b2 => ?_); refine G6 ?_; refine Pr ?_; refine E0 (X := Nat) (fun i => i ≤ t.kids.length ∧ ∀ j, j < i → β j = true) (fun i => [(1, .func (.func c) #[] cap.toArray), (2, pz b2), (15, sl vk t.kids.length), (16, iv (t.kids.length : Int)), (17, iv (i : Int))]) (fun i => TLx t.kids vk VR VK VS :: BLx t.sys vs VF VK2 :: RT t vr vk vs :: FΓ) (fun i => Ag b2 (tc t vr vk vs) 26 :: SM i) (fun i => t.kids.length - i) (0) (⟨Nat.zero_le _, fun j hj => by omega⟩) (by exact Ea) ?_ ?_
 ·exact fun w hs => hs.l9
 ·intro i base0 ⟨hi, hβ⟩ next0; refine Ej ?_; refine A4 (fun h18 => ?_) (fun h18 => ?_)
  ·have hlt : i < t.kids.length := by have := of_decide_eq_true h18; omega
   obtain ⟨bk, o, hav⟩ := hA1 A3; refine Y1 ?_; refine Ew ?_; refine Pd ?_; refine R0 ?_; refine q0 rfl (B8 fun b6 => ?_); refine zq2 ?_; refine Le ?_; refine Gi i hlt ?_; refine Jo ?_; have hpk := Jk t i hlt; refine Ib ?_; refine Ef ?_; refine q0 rfl (A1 call62 (Qs t.kind i) (fun x26 => ?_)); refine Va ?_; refine Nu ?_; refine Gy ?_; refine q0 rfl (Cc hc (hcl i _ _ _ hpk hβ _ _ _) (fun x33 => ?_)); refine Jt ?_; refine A4 (fun h34 => ?_) (fun h34 => ?_)
   ·have hβf : β i = false := by simpa using h34
    refine Cn ?_; have hff := A2g hβf hβ (n := (parts t).length) A3; refine Ar f_ rfl Ac () (by simp [hff]; omega) (fun w hs => by rw [hff, if_neg A3]; simp only [hβf, Bool.false_eq_true, if_false] at hs; exact (hs.l8).C2)
   ·refine Iw ?_; have hβt : β i = true := by simpa using h34
    refine A7 (fun w hs => ?_) (next0 (i + 1) _ ⟨hlt, fun j hj => (by rcases Nat.lt_succ_iff_lt_or_eq.mp hj with h | h; exact hβ j h; subst h; exact hβt)⟩ A3 Ea); simp only [hβt, if_true] at hs; exact ((hs.l9).perm List.perm_append_comm).drop
  ·have hge : i = t.kids.length := by have := of_decide_eq_false h18; omega
   refine Na ?_; refine Fq ?_; refine Kc ?_; refine Vd ?_; refine C1 ([(1, .func (.func c) #[] cap.toArray), (2, pz b2), (9, iv (more t.kind))]) (fun hK => ?_) (fun base => ?_)
   ·refine A4 (fun h38 => ?_) (fun h38 => ?_)
    ·refine Jo ?_; refine Cu ?_; exact hK _ ⟨rfl, rfl, by first | (rw [more, if_pos (of_decide_eq_true h38)]; rfl) | (rw [more, if_neg (of_decide_eq_false h38)]; rfl), trivial⟩
    ·refine Hg ?_; exact hK _ ⟨rfl, rfl, by first | (rw [more, if_pos (of_decide_eq_true h38)]; rfl) | (rw [more, if_neg (of_decide_eq_false h38)]; rfl), trivial⟩
   ·refine Fq ?_; refine Pr ?_; refine E0 (X := Nat) (fun i2 => i2 ≤ t.sys.length ∧ ∀ j, j < t.kids.length + Bg i2 t.sys → β j = true) (fun i2 => [(1, .func (.func c) #[] cap.toArray), (9, iv (more t.kind)), (40, sl vs t.sys.length), (41, iv (t.sys.length : Int)), (42, iv (i2 : Int))]) (fun i2 => BLx t.sys vs VF VK2 :: FΓ) (fun i2 => SM (t.kids.length + Bg i2 t.sys)) (fun i2 => t.sys.length - i2) (0) (⟨Nat.zero_le _, fun j hj => hβ j (by simp [Bg] at hj; omega)⟩) (by exact Ea) ?_ ?_
    ·exact fun w hs => (by simpa [Bg, show i = t.kids.length by omega] using (hs.drop.less (Γ' := BLx t.sys vs VF VK2 :: FΓ) sx_))
    ·intro i2 base1 ⟨hi2, hβ2⟩ next1; refine Ej ?_; refine A4 (fun h43 => ?_) (fun h43 => ?_)
     ·have hlt2 : i2 < t.sys.length := by have := of_decide_eq_true h43; omega
      obtain ⟨bk2, o2, hav2⟩ := hA2 A3; refine J3 ?_; refine Pd ?_; refine q0 rfl (A4s ?_); refine q0 rfl (B8 fun b11 => ?_); refine G3 ?_; refine Pr ?_; refine H7 i2 A3 ?_; refine B4 (ts := (t.sys.getD i2 C4).kids) (fun VR3 VK3 VS3 hl3 hA3 => ?_); refine E0 (X := Nat) (fun j => j ≤ (t.sys.getD i2 C4).kids.length ∧ ∀ m, m < t.kids.length + Bg i2 t.sys + j → β m = true) (fun j => [(1, .func (.func c) #[] cap.toArray), (9, iv (more t.kind)), (40, sl vs t.sys.length), (41, iv (t.sys.length : Int)), (42, iv ((i2 : Nat) : Int)), (47, sl (VK2 i2) (t.sys.getD i2 C4).kids.length), (48, iv ((t.sys.getD i2 C4).kids.length : Int)), (49, iv (j : Int))]) (fun j => TLx (t.sys.getD i2 C4).kids (VK2 i2) VR3 VK3 VS3 :: BLx t.sys vs VF VK2 :: FΓ) (fun j => SM (t.kids.length + Bg i2 t.sys + j)) (fun j => (t.sys.getD i2 C4).kids.length - j) (0) (⟨Nat.zero_le _, hβ2⟩) (by exact Ea) ?_ ?_
      ·exact fun w hs => (hs.l9).drop
      ·intro j base2 ⟨hj, hβ3⟩ next2; refine Ej ?_; refine A4 (fun h50 => ?_) (fun h50 => ?_)
       ·have hlt3 : j < (t.sys.getD i2 C4).kids.length := by have := of_decide_eq_true h50; omega
        obtain ⟨bk3, o3, hav3⟩ := hA3 A3; have hps := Jh t i2 j hlt2 hlt3; refine Gi j hlt3 ?_; refine J3 ?_; refine Pd ?_; refine R0 ?_; refine q0 rfl (B8 fun b13 => ?_); refine G3 ?_; refine Nu ?_; refine Ef ?_; refine q0 rfl (Cc hc (hcl _ _ _ _ hps hβ3 _ _ _) (fun x56 => ?_)); refine Jt ?_; refine A4 (fun h57 => ?_) (fun h57 => ?_)
        ·have hβf : β (t.kids.length + Bg i2 t.sys + j) = false := by simpa using h57
         refine Cn ?_; have hbd := A0u hlt2 hlt3; have hff := A2g hβf hβ3 (n := (parts t).length) A3; refine Ar f_ rfl Ac () (by simp [hff]; omega) (fun w hs => by rw [hff, if_neg A3]; simp only [hβf, Bool.false_eq_true, if_false] at hs; exact (hs.l8).C2)
        ·refine Iw ?_; have hβt : β (t.kids.length + Bg i2 t.sys + j) = true := by simpa using h57
         refine A7 (fun w hs => ?_) (next2 (j + 1) _ ⟨hlt3, fun j2 hj2 => (by rcases Nat.lt_succ_iff_lt_or_eq.mp hj2 with h | h; exact hβ3 j2 h; subst h; exact hβt)⟩ A3 Ea); simp only [hβt, if_true] at hs; exact (hs.l9).C2
       ·have hge3 : j = (t.sys.getD i2 C4).kids.length := by have := of_decide_eq_false h50; omega
        refine G4 ?_; refine Uz ?_; refine A7 (fun w hs => ?_) (next1 (i2 + 1) _ ⟨hlt2, by rw [Jx i2 t.sys hlt2]; rw [hge3] at hβ3; simpa [Nat.add_assoc] using hβ3⟩ A3 Ea); rw [hge3] at hs; simp only [Jx i2 t.sys hlt2, ← Nat.add_assoc]; exact hs.l9
     ·refine Na ?_; have hie : i2 = t.sys.length := by have := of_decide_eq_false h43; omega
      have hff := A2h (β := β) (n := (parts t).length) (by rw [hpl, ← hie]; exact hβ2); refine Ar f_ rfl Ac () (by simp [hff]) (fun w hs => by rw [hff, if_pos rfl, hpl, ← hie]; exact hs.l8)
theorem B5e (k : Int) : Spec prog 189 #[iv k] [] [] (fun _ : Unit => iv (Dl k)) (fun _ => []) (fun _ => []) := by
 refine Dj ntmps189 fun B hB => ?_
 refine Cn ?_; refine Hv ?_; refine Kj ?_; refine Xx ?_; refine Fq ?_; refine Fp ?_; refine A4 (fun h4 => ?_) (fun h4 => ?_)
 ·refine J2 ?_; refine Ar f_ rfl Ac () (by simp_all [Dl]) (fun w hs => hs.none)
 ·refine Fp ?_; refine A4 (fun h4 => ?_) (fun h4 => ?_)
  ·refine J2 ?_; refine Ar f_ rfl Ac () (by simp_all [Dl]) (fun w hs => hs.none)
  ·refine Fp ?_; refine A4 (fun h4 => ?_) (fun h4 => ?_)
   ·refine J2 ?_; refine Ar f_ rfl Ac () (by simp_all [Dl]) (fun w hs => hs.none)
   ·refine Fp ?_; refine A4 (fun h4 => ?_) (fun h4 => ?_)
    ·refine J2 ?_; refine Ar f_ rfl Ac () (by simp_all [Dl]) (fun w hs => hs.none)
    ·refine Fp ?_; refine A4 (fun h4 => ?_) (fun h4 => ?_)
     ·refine J2 ?_; refine Ar f_ rfl Ac () (by simp_all [Dl]) (fun w hs => hs.none)
     ·refine Fp ?_; refine A4 (fun h4 => ?_) (fun h4 => ?_)
      ·refine J2 ?_; refine Ar f_ rfl Ac () (by simp_all [Dl]) (fun w hs => hs.none)
      ·refine Fp ?_; refine A4 (fun h4 => ?_) (fun h4 => ?_)
       ·refine J2 ?_; refine Ar f_ rfl Ac () (by simp_all [Dl]) (fun w hs => hs.none)
       ·refine Jo ?_; refine V0 ?_; refine A4 (fun h4 => ?_) (fun h4 => ?_)
        ·refine Cn ?_; refine Ar f_ rfl Ac () (by simp_all [Dl]) (fun w hs => hs.none)
        ·refine Fq ?_; refine Fp ?_; refine A4 (fun h13 => ?_) (fun h13 => ?_)
         ·refine J2 ?_; refine Ar f_ rfl Ac () (by simp_all [Dl]) (fun w hs => hs.none)
         ·refine Fp ?_; refine A4 (fun h13 => ?_) (fun h13 => ?_)
          ·refine J2 ?_; refine Ar f_ rfl Ac () (by simp_all [Dl]) (fun w hs => hs.none)
          ·refine Fp ?_; refine A4 (fun h13 => ?_) (fun h13 => ?_)
           ·refine J2 ?_; refine Ar f_ rfl Ac () (by simp_all [Dl]) (fun w hs => hs.none)
           ·refine Fp ?_; refine A4 (fun h13 => ?_) (fun h13 => ?_)
            ·refine J2 ?_; refine Ar f_ rfl Ac () (by simp_all [Dl]) (fun w hs => hs.none)
            ·refine Fp ?_; refine A4 (fun h13 => ?_) (fun h13 => ?_)
             ·refine J2 ?_; refine Ar f_ rfl Ac () (by simp_all [Dl]) (fun w hs => hs.none)
             ·refine Fp ?_; refine A4 (fun h13 => ?_) (fun h13 => ?_)
              ·refine J2 ?_; refine Ar f_ rfl Ac () (by simp_all [Dl]) (fun w hs => hs.none)
              ·refine Fp ?_; refine A4 (fun h13 => ?_) (fun h13 => ?_)
               ·refine J2 ?_; refine Ar f_ rfl Ac () (by simp_all [Dl]) (fun w hs => hs.none)
               ·refine Fp ?_; refine A4 (fun h13 => ?_) (fun h13 => ?_)
                ·refine J2 ?_; refine Ar f_ rfl Ac () (by simp_all [Dl]) (fun w hs => hs.none)
                ·refine Jo ?_; refine V0 ?_; refine A4 (fun h13 => ?_) (fun h13 => ?_)
                 ·refine Cn ?_; refine Ar f_ rfl Ac () (by simp_all [Dl]) (fun w hs => hs.none)
                 ·refine Fq ?_; refine Fp ?_; refine A4 (fun h23 => ?_) (fun h23 => ?_)
                  ·refine J2 ?_; refine Ar f_ rfl Ac () (by simp_all [Dl]) (fun w hs => hs.none)
                  ·refine Fp ?_; refine A4 (fun h23 => ?_) (fun h23 => ?_)
                   ·refine J2 ?_; refine Ar f_ rfl Ac () (by simp_all [Dl]) (fun w hs => hs.none)
                   ·refine Fp ?_; refine A4 (fun h23 => ?_) (fun h23 => ?_)
                    ·refine J2 ?_; refine Ar f_ rfl Ac () (by simp_all [Dl]) (fun w hs => hs.none)
                    ·refine Fp ?_; refine A4 (fun h23 => ?_) (fun h23 => ?_)
                     ·refine J2 ?_; refine Ar f_ rfl Ac () (by simp_all [Dl]) (fun w hs => hs.none)
                     ·refine Fp ?_; refine A4 (fun h23 => ?_) (fun h23 => ?_)
                      ·refine J2 ?_; refine Ar f_ rfl Ac () (by simp_all [Dl]) (fun w hs => hs.none)
                      ·refine Fp ?_; refine A4 (fun h23 => ?_) (fun h23 => ?_)
                       ·refine J2 ?_; refine Ar f_ rfl Ac () (by simp_all [Dl]) (fun w hs => hs.none)
                       ·refine Jo ?_; refine V0 ?_; refine A4 (fun h23 => ?_) (fun h23 => ?_)
                        ·refine Cn ?_; refine Ar f_ rfl Ac () (by simp_all [Dl]) (fun w hs => hs.none)
                        ·refine Fq ?_; refine Fp ?_; refine A4 (fun h31 => ?_) (fun h31 => ?_)
                         ·refine J2 ?_; refine Ar f_ rfl Ac () (by simp_all [Dl]) (fun w hs => hs.none)
                         ·refine Jo ?_; refine V0 ?_; refine A4 (fun h31 => ?_) (fun h31 => ?_)
                          ·refine Cn ?_; refine Ar f_ rfl Ac () (by simp_all [Dl]) (fun w hs => hs.none)
                          ·refine Fp ?_; refine A4 (fun h34 => ?_) (fun h34 => ?_)
                           ·refine Cn ?_; refine Ar f_ rfl Ac () (by simp_all [Dl]) (fun w hs => hs.none)
                           ·refine Fp ?_; refine A4 (fun h36 => ?_) (fun h36 => ?_)
                            ·refine Cn ?_; refine Ar f_ rfl Ac () (by simp_all [Dl]) (fun w hs => hs.none)
                            ·refine Hg ?_; refine Qa ?_; refine Cn ?_; refine Ar f_ rfl Ac () (by simp_all [Dl]) (fun w hs => hs.none)
theorem K1 (k : Int) : Spec prog 190 #[iv k] [] [] (fun _ : Unit => iv (Dw k)) (fun _ => []) (fun _ => []) := by
 refine Dj ntmps190 fun B hB => ?_
 refine Cn ?_; refine Hv ?_; refine Kj ?_; refine Xx ?_; refine Fq ?_; refine Fp ?_; refine A4 (fun h4 => ?_) (fun h4 => ?_)
 ·refine J2 ?_; refine Ar f_ rfl Ac () (by simp_all [Dw]) (fun w hs => hs.none)
 ·refine Fp ?_; refine A4 (fun h4 => ?_) (fun h4 => ?_)
  ·refine J2 ?_; refine Ar f_ rfl Ac () (by simp_all [Dw]) (fun w hs => hs.none)
  ·refine Jo ?_; refine V0 ?_; refine A4 (fun h4 => ?_) (fun h4 => ?_)
   ·refine Cn ?_; refine Ar f_ rfl Ac () (by simp_all [Dw]) (fun w hs => hs.none)
   ·refine Fp ?_; refine A4 (fun h8 => ?_) (fun h8 => ?_)
    ·refine Cn ?_; refine Ar f_ rfl Ac () (by simp_all [Dw]) (fun w hs => hs.none)
    ·refine Hg ?_; refine Qa ?_; refine Cn ?_; refine Ar f_ rfl Ac () (by simp_all [Dw]) (fun w hs => hs.none)
theorem A0b (t : T) (vr vk vs : SH) (c : FuncId) (cap : List Value) (FΓ : List Fact) (M : List B3) (g : Part → Bool)
  (hc : ∀ (args : Array Value) (w : World), (callFunc c args).run prog w = .ok (.enter c args) w)
  (hcl : ∀ k v d, (k, v, d) ∈ parts t → ∀ vr vk vs, Spec prog c (.agg (tc k vr vk vs).toArray :: iv v :: iv d :: cap).toArray (RT k vr vk vs :: FΓ) M (fun _ : Unit => .bool (g (k, v, d))) (fun _ => []) (fun _ => M)) :
  Spec prog 106 #[.agg (tc t vr vk vs).toArray, .func (.func c) #[] cap.toArray] (RT t vr vk vs :: FΓ) M (fun _ : Unit => .bool ((parts t).all g)) (fun _ => []) (fun _ => M) := by
 have h := A0a t vr vk vs c cap FΓ (fun _ => M) (fun _ => M) (A2t t g) hc (fun m k v d hm _ vr vk vs => by simpa [Om hm] using hcl k v d (Ji hm) vr vk vs); rw [C1f] at h; simpa using h
abbrev U8 (t : T) : Prop := ∀ (left : Int) vr vk vs, Aw left → Spec prog 103 #[.agg (tc t vr vk vs).toArray, iv left] [RT t vr vk vs] [] (fun _ : Unit => .bool (decide ((depth t : Int) ≤ left))) (fun _ => []) (fun _ => [])
theorem Y4 (k : T) (vr vk vs : SH) (b : Nat) (left v d : Int) (h0 : 0 < left) (hl : Aw left) (ih : U8 k) : Spec prog 186 #[.agg (tc k vr vk vs).toArray, iv v, iv d, pz b] [RT k vr vk vs] [Ag b [iv left] 3] (fun _ : Unit => .bool (decide ((depth k : Int) ≤ left - 1))) (fun _ => []) (fun _ => [Ag b [iv left] 3]) := by
 refine Dj ntmps186 fun B hB => ?_
 refine B5 ?_; refine q0 rfl (B2 fun b4 => ?_); refine Cu ?_; refine Fo ?_; refine Qb ?_; refine q0 rfl (A4p ?_); refine q0 rfl (A1 call103 (ih (left - 1) vr vk vs (by unfold Aw at *; omega)) (fun x11 => ?_)); refine Cu ?_; refine Ar f_ rfl Ac () rfl (fun w hs => (hs.l8).drop)
theorem A1a (t : T) (ih : ∀ p, p ∈ parts t → U8 p.1) (left : Int) (vr vk vs : SH) (hl : Aw left) : Spec prog 103 #[.agg (tc t vr vk vs).toArray, iv left] [RT t vr vk vs] [] (fun _ : Unit => .bool (decide ((depth t : Int) ≤ left))) (fun _ => []) (fun _ => []) := by
 refine Dj ntmps103 fun B hB => ?_
 refine B5 ?_; refine q0 rfl (B2 fun b2 => ?_); refine q0 rfl (B2 fun b3 => ?_); refine N9 ?_; refine Qb ?_; refine A0o ?_; refine Ef ?_; refine qI rfl rfl rfl Ix (fun hg7 => Rv ?_) (fun hg7 => ?_)
 ·refine qT rfl rfl rfl (A8v ?_); have h0 : 0 < left := of_decide_eq_true hg7; have hE := A0b t vr vk vs 186 [pz b3] [] [Ag b3 [iv left] 3] (fun p => decide ((depth p.1 : Int) ≤ left - 1)) call186 (fun k v d hm vr vk vs => Y4 k vr vk vs b3 left v d h0 hl (ih _ hm)); rw [← B5y t left h0] at hE; refine qT rfl rfl rfl (A1 call106 (hE) (fun x10 => ?_)); refine Hi ?_; refine Ar f_ rfl Ac () rfl (fun w hs => hs.none)
 ·refine Gl ?_; refine Gx ?_; have h0 : ¬ 0 < left := of_decide_eq_false hg7; have hp := A0c t; refine Ar f_ rfl Ac () (by rw [decide_eq_false A3]) (fun w hs => hs.none)
theorem A1b : ∀ t : T, U8 t := T.ind fun t ih left vr vk vs hl => A1a t ih left vr vk vs hl
def leftOf (t : T) (m : Int) : Int := if (size t : Int) ≤ m then m - size t else -1
abbrev Xv (b bc : Nat) : List Value := [pz b, pz bc]
abbrev Gj (b bc : Nat) (m : Int) : List B3 := [Ag b [iv m] 3, Ag bc [.func (.func 187) #[] (Xv b bc).toArray] 30]
abbrev V9 (t : T) : Prop := ∀ (m : Int) b bc vr vk vs, 0 ≤ m → Aw m → Spec prog 187 #[.agg (tc t vr vk vs).toArray, pz b, pz bc] [RT t vr vk vs] (Gj b bc m) (fun _ : Unit => .bool (decide ((size t : Int) ≤ m))) (fun _ => []) (fun _ => Gj b bc (leftOf t m))
theorem A0x (k : T) (vr vk vs : SH) (b bc : Nat) (m v d : Int) (h0 : 0 ≤ m) (hl : Aw m) (ih : V9 k) : Spec prog 188 #[.agg (tc k vr vk vs).toArray, iv v, iv d, pz bc] [RT k vr vk vs] (Gj b bc m) (fun _ : Unit => .bool (decide ((size k : Int) ≤ m))) (fun _ => []) (fun _ => Gj b bc (leftOf k m)) := by
 refine Dj ntmps188 fun B hB => ?_
 refine B5 ?_; refine q0 rfl (B2 fun b4 => ?_); refine N9 ?_; refine Qb ?_; refine Ff ?_; refine q0 rfl (Cc call187 (ih m b bc vr vk vs h0 hl) (cap := Xv b bc) (fun x10 => ?_)); refine Cu ?_; refine Ar f_ rfl Ac () rfl (fun w hs => (hs.l8).C2 (A := Gj b bc (leftOf k m)))
theorem B0c (t : T) (ih : ∀ p, p ∈ parts t → V9 p.1) (m : Int) (b bc : Nat) (vr vk vs : SH) (h0 : 0 < m) (hl : Aw m) :
  Spec prog 106 #[.agg (tc t vr vk vs).toArray, .func (.func 188) #[] #[pz bc]] [RT t vr vk vs] (Gj b bc (m - 1)) (fun _ : Unit => .bool (decide ((size t : Int) ≤ m))) (fun _ => []) (fun _ => Gj b bc (leftOf t m)) := by
 have h := A0a t vr vk vs 188 [pz bc] [] (fun j => Gj b bc (if (Bv t j : Int) ≤ m then m - Bv t j else -1)) (fun _ => Gj b bc (-1)) (fun j => decide ((Bv t (j + 1) : Int) ≤ m)) call188 ?_
 ·have hall : (ff (fun j => decide ((Bv t (j + 1) : Int) ≤ m)) (parts t).length == (parts t).length) = decide ((size t : Int) ≤ m) := by
   rw [Bool.eq_iff_iff, beq_iff_eq, Tz, decide_eq_true_iff]; constructor
   ·intro h; cases hn : (parts t).length with
    | zero => have := J7 t; rw [hn, L0] at this; omega
    | succ n =>
     have := h n A3; rw [← hn, J7] at this; exact of_decide_eq_true this
   ·intro h j hj; have := Nw t (j + 1); exact decide_eq_true A3
  simp only [hall, L0, J7, beq_iff_eq] at h; rw [if_pos A3] at h; by_cases hs : (size t : Int) ≤ m
  ·have e : ff (fun j => decide ((Bv t (j + 1) : Int) ≤ m)) (parts t).length = (parts t).length := by rw [← beq_iff_eq, hall]; exact decide_eq_true hs
   simp only [e, if_true, if_pos hs] at h; unfold leftOf; rw [if_pos hs]; exact h
  ·have e : ¬ ff (fun j => decide ((Bv t (j + 1) : Int) ≤ m)) (parts t).length = (parts t).length := by rw [← beq_iff_eq, hall]; simpa using hs
   simp only [if_neg e] at h; unfold leftOf; rw [if_neg hs]; exact h
 ·intro j k v d hm hβ vr vk vs; have hs := L1 hm; simp only at hs; have hp := size_pos k
  have hj : (Bv t j : Int) ≤ m := by
   cases j with
   | zero => rw [L0]; omega
   | succ j => exact of_decide_eq_true (hβ j A3)
  have := A0x k vr vk vs b bc (m - Bv t j) v d A3 (by unfold Aw at *; omega) (ih _ (Ji hm)); rw [if_pos hj]; have e1 : decide ((size k : Int) ≤ m - Bv t j) = decide ((Bv t (j + 1) : Int) ≤ m) := by rw [hs]; congr 1; apply propext; omega
  rw [e1] at this
  have e2 : Gj b bc (leftOf k (m - Bv t j)) = if decide ((Bv t (j + 1) : Int) ≤ m) = true then Gj b bc (if (Bv t (j + 1) : Int) ≤ m then m - Bv t (j + 1) else -1) else Gj b bc (-1) := by
   unfold leftOf; by_cases hk : (Bv t (j + 1) : Int) ≤ m
   ·rw [if_pos A3, if_pos (decide_eq_true hk), if_pos hk, hs]; congr 1; omega
   ·rw [if_neg A3, if_neg (by simpa using hk)]
  rw [e2] at this; exact this
theorem A3n (t : T) (ih : ∀ p, p ∈ parts t → V9 p.1) (m : Int) (b bc : Nat) (vr vk vs : SH) (h0 : 0 ≤ m) (hl : Aw m) : Spec prog 187 #[.agg (tc t vr vk vs).toArray, pz b, pz bc] [RT t vr vk vs] (Gj b bc m) (fun _ : Unit => .bool (decide ((size t : Int) ≤ m))) (fun _ => []) (fun _ => Gj b bc (leftOf t m)) := by
 refine Dj ntmps187 fun B hB => ?_
 refine B5 ?_; refine q0 rfl (B2 fun b3 => ?_); refine N9 ?_; refine Qb ?_; refine q0 rfl (A4p ?_); refine R7 ?_; refine B5 ?_; refine Qb ?_; refine A3d ?_; refine Ef ?_; refine qI rfl rfl rfl Ix (fun hg9 => Rv ?_) (fun hg9 => ?_)
 ·refine qT rfl rfl rfl (A8v ?_); have h1 : 0 ≤ m - 1 := of_decide_eq_true hg9; have hE := B0c t ih m b bc vr vk vs A3 hl; refine qT rfl rfl rfl (A1 call106 (hE) (fun x12 => ?_) (hm := (List.Perm.swap _ _ _).cons _)); refine Hi ?_; refine Ar f_ rfl Ac () rfl (fun w hs => (hs.l8).C2 (A := Gj b bc (leftOf t m)))
 ·refine Gl ?_; refine Gx ?_; have h1 : ¬ 0 ≤ m - 1 := of_decide_eq_false hg9; have hp := size_pos t; refine Ar f_ rfl Ac () (by rw [decide_eq_false A3]) (fun w hs => by rw [leftOf, if_neg A3, show (-1 : Int) = m - 1 by omega]; exact ((hs.l7).perm ((List.Perm.swap _ _ _).cons _)).C2 (A := Gj b bc (m - 1)))
theorem B0b : ∀ t : T, V9 t := T.ind fun t ih m b bc vr vk vs h0 hl => A3n t ih m b bc vr vk vs h0 hl
def C2l : Prop := ∀ (l : List Cl) (a : SH), Spec prog 63 #[sl a l.length] [CL l a] [] (fun _ : Unit => .bool (A5 l)) (fun _ => []) (fun _ => [])
def A0l : Prop := ∀ (l : List Cl) (a : SH), Spec prog 193 #[sl a l.length] [CL l a] [] (fun _ : Unit => .bool (A6 l)) (fun _ => []) (fun _ => [])
def C2m : Prop := ∀ (l : List Cl) (a : SH), Spec prog 64 #[sl a l.length] [CL l a] [] (fun _ : Unit => .int .u32 (Eo l : Int)) (fun _ => []) (fun _ => [])
def B0q : Prop := C2l ∧ A0l ∧ C2m
theorem A7t (t : T) (vr vk vs : SH) (Cs : Int) (h0 : 0 ≤ Cs) (hl : Aw Cs) : Spec prog 104 #[.agg (tc t vr vk vs).toArray, iv Cs] [RT t vr vk vs] [] (fun _ : Unit => .bool (decide ((size t : Int) ≤ Cs))) (fun _ => []) (fun _ => []) := by
 refine Dj ntmps104 fun B hB => ?_
 refine B5 ?_; refine q0 rfl (B2 fun b2 => ?_); refine q0 rfl (B2 fun b3 => ?_); refine N9 ?_; refine q0 rfl (B8 fun b5 => ?_); refine Kj ?_; refine B5 ?_; refine Ma ?_; refine G3 ?_; refine B5 ?_; refine Qb ?_; refine Ff ?_; refine q0 rfl (Cc call187 (B0b t Cs b3 b5 vr vk vs h0 hl) (cap := Xv b3 b5) (fun x9 => ?_)); refine Cu ?_; refine Ar f_ rfl Ac () rfl (fun w hs => hs.none)
theorem Vq (t : T) (vr vk vs : SH) : Spec prog 59 #[.agg (tc t vr vk vs).toArray] [RT t vr vk vs] [] (fun _ : Unit => iv (sized t)) (fun _ => []) (fun _ => []) := by
 refine Dj ntmps59 fun B hB => ?_
 refine B5 ?_; refine q0 rfl (B2 fun b1 => ?_); refine G6 ?_; refine Xx ?_; refine Fo ?_; refine q0 rfl (A1 call103 (A1b t 200 vr vk vs (by unfold Aw; omega)) (fun x5 => ?_)); refine A7i ?_; refine Cu ?_; refine A4 (fun h3 => ?_) (fun h3 => ?_)
 ·refine Cn ?_; have h : 200 < depth t := by simp at h3; omega
  refine Ar f_ rfl Ac () (by rw [sized, if_pos h]) (fun w hs => hs.none)
 ·refine Fo ?_; refine q0 rfl (A1 call104 (A7t t vr vk vs 20000 A3 (by unfold Aw; omega)) (fun x9 => ?_)); refine A7i ?_; refine Cu ?_; refine A4 (fun h7 => ?_) (fun h7 => ?_)
  ·refine Cn ?_; have h : ¬ 200 < depth t := by simp at h3; omega
   have h2 : 20000 < size t := by simp at h7; omega
   refine Ar f_ rfl Ac () (by rw [sized, if_neg h, if_pos h2]) (fun w hs => hs.none)
  ·refine Hg ?_; refine Qa ?_; refine Cn ?_; have h : ¬ 200 < depth t := by simp at h3; omega
   have h2 : ¬ 20000 < size t := by simp at h7; omega
   refine Ar f_ rfl Ac () (by rw [sized, if_neg h, if_neg h2]) (fun w hs => hs.none)
theorem B4u (s : ByteArray) (hs : s.size ≤ Gs) : Spec prog 191 #[.string s] [] [] (fun _ : Unit => .bool (L2 s)) (fun _ => []) (fun _ => []) := by
 refine Dj ntmps191 fun B hB => ?_
 refine Cn ?_; refine Hv ?_; refine q0 rfl (Wh ?_); refine C7e ?_; refine Xx ?_; refine E0 (X := Nat) (fun i => i ≤ s.size ∧ ∀ j, j < i → Y8 s j = true) (fun i => [(0, .string s), (7, iv (s.size : Int)), (8, iv (i : Int))]) (fun i => []) (fun i => []) (fun i => s.size - i) (0) (⟨Nat.zero_le _, fun j hj => by omega⟩) (by exact Ea) ?_ ?_
 ·exact fun w hs => hs.none
 ·intro i base0 ⟨hi, hok⟩ next0; refine Ej ?_; refine A4 (fun h9 => ?_) (fun h9 => ?_)
  ·have hlt : i < s.size := by have := of_decide_eq_true h9; omega
   obtain ⟨c, hc, hca⟩ := C5l hlt; refine Y1 ?_; refine Ki ?_; refine Pc ?_; refine q0 rfl (C3z ?_); refine G6 ?_; refine C1 ([(0, .string s), (3, iv (i : Int)), (4, .int .u8 c.toNat), (5, .bool (G9 c.toNat)), (7, iv (s.size : Int)), (8, iv (i : Int))]) (fun hK => ?_) (fun base => ?_)
   ·refine E5 ?_; refine A3d ?_; refine Ef ?_; refine qI rfl rfl rfl Ix (fun hg16 => Eg ?_) (fun hg16 => ?_)
    ·refine A7h ?_; refine Pt ?_; refine qI rfl rfl rfl Ix (fun hg20 => Eg ?_) (fun hg20 => ?_)
     ·refine qT rfl rfl rfl (Zh ?_); refine Kd ?_; refine qI rfl rfl rfl Ix (fun hg23 => Eg ?_) (fun hg23 => ?_)
      ·refine A7h ?_; refine B3n ?_; refine Js ?_; refine qI rfl rfl rfl Ix (fun hg28 => Eg ?_) (fun hg28 => ?_)
       ·refine B3m ?_; refine Gx ?_; exact hK _ ⟨rfl, rfl, rfl, (by (conv => lhs; whnf); first | (simp_all [G9]; done) | (simp_all [G9]; omega)), rfl, rfl, trivial⟩
       ·refine Qy ?_; refine Hi ?_; exact hK _ ⟨rfl, rfl, rfl, (by (conv => lhs; whnf); first | (simp_all [G9]; done) | (simp_all [G9]; omega)), rfl, rfl, trivial⟩
      ·refine Qy ?_; refine qT rfl rfl rfl (P2 ?_); refine Js ?_; refine Kd ?_; refine B3m ?_; refine Gx ?_; exact hK _ ⟨rfl, rfl, rfl, (by (conv => lhs; whnf); first | (simp_all [G9]; done) | (simp_all [G9]; omega)), rfl, rfl, trivial⟩
     ·refine Gl ?_; refine Qz ?_; refine Qz ?_; refine Qy ?_; refine Pt ?_; refine Gl ?_; refine Hi ?_; exact hK _ ⟨rfl, rfl, rfl, (by (conv => lhs; whnf); first | (simp_all [G9]; done) | (simp_all [G9]; omega)), rfl, rfl, trivial⟩
    ·refine Qy ?_; refine Js ?_; refine Kd ?_; refine qT rfl rfl rfl (Zh ?_); refine Kd ?_; refine qI rfl rfl rfl Ix (fun hg23 => Eg ?_) (fun hg23 => ?_)
     ·refine A7h ?_; refine B3n ?_; refine Js ?_; refine qI rfl rfl rfl Ix (fun hg28 => Eg ?_) (fun hg28 => ?_)
      ·refine B3m ?_; refine Gx ?_; exact hK _ ⟨rfl, rfl, rfl, (by (conv => lhs; whnf); first | (simp_all [G9]; done) | (simp_all [G9]; omega)), rfl, rfl, trivial⟩
      ·refine Qy ?_; refine Hi ?_; exact hK _ ⟨rfl, rfl, rfl, (by (conv => lhs; whnf); first | (simp_all [G9]; done) | (simp_all [G9]; omega)), rfl, rfl, trivial⟩
     ·refine Qy ?_; refine qT rfl rfl rfl (P2 ?_); refine Js ?_; refine Kd ?_; refine B3m ?_; refine Gx ?_; exact hK _ ⟨rfl, rfl, rfl, (by (conv => lhs; whnf); first | (simp_all [G9]; done) | (simp_all [G9]; omega)), rfl, rfl, trivial⟩
   ·refine Fq ?_; refine C1 ([(0, .string s), (7, iv (s.size : Int)), (8, iv (i : Int)), (45, .bool (!(Y8 s i)))]) (fun hK => ?_) (fun base => ?_)
    ·refine E5 ?_; refine A7i ?_; refine Ef ?_; refine qI rfl rfl rfl Ix (fun hg34 => Eg ?_) (fun hg34 => ?_)
     ·refine B3m ?_; refine Kd ?_; refine qI rfl rfl rfl Ix (fun hg37 => Eg ?_) (fun hg37 => ?_)
      ·refine B3l ?_; refine qT rfl rfl rfl (P2 ?_); refine Kd ?_; refine qI rfl rfl rfl Ix (fun hg41 => Eg ?_) (fun hg41 => ?_)
       ·refine qT rfl rfl rfl (Wi ?_); refine qT rfl rfl rfl (P2 ?_); refine Ia ?_; exact hK _ ⟨rfl, rfl, rfl, (by (conv => lhs; whnf); rw [hca]; first | (simp_all [digit]; done) | (simp_all [digit]; omega) | (simp_all [digit]; rw [← decide_not]; congr 1; apply propext; omega)), trivial⟩
       ·refine Qy ?_; refine B3n ?_; refine Ia ?_; exact hK _ ⟨rfl, rfl, rfl, (by (conv => lhs; whnf); rw [hca]; first | (simp_all [digit]; done) | (simp_all [digit]; omega) | (simp_all [digit]; rw [← decide_not]; congr 1; apply propext; omega)), trivial⟩
      ·refine Qy ?_; refine B3n ?_; refine Kd ?_; refine Gl ?_; refine B3n ?_; refine Ia ?_; exact hK _ ⟨rfl, rfl, rfl, (by (conv => lhs; whnf); rw [hca]; first | (simp_all [digit]; done) | (simp_all [digit]; omega) | (simp_all [digit]; rw [← decide_not]; congr 1; apply propext; omega)), trivial⟩
     ·refine Gl ?_; refine Qz ?_; refine Qz ?_; refine Gl ?_; refine Qz ?_; refine Qz ?_; refine Qy ?_; refine Ie ?_; exact hK _ ⟨rfl, rfl, rfl, (by (conv => lhs; whnf); rw [hca]; first | (simp_all [digit]; done) | (simp_all [digit]; omega) | (simp_all [digit]; rw [← decide_not]; congr 1; apply propext; omega)), trivial⟩
    ·refine A4 (fun h45 => ?_) (fun h45 => ?_)
     ·refine Cn ?_; refine Ar f_ rfl Ac () (by rw [A8y hlt (by simpa using h45)]) (fun w hs => hs.none)
     ·refine Iw ?_; have hb : Y8 s i = true := by simpa using h45
      refine A7 (fun w hs => hs) (next0 (i + 1) _ ⟨hlt, fun j hj => (by rcases Nat.lt_succ_iff_lt_or_eq.mp hj with h | h; exact hok j h; subst h; exact hb)⟩ A3 Ea)
  ·have hge : i = s.size := by have := of_decide_eq_false h9; omega
   refine G4 ?_; refine Ew ?_; refine q0 rfl (C6j ?_); refine Cu ?_; refine Ar f_ rfl Ac () (by rw [A8z (by rw [← hge]; exact hok), empty_eq]; rfl) (fun w hs => hs.none)
theorem Ig (hF : C2m) (l : List Cl) (a : SH) (dims : Int) (h0 : 0 ≤ dims) (hl : Aw dims) : Spec prog 192 #[sl a l.length, iv dims] [CL l a] [] (fun _ : Unit => .bool (within l dims)) (fun _ => []) (fun _ => []) := by
 refine Dj ntmps192 fun B hB => ?_
 refine Pq ?_; refine A3d ?_; refine Ef ?_; refine qI rfl rfl rfl Ix (fun hg7 => Eg ?_) (fun hg7 => ?_)
 ·refine qT rfl rfl rfl (A1 call64 (hF l a) (fun x9 => ?_)); refine Kd ?_; refine qT rfl rfl rfl (C8r ?_); refine qT rfl rfl rfl (B9a ?_ (m := dims.toNat) (hy := congrArg (Value.int .u64) (B3t h0 hl))); refine B3m ?_; refine Gx ?_; refine Ar f_ rfl Ac () (by first | (simp_all [within]; done) | (simp_all [within]; intros; omega)) (fun w hs => hs.none)
 ·refine Ps ?_; refine Qy ?_; refine Hi ?_; refine Ar f_ rfl Ac () (by first | (simp_all [within]; done) | (simp_all [within]; intros; omega)) (fun w hs => hs.none)
theorem A4e (t : T) (hf : O2 t = true ∨ B0q) (vr vk vs : SH) (vars dims : Int) (hd : 0 ≤ dims) (hl : Aw dims) : Spec prog 105 #[.agg (tc t vr vk vs).toArray, iv vars, iv dims] [RT t vr vk vs] [] (fun _ : Unit => .bool (Ja t vars dims)) (fun _ => []) (fun _ => []) := by
 refine Dj ntmps105 fun B hB => ?_
 refine go_open (fun hk hn hnm => ?_); refine B4 (ts := t.kids) (fun VR VK VS hl1 hA1 => ?_); refine G1 (bs := t.sys) (fun VF VK2 hl2 hA2 => ?_); refine B5 ?_; refine q0 rfl (B2 fun b3 => ?_); refine G6 ?_; refine Fq ?_; refine C1 ([(1, iv vars), (2, iv dims), (3, pz b3), (47, .bool (Hd t))]) (fun hK => ?_) (fun base => ?_)
 ·refine Cf (pn := 1000000) (tn := false) (A := [0, 1, 3, 0, 8, 24, 63, 127, 255, 511, 1023, 2047, 4095, 8191, 16383, 32767, 65535, 131071, 262143, 524287, 1048575, 2097151, 4194303, 8388607, 16777215, 33554431, 67108863, 134217727, 268435455, 536870911, 1073741823, 2147483647, 4294967295, 8589934591, 17179869183, 34359738367, 68719476735, 137438953471, 274877906943]) (l := [0, 1, 3, 4, 5, 2, 6, 7, 8, 9, 10, 11, 12, 13, 14, 15, 16, 17, 18, 19, 20, 21, 22, 23, 24, 25, 26, 27, 28, 29, 30, 31, 32, 33, 34, 35, 36, 37, 38]) (fin := []) Tab.mixed ⟨_, func105⟩ (by rfl) ?_; refine Gk ?_; refine Gk ?_; refine n0 rfl (Vg ?_); refine n0 rfl (Bj call189 (B5e t.kind) (fun x11 => ?_)); refine n0 rfl (Yo ?_); refine Hh ?_; refine nI rfl rfl rfl Ix (fun hg16 => Pf ?_) (fun hg16 => ?_)
  ·refine M9 ?_; refine nT rfl rfl rfl (Yo ?_); refine Vb ?_; refine nI rfl rfl rfl Ix (fun hg20 => Pf ?_) (fun hg20 => ?_)
   ·refine M9 ?_; refine nT rfl rfl rfl (Yo ?_); refine A7g ?_; refine R6 ?_; refine nI rfl rfl rfl Ix (fun hg26 => Pf ?_) (fun hg26 => ?_)
    ·refine M9 ?_; refine nT rfl rfl rfl (Yo ?_); refine Vb ?_; refine nI rfl rfl rfl Ix (fun hg30 => Pf ?_) (fun hg30 => ?_)
     ·refine M9 ?_; refine nT rfl rfl rfl (C5x ?_); refine A7g ?_; refine R6 ?_; refine nI rfl rfl rfl Ix (fun hg36 => Pf ?_) (fun hg36 => ?_)
      ·refine M9 ?_; refine nT rfl rfl rfl (Bj call190 (K1 t.kind) (fun x39 => ?_)); refine nT rfl rfl rfl (B0z ?_); refine Vb ?_; refine nI rfl rfl rfl Ix (fun hg41 => Pf ?_) (fun hg41 => ?_)
       ·refine M9 ?_; refine nT rfl rfl rfl (Vg ?_); refine nT rfl rfl rfl (B0y ?_); refine A7g ?_; refine Nt ?_; exact hK _ ⟨rfl, rfl, rfl, (by (conv => lhs; whnf); first | (simp_all [Hd]; done) | (simp_all [Hd]; omega)), trivial⟩
       ·refine Kh ?_; refine A7f ?_; refine Nt ?_; exact hK _ ⟨rfl, rfl, rfl, (by (conv => lhs; whnf); first | (simp_all [Hd]; done) | (simp_all [Hd]; omega)), trivial⟩
      ·refine R5 ?_; refine Nr ?_; refine Nr ?_; refine zq9 ?_; refine Pp ?_; exact hK _ ⟨rfl, rfl, rfl, (by (conv => lhs; whnf); first | (simp_all [Hd]; done) | (simp_all [Hd]; omega)), trivial⟩
     ·refine Uy ?_; refine A7f ?_; refine R6 ?_; refine A7e ?_; refine M9 ?_; refine nT rfl rfl rfl (Bj call190 (K1 t.kind) (fun x39 => ?_)); refine nT rfl rfl rfl (B0z ?_); refine Vb ?_; refine nI rfl rfl rfl Ix (fun hg41 => Pf ?_) (fun hg41 => ?_)
      ·refine M9 ?_; refine nT rfl rfl rfl (Vg ?_); refine nT rfl rfl rfl (B0y ?_); refine A7g ?_; refine Nt ?_; exact hK _ ⟨rfl, rfl, rfl, (by (conv => lhs; whnf); first | (simp_all [Hd]; done) | (simp_all [Hd]; omega)), trivial⟩
      ·refine Kh ?_; refine A7f ?_; refine Nt ?_; exact hK _ ⟨rfl, rfl, rfl, (by (conv => lhs; whnf); first | (simp_all [Hd]; done) | (simp_all [Hd]; omega)), trivial⟩
    ·refine Kh ?_; refine Nr ?_; refine B6j ?_; refine zq9 ?_; refine R4 ?_; refine Uy ?_; refine Kh ?_; refine Nr ?_; refine Nr ?_; refine zq9 ?_; refine Pp ?_; exact hK _ ⟨rfl, rfl, rfl, (by (conv => lhs; whnf); first | (simp_all [Hd]; done) | (simp_all [Hd]; omega)), trivial⟩
   ·refine Uy ?_; refine A7f ?_; refine R6 ?_; refine A7e ?_; refine M9 ?_; refine nT rfl rfl rfl (Yo ?_); refine Vb ?_; refine nI rfl rfl rfl Ix (fun hg30 => Pf ?_) (fun hg30 => ?_)
    ·refine M9 ?_; refine nT rfl rfl rfl (C5x ?_); refine A7g ?_; refine R6 ?_; refine nI rfl rfl rfl Ix (fun hg36 => Pf ?_) (fun hg36 => ?_)
     ·refine M9 ?_; refine nT rfl rfl rfl (Bj call190 (K1 t.kind) (fun x39 => ?_)); refine nT rfl rfl rfl (B0z ?_); refine Vb ?_; refine nI rfl rfl rfl Ix (fun hg41 => Pf ?_) (fun hg41 => ?_)
      ·refine M9 ?_; refine nT rfl rfl rfl (Vg ?_); refine nT rfl rfl rfl (B0y ?_); refine A7g ?_; refine Nt ?_; exact hK _ ⟨rfl, rfl, rfl, (by (conv => lhs; whnf); first | (simp_all [Hd]; done) | (simp_all [Hd]; omega)), trivial⟩
      ·refine Kh ?_; refine A7f ?_; refine Nt ?_; exact hK _ ⟨rfl, rfl, rfl, (by (conv => lhs; whnf); first | (simp_all [Hd]; done) | (simp_all [Hd]; omega)), trivial⟩
     ·refine R5 ?_; refine Nr ?_; refine Nr ?_; refine zq9 ?_; refine Pp ?_; exact hK _ ⟨rfl, rfl, rfl, (by (conv => lhs; whnf); first | (simp_all [Hd]; done) | (simp_all [Hd]; omega)), trivial⟩
    ·refine Uy ?_; refine A7f ?_; refine R6 ?_; refine A7e ?_; refine M9 ?_; refine nT rfl rfl rfl (Bj call190 (K1 t.kind) (fun x39 => ?_)); refine nT rfl rfl rfl (B0z ?_); refine Vb ?_; refine nI rfl rfl rfl Ix (fun hg41 => Pf ?_) (fun hg41 => ?_)
     ·refine M9 ?_; refine nT rfl rfl rfl (Vg ?_); refine nT rfl rfl rfl (B0y ?_); refine A7g ?_; refine Nt ?_; exact hK _ ⟨rfl, rfl, rfl, (by (conv => lhs; whnf); first | (simp_all [Hd]; done) | (simp_all [Hd]; omega)), trivial⟩
     ·refine Kh ?_; refine A7f ?_; refine Nt ?_; exact hK _ ⟨rfl, rfl, rfl, (by (conv => lhs; whnf); first | (simp_all [Hd]; done) | (simp_all [Hd]; omega)), trivial⟩
  ·refine Kh ?_; refine Nr ?_; refine B6j ?_; refine zq9 ?_; refine R4 ?_; refine R5 ?_; refine Nr ?_; refine B6j ?_; refine zq9 ?_; refine R4 ?_; refine Uy ?_; refine Kh ?_; refine Nr ?_; refine Nr ?_; refine zq9 ?_; refine Pp ?_; exact hK _ ⟨rfl, rfl, rfl, (by (conv => lhs; whnf); first | (simp_all [Hd]; done) | (simp_all [Hd]; omega)), trivial⟩
 ·refine A4 (fun h47 => ?_) (fun h47 => ?_)
  ·refine Cn ?_; refine Ar f_ rfl Ac () (by simp [Ja, h47]) (fun w hs => hs.none)
  ·refine Jq ?_; refine Kc ?_; refine Kj ?_; refine Xx ?_; refine Fp ?_; refine A4 (fun h50 => ?_) (fun h50 => ?_)
   ·refine Fq ?_; refine C1 ([(6, .bool (decide ((t.r.length : Int) = 0) && decide (0 ≤ t.n) && (decide (vars < 0) || decide (t.n < vars))))]) (fun hK => ?_) (fun base => ?_)
    ·refine Ht ?_; refine Hw ?_; refine A7k ?_; refine Ef ?_; refine qI rfl rfl rfl Ix (fun hg56 => Pj ?_) (fun hg56 => ?_)
     ·refine Mb ?_; refine qT rfl rfl rfl (Zh ?_); refine Pt ?_; refine qI rfl rfl rfl Ix (fun hg61 => Eg ?_) (fun hg61 => ?_)
      ·refine B3l ?_; refine Kd ?_; refine qI rfl rfl rfl Ix (fun hg64 => Pj ?_) (fun hg64 => ?_)
       ·refine Mb ?_; refine Kd ?_; refine B3l ?_; refine qT rfl rfl rfl (P2 ?_); refine Hi ?_; exact hK _ ⟨(by (conv => lhs; whnf); first | (simp_all [Bool.and_assoc]; done) | (simp_all [Bool.and_assoc]; omega)), trivial⟩
       ·refine Ld ?_; refine B3n ?_; refine Hi ?_; exact hK _ ⟨(by (conv => lhs; whnf); first | (simp_all [Bool.and_assoc]; done) | (simp_all [Bool.and_assoc]; omega)), trivial⟩
      ·refine Gl ?_; refine Qz ?_; refine Qz ?_; refine Qz ?_; refine Qz ?_; refine Qy ?_; refine Gx ?_; exact hK _ ⟨(by (conv => lhs; whnf); first | (simp_all [Bool.and_assoc]; done) | (simp_all [Bool.and_assoc]; omega)), trivial⟩
     ·refine Gl ?_; refine Js ?_; refine Ld ?_; refine Qz ?_; refine Qz ?_; refine Qz ?_; refine Qz ?_; refine Qy ?_; refine Gx ?_; exact hK _ ⟨(by (conv => lhs; whnf); first | (simp_all [Bool.and_assoc]; done) | (simp_all [Bool.and_assoc]; omega)), trivial⟩
    ·refine Ar f_ rfl Ac () (by simp_all [Ja, Bool.and_assoc]) (fun w hs => hs.none)
   ·refine Fp ?_; refine A4 (fun h71 => ?_) (fun h71 => ?_)
    ·refine Fq ?_; refine C1 ([(6, .bool (decide ((t.r.length : Int) = 0) && L2 t.name))]) (fun hK => ?_) (fun base => ?_)
     ·refine Ht ?_; refine Hw ?_; refine A7k ?_; refine Ef ?_; refine qI rfl rfl rfl Ix (fun hg77 => Pj ?_) (fun hg77 => ?_)
      ·refine Mb ?_; refine qT rfl rfl rfl (A1 call191 (B4u t.name hnm) (fun x80 => ?_)); refine Hi ?_; exact hK _ ⟨(by (conv => lhs; whnf); first | (simp_all [Bool.and_assoc]; done) | (simp_all [Bool.and_assoc]; omega)), trivial⟩
      ·refine Gl ?_; refine Gx ?_; exact hK _ ⟨(by (conv => lhs; whnf); first | (simp_all [Bool.and_assoc]; done) | (simp_all [Bool.and_assoc]; omega)), trivial⟩
     ·refine Ar f_ rfl Ac () (by simp_all [Ja, Bool.and_assoc]) (fun w hs => hs.none)
    ·refine Fq ?_; refine Fp ?_; refine A4 (fun h82 => ?_) (fun h82 => ?_)
     ·refine B3f ?_; refine Fq ?_; refine C1 ([(6, .bool (A5 t.r && within t.r dims))]) (fun hK => ?_) (fun base => ?_)
      ·refine Ht ?_; refine q0 rfl (A1 call63 ((H8 hf (by simp_all)).1 t.r vr) (fun x88 => ?_)); refine Ef ?_; refine qI rfl rfl rfl Ix (fun hg89 => Pj ?_) (fun hg89 => ?_)
       ·refine Mb ?_; refine Kd ?_; refine qT rfl rfl rfl (A1 call192 (Ig (H8 hf (by simp_all)).2.2 t.r vr dims hd hl) (fun x93 => ?_)); refine Hi ?_; exact hK _ ⟨(by (conv => lhs; whnf); first | (simp_all [Bool.and_assoc]; done) | (simp_all [Bool.and_assoc]; omega)), trivial⟩
       ·refine Ld ?_; refine Gx ?_; exact hK _ ⟨(by (conv => lhs; whnf); first | (simp_all [Bool.and_assoc]; done) | (simp_all [Bool.and_assoc]; omega)), trivial⟩
      ·refine Ar f_ rfl Ac () (by simp_all [Ja, Bool.and_assoc]) (fun w hs => hs.none)
     ·refine Fp ?_; refine A4 (fun h82 => ?_) (fun h82 => ?_)
      ·refine B3f ?_; refine Fq ?_; refine C1 ([(6, .bool (A5 t.r && within t.r dims))]) (fun hK => ?_) (fun base => ?_)
       ·refine Ht ?_; refine q0 rfl (A1 call63 ((H8 hf (by simp_all)).1 t.r vr) (fun x88 => ?_)); refine Ef ?_; refine qI rfl rfl rfl Ix (fun hg89 => Pj ?_) (fun hg89 => ?_)
        ·refine Mb ?_; refine Kd ?_; refine qT rfl rfl rfl (A1 call192 (Ig (H8 hf (by simp_all)).2.2 t.r vr dims hd hl) (fun x93 => ?_)); refine Hi ?_; exact hK _ ⟨(by (conv => lhs; whnf); first | (simp_all [Bool.and_assoc]; done) | (simp_all [Bool.and_assoc]; omega)), trivial⟩
        ·refine Ld ?_; refine Gx ?_; exact hK _ ⟨(by (conv => lhs; whnf); first | (simp_all [Bool.and_assoc]; done) | (simp_all [Bool.and_assoc]; omega)), trivial⟩
       ·refine Ar f_ rfl Ac () (by simp_all [Ja, Bool.and_assoc]) (fun w hs => hs.none)
      ·refine Jo ?_; refine V0 ?_; refine A4 (fun h82 => ?_) (fun h82 => ?_)
       ·refine Fq ?_; refine C1 ([(6, .bool (A5 t.r && within t.r dims))]) (fun hK => ?_) (fun base => ?_)
        ·refine Ht ?_; refine q0 rfl (A1 call63 ((H8 hf (by simp_all)).1 t.r vr) (fun x88 => ?_)); refine Ef ?_; refine qI rfl rfl rfl Ix (fun hg89 => Pj ?_) (fun hg89 => ?_)
         ·refine Mb ?_; refine Kd ?_; refine qT rfl rfl rfl (A1 call192 (Ig (H8 hf (by simp_all)).2.2 t.r vr dims hd hl) (fun x93 => ?_)); refine Hi ?_; exact hK _ ⟨(by (conv => lhs; whnf); first | (simp_all [Bool.and_assoc]; done) | (simp_all [Bool.and_assoc]; omega)), trivial⟩
         ·refine Ld ?_; refine Gx ?_; exact hK _ ⟨(by (conv => lhs; whnf); first | (simp_all [Bool.and_assoc]; done) | (simp_all [Bool.and_assoc]; omega)), trivial⟩
        ·refine Ar f_ rfl Ac () (by simp_all [Ja, Bool.and_assoc]) (fun w hs => hs.none)
       ·refine Fp ?_; refine A4 (fun h95 => ?_) (fun h95 => ?_)
        ·refine Fq ?_; refine C1 ([(6, .bool (A6 t.r && within t.r dims))]) (fun hK => ?_) (fun base => ?_)
         ·refine Ht ?_; refine q0 rfl (A1 call193 ((H8 hf (by simp_all)).2.1 t.r vr) (fun x99 => ?_)); refine Ef ?_; refine qI rfl rfl rfl Ix (fun hg100 => Pj ?_) (fun hg100 => ?_)
          ·refine Mb ?_; refine Kd ?_; refine qT rfl rfl rfl (A1 call192 (Ig (H8 hf (by simp_all)).2.2 t.r vr dims hd hl) (fun x104 => ?_)); refine Hi ?_; exact hK _ ⟨(by (conv => lhs; whnf); first | (simp_all [Bool.and_assoc]; done) | (simp_all [Bool.and_assoc]; omega)), trivial⟩
          ·refine Ld ?_; refine Gx ?_; exact hK _ ⟨(by (conv => lhs; whnf); first | (simp_all [Bool.and_assoc]; done) | (simp_all [Bool.and_assoc]; omega)), trivial⟩
         ·refine Ar f_ rfl Ac () (by simp_all [Ja, Bool.and_assoc]) (fun w hs => hs.none)
        ·refine Hg ?_; refine Qa ?_; refine Fq ?_; refine Pr ?_; refine E0 (X := Nat) (fun i => i ≤ t.sys.length ∧ ∀ j, j < i → Nk t dims (t.sys.getD j C4) = true) (fun i => [(2, iv dims), (3, pz b3), (107, sl vs t.sys.length), (108, iv (t.sys.length : Int)), (109, iv (i : Int))]) (fun i => BLx t.sys vs VF VK2 :: RT t vr vk vs :: []) (fun i => [Ag b3 (tc t vr vk vs) 26]) (fun i => t.sys.length - i) (0) (⟨Nat.zero_le _, fun j hj => by omega⟩) (by exact Ea) ?_ ?_
         ·exact fun w hs => hs.l9
         ·intro i base0 ⟨hi, hok⟩ next0; refine Ej ?_; refine A4 (fun h110 => ?_) (fun h110 => ?_)
          ·have hlt : i < t.sys.length := by have := of_decide_eq_true h110; omega
           obtain ⟨bk, o, hav⟩ := hA2 A3; refine J3 ?_; refine Pd ?_; refine q0 rfl (A4s ?_); refine q0 rfl (B8 fun b8 => ?_); refine Le ?_; refine H7 i hlt ?_; refine C1 ([(2, iv dims), (3, pz b3), (107, sl vs t.sys.length), (108, iv (t.sys.length : Int)), (109, iv (i : Int)), (132, .bool (!(Nk t dims (t.sys.getD i C4))))]) (fun hK => ?_) (fun base => ?_)
           ·refine Cf (pn := 1000000) (tn := false) (A := [0, 1, 3, 0, 8, 24, 63, 127, 255, 511, 1023, 2047, 4095, 8191, 16383, 32767, 16383, 131071, 262143, 524287]) (l := [0, 1, 2, 3, 4, 5, 6, 7, 8, 9, 10, 11, 12, 13, 14, 15, 16, 17, 18, 19]) (fin := []) Tab.mixed ⟨_, func105⟩ (by rfl) ?_; refine Gk ?_; refine n0 rfl (Vg ?_); refine Gk ?_; refine n0 rfl (Bj call190 (K1 t.kind) (fun x118 => ?_)); refine n0 rfl (Yo ?_); refine Hh ?_; refine nI rfl rfl rfl Ix (fun hg120 => Pf ?_) (fun hg120 => ?_)
            ·refine M9 ?_; refine nT rfl rfl rfl (Bj call193 ((A5z hf hlt).2.1 _ (VF i)) (fun x123 => ?_)); refine nT rfl rfl rfl (Rc ?_); refine R6 ?_; refine nI rfl rfl rfl Ix (fun hg126 => Pf ?_) (fun hg126 => ?_)
             ·refine M9 ?_; refine Vb ?_; refine nT rfl rfl rfl (Bj call192 (Ig (A5z hf hlt).2.2 _ (VF i) dims hd hl) (fun x130 => ?_)); refine nT rfl rfl rfl (Rc ?_); refine Nt ?_; exact hK _ ⟨rfl, rfl, rfl, rfl, rfl, (by (conv => lhs; whnf); first | (simp_all [Nk]; done) | (simp_all [Nk]; omega)), trivial⟩
             ·refine R5 ?_; refine Pp ?_; exact hK _ ⟨rfl, rfl, rfl, rfl, rfl, (by (conv => lhs; whnf); first | (simp_all [Nk]; done) | (simp_all [Nk]; omega)), trivial⟩
            ·refine Kh ?_; refine R4 ?_; refine Uy ?_; refine Kh ?_; refine Pp ?_; exact hK _ ⟨rfl, rfl, rfl, rfl, rfl, (by (conv => lhs; whnf); first | (simp_all [Nk]; done) | (simp_all [Nk]; omega)), trivial⟩
           ·refine A4 (fun h132 => ?_) (fun h132 => ?_)
            ·refine Cn ?_; have ha := A2v hlt (by simpa using h132); refine Ar f_ rfl Ac () (by rw [Ja, ha]; clear hok ha h132; simp_all [Bool.and_assoc]) (fun w hs => hs.none)
            ·refine Iw ?_; have hb : Nk t dims (t.sys.getD i C4) = true := by simpa using h132
             refine A7 (fun w hs => ?_) (next0 (i + 1) _ ⟨hlt, fun j hj => (by rcases Nat.lt_succ_iff_lt_or_eq.mp hj with h | h; exact hok j h; subst h; exact hb)⟩ A3 Ea); exact (hs.l9).drop
          ·have hge : i = t.sys.length := by have := of_decide_eq_false h110; omega
           refine G4 ?_; refine Kc ?_; refine Hw ?_; refine V0 ?_; have ha := C2g (t := t) (g := Nk t dims) (by rw [← hge]; exact hok); refine Ar f_ rfl Ac () (by rw [Ja, ha]; clear hok ha; simp_all [Bool.and_assoc]) (fun w hs => hs.none)
abbrev C2q (t : T) : Prop := (Jz t = true ∨ B0q) → ∀ (vars dims : Int) (bound : Bool) vr vk vs, Aw vars → 0 ≤ dims → dims + depth t ≤ 1152921504606846976 → Spec prog 60 #[.agg (tc t vr vk vs).toArray, iv vars, iv dims, .bool bound] [RT t vr vk vs] [] (fun _ : Unit => .bool (Pm t vars dims bound)) (fun _ => []) (fun _ => [])
abbrev D2d (b1 b2 b3 : Nat) : List Value := [pz b1, pz b2, pz b3]
abbrev D2c (b1 b2 b3 : Nat) (vars dims : Int) (bound : Bool) : List B3 := [Ag b1 [iv vars] 3, Ag b2 [iv dims] 3, Ag b3 [.bool bound] 4]
def N4 (v d : Int) : Prop := 0 ≤ v ∧ v ≤ 1 ∧ 0 ≤ d ∧ d ≤ 1
theorem C2a (k i : Int) : N4 (binds k i).1 (binds k i).2 := by
 unfold binds N4; repeat (split; (simp))
 simp
theorem B8p {t : T} {k : T} {v d : Int} (h : (k, v, d) ∈ parts t) : N4 v d := by
 have hk : ∀ (kind : Int) (i : Nat) (ks : List T), (k, v, d) ∈ Da kind i ks → N4 v d := by
  intro kind i ks
  induction ks generalizing i with
  | nil => intro h; simp [Da] at h
  | cons a ks ih =>
   intro h; simp only [Da, List.mem_cons] at h; rcases h with h | h
   ·have e : (v, d) = binds kind i := (Prod.mk.inj h).2; have := C2a kind i; rw [← e] at this; exact this
   ·exact ih _ h
 have hs : ∀ (kind : Int) (bs : List Br), (k, v, d) ∈ D6 kind bs → N4 v d := by
  intro kind bs
  induction bs with
  | nil => intro h; simp [D6] at h
  | cons b bs ih =>
   intro h; simp only [D6, List.mem_append, List.mem_map] at h; rcases h with ⟨a, ha, e⟩ | h
   ·have e2 := (Prod.mk.inj e).2; have e3 := (Prod.mk.inj e2); rw [← e3.1, ← e3.2]; unfold N4 more; split <;> simp
   ·exact ih h
 unfold parts at h; rcases List.mem_append.mp h with h | h
 ·exact hk _ _ _ h
 ·exact hs _ _ h
theorem B5x {t : T} {p : Part} (h : p ∈ parts t) : depth p.1 < depth t := by
 obtain ⟨m, hm⟩ := List.mem_iff_getElem?.mp h; exact B0a hm
theorem B6g (k : T) (vr vk vs : SH) (b1 b2 b3 : Nat) (vars dims v d : Int) (bound : Bool) (hv : Aw vars) (h0 : 0 ≤ dims) (hvd : N4 v d) (hl : dims + 1 + depth k ≤ 1152921504606846976) (hp : Jz k = true ∨ B0q) (ih : C2q k) : Spec prog 107 #[.agg (tc k vr vk vs).toArray, iv v, iv d, pz b1, pz b2, pz b3] [RT k vr vk vs] (D2c b1 b2 b3 vars dims bound) (fun _ : Unit => .bool (Pm k (IntKind.i64.wrap (vars + if vars < 0 then 0 else v)) (dims + d) bound)) (fun _ => []) (fun _ => D2c b1 b2 b3 vars dims bound) := by
 refine Dj ntmps107 fun B hB => ?_
 obtain ⟨hv0, hv1, hd0, hd1⟩ := hvd; refine B5 ?_; refine q0 rfl (B2 fun b6 => ?_); refine G6 ?_; refine B5 ?_; refine Qb ?_; refine Vc ?_; refine Kj ?_; refine C1 ([(1, iv (if vars < 0 then 0 else v)), (2, iv d), (3, pz b1), (4, pz b2), (5, pz b3), (6, pz b6)]) (fun hK => ?_) (fun base => ?_)
 ·refine A4 (fun h11 => ?_) (fun h11 => ?_)
  ·refine Jo ?_; refine Cu ?_; exact hK _ ⟨(by first | (rw [if_pos (of_decide_eq_true h11)]; rfl) | (rw [if_neg (of_decide_eq_false h11)]; rfl)), rfl, rfl, rfl, rfl, rfl, trivial⟩
  ·refine Hg ?_; exact hK _ ⟨(by first | (rw [if_pos (of_decide_eq_true h11)]; rfl) | (rw [if_neg (of_decide_eq_false h11)]; rfl)), rfl, rfl, rfl, rfl, rfl, trivial⟩
 ·refine Fo ?_; refine Qb ?_; refine Ef ?_; refine q0 rfl (C8s ?_); refine Qb ?_; refine Ef ?_; refine A7j ?_; refine Qb ?_; refine q0 rfl (A1 call60 (ih hp (IntKind.i64.wrap (vars + if vars < 0 then 0 else v)) (dims + d) bound vr vk vs (C2t _) A3 A3) (fun x20 => ?_)); refine Cu ?_; refine Ar f_ rfl Ac () rfl (fun w hs => (hs.l8).drop)
theorem C2f (t : T) (hp : Jz t = true ∨ B0q) (ih : ∀ p, p ∈ parts t → C2q p.1) (vars dims : Int) (bound : Bool) (vr vk vs : SH) (hv : Aw vars) (h0 : 0 ≤ dims) (hl : dims + depth t ≤ 1152921504606846976) : Spec prog 60 #[.agg (tc t vr vk vs).toArray, iv vars, iv dims, .bool bound] [RT t vr vk vs] [] (fun _ : Unit => .bool (Pm t vars dims bound)) (fun _ => []) (fun _ => []) := by
 refine Dj ntmps60 fun B hB => ?_
 refine B5 ?_; refine q0 rfl (B2 fun b4 => ?_); refine q0 rfl (B2 fun b5 => ?_); refine q0 rfl (B2 fun b6 => ?_); refine q0 rfl (B2 fun b7 => ?_); refine G6 ?_; refine Fq ?_; refine C1 ([(4, pz b4), (5, pz b5), (6, pz b6), (7, pz b7), (20, .bool ((bound && decide (24 < dims)) || !(Ja t vars dims)))]) (fun hK => ?_) (fun base => ?_)
 ·refine Jo ?_; refine Qb ?_; refine Ef ?_; refine qI rfl rfl rfl Ix (fun hg10 => C8q ?_) (fun hg10 => ?_)
  ·refine qT rfl rfl rfl (Wi ?_); refine Pt ?_; refine qI rfl rfl rfl Ix (fun hg14 => Rv ?_) (fun hg14 => ?_)
   ·refine Mb ?_; refine Mb ?_; refine qT rfl rfl rfl (A1 call105 (A4e t (Vz hp) vr vk vs vars dims h0 (by unfold Aw; omega)) (fun x18 => ?_)); refine qT rfl rfl rfl (Zg ?_); refine Ie ?_; exact hK _ ⟨rfl, rfl, rfl, rfl, (by (conv => lhs; whnf); first | (simp_all [Bool.and_assoc]; done) | (simp_all [Bool.and_assoc]; omega)), trivial⟩
   ·refine Ps ?_; refine Ia ?_; exact hK _ ⟨rfl, rfl, rfl, rfl, (by (conv => lhs; whnf); first | (simp_all [Bool.and_assoc]; done) | (simp_all [Bool.and_assoc]; omega)), trivial⟩
  ·refine Qy ?_; refine Js ?_; refine qT rfl rfl rfl (Rv ?_); refine Mb ?_; refine Mb ?_; refine qT rfl rfl rfl (A1 call105 (A4e t (Vz hp) vr vk vs vars dims h0 (by unfold Aw; omega)) (fun x18 => ?_)); refine qT rfl rfl rfl (Zg ?_); refine Ie ?_; exact hK _ ⟨rfl, rfl, rfl, rfl, (by (conv => lhs; whnf); first | (simp_all [Bool.and_assoc]; done) | (simp_all [Bool.and_assoc]; omega)), trivial⟩
 ·refine A4 (fun h20 => ?_) (fun h20 => ?_)
  ·refine Cn ?_; refine Ar f_ rfl Ac () (by rw [A2w, h20]; rfl) (fun w hs => hs.none)
  ·refine Hg ?_; refine Fo ?_; refine Ma ?_; have hE := A0b t vr vk vs 107 (D2d b5 b6 b7) [] (D2c b5 b6 b7 vars dims bound) (fun p => Pm p.1 (IntKind.i64.wrap (vars + if vars < 0 then 0 else p.2.1)) (dims + p.2.2) bound) call107 (fun k v d hm vr vk vs => B6g k vr vk vs b5 b6 b7 vars dims v d bound hv h0 (B8p hm) (by have := B5x hm; simp only at this; omega) (A8i hp hm) (ih _ hm)); refine q0 rfl (A1 call106 (hE) (fun x23 => ?_)); refine Cu ?_; refine Ar f_ rfl Ac () (by rw [A2w, h20]; rfl) (fun w hs => hs.none)
theorem A6v : ∀ t : T, C2q t := T.ind fun t ih hp vars dims bound vr vk vs hv h0 hl => C2f t hp ih vars dims bound vr vk vs hv h0 hl
theorem A8c (t : T) (hp : Jz t = true ∨ B0q) (vr vk vs : SH) (vars dims : Int) (hv : Aw vars) (hsz : size t ≤ 1152921504606846) : Spec prog 22 #[.agg (tc t vr vk vs).toArray, iv vars, iv dims] [RT t vr vk vs] [] (fun _ : Unit => iv (Dm t vars dims)) (fun _ => []) (fun _ => []) := by
 refine Dj ntmps22 fun B hB => ?_
 have hds := Q4 t; refine B5 ?_; refine q0 rfl (B2 fun b3 => ?_); refine G6 ?_; refine Fq ?_; refine C1 ([(1, iv vars), (2, iv dims), (3, pz b3), (17, .bool (decide (vars < 0) || decide (dims < 0) || decide (24 < dims)))]) (fun hK => ?_) (fun base => ?_)
 ·refine E5 ?_; refine Vc ?_; refine Ef ?_; refine qI rfl rfl rfl Ix (fun hg10 => Eg ?_) (fun hg10 => ?_)
  ·refine B3l ?_; refine Js ?_; refine qI rfl rfl rfl Ix (fun hg14 => Eg ?_) (fun hg14 => ?_)
   ·refine qT rfl rfl rfl (Wi ?_); refine Ie ?_; exact hK _ ⟨rfl, rfl, rfl, (by (conv => lhs; whnf); first | (simp_all [Bool.and_assoc]; done) | (simp_all [Bool.and_assoc]; omega)), trivial⟩
   ·refine Qy ?_; refine Ia ?_; exact hK _ ⟨rfl, rfl, rfl, (by (conv => lhs; whnf); first | (simp_all [Bool.and_assoc]; done) | (simp_all [Bool.and_assoc]; omega)), trivial⟩
  ·refine Qy ?_; refine Pt ?_; refine Gl ?_; refine Ia ?_; exact hK _ ⟨rfl, rfl, rfl, (by (conv => lhs; whnf); first | (simp_all [Bool.and_assoc]; done) | (simp_all [Bool.and_assoc]; omega)), trivial⟩
 ·refine A4 (fun h17 => ?_) (fun h17 => ?_)
  ·refine Cn ?_; refine Ar f_ rfl Ac () (by rw [Dm, if_pos h17]) (fun w hs => hs.none)
  ·have hb : 0 ≤ vars ∧ 0 ≤ dims ∧ dims ≤ 24 := by simp at h17; omega
   refine Jq ?_; refine Fo ?_; refine q0 rfl (A1 call59 (Vq t vr vk vs) (fun x19 => ?_)); refine Nq ?_; refine A4 (fun h21 => ?_) (fun h21 => ?_)
   ·have hs := of_decide_eq_true h21; refine Ki ?_; refine Ar f_ rfl Ac () (by rw [Dm, if_neg (by rw [h17]; simp), if_pos hs]) (fun w hs => hs.none)
   ·have hs := of_decide_eq_false h21; refine Jq ?_; refine Fo ?_; refine Gy ?_; refine q0 rfl (A1 call60 (A6v t hp vars dims true vr vk vs hv A3 A3) (fun x26 => ?_)); refine Jt ?_; refine A4 (fun h27 => ?_) (fun h27 => ?_)
    ·refine Cn ?_; refine Ar f_ rfl Ac () (by rw [Dm, if_neg (by rw [h17]; simp), if_neg hs]; simp_all) (fun w hs => hs.none)
    ·refine Hg ?_; refine Cn ?_; refine Ar f_ rfl Ac () (by rw [Dm, if_neg (by rw [h17]; simp), if_neg hs]; simp_all) (fun w hs => hs.none)
theorem Oc (t : T) (hp : Jz t = true ∨ B0q) (vr vk vs : SH) (hsz : size t ≤ 1152921504606846) : Spec prog 39 #[.agg (tc t vr vk vs).toArray] [RT t vr vk vs] [] (fun _ : Unit => iv (Ax t)) (fun _ => []) (fun _ => []) := by
 refine Dj ntmps39 fun B hB => ?_
 have hds := Q4 t; refine B5 ?_; refine q0 rfl (B2 fun b1 => ?_); refine G6 ?_; refine Fo ?_; refine q0 rfl (A1 call59 (Vq t vr vk vs) (fun x5 => ?_)); refine Nq ?_; refine A4 (fun h7 => ?_) (fun h7 => ?_)
 ·have hs := of_decide_eq_true h7; refine Ki ?_; refine Ar f_ rfl Ac () (by rw [Ax, if_pos hs]) (fun w hs => hs.none)
 ·have hs := of_decide_eq_false h7; refine Jq ?_; refine Fo ?_; refine q0 rfl (A1 call60 (A6v t hp (-1) 24 false vr vk vs (by unfold Aw; omega) A3 A3) (fun x10 => ?_)); refine Jt ?_; refine A4 (fun h11 => ?_) (fun h11 => ?_)
  ·refine Cn ?_; refine Ar f_ rfl Ac () (by rw [Ax, if_neg hs]; simp_all) (fun w hs => hs.none)
  ·refine Hg ?_; refine Cn ?_; refine Ar f_ rfl Ac () (by rw [Ax, if_neg hs]; simp_all) (fun w hs => hs.none)
theorem A9q (l : List Part) (a : Nat) : l.foldl (fun a p => a + size p.1) a = a + (l.map fun p => size p.1).sum := by
 induction l generalizing a with
 | nil => simp
 | cons b l ih => rw [List.foldl_cons, ih]; simp; omega
theorem B7h (t : T) : size t = 1 + ((parts t).map fun p => size p.1).sum := by rw [size_eq, A9q]
theorem Pv (t : T) : size t = 1 + (t.kids.map size).sum + ((t.sys.map fun b => b.kids.map size).flatten).sum := by
 rw [B7h, Jj, List.sum_append]; omega
theorem C2u {n : Int} (h : Aw n) : IntKind.i64.wrap n = n := by rw [IntKind.wrap_i64]; unfold Aw at h; omega
theorem Qf {t : T} : sized t = 0 ↔ depth t ≤ 200 ∧ size t ≤ 20000 := by
 unfold sized
 split
 ·simp; omega
 ·split
  ·simp; omega
  ·simp; omega
theorem A8b {t : T} {v d : Int} : Dm t v d = 0 ↔ 0 ≤ v ∧ 0 ≤ d ∧ d ≤ 24 ∧ sized t = 0 ∧ Pm t v d true = true := by
 unfold Dm
 split
 ·rename_i h
  simp only [Bool.or_eq_true, decide_eq_true_eq] at h
  constructor
  ·intro h2; cases h2
  ·intro h2; omega
 ·rename_i h
  simp only [Bool.or_eq_true, decide_eq_true_eq] at h
  split
  ·rename_i h2; constructor
   ·intro h3; exact absurd h3 h2
   ·intro h3; exact absurd h3.2.2.2.1 h2
  ·rename_i h2
   have h2 : sized t = 0 := by simpa using h2
   split
   ·rename_i h3; simp only [h2, h3, and_self, and_true, true_iff]; omega
   ·rename_i h3; simp only [h3]; constructor
    ·intro h4; cases h4
    ·intro h4; exact absurd h4.2.2.2.2 Iu
theorem A5y {t : T} : Ax t = 0 ↔ sized t = 0 ∧ Pm t (-1) 24 false = true := by
 unfold Ax
 split
 ·rename_i h; constructor
  ·intro h2; exact absurd h2 h
  ·intro h2; exact absurd h2.1 h
 ·rename_i h
  have h : sized t = 0 := by simpa using h
  split
  ·rename_i h3; simp [h, h3]
  ·rename_i h3; simp [h3]
theorem K9 (s : Nat) : s &&& 16777215 < 16777216 := by rw [Xp]; exact Nat.mod_lt _ Iu
theorem C1k (l : List Cl) : Eo l < 16777216 := by rw [A6e]; exact K9 _
def Aa (s : Nat) (f b : Int) : Int × Nat :=
 if f < 0 ∨ b < 0 then (2, 0) else
 if B1 (s &&& 16777215) (2 ^ (min f.toNat 24) - 1) = 0 then (0, (s &&& 16777215) &&& (2 ^ (min f.toNat 24) - 1)) else
 if 24 ≤ b ∨ 16777215 < B1 (s &&& 16777215) (2 ^ (min f.toNat 24) - 1) * 2 ^ b.toNat then (10, 0) else
 (0, ((s &&& 16777215) &&& (2 ^ (min f.toNat 24) - 1)) ||| (B1 (s &&& 16777215) (2 ^ (min f.toNat 24) - 1) * 2 ^ b.toNat))
theorem Fm (a b i : Nat) : (B1 a b).testBit i = (decide (i < 32) && a.testBit i && !b.testBit i) := by
 unfold B1
 rw [BitVec.testBit_toNat]
 by_cases h : i < 32
 ·rw [BitVec.getLsbD_and, BitVec.getLsbD_not, BitVec.getLsbD_ofNat, BitVec.getLsbD_ofNat]
  simp [h]
 ·have : (BitVec.ofNat 32 a &&& ~~~BitVec.ofNat 32 b).getLsbD i = false := BitVec.getLsbD_of_ge _ _ A3
  rw [this]; simp [h]
theorem Ei (s i : Nat) : (s &&& 16777215).testBit i = (decide (i < 24) && s.testBit i) := by
 rw [Xp, Nat.testBit_mod_two_pow]
theorem Il (m i : Nat) : (2 ^ m - 1).testBit i = decide (i < m) := Nat.testBit_two_pow_sub_one m i
theorem A0i {q m : Nat} (h : q < 16777216) : B1 q m < 16777216 := by
 refine Nat.lt_pow_two_of_testBit (n := 24) _ (fun i hi => ?_)
 rw [Fm, Nat.testBit_lt_two_pow (x := q) (Nat.lt_of_lt_of_le h (Nat.pow_le_pow_right (n := 2) Iu hi))]
 simp
theorem Fa (s : Nat) (f b : Int) : (Aa s f b).2 < 16777216 := by
 unfold Aa
 split
 ·decide
 ·split
  ·exact Nat.lt_of_le_of_lt Nat.and_le_left (K9 s)
  ·split
   ·decide
   ·refine Nat.or_lt_two_pow (n := 24) ?_ ?_
    ·exact Nat.lt_of_le_of_lt Nat.and_le_left (K9 s)
    ·rename_i h; simp only [not_or] at h; have := h.2; omega
def An (c : Cl) (f b : Int) : Int × Cl :=
 if Az c = false then (2, Bz) else
 if (Aa c.pos f b).1 ≠ 0 then ((Aa c.pos f b).1, Bz) else
 if (Aa c.neg f b).1 ≠ 0 then ((Aa c.neg f b).1, Bz) else
 (0, ⟨(Aa c.pos f b).2, (Aa c.neg f b).2⟩)
theorem Qr (c : Cl) (f b : Int) : u32 (An c f b).2 := by
 have h1 := Fa c.pos f b
 have h2 := Fa c.neg f b
 unfold An
 split
 ·exact ⟨(by decide : (0 : Nat) < 4294967296), (by decide : (0 : Nat) < 4294967296)⟩
 ·split
  ·exact ⟨(by decide : (0 : Nat) < 4294967296), (by decide : (0 : Nat) < 4294967296)⟩
  ·split
   ·exact ⟨(by decide : (0 : Nat) < 4294967296), (by decide : (0 : Nat) < 4294967296)⟩
   ·exact ⟨by show (Aa c.pos f b).2 < _; omega, by show (Aa c.neg f b).2 < _; omega⟩
def E1 (g : Cl → Int × Cl) (l : List Cl) : Int × List Cl := match l.find? (fun c => (g c).1 ≠ 0) with
 | some c => ((g c).1, [])
 | none => (0, l.map fun c => (g c).2)
theorem B5o {g : Cl → Int × Cl} {l : List Cl} {i : Nat} (hi : i < l.length) (h0 : ∀ j, j < i → (g (l.getD j Bz)).1 = 0) (h : (g (l.getD i Bz)).1 ≠ 0) : E1 g l = ((g (l.getD i Bz)).1, []) := by
 have : l.find? (fun c => (g c).1 ≠ 0) = some (l.getD i Bz) := by
  rw [List.find?_eq_some_iff_getElem]
  rw [Cq (d := Bz) hi] at h ⊢
  refine ⟨by simpa using h, i, hi, rfl, fun j hj => ?_⟩
  have := h0 j hj
  rw [Cq (d := Bz) A3] at this
  simp [this]
 rw [E1, this]
theorem X5 {g : Cl → Int × Cl} {l : List Cl} (h0 : ∀ j, j < l.length → (g (l.getD j Bz)).1 = 0) : E1 g l = (0, l.map fun c => (g c).2) := by
 have : l.find? (fun c => (g c).1 ≠ 0) = none := by
  rw [List.find?_eq_none]
  intro x hx
  obtain ⟨j, hj, e⟩ := List.mem_iff_getElem.mp hx
  have := h0 j hj
  rw [Cq (d := Bz) hj, e] at this
  simp [this]
 rw [E1, this]
theorem Tx {g : Cl → Int × Cl} {l : List Cl} : (E1 g l).1 = 0 ↔ ∀ c, c ∈ l → (g c).1 = 0 := by
 unfold E1
 cases h : l.find? (fun c => (g c).1 ≠ 0) with
 | none =>
  rw [List.find?_eq_none] at h
  simp only [true_iff]
  intro c hc
  simpa using h c hc
 | some c =>
  have h1 := List.find?_some h
  have h2 := List.mem_of_find?_eq_some h
  simp only
  refine ⟨fun h3 => ?_, fun h3 => h3 c h2⟩
  simp at h1; exact absurd h3 h1
theorem Zu {g : Cl → Int × Cl} {l : List Cl} (h : (E1 g l).1 = 0) : E1 g l = (0, l.map fun c => (g c).2) :=
 X5 fun j hj => Tx.mp h _ (Af hj)
theorem I8 {l : List Cl} : A5 l = true ↔ B7 l = (0, l) := by
 rw [← S7, Bool.and_eq_true, decide_eq_true_eq, decide_eq_true_eq]
 constructor
 ·rintro ⟨h1, h2⟩; exact Prod.ext h1 h2
 ·intro h; rw [h]; exact ⟨rfl, rfl⟩
def Ad (l : List Cl) (f b : Int) : Int × List Cl :=
 if A5 l = false then (2, []) else
 if (E1 (fun c => An c f b) l).1 ≠ 0 then ((E1 (fun c => An c f b) l).1, []) else B7 (E1 (fun c => An c f b) l).2
def Ah (by_ : Int) (l : List Cl) (f : Int) : A8 (List Cl) :=
 if by_ = 0 ∨ 24 ≤ f then .ok l else if (Ad l f by_).1 = 0 then .ok (Ad l f by_).2 else .bad (Ad l f by_).1
def Av (vb db : Int) : Tr (Int × Int) where
 own c k n _ r := (Ah db r c.2).bind fun r' => if k = 1 ∧ c.1 ≤ n then (if 1000000000 - vb < n then .bad 100 else .ok (.inr (n + vb, r'))) else .ok (.inr (n, r'))
 As c f := (Ah db f c.2).bind fun f' => .ok (some f')
 Gq c b := .ok (c.1 + b.1, c.2 + b.2)
section
variable {C : Type} {A : Tr C} {t : T} {c : C} {e : Int}
theorem Md (h : A.own c t.kind t.n t.name t.r = .bad e) : Bh A t c = .bad e := by rw [D5, h]; rfl
theorem Rf {p : Int × List Cl} {i : Nat} {l : List T} (h : A.own c t.kind t.n t.name t.r = .ok (.inr p)) (hi : i < t.kids.length) (hl : Ci A t.kind 0 (t.kids.take i) c = .ok l) {c' : C} (hc : A.Gq c (binds t.kind i) = .ok c') (hb : Bh A (t.kids.getD i t0) c' = .bad e) : Bh A t c = .bad e := by
 have h1 : Ci A t.kind 0 (t.kids.take (i + 1)) c = .bad e := by
  rw [Aj (d := t0) hi, Mg, hl]
  simp only [A8.bind, List.length_take, Nat.zero_add, Nat.min_eq_left (Nat.le_of_lt hi)]
  rw [hc]; simp only; rw [hb]
 have h2 := T8 (m := t.kids.drop (i + 1)) h1
 rw [List.take_append_drop] at h2
 rw [D5, h]; simp only [A8.bind]; rw [h2]
theorem U9 {k : Int} {ts : List T} {i : Nat} {l : List T} {u : T} (hi : i < ts.length) (hl : Ci A k 0 (ts.take i) c = .ok l) {c' : C} (hc : A.Gq c (binds k i) = .ok c') (hb : Bh A (ts.getD i t0) c' = .ok u) : Ci A k 0 (ts.take (i + 1)) c = .ok (l ++ [u]) := by
 rw [Aj (d := t0) hi, Mg, hl]
 simp only [A8.bind, List.length_take, Nat.zero_add, Nat.min_eq_left (Nat.le_of_lt hi)]
 rw [hc]; simp only; rw [hb]
theorem Rg {k : Int} {ts : List T} {i : Nat} {l : List T} (hi : i < ts.length) (hl : Bt A k (ts.take i) c = .ok l) {c' : C} (hc : A.Gq c (0, more k) = .ok c') (hb : Bh A (ts.getD i t0) c' = .bad e) : Bt A k ts c = .bad e := by
 have h1 : Bt A k (ts.take (i + 1)) c = .bad e := by
  rw [Aj (d := t0) hi, Me, hl]
  simp only [A8.bind]
  rw [hc]; simp only; rw [hb]
 have h2 := T7 (m := ts.drop (i + 1)) h1
 rwa [List.take_append_drop] at h2
theorem Ua {k : Int} {ts : List T} {i : Nat} {l : List T} {u : T} (hi : i < ts.length) (hl : Bt A k (ts.take i) c = .ok l) {c' : C} (hc : A.Gq c (0, more k) = .ok c') (hb : Bh A (ts.getD i t0) c' = .ok u) : Bt A k (ts.take (i + 1)) c = .ok (l ++ [u]) := by
 rw [Aj (d := t0) hi, Me, hl]
 simp only [A8.bind]
 rw [hc]; simp only; rw [hb]
theorem Re {p : Int × List Cl} {s : Nat} {l : List T} {bs : List Br} (h : A.own c t.kind t.n t.name t.r = .ok (.inr p)) (hl : Ci A t.kind 0 t.kids c = .ok l) (hs : s < t.sys.length) (hb : Bu A t.kind (t.sys.take s) c = .ok bs) (hf : A.As c (t.sys.getD s C4).As = .bad e ∨ ∃ f', A.As c (t.sys.getD s C4).As = .ok (some f') ∧ Bt A t.kind (t.sys.getD s C4).kids c = .bad e) : Bh A t c = .bad e := by
 have h1 : Bu A t.kind (t.sys.take (s + 1)) c = .bad e := by
  rw [Aj (d := C4) hs, Jw, hb]
  simp only [A8.bind]
  rcases hf with hf | ⟨f', hf, h2⟩
  ·rw [hf]
  ·rw [hf]; simp only; rw [h2]
 have h2 := Oy (m := t.sys.drop (s + 1)) h1
 rw [List.take_append_drop] at h2
 rw [D5, h]; simp only [A8.bind]; rw [hl]; simp only; rw [h2]
theorem Ub {k : Int} {ss : List Br} {s : Nat} {bs : List Br} {f' : List Cl} {ks : List T} (hs : s < ss.length) (hb : Bu A k (ss.take s) c = .ok bs) (hf : A.As c (ss.getD s C4).As = .ok (some f')) (hk : Bt A k (ss.getD s C4).kids c = .ok ks) : Bu A k (ss.take (s + 1)) c = .ok (bs ++ [.mk f' ks]) := by
 rw [Aj (d := C4) hs, Jw, hb]
 simp only [A8.bind]
 rw [hf]; simp only; rw [hk]
theorem A7o {p : Int × List Cl} {l : List T} {bs : List Br} (h : A.own c t.kind t.n t.name t.r = .ok (.inr p)) (hl : Ci A t.kind 0 t.kids c = .ok l) (hb : Bu A t.kind t.sys c = .ok bs) : Bh A t c = .ok (.mk t.kind p.1 t.name p.2 l bs) := by
 rw [D5, h]; simp only [A8.bind]; rw [hl]; simp only; rw [hb]
end
theorem Zt {g : Cl → Int × Cl} {l : List Cl} (h : ∀ c, u32 (g c).2) : ∀ c, c ∈ (E1 g l).2 → u32 c := by
 intro c hc
 unfold E1 at hc
 split at hc
 ·cases hc
 ·obtain ⟨d, _, rfl⟩ := List.mem_map.mp hc; exact h d
theorem B5n {g : Cl → Int × Cl} {l : List Cl} : (E1 g l).2.length ≤ l.length := by
 unfold E1
 split <;> simp
theorem S1 (k : Int) : 0 ≤ more k ∧ more k ≤ 1 := by unfold more; split <;> omega
theorem Ue {t : T} {i : Nat} (h : i < t.kids.length) : size (t.kids.getD i t0) < size t := by
 obtain ⟨p, hp, e⟩ := Gp (Af (d := t0) h); exact e ▸ Mi hp
theorem Ud {t : T} {s k : Nat} (h : s < t.sys.length) (h2 : k < (t.sys.getD s C4).kids.length) : size ((t.sys.getD s C4).kids.getD k t0) < size t := by
 obtain ⟨p, hp, e⟩ := Gm (Af (d := C4) h) (Af (d := t0) h2); exact e ▸ Mi hp
def Cr (vb : Int) (v : Int) (k n : Int) : Int := if k = 1 ∧ v ≤ n then n + vb else n
theorem B9t {vb db v d : Int} {t : T} {g : List Cl} (hg : Ah db t.r d = .ok g) (h : ¬ (t.kind = 1 ∧ v ≤ t.n ∧ 1000000000 - vb < t.n)) : (Av vb db).own (v, d) t.kind t.n t.name t.r = .ok (.inr (Cr vb v t.kind t.n, g)) := by
 simp only [Av, hg, A8.bind, Cr]
 split
 ·rename_i h1
  rw [if_neg (fun h2 => h ⟨h1.1, h1.2, h2⟩)]
 ·rfl
theorem A1x {vb db v d : Int} {t : T} {e : Int} (hg : Ah db t.r d = .bad e) : (Av vb db).own (v, d) t.kind t.n t.name t.r = .bad e := by
 simp only [Av, hg, A8.bind]
theorem A1y {vb db v d : Int} {t : T} {g : List Cl} (hg : Ah db t.r d = .ok g) (h : t.kind = 1 ∧ v ≤ t.n ∧ 1000000000 - vb < t.n) : (Av vb db).own (v, d) t.kind t.n t.name t.r = .bad 100 := by
 simp only [Av, hg, A8.bind]
 rw [if_pos ⟨h.1, h.2.1⟩, if_pos h.2.2]
theorem S4 {vb db v d : Int} {f g : List Cl} (hg : Ah db f d = .ok g) : (Av vb db).As (v, d) f = .ok (some g) := by simp only [Av, hg, A8.bind]
theorem Yc {vb db v d : Int} {f : List Cl} {e : Int} (hg : Ah db f d = .bad e) : (Av vb db).As (v, d) f = .bad e := by simp only [Av, hg, A8.bind]
theorem Yw {vb db : Int} {k : Int} {c : Int × Int} : ∀ {l l' : List Br}, Bu (Av vb db) k l c = .ok l' → l'.length = l.length
 | [], l', h => by rw [Co] at h; injection h with h; subst h; rfl
 | a :: l, l', h => by
  rw [C7] at h
  obtain ⟨o, ho, h⟩ := A8.A0 h
  obtain ⟨g, _, hg⟩ := A8.A0 (x := Ah db a.As c.2) ho
  injection hg with hg
  subst hg
  obtain ⟨ks', _, h⟩ := A8.A0 h
  obtain ⟨bs', h3, h⟩ := A8.A0 h
  injection h with h
  subst h
  simp [Yw h3]
theorem C0s : h0.er = t0 := by simp [h0, HT.er, HT.erL, HT.erB, t0]
theorem St.h0R {B : C0} {Γ : List Fact} {Ms : List B3} {w : World} (y : Tys) (hs : St B Γ Ms w) : St B Γ (Dy (Gz y h0) :: Ms) w := by
 have h1 := ((((hs.Xk).Xk).Ca 2 y.b).Ca 6 y.t).Ca 2 y.c
 exact St.C6q (y := y) (k := 0) (n := 0) (nm := ByteArray.mk #[]) (r := []) (v := By) (u := By) (x := By) (ks := []) (ss := []) rfl rfl rfl rfl rfl rfl (by simpa [Fb, N3] using h1)
def Bm (t : T) (ns : List Int) (r : A8 T) : Int × T := if Ax t ≠ 0 then (Ax t, t0) else if ns.all (fun n => decide (0 ≤ n)) = false then (2, t0) else match r with
 | .ok u => (0, u)
 | .bad e => (e, t0)
theorem A9m {t : T} {ns : List Int} {r : A8 T} (h : Ax t ≠ 0) : Bm t ns r = (Ax t, t0) := by unfold Bm; rw [if_pos h]
theorem B5i {t : T} {ns : List Int} {r : A8 T} (h : Ax t = 0) (h2 : ns.all (fun n => decide (0 ≤ n)) = false) : Bm t ns r = (2, t0) := by unfold Bm; rw [if_neg (by simp [h]), if_pos h2]
theorem C0t {t u : T} {ns : List Int} {r : A8 T} (h : Ax t = 0) (h2 : ns.all (fun n => decide (0 ≤ n)) = true) (hr : r = .ok u) : Bm t ns r = (0, u) := by unfold Bm; rw [if_neg (by simp [h]), if_neg (by simp [h2]), hr]
theorem B5j {t : T} {e : Int} {ns : List Int} {r : A8 T} (h : Ax t = 0) (h2 : ns.all (fun n => decide (0 ≤ n)) = true) (hr : r = .bad e) : Bm t ns r = (e, t0) := by unfold Bm; rw [if_neg (by simp [h]), if_neg (by simp [h2]), hr]
theorem Spec.Mj {P : Program} {k : FuncId} {args : Array Value} {pre : List Fact} (y : Tys) {u : T} (g : Value → Value) (h : Spec P k args pre [] (fun x : {h : HT // h.er = u} => g (.agg (tc u x.1.vr x.1.vk x.1.vs).toArray)) (fun _ => []) (fun x => [Dy (Gz y x.1)])) (hok : ∀ ok w, St ⟨ok, B6 [], w⟩ pre [] w → V1 u) :
  Spec P k args pre [] (fun x : SH × SH × SH => g (.agg (tc u x.1 x.2.1 x.2.2).toArray)) (fun x => [RT u x.1 x.2.1 x.2.2]) (fun _ => []) := fun ok w hk hs => (h ok w hk hs).mono fun e w' hh => by
 obtain ⟨x, he, hs'⟩ := hh
 have h1 : St ⟨ok, B6 [], w⟩ [] (Gz y x.1 ++ []) w' := hs'.unpack
 have h2 := St.Mj y trivial x.1 (by rw [x.2]; exact hok ok w hs) h1
 rw [x.2] at h2
 exact ⟨(x.1.vr, x.1.vk, x.1.vs), he, h2⟩
theorem M7.Mj {P : Program} {Te : TypeId} {k : FuncId} {args : Array Value} {pre : List Fact} (y : Tys) {r : A8 T} (h : M7 P Te k args pre r (fun (u : T) => fun x : {h : HT // h.er = u} => .agg (tc u x.1.vr x.1.vk x.1.vs).toArray) (fun _ _ => []) (fun (u : T) => fun x : {h : HT // h.er = u} => [Dy (Gz y x.1)])) (hok : ∀ u, r = .ok u → ∀ ok w, St ⟨ok, B6 [], w⟩ pre [] w → V1 u) :
  M7 P Te k args pre r (fun (u : T) => fun x : SH × SH × SH => .agg (tc u x.1 x.2.1 x.2.2).toArray) (fun u x => [RT u x.1 x.2.1 x.2.2]) (fun _ _ => []) := ⟨fun u hu => Spec.Mj y (fun v => v) (h.1 u hu) (hok u hu), h.2⟩
abbrev Ai (l : List Cl) : Prop := (∀ c, c ∈ l → u32 c) ∧ l.length * 8 ≤ reach
section
variable {C : Type} {A : Tr C}
mutual
theorem Vk (ho : ∀ c k n nm r p, Aw k → Aw n → Ai r → A.own c k n nm r = .ok (.inr p) → Aw p.1 ∧ Ai p.2) (hi : ∀ c k n nm r u, A.own c k n nm r = .ok (.inl u) → V1 u) (hf : ∀ c f f', Ai f → A.As c f = .ok (some f') → Ai f') : ∀ (t : T) (c : C) (u : T), V1 t → Bh A t c = .ok u → V1 u
 | .mk k n nm r ks ss, c, u, h, hu => by
  simp only [V1] at h
  obtain ⟨h1, h2, h3, h4, h5, h6, h7, h8⟩ := h
  rw [D5] at hu
  simp only [T.kind, T.n, T.name, T.r, T.kids, T.sys] at hu
  obtain ⟨o, h9, hu⟩ := A8.A0 hu
  cases o with
  | inl v => injection hu with hu; subst hu; exact hi _ _ _ _ _ _ h9
  | inr p =>
   obtain ⟨ks', h10, hu⟩ := A8.A0 hu
   obtain ⟨ss', h11, hu⟩ := A8.A0 hu
   injection hu with hu
   subst hu
   obtain ⟨p1, p2⟩ := ho _ _ _ _ _ _ h1 h2 h4 h9
   simp only [V1]
   exact ⟨h1, p1, h3, p2, by rw [Ox h10]; exact h5, Nat.le_trans (Nat.mul_le_mul_right _ (Lg h11)) h6, Yv ho hi hf ks 0 c ks' h7 h10, Ta ho hi hf ss c ss' h8 h11⟩
theorem Yv (ho : ∀ c k n nm r p, Aw k → Aw n → Ai r → A.own c k n nm r = .ok (.inr p) → Aw p.1 ∧ Ai p.2) (hi : ∀ c k n nm r u, A.own c k n nm r = .ok (.inl u) → V1 u) (hf : ∀ c f f', Ai f → A.As c f = .ok (some f') → Ai f') {kd : Int} : ∀ (ts : List T) (i : Nat) (c : C) (us : List T), okL ts → Ci A kd i ts c = .ok us → okL us
 | [], i, c, us, h, hu => by rw [Ct] at hu; injection hu with hu; subst hu; simp only [okL]
 | t :: ts, i, c, us, h, hu => by
  simp only [okL] at h
  rw [Ch] at hu
  obtain ⟨c', _, hu⟩ := A8.A0 hu
  obtain ⟨t', h2, hu⟩ := A8.A0 hu
  obtain ⟨ts', h3, hu⟩ := A8.A0 hu
  injection hu with hu
  subst hu
  simp only [okL]
  exact ⟨Vk ho hi hf t c' t' h.1 h2, Yv ho hi hf ts (i + 1) c ts' h.2 h3⟩
theorem Yt (ho : ∀ c k n nm r p, Aw k → Aw n → Ai r → A.own c k n nm r = .ok (.inr p) → Aw p.1 ∧ Ai p.2) (hi : ∀ c k n nm r u, A.own c k n nm r = .ok (.inl u) → V1 u) (hf : ∀ c f f', Ai f → A.As c f = .ok (some f') → Ai f') {kd : Int} : ∀ (ts : List T) (c : C) (us : List T), okL ts → Bt A kd ts c = .ok us → okL us
 | [], c, us, h, hu => by rw [Cy] at hu; injection hu with hu; subst hu; simp only [okL]
 | t :: ts, c, us, h, hu => by
  simp only [okL] at h
  rw [Cg] at hu
  obtain ⟨c', _, hu⟩ := A8.A0 hu
  obtain ⟨t', h2, hu⟩ := A8.A0 hu
  obtain ⟨ts', h3, hu⟩ := A8.A0 hu
  injection hu with hu
  subst hu
  simp only [okL]
  exact ⟨Vk ho hi hf t c' t' h.1 h2, Yt ho hi hf ts c ts' h.2 h3⟩
theorem Ta (ho : ∀ c k n nm r p, Aw k → Aw n → Ai r → A.own c k n nm r = .ok (.inr p) → Aw p.1 ∧ Ai p.2) (hi : ∀ c k n nm r u, A.own c k n nm r = .ok (.inl u) → V1 u) (hf : ∀ c f f', Ai f → A.As c f = .ok (some f') → Ai f') {kd : Int} : ∀ (bs : List Br) (c : C) (us : List Br), okB bs → Bu A kd bs c = .ok us → okB us
 | [], c, us, h, hu => by rw [Co] at hu; injection hu with hu; subst hu; simp only [okB]
 | .mk f ks :: bs, c, us, h, hu => by
  simp only [okB] at h
  obtain ⟨h1, h2, h3, h4⟩ := h
  rw [C7] at hu
  simp only [Br.As, Br.kids] at hu
  obtain ⟨o, h5, hu⟩ := A8.A0 hu
  cases o with
  | none => exact Ta ho hi hf bs c us h4 hu
  | some f' =>
   obtain ⟨ks', h6, hu⟩ := A8.A0 hu
   obtain ⟨bs', h7, hu⟩ := A8.A0 hu
   injection hu with hu
   subst hu
   simp only [okB]
   exact ⟨hf _ _ _ h1 h5, by rw [Ow h6]; exact h2, Yt ho hi hf ks c ks' h3 h6, Ta ho hi hf bs c bs' h4 h7⟩
end
end
theorem Cp : Ai [] := ⟨fun c hc => (by cases hc), by unfold reach; decide⟩
theorem Zq {l : List Cl} (h : ∀ c, c ∈ l → u32 c) : Ai (B7 l).2 := by
 unfold B7
 split
 ·exact Cp
 ·split
  ·exact Cp
  ·rename_i h64
   exact ⟨fun c hc => h c (D8.mp hc).1, by show (Cz l).length * 8 ≤ reach; unfold reach; omega⟩
theorem Uq (l : List Cl) (f b : Int) : Ai (Ad l f b).2 := by
 unfold Ad
 split
 ·exact Cp
 ·split
  ·exact Cp
  ·exact Zq (Zt (fun c => Qr c f b))
theorem Vx {l g : List Cl} {f b : Int} (h : Ai l) (hg : Ah b l f = .ok g) : Ai g := by
 unfold Ah at hg
 split at hg
 ·injection hg with hg; subst hg; exact h
 ·split at hg
  ·injection hg with hg; subst hg; exact Uq l f b
  ·cases hg
theorem A5l {vb db : Int} (hv : 0 ≤ vb ∧ vb ≤ 1000000) {t u : T} {c : Int × Int} (h : V1 t) (hu : Bh (Av vb db) t c = .ok u) : V1 u := by
 refine Vk (A := Av vb db) ?_ ?_ ?_ t c u h hu
 ·intro c k n nm r p _ hn hr ho
  obtain ⟨g, hg, ho⟩ := A8.A0 (x := Ah db r c.2) ho
  have hgo := Vx hr hg
  split at ho
  ·rename_i h1
   split at ho
   ·cases ho
   ·injection ho with ho; injection ho with ho; subst ho
    exact ⟨by unfold Aw at *; dsimp only; omega, hgo⟩
  ·injection ho with ho; injection ho with ho; subst ho
   exact ⟨hn, hgo⟩
 ·intro c k n nm r u ho
  obtain ⟨g, hg, ho⟩ := A8.A0 (x := Ah db r c.2) ho
  split at ho
  ·split at ho
   ·cases ho
   ·injection ho with ho; cases ho
  ·injection ho with ho; cases ho
 ·intro c f f' hr ho
  obtain ⟨g, hg, ho⟩ := A8.A0 (x := Ah db f c.2) ho
  injection ho with ho; injection ho with ho; subst ho
  exact Vx hr hg
theorem A8p : V1 t0 := by simp [t0, V1, okL, okB, Aw, Gs, reach]; decide
theorem guard_okT' {t : T} {ns : List Int} {r : A8 T} (h : ns.all (fun n => decide (0 ≤ n)) = true → ∀ u, r = .ok u → V1 u) : V1 (Bm t ns r).2 := by
 unfold Bm
 split
 ·exact A8p
 ·split
  ·exact A8p
  ·rename_i ha
   cases r with
   | ok u => exact h (by simpa using ha) u rfl
   | bad e => exact A8p
abbrev B0u (t : T) (f b : Int) : A8 T := Bh (Av b 0) t (if 2000000000 < f then 2000000000 else f, 0)
abbrev B2t (t : T) (f b : Int) : A8 T := Bh (Av 0 b) t (0, if 24 < f then 24 else f)
def Cs (b : Int) : Int := IntKind.i64.wrap (1000000 - b)
theorem B2d (b : Int) : Aw (Cs b) := by
 have h : Cs b = (1000000 - b + 9223372036854775808) % 18446744073709551616 - 9223372036854775808 := by
  unfold Cs; rw [IntKind.wrap_i64]
 unfold Aw; rw [h]; omega
theorem B2c {b : Int} (hb : Aw b) (h0 : 0 ≤ b) (h : 0 ≤ Cs b) : b ≤ 1000000 := by
 have h1 : Cs b = (1000000 - b + 9223372036854775808) % 18446744073709551616 - 9223372036854775808 := by
  unfold Cs; rw [IntKind.wrap_i64]
 unfold Aw at hb; omega
def Bk (t : T) (f b : Int) : Int × T := Bm t [f, b, Cs b] (B0u t f b)
def Bl (t : T) (f b : Int) : Int × T := Bm t [f, b] (B2t t f b)
theorem Em {vb db : Int} {c : Int × Int} {k n : Int} {nm : ByteArray} {r : List Cl} {u : T} : (Av vb db).own c k n nm r ≠ .ok (.inl u) := by
 intro ho
 obtain ⟨g, hg, ho⟩ := A8.A0 (x := Ah db r c.2) ho
 split at ho
 ·split at ho
  ·cases ho
  ·injection ho with ho; cases ho
 ·injection ho with ho; cases ho
mutual
theorem P5 {vb db : Int} : ∀ {t u : T} {c : Int × Int}, Bh (Av vb db) t c = .ok u → size u = size t
 | .mk k n nm r ks ss, u, c, hu => by
  rw [D5] at hu
  simp only [T.kind, T.n, T.name, T.r, T.kids, T.sys] at hu
  obtain ⟨o, h9, hu⟩ := A8.A0 hu
  cases o with
  | inl v => exact absurd h9 Em
  | inr p =>
   obtain ⟨ks', h10, hu⟩ := A8.A0 hu
   obtain ⟨ss', h11, hu⟩ := A8.A0 hu
   injection hu with hu
   subst hu
   rw [Pv, Pv]
   simp only [T.kids, T.sys]
   rw [Wt h10, Wv h11]
theorem Wt {vb db k : Int} : ∀ {ts us : List T} {i : Nat} {c : Int × Int}, Ci (Av vb db) k i ts c = .ok us → us.map size = ts.map size
 | [], us, i, c, hu => by rw [Ct] at hu; injection hu with hu; subst hu; rfl
 | t :: ts, us, i, c, hu => by
  rw [Ch] at hu
  obtain ⟨c', _, hu⟩ := A8.A0 hu
  obtain ⟨t', h2, hu⟩ := A8.A0 hu
  obtain ⟨ts', h3, hu⟩ := A8.A0 hu
  injection hu with hu
  subst hu
  simp only [List.map_cons]
  rw [P5 h2, Wt h3]
theorem Wr {vb db k : Int} : ∀ {ts us : List T} {c : Int × Int}, Bt (Av vb db) k ts c = .ok us → us.map size = ts.map size
 | [], us, c, hu => by rw [Cy] at hu; injection hu with hu; subst hu; rfl
 | t :: ts, us, c, hu => by
  rw [Cg] at hu
  obtain ⟨c', _, hu⟩ := A8.A0 hu
  obtain ⟨t', h2, hu⟩ := A8.A0 hu
  obtain ⟨ts', h3, hu⟩ := A8.A0 hu
  injection hu with hu
  subst hu
  simp only [List.map_cons]
  rw [P5 h2, Wr h3]
theorem Wv {vb db k : Int} : ∀ {bs us : List Br} {c : Int × Int}, Bu (Av vb db) k bs c = .ok us → (us.map fun b => b.kids.map size) = bs.map fun b => b.kids.map size
 | [], us, c, hu => by rw [Co] at hu; injection hu with hu; subst hu; rfl
 | .mk f ks :: bs, us, c, hu => by
  rw [C7] at hu
  simp only [Br.As, Br.kids] at hu
  obtain ⟨o, h5, hu⟩ := A8.A0 hu
  obtain ⟨g, _, h6⟩ := A8.A0 (x := Ah db f c.2) h5
  injection h6 with h6
  subst h6
  obtain ⟨ks', h7, hu⟩ := A8.A0 hu
  obtain ⟨bs', h8, hu⟩ := A8.A0 hu
  injection hu with hu
  subst hu
  show (ks'.map size :: (bs'.map fun b => b.kids.map size)) = (ks.map size :: (bs.map fun b => b.kids.map size))
  rw [Wr h7, Wv h8]
end
theorem B3b {t : T} {v d : Int} {b : Bool} : Pm t v d b = true ↔ (¬ (b = true ∧ 24 < d)) ∧ Ja t v d = true ∧ ∀ p, p ∈ parts t → Pm p.1 (IntKind.i64.wrap (v + if v < 0 then 0 else p.2.1)) (d + p.2.2) b = true := by
  rw [A2w, Bool.and_eq_true, List.all_eq_true]
  simp only [Bool.not_eq_true', Bool.or_eq_false_iff, Bool.and_eq_false_iff, decide_eq_false_iff_not, Bool.not_eq_false']
  constructor
  · rintro ⟨⟨h1, h2⟩, h3⟩
    refine ⟨?_, h2, h3⟩
    rintro ⟨h4, h5⟩
    rcases h1 with h1 | h1
    · rw [h1] at h4; cases h4
    · exact h1 h5
  · rintro ⟨h1, h2, h3⟩
    refine ⟨⟨?_, h2⟩, h3⟩
    cases b
    · exact .inl rfl
    · exact .inr (fun h => h1 ⟨rfl, h⟩)
theorem B1r {t : T} {v d : Int} : Ja t v d = true ↔ Hd t = false ∧
    (if t.kind = 1 then t.r.length = 0 ∧ 0 ≤ t.n ∧ (v < 0 ∨ t.n < v)
     else if t.kind = 2 then t.r.length = 0 ∧ L2 t.name = true
     else if t.kind = 13 ∨ t.kind = 21 ∨ t.kind = 26 then A5 t.r = true ∧ within t.r d = true
     else if t.kind = 14 then A6 t.r = true ∧ within t.r d = true
     else (∀ x, x ∈ t.sys → Nk t d x = true) ∧ t.r.length = 0) := by
  unfold Ja
  rw [Bool.and_eq_true, Bool.not_eq_true']
  apply and_congr Iff.rfl
  split
  · simp only [Bool.and_eq_true, decide_eq_true_eq, Bool.or_eq_true, and_assoc]; constructor <;> (rintro ⟨h1, h2⟩; exact ⟨by omega, h2⟩)
  · split
    · simp only [Bool.and_eq_true, decide_eq_true_eq]; constructor <;> (rintro ⟨h1, h2⟩; exact ⟨by omega, h2⟩)
    · split
      · simp only [Bool.and_eq_true]
      · split
        · simp only [Bool.and_eq_true]
        · simp only [Bool.and_eq_true, decide_eq_true_eq, List.all_eq_true]; constructor <;> (rintro ⟨h1, h2⟩; exact ⟨h1, by omega⟩)
theorem within_iff {l : List Cl} {d : Int} (h0 : 0 ≤ d) : within l d = true ↔ ∀ i : Nat, d ≤ (i : Int) → (Eo l).testBit i = false := by
  have hlt := C1k l
  unfold within
  rw [Bool.or_eq_true, decide_eq_true_eq, decide_eq_true_eq]
  by_cases h24 : 24 ≤ d
  · constructor
    · intro _ i hi
      exact Nat.testBit_lt_two_pow (Nat.lt_of_lt_of_le hlt (Nat.pow_le_pow_right (n := 2) A3 (show 24 ≤ i by omega)))
    · intro _; exact .inl h24
  · have hm : min d.toNat 32 = d.toNat := by omega
    rw [hm]
    constructor
    · rintro (h | h) i hi
      · exact absurd h h24
      · have h1 : Eo l / 2 ^ d.toNat = 0 := by omega
        have h2 : Eo l < 2 ^ d.toNat := by
          have := Nat.div_eq_zero_iff.mp h1
          have hp : 0 < 2 ^ d.toNat := Nat.pow_pos A3
          omega
        exact Nat.testBit_lt_two_pow (Nat.lt_of_lt_of_le h2 (Nat.pow_le_pow_right (n := 2) A3 A3))
    · intro h
      right
      have h2 : Eo l < 2 ^ d.toNat := Nat.lt_pow_two_of_testBit _ (fun i hi => h i A3)
      rw [Nat.div_eq_of_lt h2]; rfl
theorem L5 (s n : Nat) : (Fi s n).Pairwise fun a b => a < b := by
 unfold Fi
 rw [List.pairwise_map]
 refine (List.Pairwise.filter _ List.pairwise_lt_range).imp (fun h => by omega)
theorem W8 {t : T} {p : Part} (hp : p ∈ parts t) : (∃ i, i < t.kids.length ∧ p = (t.kids.getD i t0, binds t.kind (i : Int))) ∨ ∃ s k, s < t.sys.length ∧ k < (t.sys.getD s C4).kids.length ∧ p = ((t.sys.getD s C4).kids.getD k t0, 0, more t.kind) := by
 unfold parts at hp
 rcases List.mem_append.mp hp with hp | hp
 ·left
  have key : ∀ (ks : List T) (s : Nat), p ∈ Da t.kind s ks → ∃ i, i < ks.length ∧ p = (ks.getD i t0, binds t.kind ((s + i : Nat) : Int)) := by
   intro ks
   induction ks with
   | nil => intro s h; simp [Da] at h
   | cons k ks ih =>
    intro s h
    simp only [Da, List.mem_cons] at h
    rcases h with h | h
    ·exact ⟨0, by simp, by simpa using h⟩
    ·obtain ⟨i, hi, e⟩ := ih (s + 1) h
     exact ⟨i + 1, by simpa using hi, by rw [e]; simp only [List.getD_cons_succ]; rw [show s + 1 + i = s + (i + 1) by omega]⟩
  obtain ⟨i, hi, e⟩ := key t.kids 0 hp
  exact ⟨i, hi, by rw [e]; simp⟩
 ·right
  have key : ∀ (bs : List Br), p ∈ D6 t.kind bs → ∃ s k, s < bs.length ∧ k < (bs.getD s C4).kids.length ∧ p = ((bs.getD s C4).kids.getD k t0, 0, more t.kind) := by
   intro bs
   induction bs with
   | nil => intro h; simp [D6] at h
   | cons b bs ih =>
    intro h
    simp only [D6, List.mem_append, List.mem_map] at h
    rcases h with ⟨k, hk, e⟩ | h
    ·obtain ⟨j, hj, e2⟩ := List.mem_iff_getElem.mp hk
     exact ⟨0, j, by simp, by simpa using hj, by rw [← e]; simp only [List.getD_cons_zero]; rw [Cq (d := t0) hj, e2]⟩
    ·obtain ⟨s, k, h1, h2, e⟩ := ih h
     exact ⟨s + 1, k, by simpa using h1, by simpa using h2, by rw [e]; simp⟩
  exact key t.sys hp
theorem A6a {α : Type} (f : α → Nat) (i : Nat) : ∀ (l : List α) (a : Nat), (l.foldl (fun a x => a ||| f x) a).testBit i = true ↔ a.testBit i = true ∨ ∃ x, x ∈ l ∧ (f x).testBit i = true
 | [], a => by simp
 | x :: l, a => by
  rw [List.foldl_cons, A6a f i l, Nat.testBit_or]
  simp only [Bool.or_eq_true, List.mem_cons, exists_eq_or_imp, or_assoc]
def It (k n : Int) (nm : ByteArray) (r : List Cl) : Prop :=
 (k ≠ 1 → n = 0) ∧ (k ≠ 2 → nm.toList = (ByteArray.mk #[]).toList) ∧ (k = 1 → r = [] ∧ 0 ≤ n) ∧ (k = 2 → r = [] ∧ L2 nm = true) ∧ (k = 13 ∨ k = 21 ∨ k = 26 → A5 r = true) ∧ (k = 14 → A6 r = true) ∧ (k ≠ 13 ∧ k ≠ 21 ∧ k ≠ 26 ∧ k ≠ 14 → r = [])
mutual
def Cm : T → Prop
 | .mk k n nm r ks ss => It k n nm r ∧ Dl k = (ks.length : Int) ∧ (Dw k = 0 → ss = []) ∧ Hp ks ∧ Ng k ss
def Hp : List T → Prop
 | [] => True
 | t :: ts => Cm t ∧ Hp ts
def Ng (k : Int) : List Br → Prop
 | [] => True
 | .mk f ks :: bs => (ks.length : Int) = Dw k ∧ A6 f = true ∧ Hp ks ∧ Ng k bs
end
theorem F9 {k : Int} (h : k = 1 ∨ k = 2 ∨ k = 13 ∨ k = 21 ∨ k = 26 ∨ k = 14) : Dw k = 0 := by
 unfold Dw
 rcases h with h | h | h | h | h | h <;> subst h <;> decide
theorem T4 (l : List Cl) {d : Int} (h : 24 ≤ d) : within l d = true := by unfold within; rw [decide_eq_true h]; rfl
theorem len_nil {α : Type} {l : List α} : ((l.length : Int) = 0) ↔ l = [] := by
 constructor
 ·intro h; exact List.eq_nil_of_length_eq_zero A3
 ·rintro rfl; rfl
theorem Lp {k n : Int} {nm : ByteArray} {r : List Cl} {ks : List T} {ss : List Br} {d : Int} (hd : 24 ≤ d) : Ja (.mk k n nm r ks ss) (-1) d = true ↔ It k n nm r ∧ Dl k = (ks.length : Int) ∧ (Dw k = 0 → ss = []) ∧ ∀ b, b ∈ ss → (b.kids.length : Int) = Dw k ∧ A6 b.As = true := by
 have hB : ∀ b : Br, Nk (.mk k n nm r ks ss) d b = (decide ((b.kids.length : Int) = Dw k) && A6 b.As) := fun b => by
  unfold Nk; rw [T4 _ hd, Bool.and_true]; rfl
 have hL : (0 : Int) < (ss.length : Int) ↔ ss ≠ [] := by
  constructor
  ·intro h e; subst e; simp at h
  ·intro h; have := List.length_pos_iff.mpr h; omega
 have hs : ∀ p : Bool, (ss.all (Nk (.mk k n nm r ks ss) d) = true) ↔ ∀ b, b ∈ ss → (b.kids.length : Int) = Dw k ∧ A6 b.As = true := fun _ => by
  rw [List.all_eq_true]
  exact forall_congr' fun b => forall_congr' fun _ => by rw [hB]; simp
 unfold Ja Hd It
 simp only [T.kind, T.n, T.name, T.r, T.kids, T.sys, T4 _ hd, Bool.and_true, Bool.and_eq_true, Bool.not_eq_true', Bool.or_eq_false_iff, Bool.and_eq_false_iff, decide_eq_false_iff_not, Decidable.not_not, ne_eq, Int.not_lt, Bool.not_eq_false', beq_iff_eq]
 constructor
 ·rintro ⟨⟨⟨⟨h1, h2⟩, h3⟩, h4⟩, h5⟩
  replace h1 : Dl k = (ks.length : Int) := Decidable.not_not.mp (of_decide_eq_false h1)
  replace h2 : k = 1 ∨ n = 0 := h2.imp (fun h => Decidable.not_not.mp (of_decide_eq_false h)) (fun h => Decidable.not_not.mp (of_decide_eq_false h))
  replace h3 : k = 2 ∨ nm.toList = (ByteArray.mk #[]).toList := h3.imp (fun h => Decidable.not_not.mp (of_decide_eq_false h)) id
  replace h4 : ¬ Dw k = 0 ∨ ¬ (0 : Int) < (ss.length : Int) := h4.imp (fun h => of_decide_eq_false h) (fun h => of_decide_eq_false h)
  have hss : Dw k = 0 → ss = [] := by
   intro h
   rcases h4 with h4 | h4
   ·exact absurd h h4
   ·exact List.eq_nil_of_length_eq_zero A3
  split at h5
  ·rename_i hk
   have he := hss (F9 A3)
   subst he
   simp only [Bool.and_eq_true, decide_eq_true_eq] at h5
   exact ⟨⟨by omega, fun _ => h3.resolve_left A3, fun _ => ⟨len_nil.mp (of_decide_eq_true h5.1.1), of_decide_eq_true h5.1.2⟩, by omega, by omega, by omega, fun _ => len_nil.mp (of_decide_eq_true h5.1.1)⟩, h1, hss, fun b hb => by cases hb⟩
  ·split at h5
   ·rename_i hk1 hk
    have he := hss (F9 A3)
    subst he
    simp only [Bool.and_eq_true, decide_eq_true_eq] at h5
    exact ⟨⟨by omega, fun h => absurd hk h, by omega, fun _ => ⟨len_nil.mp (of_decide_eq_true h5.1), h5.2⟩, by omega, by omega, fun _ => len_nil.mp (of_decide_eq_true h5.1)⟩, h1, hss, fun b hb => by cases hb⟩
   ·split at h5
    ·rename_i hk1 hk2 hk
     have he := hss (F9 A3)
     subst he
     exact ⟨⟨by omega, fun _ => h3.resolve_left A3, by omega, by omega, fun _ => h5, by omega, by omega⟩, h1, hss, fun b hb => by cases hb⟩
    ·split at h5
     ·rename_i hk1 hk2 hk3 hk
      have he := hss (F9 A3)
      subst he
      exact ⟨⟨by omega, fun _ => h3.resolve_left A3, by omega, by omega, by omega, fun _ => h5, by omega⟩, h1, hss, fun b hb => by cases hb⟩
     ·rename_i hk1 hk2 hk3 hk4
      simp only [Bool.and_eq_true, decide_eq_true_eq] at h5
      exact ⟨⟨by omega, fun _ => h3.resolve_left A3, by omega, by omega, by omega, by omega, fun _ => len_nil.mp (of_decide_eq_true h5.2)⟩, h1, hss, (hs true).mp h5.1⟩
 ·rintro ⟨⟨a1, a2, a3, a4, a5, a6, a7⟩, b1, b2, b3⟩
  refine ⟨⟨⟨⟨decide_eq_false (Decidable.not_not.mpr b1), ?_⟩, ?_⟩, ?_⟩, ?_⟩
  ·by_cases h : k = 1
   ·exact .inl (decide_eq_false (Decidable.not_not.mpr h))
   ·exact .inr (decide_eq_false (Decidable.not_not.mpr (a1 h)))
  ·by_cases h : k = 2
   ·exact .inl (decide_eq_false (Decidable.not_not.mpr h))
   ·exact .inr (a2 h)
  ·by_cases h : Dw k = 0
   ·exact .inr (decide_eq_false (by rw [b2 h]; decide))
   ·exact .inl (decide_eq_false h)
  ·split
   ·rename_i h; simp [(a3 h).1, (a3 h).2]
   ·split
    ·rename_i h; simp [(a4 h).1, (a4 h).2]
    ·split
     ·rename_i h; exact a5 h
     ·split
      ·rename_i h; exact a6 h
      ·rename_i h1 h2 h3 h4
       rw [Bool.and_eq_true, (hs true)]
       exact ⟨b3, by simp [a7 A3]⟩
theorem Pa : ∀ {ts : List T}, Hp ts ↔ ∀ t, t ∈ ts → Cm t
 | [] => by simp [Hp]
 | t :: ts => by simp [Hp, Pa (ts := ts)]
theorem Ty {k : Int} : ∀ {bs : List Br}, Ng k bs ↔ ∀ b, b ∈ bs → (b.kids.length : Int) = Dw k ∧ A6 b.As = true ∧ Hp b.kids
 | [] => by simp [Ng]
 | .mk f ks :: bs => by
  simp only [Ng, Ty (bs := bs), List.forall_mem_cons, Br.kids, Br.As]
  constructor
  ·rintro ⟨h1, h2, h3, h4⟩; exact ⟨⟨h1, h2, h3⟩, h4⟩
  ·rintro ⟨⟨h1, h2, h3⟩, h4⟩; exact ⟨h1, h2, h3, h4⟩
theorem Lz {t : T} : Cm t ↔ It t.kind t.n t.name t.r ∧ Dl t.kind = (t.kids.length : Int) ∧ (Dw t.kind = 0 → t.sys = []) ∧ Hp t.kids ∧ Ng t.kind t.sys := by
 obtain ⟨k, n, nm, r, ks, ss⟩ := t
 simp only [Cm, T.kind, T.n, T.name, T.r, T.kids, T.sys]
theorem Qo {t : T} : Cm t ↔ (∀ d : Int, 24 ≤ d → Ja t (-1) d = true) ∧ ∀ p, p ∈ parts t → Cm p.1 := by
 rw [Lz, Pa, Ty]
 have ho : ∀ d : Int, 24 ≤ d → (Ja t (-1) d = true ↔ It t.kind t.n t.name t.r ∧ Dl t.kind = (t.kids.length : Int) ∧ (Dw t.kind = 0 → t.sys = []) ∧ ∀ b, b ∈ t.sys → (b.kids.length : Int) = Dw t.kind ∧ A6 b.As = true) := by
  intro d hd
  obtain ⟨k, n, nm, r, ks, ss⟩ := t
  exact Lp hd
 constructor
 ·rintro ⟨h1, h2, h3, h4, h5⟩
  refine ⟨fun d hd => (ho d hd).mpr ⟨h1, h2, h3, fun b hb => ⟨(h5 b hb).1, (h5 b hb).2.1⟩⟩, fun p hp => ?_⟩
  rcases W8 hp with ⟨i, hi, rfl⟩ | ⟨s, k, hs, hk, rfl⟩
  ·exact h4 _ (Af hi)
  ·exact Pa.mp (h5 _ (Af hs)).2.2 _ (Af hk)
 ·rintro ⟨h1, h2⟩
  obtain ⟨a1, a2, a3, a4⟩ := (ho 24 A3).mp (h1 24 A3)
  refine ⟨a1, a2, a3, fun k hk => ?_, fun b hb => ⟨(a4 b hb).1, (a4 b hb).2, Pa.mpr fun k hk => ?_⟩⟩
  ·obtain ⟨p, hp, e⟩ := Gp hk; exact e ▸ h2 p hp
  ·obtain ⟨p, hp, e⟩ := Gm hb hk; exact e ▸ h2 p hp
theorem C2h : ∀ (t : T) (d : Int), 24 ≤ d → (Pm t (-1) d false = true ↔ Cm t) := T.ind fun t ih d hd => by
 rw [B3b, Qo]
 have hw : ∀ p : Part, IntKind.i64.wrap (-1 + if (-1 : Int) < 0 then 0 else p.2.1) = -1 := fun p => by rw [if_pos Iu]; decide
 constructor
 ·rintro ⟨_, h2, h3⟩
  refine ⟨fun d' hd' => ?_, fun p hp => ?_⟩
  ·obtain ⟨k, n, nm, r, ks, ss⟩ := t
   exact (Lp hd').mpr ((Lp hd).mp h2)
  ·have h4 := h3 p hp
   rw [hw] at h4
   have h5 := W6 hp
   exact (ih p hp (d + p.2.2) A3).mp h4
 ·rintro ⟨h1, h2⟩
  refine ⟨by simp, h1 d hd, fun p hp => ?_⟩
  rw [hw]
  have h5 := W6 hp
  exact (ih p hp (d + p.2.2) A3).mpr (h2 p hp)
theorem Od {t : T} : Ax t = 0 ↔ sized t = 0 ∧ Cm t := by rw [A5y, C2h t 24 A3]
section
variable {C : Type} {A : Tr C}
end
section
variable {CA CB CC : Type} {A : Tr CA} {B : Tr CB} {D : Tr CC} (R : CA → CB → CC → Prop)
structure B6h : Prop where
 inl : ∀ ca cb cc k n nm r u, R ca cb cc → It k n nm r → A.own ca k n nm r = .ok (.inl u) → D.own cc k n nm r = (Bh B u cb).bind fun w => .ok (.inl w)
 inr : ∀ ca cb cc k n nm r p, R ca cb cc → It k n nm r → A.own ca k n nm r = .ok (.inr p) → B.own cb k p.1 nm p.2 = D.own cc k n nm r
 none : ∀ ca cb cc f, R ca cb cc → A6 f = true → A.As ca f = .ok none → D.As cc f = .ok none
 some : ∀ ca cb cc f f', R ca cb cc → A6 f = true → A.As ca f = .ok (some f') → B.As cb f' = D.As cc f
 Gq : ∀ ca cb cc b ca', 0 ≤ b.1 → 0 ≤ b.2 → R ca cb cc → A.Gq ca b = .ok ca' → (∃ cb' cc', B.Gq cb b = .ok cb' ∧ D.Gq cc b = .ok cc' ∧ R ca' cb' cc') ∨ ∃ e, B.Gq cb b = .bad e ∧ D.Gq cc b = .bad e
variable {R}
mutual
theorem C4w (F : B6h (A := A) (B := B) (D := D) R) : ∀ {t u : T} {ca : CA} {cb : CB} {cc : CC}, Cm t → R ca cb cc → Bh A t ca = .ok u → Bh B u cb = Bh D t cc
 | .mk k n nm r ks ss, u, ca, cb, cc, h, hr, hu => by
  simp only [Cm] at h
  obtain ⟨h1, h2, h3, h4, h5⟩ := h
  rw [D5] at hu
  simp only [T.kind, T.n, T.name, T.r, T.kids, T.sys] at hu
  obtain ⟨o, h9, hu⟩ := A8.A0 hu
  cases o with
  | inl v =>
   injection hu with hu
   subst hu
   conv => rhs; rw [D5]
   simp only [T.kind, T.n, T.name, T.r, T.kids, T.sys]
   rw [F.inl _ _ _ _ _ _ _ _ hr h1 h9]
   cases Bh B v cb <;> rfl
  | inr p =>
   obtain ⟨ks', h10, hu⟩ := A8.A0 hu
   obtain ⟨ss', h11, hu⟩ := A8.A0 hu
   injection hu with hu
   subst hu
   rw [D5, D5]
   simp only [T.kind, T.n, T.name, T.r, T.kids, T.sys]
   rw [F.inr _ _ _ _ _ _ _ _ hr h1 h9, C6t F h4 hr h10, C0w F h5 hr h11]
theorem C6t (F : B6h (A := A) (B := B) (D := D) R) {kd : Int} : ∀ {ts us : List T} {i : Nat} {ca : CA} {cb : CB} {cc : CC}, Hp ts → R ca cb cc → Ci A kd i ts ca = .ok us → Ci B kd i us cb = Ci D kd i ts cc
 | [], us, i, ca, cb, cc, h, hr, hu => by rw [Ct] at hu; injection hu with hu; subst hu; rw [Ct, Ct]
 | t :: ts, us, i, ca, cb, cc, h, hr, hu => by
  simp only [Hp] at h
  rw [Ch] at hu
  obtain ⟨c', h1, hu⟩ := A8.A0 hu
  obtain ⟨t', h2, hu⟩ := A8.A0 hu
  obtain ⟨ts', h3, hu⟩ := A8.A0 hu
  injection hu with hu
  subst hu
  rw [Ch, Ch]
  rcases F.Gq _ _ _ _ _ (M4 _ _).1 (M4 _ _).2.2.1 hr h1 with ⟨cb', cc', e1, e2, hr'⟩ | ⟨e, e1, e2⟩
  ·rw [e1, e2]
   simp only [A8.bind]
   rw [C4w F h.1 hr' h2, C6t F h.2 hr h3]
  ·rw [e1, e2]; rfl
theorem C6s (F : B6h (A := A) (B := B) (D := D) R) {kd : Int} : ∀ {ts us : List T} {ca : CA} {cb : CB} {cc : CC}, Hp ts → R ca cb cc → Bt A kd ts ca = .ok us → Bt B kd us cb = Bt D kd ts cc
 | [], us, ca, cb, cc, h, hr, hu => by rw [Cy] at hu; injection hu with hu; subst hu; rw [Cy, Cy]
 | t :: ts, us, ca, cb, cc, h, hr, hu => by
  simp only [Hp] at h
  rw [Cg] at hu
  obtain ⟨c', h1, hu⟩ := A8.A0 hu
  obtain ⟨t', h2, hu⟩ := A8.A0 hu
  obtain ⟨ts', h3, hu⟩ := A8.A0 hu
  injection hu with hu
  subst hu
  rw [Cg, Cg]
  rcases F.Gq _ _ _ _ _ (Int.le_refl 0) (S1 _).1 hr h1 with ⟨cb', cc', e1, e2, hr'⟩ | ⟨e, e1, e2⟩
  ·rw [e1, e2]
   simp only [A8.bind]
   rw [C4w F h.1 hr' h2, C6s F h.2 hr h3]
  ·rw [e1, e2]; rfl
theorem C0w (F : B6h (A := A) (B := B) (D := D) R) {kd : Int} : ∀ {bs us : List Br} {ca : CA} {cb : CB} {cc : CC}, Ng kd bs → R ca cb cc → Bu A kd bs ca = .ok us → Bu B kd us cb = Bu D kd bs cc
 | [], us, ca, cb, cc, h, hr, hu => by rw [Co] at hu; injection hu with hu; subst hu; rw [Co, Co]
 | .mk f ks :: bs, us, ca, cb, cc, h, hr, hu => by
  simp only [Ng] at h
  obtain ⟨h1, h2, h3, h4⟩ := h
  rw [C7] at hu
  simp only [Br.As, Br.kids] at hu
  obtain ⟨o, h5, hu⟩ := A8.A0 hu
  cases o with
  | none =>
   rw [C0w F h4 hr hu]
   conv => rhs; rw [C7]
   simp only [Br.As, Br.kids]
   rw [F.none _ _ _ _ hr h2 h5]
   rfl
  | some f' =>
   obtain ⟨ks', h6, hu⟩ := A8.A0 hu
   obtain ⟨bs', h7, hu⟩ := A8.A0 hu
   injection hu with hu
   subst hu
   rw [C7, C7]
   simp only [Br.As, Br.kids]
   rw [F.some _ _ _ _ _ hr h2 h5, C6s F h3 hr h6, C0w F h4 hr h7]
end
end
section
variable {CA CC : Type} {A : Tr CA} {D : Tr CC} (R : CA → CC → Prop)
variable {R}
end
theorem E6 {s : Nat} {f b : Int} (h : (Aa s f b).1 = 0) (i : Nat) : 0 ≤ f ∧ 0 ≤ b ∧ (Aa s f b).2.testBit i = ((decide (i < min f.toNat 24) && (s &&& 16777215).testBit i) || (decide (min f.toNat 24 + b.toNat ≤ i) && (s &&& 16777215).testBit (i - b.toNat))) := by
  by_cases h0 : f < 0 ∨ b < 0
  · rw [Aa, if_pos h0] at h; cases h
  · have hq : ∀ j, (s &&& 16777215).testBit j = true → j < 24 := fun j hj => by rw [Ei, Bool.and_eq_true, decide_eq_true_eq] at hj; exact hj.1
    refine ⟨by omega, by omega, ?_⟩
    generalize hF : min f.toNat 24 = F at *
    by_cases h1 : B1 (s &&& 16777215) (2 ^ (min f.toNat 24) - 1) = 0
    · rw [Aa, if_neg h0, if_pos h1]
      show ((s &&& 16777215) &&& (2 ^ (min f.toNat 24) - 1)).testBit i = _
      rw [hF] at h1 ⊢
      rw [Nat.testBit_and, Il]
      have h2 : (decide (F + b.toNat ≤ i) && (s &&& 16777215).testBit (i - b.toNat)) = false := by
        cases h3 : (s &&& 16777215).testBit (i - b.toNat) with
        | false => rw [Bool.and_false]
        | true =>
          rw [Bool.and_true]
          refine decide_eq_false (fun h4 => ?_)
          have h5 : (B1 (s &&& 16777215) (2 ^ F - 1)).testBit (i - b.toNat) = true := by
            rw [Fm, Il, h3, decide_eq_true (by have := hq _ h3; omega), decide_eq_false A3]; rfl
          rw [h1, Nat.zero_testBit] at h5
          cases h5
      rw [h2, Bool.or_false, Bool.and_comm]
    · by_cases h2 : 24 ≤ b ∨ 16777215 < B1 (s &&& 16777215) (2 ^ (min f.toNat 24) - 1) * 2 ^ b.toNat
      · rw [Aa, if_neg h0, if_neg h1, if_pos h2] at h; cases h
      · rw [Aa, if_neg h0, if_neg h1, if_neg h2]
        show (((s &&& 16777215) &&& (2 ^ (min f.toNat 24) - 1)) ||| (B1 (s &&& 16777215) (2 ^ (min f.toNat 24) - 1) * 2 ^ b.toNat)).testBit i = _
        rw [hF, Nat.testBit_or, Nat.testBit_and, Il, Nat.testBit_mul_two_pow, Fm, Il]
        cases h3 : (s &&& 16777215).testBit (i - b.toNat) with
        | false => simp [Bool.and_comm]
        | true =>
          have h4 := hq _ h3
          rw [decide_eq_true (show i - b.toNat < 32 by omega)]
          simp only [Bool.and_true, Bool.true_and]
          rw [Bool.and_comm]
          congr 1
          by_cases h5 : F + b.toNat ≤ i
          · rw [decide_eq_true (show b.toNat ≤ i by omega), decide_eq_false (show ¬ i - b.toNat < F by omega), decide_eq_true h5]; rfl
          · rw [decide_eq_false h5]
            by_cases h6 : b.toNat ≤ i
            · rw [decide_eq_true h6, decide_eq_true (show i - b.toNat < F by omega)]; rfl
            · rw [decide_eq_false h6]; rfl
theorem Wm {p q : Nat} {f b : Int} (hp : (Aa p f b).1 = 0) (hq : (Aa q f b).1 = 0) (h : p &&& q = 0) : (Aa p f b).2 &&& (Aa q f b).2 = 0 := by
  refine Nat.eq_of_testBit_eq (fun i => ?_)
  have hb : ∀ j, (p &&& 16777215).testBit j = true → (q &&& 16777215).testBit j = true → False := fun j h1 h2 => by
    rw [Ei, Bool.and_eq_true] at h1 h2
    have : (p &&& q).testBit j = true := by rw [Nat.testBit_and, h1.2, h2.2]; rfl
    rw [h, Nat.zero_testBit] at this
    cases this
  rw [Nat.testBit_and, (E6 hp i).2.2, (E6 hq i).2.2, Nat.zero_testBit]
  cases h1 : (p &&& 16777215).testBit i <;> cases h2 : (q &&& 16777215).testBit i <;> cases h3 : (p &&& 16777215).testBit (i - b.toNat) <;> cases h4 : (q &&& 16777215).testBit (i - b.toNat) <;> first
    | exact (hb _ h1 h2).elim
    | exact (hb _ h3 h4).elim
    | (simp only [Bool.and_true, Bool.and_false, Bool.or_false, Bool.false_or, Bool.and_eq_false_iff, decide_eq_false_iff_not]; done)
    | (by_cases h5 : i < min f.toNat 24
       · rw [decide_eq_true h5, decide_eq_false (show ¬ min f.toNat 24 + b.toNat ≤ i by omega)]; simp
       · rw [decide_eq_false h5]; simp)
theorem F5 {c : Cl} {f b : Int} (h : (An c f b).1 = 0) : Az c = true ∧ (Aa c.pos f b).1 = 0 ∧ (Aa c.neg f b).1 = 0 ∧ (An c f b).2 = ⟨(Aa c.pos f b).2, (Aa c.neg f b).2⟩ := by
  unfold An at h ⊢
  split at h
  · cases h
  · rename_i h1
    split at h
    · rename_i h2; exact absurd h h2
    · rename_i h2
      split at h
      · rename_i h3; exact absurd h h3
      · rename_i h3
        rw [if_neg h1, if_neg h2, if_neg h3]
        exact ⟨by simpa using h1, Decidable.not_not.mp h2, Decidable.not_not.mp h3, rfl⟩
theorem Sr {c : Cl} {f b : Int} (h : (An c f b).1 = 0) : Az (An c f b).2 = true := by
  rw [(F5 h).2.2.2]
  have h1 := Fa c.pos f b
  have h2 := Fa c.neg f b
  unfold Az
  rw [decide_eq_true h1, decide_eq_true h2]; rfl
theorem A2p {c : Cl} {f b : Int} (h : (An c f b).1 = 0) (hc : Hb c = false) : Hb (An c f b).2 = false := by
  obtain ⟨_, h1, h2, h3⟩ := F5 h
  rw [h3]
  unfold Hb at hc ⊢
  have h4 : c.pos &&& c.neg = 0 := Decidable.not_not.mp (of_decide_eq_false hc)
  exact decide_eq_false (Decidable.not_not.mpr (Wm h1 h2 h4))
theorem Fj (l : List Cl) : ((B7 l).1 = 0 ∧ l.all Az = true ∧ (B7 l).2 = Cz l ∧ (Cz l).length ≤ 64) ∨ (B7 l).1 = 2 ∨ (B7 l).1 = 3 := by
  unfold B7
  split
  · exact .inr (.inl rfl)
  · rename_i h1
    split
    · exact .inr (.inr rfl)
    · rename_i h2
      exact .inl ⟨rfl, by simpa using h1, rfl, by omega⟩
theorem I5 {l : List Cl} (h : (B7 l).1 = 0) : A5 (B7 l).2 = true := by
  rcases Fj l with ⟨_, h1, h2, h3⟩ | h1 | h1
  · rw [h2]
    unfold A5
    rw [Bool.and_eq_true, Bool.and_eq_true, Bool.and_eq_true]
    refine ⟨⟨⟨List.all_eq_true.mpr fun c hc => List.all_eq_true.mp h1 c (D8.mp hc).1, Ih.mpr (Gt l)⟩, Pb.mpr fun a ha b hb => Gd.mp (D8.mp ha).2 b (D8.mp hb).1⟩, decide_eq_true h3⟩
  · rw [h1] at h; cases h
  · rw [h1] at h; cases h
theorem K6 {l : List Cl} (h : (B7 l).1 = 0) {c : Cl} (hc : c ∈ (B7 l).2) : c ∈ l := by
  rcases Fj l with ⟨_, h1, h2, h3⟩ | h1 | h1
  · rw [h2] at hc; exact (D8.mp hc).1
  · rw [h1] at h; cases h
  · rw [h1] at h; cases h
theorem Eb {l : List Cl} {f b : Int} (h : (Ad l f b).1 = 0) : A5 l = true ∧ (∀ c, c ∈ l → (An c f b).1 = 0) ∧ Ad l f b = B7 (l.map fun c => (An c f b).2) := by
  unfold Ad at h ⊢
  split at h
  · cases h
  · rename_i h1
    split at h
    · rename_i h2; exact absurd h h2
    · rename_i h2
      have h3 : (E1 (fun c => An c f b) l).1 = 0 := Decidable.not_not.mp h2
      rw [if_neg h1, if_neg h2]
      exact ⟨by simpa using h1, Tx.mp h3, by rw [Zu h3]⟩
theorem Ur {l : List Cl} {f b : Int} (h : (Ad l f b).1 = 0) : A5 (Ad l f b).2 = true := by
  obtain ⟨_, _, h3⟩ := Eb h
  rw [h3] at h ⊢
  exact I5 h
theorem Yf {l : List Cl} {f b : Int} (h : (Ad l f b).1 = 0) (hl : A6 l = true) : A6 (Ad l f b).2 = true := by
  obtain ⟨_, h2, h3⟩ := Eb h
  have hf := Ur h
  unfold A6 at hl ⊢
  rw [Bool.and_eq_true, Bool.not_eq_true'] at hl ⊢
  refine ⟨hf, ?_⟩
  rw [List.any_eq_false]
  intro c hc
  rw [h3] at h hc
  obtain ⟨d, hd, rfl⟩ := List.mem_map.mp (K6 h hc)
  have h4 := List.any_eq_false.mp hl.2 d hd
  rw [Bool.not_eq_true] at h4 ⊢
  exact A2p (h2 d hd) h4
theorem Gv {l g : List Cl} {f b : Int} (h : Ah b l f = .ok g) (hl : A5 l = true) : A5 g = true := by
  unfold Ah at h
  split at h
  · injection h with h; subst h; exact hl
  · split at h
    · rename_i h2; injection h with h; subst h; exact Ur h2
    · cases h
theorem Ro {l g : List Cl} {f b : Int} (h : Ah b l f = .ok g) (hl : A6 l = true) : A6 g = true := by
  unfold Ah at h
  split at h
  · injection h with h; subst h; exact hl
  · split at h
    · rename_i h2; injection h with h; subst h; exact Yf h2 hl
    · cases h
theorem Mz : A5 [] = true := by decide
theorem A2e (f b : Int) : Ad [] f b = (0, []) := by
  unfold Ad
  rw [if_neg (by rw [Mz]; decide)]
  have h : E1 (fun c => An c f b) [] = (0, []) := rfl
  rw [h, if_neg Iu]
  exact I8.mp Mz
theorem Nz (f b : Int) : Ah b [] f = .ok [] := by
  unfold Ah
  rw [A2e]
  simp
section
variable {C : Type} {A : Tr C}
end
theorem J8 (l : List Cl) (f : Int) : Ah 0 l f = .ok l := by unfold Ah; rw [if_pos (.inl rfl)]
theorem En {vb db : Int} {c : Int × Int} {k n : Int} {nm : ByteArray} {r : List Cl} : (Av vb db).own c k n nm r = (Ah db r c.2).bind fun r' => if k = 1 ∧ c.1 ≤ n ∧ 1000000000 - vb < n then .bad 100 else .ok (.inr (Cr vb c.1 k n, r')) := by
  simp only [Av, Cr]
  congr 1
  funext g
  by_cases h1 : k = 1 ∧ c.1 ≤ n
  · rw [if_pos h1, if_pos h1]
    by_cases h2 : 1000000000 - vb < n
    · rw [if_pos h2, if_pos ⟨h1.1, h1.2, h2⟩]
    · rw [if_neg h2, if_neg (fun h => h2 h.2.2)]
  · rw [if_neg h1, if_neg h1, if_neg (fun h => h1 ⟨h.1, h.2.1⟩)]
theorem Im {vb db : Int} {c : Int × Int} {k n : Int} {nm : ByteArray} {r : List Cl} {p : Int × List Cl} (h : (Av vb db).own c k n nm r = .ok (.inr p)) : Ah db r c.2 = .ok p.2 ∧ ¬ (k = 1 ∧ c.1 ≤ n ∧ 1000000000 - vb < n) ∧ p.1 = Cr vb c.1 k n := by
  rw [En] at h
  obtain ⟨g, hg, h⟩ := A8.A0 h
  split at h
  · cases h
  · rename_i h1
    injection h with h; injection h with h; subst h
    exact ⟨hg, h1, rfl⟩
theorem Hn {vb db : Int} {c : Int × Int} {f f' : List Cl} (h : (Av vb db).As c f = .ok (some f')) : Ah db f c.2 = .ok f' := by
  obtain ⟨g, hg, h⟩ := A8.A0 (x := Ah db f c.2) h
  injection h with h; injection h with h; subst h; exact hg
theorem G8 {vb db : Int} {c : Int × Int} {f : List Cl} : (Av vb db).As c f ≠ .ok none := fun h => by
  obtain ⟨g, hg, h⟩ := A8.A0 (x := Ah db f c.2) h
  injection h with h; cases h
def R3 (a b c : Int × Int) : Prop := a = b ∧ b = c
theorem B5b {a c v k n : Int} (ha : 0 ≤ a) : Cr c v k (Cr a v k n) = Cr (a + c) v k n := by
  unfold Cr
  by_cases h : k = 1 ∧ v ≤ n
  · rw [if_pos h, if_pos h, if_pos ⟨h.1, by omega⟩]; omega
  · rw [if_neg h, if_neg h, if_neg h]
theorem Ws {v k n : Int} : Cr 0 v k n = n := by unfold Cr; split <;> omega
theorem G0 {vb db : Int} {c : Int × Int} {f : List Cl} : (Av vb db).As c f = (Ah db f c.2).bind fun f' => .ok (some f') := rfl
theorem C4u {a b c : Int} (ha : 0 ≤ a) (hc : 0 ≤ c) : B6h (A := Av a b) (B := Av c 0) (D := Av (a + c) b) R3 where
  inl := fun ca cb cc k n nm r u _ _ h => absurd h Em
  inr := by
    rintro ca cb cc k n nm r p ⟨rfl, rfl⟩ _ h
    obtain ⟨h1, h2, h3⟩ := Im h
    rw [En, En, h1, J8, h3]
    simp only [A8.bind]
    have h4 : Cr c ca.1 k (Cr a ca.1 k n) = Cr (a + c) ca.1 k n := B5b ha
    rw [h4]
    have h5 : (k = 1 ∧ ca.1 ≤ Cr a ca.1 k n ∧ 1000000000 - c < Cr a ca.1 k n) ↔ (k = 1 ∧ ca.1 ≤ n ∧ 1000000000 - (a + c) < n) := by
      unfold Cr; split <;> omega
    by_cases h6 : k = 1 ∧ ca.1 ≤ n ∧ 1000000000 - (a + c) < n
    · rw [if_pos h6, if_pos (h5.mpr h6)]
    · rw [if_neg h6, if_neg (fun h => h6 (h5.mp h))]
  none := fun ca cb cc f _ _ h => absurd h G8
  some := by
    rintro ca cb cc f f' ⟨rfl, rfl⟩ _ h
    have h1 := Hn h
    rw [G0, G0, h1, J8]
  Gq := by
    rintro ca cb cc b' ca' hb1 hb2 ⟨rfl, rfl⟩ h
    injection h with h; subst h
    exact .inl ⟨_, _, rfl, rfl, rfl, rfl⟩
theorem B0d (c : Cl) (f b : Int) : (An c f b).1 = 0 ∨ (An c f b).1 = 2 ∨ (An c f b).1 = 10 := by
  have hm : ∀ s, (Aa s f b).1 = 0 ∨ (Aa s f b).1 = 2 ∨ (Aa s f b).1 = 10 := fun s => by
    unfold Aa
    split
    · exact .inr (.inl rfl)
    · split
      · exact .inl rfl
      · split
        · exact .inr (.inr rfl)
        · exact .inl rfl
  unfold An
  split
  · exact .inr (.inl rfl)
  · split
    · exact hm _
    · split
      · exact hm _
      · exact .inl rfl
def M5 (r : A8 T) : Int × T := match r with
  | .ok u => (0, u)
  | .bad e => (e, t0)
end Go.Hy
