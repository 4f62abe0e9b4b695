/- Contracts of this program's functions and the laws that they need. -/
import Derived.Test.YtpfjlbopkhdebaaGreatDoorP4
set_option linter.unusedVariables false
set_option linter.unusedSimpArgs false
set_option linter.unusedSectionVars false
namespace Go.Hy
open Go.Proofs Go.Proofs.Tryz
theorem sm_ {p q : Prop} (h : p) (e : p = q := by
 try (conv => lhs; simp only [sC, bne_iff_ne, beq_iff_eq, ne_eq])
 try rfl) : q := e ▸ h
class Cz (P : Program) (k : FuncId) (fn : outParam Func) : Prop where
 f : P.funcs[k]? = some fn
structure Ap (p : Prop) : Prop where
 out : p
section
variable {P : Program} {f : FuncId} {R : Ending → World → Prop} {B : Cu} {n : Fz} {K : List Item} {σ : Nat → Value} {Γ Γ' : List Fact} {Ms : List Bj}
theorem f_ {k : FuncId} {fn : Func} [h : Cz P k fn] : P.funcs[k]? = some fn := h.f
theorem O8 {fn : Func} {id : Nat} {ops : Array Oper} [h9 : Cz P f fn] (h : Ec P f R B n K ops (List.range ops.size) σ Γ Ms) : Fs P f R B n (.code (.region id ops false) :: K) σ Γ Ms := go_region ⟨_, h9.f⟩ rfl h
theorem Ht {Q : Program} [Tab Q] {g : FuncId} {S : Ending → World → Prop} {C : Cu} {m : Fz} {L : List Item} {ops : Array Oper} {i : Nat} {l : List Nat} {τ : Nat → Value} {Δ : List Fact} {Ns : List Bj} {dst : Option Tmp} {op : Op} {ty : TypeId} {pos : String} {after : Array Edge} {e d : Nat} {want : Bool} {og : Oper} (ho : ops[i]? = some ⟨dst, op, ty, pos, after, some (e, want)⟩) (t : Bool) {p q : Prop} (kT : t = want → p → Ew Q g S C m L ops l (Ch dst op ty) (Tx τ d (.bool want)) Δ Ns) (kF : t = !want → q → Ec Q g S C m L ops l (Au (Tx τ d (.bool !want)) dst undef) Δ Ns) (hog : ops[e]? = some og := by exact rfl) (hgd : og.dst = some d := by exact rfl) (ht : τ d = .bool t := by exact A5) (e1 : (t = want) = p := by
 try (conv => lhs; simp only [sC, bne_iff_ne, beq_iff_eq, ne_eq])
 try rfl) (e2 : (t = !want) = q := by
 try (conv => lhs; simp only [Bool.not_true, Bool.not_false, sC, bne_iff_ne, beq_iff_eq, ne_eq])
 try rfl) (hd : Af m dst = true := by rfl) : Ec Q g S C m L ops (i :: l) τ Δ Ns := qI ho hog hgd ht (fun h => kT h (e1 ▸ h)) (fun h => kF h (e2 ▸ h)) hd
theorem B7 {d : Nat} {x y : Code} (t : Bool) {p q : Prop} (kT : t = true → p → Fs P f R B n (.code x :: K) (Tx σ d (.bool true)) Γ Ms) (kF : t = false → q → Fs P f R B n (.code y :: K) (Tx σ d (.bool false)) Γ Ms) (hc : σ d = .bool t := by exact A5) (e1 : (t = true) = p := by
 try (conv => lhs; simp only [sC, bne_iff_ne, beq_iff_eq, ne_eq])
 try rfl) (e2 : (t = false) = q := by
 try (conv => lhs; simp only [sC, bne_iff_ne, beq_iff_eq, ne_eq])
 try rfl) : Fs P f R B n (.code (.cond (.tmp d) x y) :: K) σ Γ Ms := A6 (fun h => kT h (e1 ▸ h)) (fun h => kF h (e2 ▸ h)) hc
theorem D1 {fn : Func} {c : Code} {m : Nat} {args : List Value} {pre : List Fact} {Ms0 : List Bj} {X : Type} {val : X → Value} {N : X → List Fact} {Ms1 : X → List Bj} [h9 : Cz P f fn] (hn : fn.ntmps = m) (h : ∀ B : Cu, (∀ b, B.S0 b ↔ Bo Ms0 b) → Fs P f (Ends B val N Ms1) B ⟨m, [], .normal⟩ [.code c] (fun t => args.getD t undef) pre Ms0) (hb : fn.body = some c := by exact rfl) (ha : args.length ≤ m := by exact Nat.le_of_ble_eq_true rfl) : Spec P f args.toArray pre Ms0 val N Ms1 := Ox h9.f hn hb ha h
theorem St.l9 {w : World} (hs : St B Γ Ms w) (h : ∀ F, F ∈ Γ' → F ∈ Γ := by simp +contextual) : St B Γ' Ms w := hs.less h
theorem St.l7 {w : World} (hs : St B Γ Ms w) (h : ∀ F, F ∈ ([] : List Fact) → F ∈ Γ := by simp) : St B [] Ms w := hs.less h
theorem St.l8 {w : World} (hs : St B Γ Ms w) (h : ∀ F, F ∈ Γ' → F ∈ Γ := by simp) : St B Γ' Ms w := hs.less h
end
section
variable {p q : Prop}
theorem Kl (k : p) (h : Ap p → q := by intro h; refine E2r ?_; exact h.1) : q := h ⟨k⟩
theorem Ly (k : p) (h : Ap p → q := by intro h; refine D9i ?_; exact h.1) : q := h ⟨k⟩
theorem zq2 (k : p) (h : Ap p → q := by intro h; refine q0 rfl (D1f ?_); exact h.1) : q := h ⟨k⟩
theorem F5 (k : p) (h : Ap p → q := by intro h; refine q0 rfl (Cf ?_); exact h.1) : q := h ⟨k⟩
theorem Mw (k : p) (h : Ap p → q := by intro h; refine qF rfl rfl rfl ?_; exact h.1) : q := h ⟨k⟩
theorem H7 (k : p) (h : Ap p → q := by intro h; refine go_skip ?_; exact h.1) : q := h ⟨k⟩
theorem zq6 (k : p) (h : Ap p → q := by intro h; refine q0 rfl (C5r ?_); exact h.1) : q := h ⟨k⟩
theorem zq7 (k : p) (h : Ap p → q := by intro h; refine q0 rfl (V8 ?_); exact h.1) : q := h ⟨k⟩
theorem zq8 (k : p) (h : Ap p → q := by intro h; refine D2n ?_; exact h.1) : q := h ⟨k⟩
theorem zq9 (k : p) (h : Ap p → q := by intro h; refine q0 rfl (E4v ?_); exact h.1) : q := h ⟨k⟩
theorem D8o (k : p) (h : Ap p → q := by intro h; refine q0 rfl (C1v ?_); exact h.1) : q := h ⟨k⟩
theorem A8r (k : p) (h : Ap p → q := by intro h; refine q0 rfl (D5s ?_); exact h.1) : q := h ⟨k⟩
theorem A8q (k : p) (h : Ap p → q := by intro h; refine B8u ?_; exact h.1) : q := h ⟨k⟩
theorem A4l (k : p) (h : Ap p → q := by intro h; refine q0 rfl (E7z ?_); exact h.1) : q := h ⟨k⟩
theorem Tw (k : p) (h : Ap p → q := by intro h; refine nF rfl rfl rfl ?_; exact h.1) : q := h ⟨k⟩
theorem D8n (k : p) (h : Ap p → q := by intro h; refine q0 rfl (Zm ?_); exact h.1) : q := h ⟨k⟩
theorem G9 (k : p) (h : Ap p → q := by intro h; refine n0 rfl (A1d ?_); exact h.1) : q := h ⟨k⟩
theorem D8m (k : p) (h : Ap p → q := by intro h; refine q0 rfl (C1w ?_); exact h.1) : q := h ⟨k⟩
theorem D8l (k : p) (h : Ap p → q := by intro h; refine q0 rfl (D7s ?_); exact h.1) : q := h ⟨k⟩
theorem Dt (k : p) (h : Ap p → q := by intro h; refine D6j rfl ?_; exact h.1) : q := h ⟨k⟩
theorem L1 (k : p) (h : Ap p → q := by intro h; refine q0 rfl (D7t ?_); exact h.1) : q := h ⟨k⟩
theorem D8k (k : p) (h : Ap p → q := by intro h; refine q0 rfl (A6t ?_); exact h.1) : q := h ⟨k⟩
theorem I7 (k : p) (h : Ap p → q := by intro h; refine q0 rfl (Qn ?_); exact h.1) : q := h ⟨k⟩
theorem D2 (k : p) (h : Ap p → q := by intro h; refine qT rfl rfl rfl (Cf ?_); exact h.1) : q := h ⟨k⟩
theorem C3q (k : p) (h : Ap p → q := by intro h; refine qU rfl rfl rfl ?_; exact h.1) : q := h ⟨k⟩
theorem Vq (k : p) (h : Ap p → q := by intro h; refine NV.done ?_; exact h.1) : q := h ⟨k⟩
theorem Xs (k : p) (h : Ap p → q := by intro h; refine n0 rfl (Nr ?_); exact h.1) : q := h ⟨k⟩
theorem Ni (k : p) (h : Ap p → q := by intro h; refine q0 rfl (C2a ?_); exact h.1) : q := h ⟨k⟩
theorem Uq (k : p) (h : Ap p → q := by intro h; refine qT rfl rfl rfl (D5s ?_); exact h.1) : q := h ⟨k⟩
theorem C3p (k : p) (h : Ap p → q := by intro h; refine D2l ?_; exact h.1) : q := h ⟨k⟩
theorem Ij (k : p) (h : Ap p → q := by intro h; refine Cf ?_; exact h.1) : q := h ⟨k⟩
theorem D4d (k : p) (h : Ap p → q := by intro h; refine q0 rfl (D7r ?_); exact h.1) : q := h ⟨k⟩
theorem C7r (k : p) (h : Ap p → q := by intro h; refine nU rfl rfl rfl ?_; exact h.1) : q := h ⟨k⟩
theorem Tv (k : p) (h : Ap p → q := by intro h; refine qT rfl rfl rfl (C1v ?_); exact h.1) : q := h ⟨k⟩
theorem Kc (k : p) (h : Ap p → q := by intro h; refine qT rfl rfl rfl (Zm ?_); exact h.1) : q := h ⟨k⟩
theorem Tu (k : p) (h : Ap p → q := by intro h; refine qT rfl rfl rfl (C1w ?_); exact h.1) : q := h ⟨k⟩
theorem E3k (k : p) (h : Ap p → q := by intro h; refine n0 rfl (C0f ?_); exact h.1) : q := h ⟨k⟩
theorem Ls (k : p) (h : Ap p → q := by intro h; refine nT rfl rfl rfl (E3o ?_); exact h.1) : q := h ⟨k⟩
theorem D8j (k : p) (h : Ap p → q := by intro h; refine qT rfl rfl rfl (V8 ?_); exact h.1) : q := h ⟨k⟩
theorem Of (k : p) (h : Ap p → q := by intro h; refine q0 rfl (Cj ?_); exact h.1) : q := h ⟨k⟩
theorem B1r (k : p) (h : Ap p → q := by intro h; refine n0 rfl (C0e ?_); exact h.1) : q := h ⟨k⟩
theorem Oe (k : p) (h : Ap p → q := by intro h; refine q0 rfl (E4s ?_); exact h.1) : q := h ⟨k⟩
theorem Pg (k : p) (h : Ap p → q := by intro h; refine nT rfl rfl rfl (A1d ?_); exact h.1) : q := h ⟨k⟩
theorem Pf (k : p) (h : Ap p → q := by intro h; refine n0 rfl (D7c ?_); exact h.1) : q := h ⟨k⟩
theorem Pw (k : p) (h : Ap p → q := by intro h; refine q0 rfl (E4r ?_); exact h.1) : q := h ⟨k⟩
theorem D8i (k : p) (h : Ap p → q := by intro h; refine q0 rfl (E4j ?_); exact h.1) : q := h ⟨k⟩
theorem Pv (k : p) (h : Ap p → q := by intro h; refine q0 rfl (B0b ?_); exact h.1) : q := h ⟨k⟩
theorem B1q (k : p) (h : Ap p → q := by intro h; refine qT rfl rfl rfl (D7s ?_); exact h.1) : q := h ⟨k⟩
theorem Rz (k : p) (h : Ap p → q := by intro h; refine qT rfl rfl rfl (D7r ?_); exact h.1) : q := h ⟨k⟩
theorem C3o (k : p) (h : Ap p → q := by intro h; refine q0 rfl (D1a ?_); exact h.1) : q := h ⟨k⟩
theorem Tt (k : p) (h : Ap p → q := by intro h; refine qT rfl rfl rfl (D7u ?_); exact h.1) : q := h ⟨k⟩
theorem Up (k : p) (h : Ap p → q := by intro h; refine q0 rfl (B8e ?_); exact h.1) : q := h ⟨k⟩
theorem Vp (k : p) (h : Ap p → q := by intro h; refine qT rfl rfl rfl (D1a ?_); exact h.1) : q := h ⟨k⟩
theorem A0h (k : p) (h : Ap p → q := by intro h; refine n0 rfl (E3r ?_); exact h.1) : q := h ⟨k⟩
theorem A4k (k : p) (h : Ap p → q := by intro h; refine D2m ?_; exact h.1) : q := h ⟨k⟩
theorem A4j (k : p) (h : Ap p → q := by intro h; refine q0 rfl (D7u ?_); exact h.1) : q := h ⟨k⟩
theorem A8p (k : p) (h : Ap p → q := by intro h; refine q0 rfl (D7p ?_); exact h.1) : q := h ⟨k⟩
theorem A8o (k : p) (h : Ap p → q := by intro h; refine nT rfl rfl rfl (C0e ?_); exact h.1) : q := h ⟨k⟩
theorem A8n (k : p) (h : Ap p → q := by intro h; refine nT rfl rfl rfl (C0f ?_); exact h.1) : q := h ⟨k⟩
theorem A8m (k : p) (h : Ap p → q := by intro h; refine nT rfl rfl rfl (Nr ?_); exact h.1) : q := h ⟨k⟩
theorem A8l (k : p) (h : Ap p → q := by intro h; refine n0 rfl (A5m ?_); exact h.1) : q := h ⟨k⟩
theorem B1p (k : p) (h : Ap p → q := by intro h; refine nT rfl rfl rfl (A5l ?_); exact h.1) : q := h ⟨k⟩
theorem B1o (k : p) (h : Ap p → q := by intro h; refine qT rfl rfl rfl (D7t ?_); exact h.1) : q := h ⟨k⟩
theorem B6j (k : p) (h : Ap p → q := by intro h; refine qT rfl rfl rfl (E4q ?_); exact h.1) : q := h ⟨k⟩
theorem B6i (k : p) (h : Ap p → q := by intro h; refine nT rfl rfl rfl (E3p ?_); exact h.1) : q := h ⟨k⟩
theorem B6h (k : p) (h : Ap p → q := by intro h; refine n0 rfl (E3n ?_); exact h.1) : q := h ⟨k⟩
theorem C3n (k : p) (h : Ap p → q := by intro h; refine q0 rfl (E4t ?_); exact h.1) : q := h ⟨k⟩
theorem C3m (k : p) (h : Ap p → q := by intro h; refine nT rfl rfl rfl (C0g ?_); exact h.1) : q := h ⟨k⟩
theorem C3l (k : p) (h : Ap p → q := by intro h; refine nT rfl rfl rfl (D7e ?_); exact h.1) : q := h ⟨k⟩
theorem C3k (k : p) (h : Ap p → q := by intro h; refine n0 rfl (A5k ?_); exact h.1) : q := h ⟨k⟩
theorem C3j (k : p) (h : Ap p → q := by intro h; refine q0 rfl (E0j ?_); exact h.1) : q := h ⟨k⟩
theorem B8 (k : p) (h : Ap p → q := by intro h; refine Kl ?_; refine O8 ?_; exact h.1) : q := h ⟨k⟩
theorem C9 (k : p) (h : Ap p → q := by intro h; refine zq2 ?_; refine Ly ?_; exact h.1) : q := h ⟨k⟩
theorem Ex (k : p) (h : Ap p → q := by intro h; refine B8 ?_; refine F5 ?_; exact h.1) : q := h ⟨k⟩
theorem Pe (k : p) (h : Ap p → q := by intro h; refine zq2 ?_; refine C9 ?_; exact h.1) : q := h ⟨k⟩
theorem Bw (k : p) (h : Ap p → q := by intro h; refine B8 ?_; refine C9 ?_; exact h.1) : q := h ⟨k⟩
theorem Ds (k : p) (h : Ap p → q := by intro h; refine O8 ?_; refine F5 ?_; exact h.1) : q := h ⟨k⟩
theorem Ii (k : p) (h : Ap p → q := by intro h; refine Mw ?_; refine Mw ?_; exact h.1) : q := h ⟨k⟩
theorem Gx (k : p) (h : Ap p → q := by intro h; refine Kl ?_; refine Ex ?_; exact h.1) : q := h ⟨k⟩
theorem Jl (k : p) (h : Ap p → q := by intro h; refine zq7 ?_; refine A8r ?_; exact h.1) : q := h ⟨k⟩
theorem D8h (k : p) (h : Ap p → q := by intro h; refine zq6 ?_; refine zq6 ?_; exact h.1) : q := h ⟨k⟩
theorem Hp (k : p) (h : Ap p → q := by intro h; refine H7 ?_; refine Kl ?_; exact h.1) : q := h ⟨k⟩
theorem A0x (k : p) (h : Ap p → q := by intro h; refine zq9 ?_; refine C9 ?_; exact h.1) : q := h ⟨k⟩
theorem Jt (k : p) (h : Ap p → q := by intro h; refine D8h ?_; refine Pe ?_; exact h.1) : q := h ⟨k⟩
theorem Et (k : p) (h : Ap p → q := by intro h; refine B8 ?_; refine Pe ?_; exact h.1) : q := h ⟨k⟩
theorem B6g (k : p) (h : Ap p → q := by intro h; refine D8k ?_; refine Ly ?_; exact h.1) : q := h ⟨k⟩
theorem C3i (k : p) (h : Ap p → q := by intro h; refine Ds ?_; refine A0x ?_; exact h.1) : q := h ⟨k⟩
theorem Pd (k : p) (h : Ap p → q := by intro h; refine D8l ?_; refine Ly ?_; exact h.1) : q := h ⟨k⟩
theorem Js (k : p) (h : Ap p → q := by intro h; refine D8o ?_; refine Ly ?_; exact h.1) : q := h ⟨k⟩
theorem Lx (k : p) (h : Ap p → q := by intro h; refine A8q ?_; refine C3i ?_; exact h.1) : q := h ⟨k⟩
theorem Jr (k : p) (h : Ap p → q := by intro h; refine Hp ?_; refine zq8 ?_; exact h.1) : q := h ⟨k⟩
theorem D8g (k : p) (h : Ap p → q := by intro h; refine F5 ?_; refine Ly ?_; exact h.1) : q := h ⟨k⟩
theorem Ei (k : p) (h : Ap p → q := by intro h; refine A4l ?_; refine Ly ?_; exact h.1) : q := h ⟨k⟩
theorem Lr (k : p) (h : Ap p → q := by intro h; refine F5 ?_; refine Jt ?_; exact h.1) : q := h ⟨k⟩
theorem Dx (k : p) (h : Ap p → q := by intro h; refine Ex ?_; refine Pe ?_; exact h.1) : q := h ⟨k⟩
theorem J1 (k : p) (h : Ap p → q := by intro h; refine C9 ?_; refine Kl ?_; exact h.1) : q := h ⟨k⟩
theorem Ge (k : p) (h : Ap p → q := by intro h; refine D8m ?_; refine Ly ?_; exact h.1) : q := h ⟨k⟩
theorem Jq (k : p) (h : Ap p → q := by intro h; refine B8 ?_; refine Jl ?_; exact h.1) : q := h ⟨k⟩
theorem Ts (k : p) (h : Ap p → q := by intro h; refine Tw ?_; refine Tw ?_; exact h.1) : q := h ⟨k⟩
theorem D4c (k : p) (h : Ap p → q := by intro h; refine Ex ?_; refine B6g ?_; exact h.1) : q := h ⟨k⟩
theorem Hb (k : p) (h : Ap p → q := by intro h; refine A4l ?_; refine C9 ?_; exact h.1) : q := h ⟨k⟩
theorem Ou (k : p) (h : Ap p → q := by intro h; refine Vq ?_; refine Ly ?_; exact h.1) : q := h ⟨k⟩
theorem F9 (k : p) (h : Ap p → q := by intro h; refine B8 ?_; refine I7 ?_; exact h.1) : q := h ⟨k⟩
theorem C7t (k : p) (h : Ap p → q := by intro h; refine D8n ?_; refine C9 ?_; exact h.1) : q := h ⟨k⟩
theorem D7 (k : p) (h : Ap p → q := by intro h; refine H7 ?_; refine Lx ?_; exact h.1) : q := h ⟨k⟩
theorem Lu (k : p) (h : Ap p → q := by intro h; refine Bw ?_; refine zq8 ?_; exact h.1) : q := h ⟨k⟩
theorem D9 (k : p) (h : Ap p → q := by intro h; refine Ds ?_; refine F5 ?_; exact h.1) : q := h ⟨k⟩
theorem D6y (k : p) (h : Ap p → q := by intro h; refine O8 ?_; refine zq9 ?_; refine D8g ?_; exact h.1) : q := h ⟨k⟩
theorem Kk (k : p) (h : Ap p → q := by intro h; refine Xs ?_; refine n0 rfl (E3o ?_); exact h.1) : q := h ⟨k⟩
theorem Q8 (k : p) (h : Ap p → q := by intro h; refine A8q ?_; refine D6y ?_; exact h.1) : q := h ⟨k⟩
theorem Q7 (k : p) (h : Ap p → q := by intro h; refine D8n ?_; refine Ly ?_; exact h.1) : q := h ⟨k⟩
theorem Ed (k : p) (h : Ap p → q := by intro h; refine B8 ?_; refine C7t ?_; exact h.1) : q := h ⟨k⟩
theorem Ga (k : p) (h : Ap p → q := by intro h; refine Ii ?_; refine Ii ?_; exact h.1) : q := h ⟨k⟩
theorem Nn (k : p) (h : Ap p → q := by intro h; refine Ex ?_; refine F5 ?_; exact h.1) : q := h ⟨k⟩
theorem L7 (k : p) (h : Ap p → q := by intro h; refine L1 ?_; refine Pd ?_; exact h.1) : q := h ⟨k⟩
theorem Hl (k : p) (h : Ap p → q := by intro h; refine D8o ?_; refine F5 ?_; exact h.1) : q := h ⟨k⟩
theorem Ey (k : p) (h : Ap p → q := by intro h; refine O8 ?_; refine Jl ?_; exact h.1) : q := h ⟨k⟩
theorem I0 (k : p) (h : Ap p → q := by intro h; refine zq7 ?_; refine Ni ?_; exact h.1) : q := h ⟨k⟩
theorem Q6 (k : p) (h : Ap p → q := by intro h; refine C3q ?_; refine C3q ?_; exact h.1) : q := h ⟨k⟩
theorem Rt (k : p) (h : Ap p → q := by intro h; refine Gx ?_; refine B6g ?_; exact h.1) : q := h ⟨k⟩
theorem Fk (k : p) (h : Ap p → q := by intro h; refine B8 ?_; refine Pd ?_; refine Kl ?_; exact h.1) : q := h ⟨k⟩
theorem Fj (k : p) (h : Ap p → q := by intro h; refine D8o ?_; refine C9 ?_; exact h.1) : q := h ⟨k⟩
theorem Ji (k : p) (h : Ap p → q := by intro h; refine D8m ?_; refine C9 ?_; exact h.1) : q := h ⟨k⟩
theorem Il (k : p) (h : Ap p → q := by intro h; refine Kl ?_; refine Kl ?_; exact h.1) : q := h ⟨k⟩
theorem Ia (k : p) (h : Ap p → q := by intro h; refine Gx ?_; refine Q7 ?_; exact h.1) : q := h ⟨k⟩
theorem C0b (k : p) (h : Ap p → q := by intro h; refine L1 ?_; refine D8g ?_; exact h.1) : q := h ⟨k⟩
theorem Ot (k : p) (h : Ap p → q := by intro h; refine Kl ?_; refine Lu ?_; exact h.1) : q := h ⟨k⟩
theorem Z8 (k : p) (h : Ap p → q := by intro h; refine H7 ?_; refine C3p ?_; exact h.1) : q := h ⟨k⟩
theorem Jy (k : p) (h : Ap p → q := by intro h; refine C0b ?_; refine zq8 ?_; exact h.1) : q := h ⟨k⟩
theorem Gq (k : p) (h : Ap p → q := by intro h; refine G9 ?_; refine G9 ?_; exact h.1) : q := h ⟨k⟩
theorem H4 (k : p) (h : Ap p → q := by intro h; refine D4d ?_; refine Ly ?_; exact h.1) : q := h ⟨k⟩
theorem L6 (k : p) (h : Ap p → q := by intro h; refine D8n ?_; refine F5 ?_; exact h.1) : q := h ⟨k⟩
theorem Ha (k : p) (h : Ap p → q := by intro h; refine F5 ?_; refine F5 ?_; exact h.1) : q := h ⟨k⟩
theorem H9 (k : p) (h : Ap p → q := by intro h; refine Ii ?_; refine Mw ?_; exact h.1) : q := h ⟨k⟩
theorem H8 (k : p) (h : Ap p → q := by intro h; refine Jr ?_; refine Kl ?_; exact h.1) : q := h ⟨k⟩
theorem Hz (k : p) (h : Ap p → q := by intro h; refine D8m ?_; refine F5 ?_; exact h.1) : q := h ⟨k⟩
theorem Mn (k : p) (h : Ap p → q := by intro h; refine Ex ?_; refine C9 ?_; exact h.1) : q := h ⟨k⟩
theorem I9 (k : p) (h : Ap p → q := by intro h; refine Z8 ?_; refine Bw ?_; exact h.1) : q := h ⟨k⟩
theorem C0a (k : p) (h : Ap p → q := by intro h; refine Gx ?_; refine F5 ?_; exact h.1) : q := h ⟨k⟩
theorem I8 (k : p) (h : Ap p → q := by intro h; refine Lr ?_; refine Rt ?_; exact h.1) : q := h ⟨k⟩
theorem Ik (k : p) (h : Ap p → q := by intro h; refine H7 ?_; refine Q8 ?_; exact h.1) : q := h ⟨k⟩
theorem Oq (k : p) (h : Ap p → q := by intro h; refine Ii ?_; refine Q6 ?_; exact h.1) : q := h ⟨k⟩
theorem Jh (k : p) (h : Ap p → q := by intro h; refine V8 ?_; refine Uq ?_; exact h.1) : q := h ⟨k⟩
theorem Jg (k : p) (h : Ap p → q := by intro h; refine Lr ?_; refine D4c ?_; exact h.1) : q := h ⟨k⟩
theorem Jx (k : p) (h : Ap p → q := by intro h; refine Jr ?_; refine B8 ?_; exact h.1) : q := h ⟨k⟩
theorem W5 (k : p) (h : Ap p → q := by intro h; refine Tv ?_; refine Js ?_; exact h.1) : q := h ⟨k⟩
theorem Jw (k : p) (h : Ap p → q := by intro h; refine Ts ?_; refine Ts ?_; exact h.1) : q := h ⟨k⟩
theorem Jv (k : p) (h : Ap p → q := by intro h; refine C0a ?_; refine L7 ?_; exact h.1) : q := h ⟨k⟩
theorem Ju (k : p) (h : Ap p → q := by intro h; refine D8j ?_; refine Uq ?_; exact h.1) : q := h ⟨k⟩
theorem Kj (k : p) (h : Ap p → q := by intro h; refine J1 ?_; refine Kl ?_; exact h.1) : q := h ⟨k⟩
theorem Ki (k : p) (h : Ap p → q := by intro h; refine F5 ?_; refine Hb ?_; exact h.1) : q := h ⟨k⟩
theorem L5 (k : p) (h : Ap p → q := by intro h; refine Kl ?_; refine Jq ?_; exact h.1) : q := h ⟨k⟩
theorem L4 (k : p) (h : Ap p → q := by intro h; refine Bw ?_; refine Ex ?_; exact h.1) : q := h ⟨k⟩
theorem L3 (k : p) (h : Ap p → q := by intro h; refine Bw ?_; refine Ot ?_; exact h.1) : q := h ⟨k⟩
theorem L2 (k : p) (h : Ap p → q := by intro h; refine H7 ?_; refine D4c ?_; exact h.1) : q := h ⟨k⟩
theorem W4 (k : p) (h : Ap p → q := by intro h; refine Bw ?_; refine Gx ?_; exact h.1) : q := h ⟨k⟩
theorem W0 (k : p) (h : Ap p → q := by intro h; refine Mw ?_; refine Ge ?_; exact h.1) : q := h ⟨k⟩
theorem C7s (k : p) (h : Ap p → q := by intro h; refine D8i ?_; refine Ly ?_; exact h.1) : q := h ⟨k⟩
theorem Lt (k : p) (h : Ap p → q := by intro h; refine E3k ?_; refine Ou ?_; exact h.1) : q := h ⟨k⟩
theorem Mm (k : p) (h : Ap p → q := by intro h; refine O8 ?_; refine C9 ?_; exact h.1) : q := h ⟨k⟩
theorem Ml (k : p) (h : Ap p → q := by intro h; refine C7r ?_; refine C7r ?_; exact h.1) : q := h ⟨k⟩
theorem Z7 (k : p) (h : Ap p → q := by intro h; refine D8l ?_; refine F5 ?_; exact h.1) : q := h ⟨k⟩
theorem Mk (k : p) (h : Ap p → q := by intro h; refine H7 ?_; refine Nn ?_; exact h.1) : q := h ⟨k⟩
theorem N1 (k : p) (h : Ap p → q := by intro h; refine H7 ?_; refine Ex ?_; exact h.1) : q := h ⟨k⟩
theorem N0 (k : p) (h : Ap p → q := by intro h; refine zq7 ?_; refine C7s ?_; exact h.1) : q := h ⟨k⟩
theorem Nl (k : p) (h : Ap p → q := by intro h; refine Jl ?_; refine F5 ?_; exact h.1) : q := h ⟨k⟩
theorem Nk (k : p) (h : Ap p → q := by intro h; refine Dt ?_; refine Bw ?_; exact h.1) : q := h ⟨k⟩
theorem A5g (k : p) (h : Ap p → q := by intro h; refine Tw ?_; refine B1r ?_; exact h.1) : q := h ⟨k⟩
theorem Nj (k : p) (h : Ap p → q := by intro h; refine F5 ?_; refine D8h ?_; exact h.1) : q := h ⟨k⟩
theorem Oo (k : p) (h : Ap p → q := by intro h; refine H7 ?_; refine Gx ?_; exact h.1) : q := h ⟨k⟩
theorem On (k : p) (h : Ap p → q := by intro h; refine Ii ?_; refine Js ?_; exact h.1) : q := h ⟨k⟩
theorem Om (k : p) (h : Ap p → q := by intro h; refine Tu ?_; refine Js ?_; exact h.1) : q := h ⟨k⟩
theorem Ol (k : p) (h : Ap p → q := by intro h; refine C9 ?_; refine D4c ?_; exact h.1) : q := h ⟨k⟩
theorem Oj (k : p) (h : Ap p → q := by intro h; refine C9 ?_; refine Lx ?_; exact h.1) : q := h ⟨k⟩
theorem Oi (k : p) (h : Ap p → q := by intro h; refine n0 rfl (C8b ?_); refine Ou ?_; exact h.1) : q := h ⟨k⟩
theorem Oh (k : p) (h : Ap p → q := by intro h; refine H7 ?_; refine B8 ?_; exact h.1) : q := h ⟨k⟩
theorem Q5 (k : p) (h : Ap p → q := by intro h; refine Et ?_; refine Gx ?_; exact h.1) : q := h ⟨k⟩
theorem Q4 (k : p) (h : Ap p → q := by intro h; refine H7 ?_; refine A8q ?_; exact h.1) : q := h ⟨k⟩
theorem Q3 (k : p) (h : Ap p → q := by intro h; refine Mw ?_; refine Js ?_; exact h.1) : q := h ⟨k⟩
theorem Q2 (k : p) (h : Ap p → q := by intro h; refine W5 ?_; refine C3p ?_; refine Et ?_; exact h.1) : q := h ⟨k⟩
theorem Q1 (k : p) (h : Ap p → q := by intro h; refine Ii ?_; refine Ji ?_; exact h.1) : q := h ⟨k⟩
theorem Q0 (k : p) (h : Ap p → q := by intro h; refine C9 ?_; refine Q8 ?_; exact h.1) : q := h ⟨k⟩
theorem Pz (k : p) (h : Ap p → q := by intro h; refine Kk ?_; refine G9 ?_; exact h.1) : q := h ⟨k⟩
theorem Py (k : p) (h : Ap p → q := by intro h; refine I0 ?_; refine F5 ?_; exact h.1) : q := h ⟨k⟩
theorem Rs (k : p) (h : Ap p → q := by intro h; refine Ei ?_; refine Kl ?_; exact h.1) : q := h ⟨k⟩
theorem Rr (k : p) (h : Ap p → q := by intro h; refine Ij ?_; refine B1q ?_; exact h.1) : q := h ⟨k⟩
theorem Rq (k : p) (h : Ap p → q := by intro h; refine Dt ?_; refine Kl ?_; exact h.1) : q := h ⟨k⟩
theorem Rp (k : p) (h : Ap p → q := by intro h; refine C3o ?_; refine Ly ?_; exact h.1) : q := h ⟨k⟩
theorem Ro (k : p) (h : Ap p → q := by intro h; refine Hl ?_; refine Ga ?_; exact h.1) : q := h ⟨k⟩
theorem Rn (k : p) (h : Ap p → q := by intro h; refine Jq ?_; refine F5 ?_; exact h.1) : q := h ⟨k⟩
theorem Rm (k : p) (h : Ap p → q := by intro h; refine zq7 ?_; refine q0 rfl (E0m ?_); exact h.1) : q := h ⟨k⟩
theorem S4 (k : p) (h : Ap p → q := by intro h; refine E3k ?_; refine G9 ?_; exact h.1) : q := h ⟨k⟩
theorem S3 (k : p) (h : Ap p → q := by intro h; refine Et ?_; refine Il ?_; exact h.1) : q := h ⟨k⟩
theorem U9 (k : p) (h : Ap p → q := by intro h; refine Oq ?_; refine W0 ?_; exact h.1) : q := h ⟨k⟩
theorem U8 (k : p) (h : Ap p → q := by intro h; refine D4d ?_; refine F5 ?_; exact h.1) : q := h ⟨k⟩
theorem U7 (k : p) (h : Ap p → q := by intro h; refine A5g ?_; refine Ou ?_; exact h.1) : q := h ⟨k⟩
theorem U6 (k : p) (h : Ap p → q := by intro h; refine F5 ?_; refine zq9 ?_; exact h.1) : q := h ⟨k⟩
theorem U5 (k : p) (h : Ap p → q := by intro h; refine Ds ?_; refine Z7 ?_; exact h.1) : q := h ⟨k⟩
theorem U4 (k : p) (h : Ap p → q := by intro h; refine J1 ?_; refine F9 ?_; exact h.1) : q := h ⟨k⟩
theorem U3 (k : p) (h : Ap p → q := by intro h; refine Ds ?_; refine L6 ?_; exact h.1) : q := h ⟨k⟩
theorem U2 (k : p) (h : Ap p → q := by intro h; refine W4 ?_; refine Jy ?_; exact h.1) : q := h ⟨k⟩
theorem U1 (k : p) (h : Ap p → q := by intro h; refine O8 ?_; refine I7 ?_; exact h.1) : q := h ⟨k⟩
theorem U0 (k : p) (h : Ap p → q := by intro h; refine H7 ?_; refine Ia ?_; exact h.1) : q := h ⟨k⟩
theorem Vz (k : p) (h : Ap p → q := by intro h; refine H7 ?_; refine Dt ?_; refine Et ?_; exact h.1) : q := h ⟨k⟩
theorem Vy (k : p) (h : Ap p → q := by intro h; refine O8 ?_; refine C7t ?_; exact h.1) : q := h ⟨k⟩
theorem Vx (k : p) (h : Ap p → q := by intro h; refine B8 ?_; refine A8r ?_; exact h.1) : q := h ⟨k⟩
theorem Vw (k : p) (h : Ap p → q := by intro h; refine Kk ?_; refine Kk ?_; exact h.1) : q := h ⟨k⟩
theorem Vv (k : p) (h : Ap p → q := by intro h; refine Dt ?_; refine Mn ?_; exact h.1) : q := h ⟨k⟩
theorem Vu (k : p) (h : Ap p → q := by intro h; refine Jr ?_; refine Nn ?_; exact h.1) : q := h ⟨k⟩
theorem Vt (k : p) (h : Ap p → q := by intro h; refine D8h ?_; refine Hb ?_; exact h.1) : q := h ⟨k⟩
theorem Vs (k : p) (h : Ap p → q := by intro h; refine Ly ?_; refine Kl ?_; exact h.1) : q := h ⟨k⟩
theorem Vr (k : p) (h : Ap p → q := by intro h; refine F9 ?_; refine Ei ?_; exact h.1) : q := h ⟨k⟩
end
instance : Cz prog 10 f10 := ⟨func10⟩
instance : Cz prog 21 f21 := ⟨func21⟩
instance : Cz prog 29 f29 := ⟨func29⟩
instance : Cz prog 30 f30 := ⟨func30⟩
instance : Cz prog 32 f32 := ⟨func32⟩
instance : Cz prog 33 f33 := ⟨func33⟩
instance : Cz prog 34 f34 := ⟨func34⟩
instance : Cz prog 38 f38 := ⟨func38⟩
instance : Cz prog 41 f41 := ⟨func41⟩
instance : Cz prog 43 f43 := ⟨func43⟩
instance : Cz prog 44 f44 := ⟨func44⟩
instance : Cz prog 45 f45 := ⟨func45⟩
instance : Cz prog 46 f46 := ⟨func46⟩
instance : Cz prog 47 f47 := ⟨func47⟩
instance : Cz prog 48 f48 := ⟨func48⟩
instance : Cz prog 49 f49 := ⟨func49⟩
instance : Cz prog 50 f50 := ⟨func50⟩
instance : Cz prog 57 f57 := ⟨func57⟩
instance : Cz prog 60 f60 := ⟨func60⟩
instance : Cz prog 64 f64 := ⟨func64⟩
instance : Cz prog 70 f70 := ⟨func70⟩
instance : Cz prog 71 f71 := ⟨func71⟩
instance : Cz prog 74 f74 := ⟨func74⟩
instance : Cz prog 77 f77 := ⟨func77⟩
instance : Cz prog 78 f78 := ⟨func78⟩
instance : Cz prog 79 f79 := ⟨func79⟩
instance : Cz prog 80 f80 := ⟨func80⟩
instance : Cz prog 82 f82 := ⟨func82⟩
instance : Cz prog 83 f83 := ⟨func83⟩
instance : Cz prog 84 f84 := ⟨func84⟩
instance : Cz prog 85 f85 := ⟨func85⟩
instance : Cz prog 86 f86 := ⟨func86⟩
instance : Cz prog 87 f87 := ⟨func87⟩
instance : Cz prog 88 f88 := ⟨func88⟩
instance : Cz prog 90 f90 := ⟨func90⟩
instance : Cz prog 91 f91 := ⟨func91⟩
instance : Cz prog 93 f93 := ⟨func93⟩
instance : Cz prog 97 f97 := ⟨func97⟩
instance : Cz prog 98 f98 := ⟨func98⟩
instance : Cz prog 101 f101 := ⟨func101⟩
instance : Cz prog 102 f102 := ⟨func102⟩
instance : Cz prog 103 f103 := ⟨func103⟩
instance : Cz prog 105 f105 := ⟨func105⟩
instance : Cz prog 106 f106 := ⟨func106⟩
instance : Cz prog 107 f107 := ⟨func107⟩
instance : Cz prog 108 f108 := ⟨func108⟩
instance : Cz prog 109 f109 := ⟨func109⟩
instance : Cz prog 110 f110 := ⟨func110⟩
instance : Cz prog 111 f111 := ⟨func111⟩
instance : Cz prog 112 f112 := ⟨func112⟩
instance : Cz prog 113 f113 := ⟨func113⟩
instance : Cz prog 114 f114 := ⟨func114⟩
instance : Cz prog 115 f115 := ⟨func115⟩
instance : Cz prog 116 f116 := ⟨func116⟩
instance : Cz prog 117 f117 := ⟨func117⟩
instance : Cz prog 118 f118 := ⟨func118⟩
instance : Cz prog 121 f121 := ⟨func121⟩
instance : Cz prog 133 f133 := ⟨func133⟩
instance : Cz prog 134 f134 := ⟨func134⟩
instance : Cz prog 135 f135 := ⟨func135⟩
instance : Cz prog 137 f137 := ⟨func137⟩
instance : Cz prog 138 f138 := ⟨func138⟩
instance : Cz prog 139 f139 := ⟨func139⟩
instance : Cz prog 140 f140 := ⟨func140⟩
instance : Cz prog 141 f141 := ⟨func141⟩
instance : Cz prog 142 f142 := ⟨func142⟩
instance : Cz prog 143 f143 := ⟨func143⟩
instance : Cz prog 144 f144 := ⟨func144⟩
instance : Cz prog 145 f145 := ⟨func145⟩
instance : Cz prog 146 f146 := ⟨func146⟩
instance : Cz prog 147 f147 := ⟨func147⟩
instance : Cz prog 148 f148 := ⟨func148⟩
instance : Cz prog 149 f149 := ⟨func149⟩
instance : Cz prog 150 f150 := ⟨func150⟩
instance : Cz prog 152 f152 := ⟨func152⟩
instance : Cz prog 153 f153 := ⟨func153⟩
instance : Cz prog 154 f154 := ⟨func154⟩
instance : Cz prog 155 f155 := ⟨func155⟩
instance : Cz prog 157 f157 := ⟨func157⟩
instance : Cz prog 158 f158 := ⟨func158⟩
instance : Cz prog 159 f159 := ⟨func159⟩
instance : Cz prog 160 f160 := ⟨func160⟩
instance : Cz prog 161 f161 := ⟨func161⟩
instance : Cz prog 162 f162 := ⟨func162⟩
instance : Cz prog 163 f163 := ⟨func163⟩
instance : Cz prog 164 f164 := ⟨func164⟩
instance : Cz prog 165 f165 := ⟨func165⟩
instance : Cz prog 166 f166 := ⟨func166⟩
instance : Cz prog 167 f167 := ⟨func167⟩
instance : Cz prog 168 f168 := ⟨func168⟩
instance : Cz prog 169 f169 := ⟨func169⟩
instance : Cz prog 172 f172 := ⟨func172⟩
instance : Cz prog 173 f173 := ⟨func173⟩
instance : Cz prog 175 f175 := ⟨func175⟩
instance : Cz prog 176 f176 := ⟨func176⟩
instance : Cz prog 177 f177 := ⟨func177⟩
instance : Cz prog 178 f178 := ⟨func178⟩
instance : Cz prog 179 f179 := ⟨func179⟩
instance : Cz prog 180 f180 := ⟨func180⟩
instance : Cz prog 181 f181 := ⟨func181⟩
instance : Cz prog 182 f182 := ⟨func182⟩
instance : Cz prog 183 f183 := ⟨func183⟩
instance : Cz prog 184 f184 := ⟨func184⟩
instance : Cz prog 185 f185 := ⟨func185⟩
instance : Cz prog 186 f186 := ⟨func186⟩
instance : Cz prog 187 f187 := ⟨func187⟩
instance : Cz prog 189 f189 := ⟨func189⟩
instance : Cz prog 193 f193 := ⟨func193⟩
instance : Cz prog 194 f194 := ⟨func194⟩
instance : Cz prog 195 f195 := ⟨func195⟩
instance : Cz prog 196 f196 := ⟨func196⟩
instance : Cz prog 197 f197 := ⟨func197⟩
instance : Cz prog 198 f198 := ⟨func198⟩
instance : Cz prog 199 f199 := ⟨func199⟩
instance : Cz prog 200 f200 := ⟨func200⟩
instance : Cz prog 201 f201 := ⟨func201⟩
instance : Cz prog 202 f202 := ⟨func202⟩
instance : Cz prog 203 f203 := ⟨func203⟩
instance : Cz prog 205 f205 := ⟨func205⟩
instance : Cz prog 206 f206 := ⟨func206⟩
instance : Cz prog 207 f207 := ⟨func207⟩
instance : Cz prog 210 f210 := ⟨func210⟩
instance : Cz prog 211 f211 := ⟨func211⟩
instance : Cz prog 212 f212 := ⟨func212⟩
instance : Cz prog 213 f213 := ⟨func213⟩
instance : Cz prog 214 f214 := ⟨func214⟩
instance : Cz prog 215 f215 := ⟨func215⟩
instance : Cz prog 216 f216 := ⟨func216⟩
instance : Cz prog 217 f217 := ⟨func217⟩
instance : Cz prog 218 f218 := ⟨func218⟩
instance : Cz prog 219 f219 := ⟨func219⟩
instance : Cz prog 220 f220 := ⟨func220⟩
instance : Cz prog 224 f224 := ⟨func224⟩
instance : Cz prog 225 f225 := ⟨func225⟩
instance : Cz prog 226 f226 := ⟨func226⟩
instance : Cz prog 227 f227 := ⟨func227⟩
instance : Cz prog 228 f228 := ⟨func228⟩
instance : Cz prog 229 f229 := ⟨func229⟩
instance : Cz prog 230 f230 := ⟨func230⟩
instance : Cz prog 231 f231 := ⟨func231⟩
instance : Cz prog 232 f232 := ⟨func232⟩
instance : Cz prog 233 f233 := ⟨func233⟩
instance : Cz prog 234 f234 := ⟨func234⟩
instance : Cz prog 236 f236 := ⟨func236⟩
instance : Cz prog 248 f248 := ⟨func248⟩
instance : Cz prog 249 f249 := ⟨func249⟩
instance : Cz prog 250 f250 := ⟨func250⟩
instance : Cz prog 251 f251 := ⟨func251⟩
instance : Cz prog 252 f252 := ⟨func252⟩
instance : Cz prog 253 f253 := ⟨func253⟩
instance : Cz prog 254 f254 := ⟨func254⟩
instance : Cz prog 255 f255 := ⟨func255⟩
instance : Cz prog 256 f256 := ⟨func256⟩
instance : Cz prog 262 f262 := ⟨func262⟩
instance : Cz prog 263 f263 := ⟨func263⟩
instance : Cz prog 265 f265 := ⟨func265⟩
instance : Cz prog 266 f266 := ⟨func266⟩
set_option maxRecDepth 100000
theorem Vl (k i : Int) : Spec prog 147 #[iv k, iv i] [] [] (fun _ : Unit => .tuple #[iv (binds k i).1, iv (binds k i).2]) (fun _ => []) (fun _ => []) := by
 refine D1 ntmps147 fun B hB => ?_
 refine Q5 ?_; refine Ly ?_; refine zq8 ?_; refine Kl ?_; refine zq8 ?_; refine Kl ?_; refine zq8 ?_; refine zq8 ?_; refine zq8 ?_; refine Kl ?_; refine zq8 ?_; refine Il ?_; refine Kl ?_; refine Ed ?_; refine A6 (fun h7 => ?_) (fun h7 => ?_)
 ·refine Z8 ?_; refine Dt ?_; refine Ia ?_; refine A6 (fun h21 => ?_) (fun h21 => ?_)
  ·refine Et ?_; refine Az f_ rfl A5 A5 () (by simp_all [binds]) (fun w hs => hs.none)
  ·refine Vz ?_; refine Az f_ rfl A5 A5 () (by simp_all [binds]) (fun w hs => hs.none)
 ·refine Vy ?_; refine A6 (fun h7 => ?_) (fun h7 => ?_)
  ·refine Dt ?_; refine Ia ?_; refine A6 (fun h21 => ?_) (fun h21 => ?_)
   ·refine Et ?_; refine Az f_ rfl A5 A5 () (by simp_all [binds]) (fun w hs => hs.none)
   ·refine Vz ?_; refine Az f_ rfl A5 A5 () (by simp_all [binds]) (fun w hs => hs.none)
  ·refine Hp ?_; refine Ed ?_; refine A6 (fun h10 => ?_) (fun h10 => ?_)
   ·refine Dt ?_; refine A8q ?_; refine A8q ?_; refine Ia ?_; refine A6 (fun h23 => ?_) (fun h23 => ?_)
    ·refine Et ?_; refine Az f_ rfl A5 A5 () (by simp_all [binds]) (fun w hs => hs.none)
    ·refine Vz ?_; refine Az f_ rfl A5 A5 () (by simp_all [binds]) (fun w hs => hs.none)
   ·refine Hp ?_; refine Ed ?_; refine A6 (fun h12 => ?_) (fun h12 => ?_)
    ·refine Dt ?_; refine A8q ?_; refine Ia ?_; refine A6 (fun h23 => ?_) (fun h23 => ?_)
     ·refine Et ?_; refine Az f_ rfl A5 A5 () (by simp_all [binds]) (fun w hs => hs.none)
     ·refine Vz ?_; refine Az f_ rfl A5 A5 () (by simp_all [binds]) (fun w hs => hs.none)
    ·refine Hp ?_; refine Ed ?_; refine A6 (fun h14 => ?_) (fun h14 => ?_)
     ·refine Dt ?_; refine Ia ?_; refine A6 (fun h23 => ?_) (fun h23 => ?_)
      ·refine Et ?_; refine Az f_ rfl A5 A5 () (by simp_all [binds]) (fun w hs => hs.none)
      ·refine Vz ?_; refine Az f_ rfl A5 A5 () (by simp_all [binds]) (fun w hs => hs.none)
     ·refine Hp ?_; refine Ed ?_; refine A6 (fun h16 => ?_) (fun h16 => ?_)
      ·refine Z8 ?_; refine Dt ?_; refine Ia ?_; refine A6 (fun h25 => ?_) (fun h25 => ?_)
       ·refine Et ?_; refine Az f_ rfl A5 A5 () (by simp_all [binds]) (fun w hs => hs.none)
       ·refine Vz ?_; refine Az f_ rfl A5 A5 () (by simp_all [binds]) (fun w hs => hs.none)
      ·refine Ed ?_; refine A6 (fun h16 => ?_) (fun h16 => ?_)
       ·refine Z8 ?_; refine Dt ?_; refine Ia ?_; refine A6 (fun h25 => ?_) (fun h25 => ?_)
        ·refine Et ?_; refine Az f_ rfl A5 A5 () (by simp_all [binds]) (fun w hs => hs.none)
        ·refine Vz ?_; refine Az f_ rfl A5 A5 () (by simp_all [binds]) (fun w hs => hs.none)
       ·refine Vy ?_; refine A6 (fun h16 => ?_) (fun h16 => ?_)
        ·refine Dt ?_; refine Ia ?_; refine A6 (fun h25 => ?_) (fun h25 => ?_)
         ·refine Et ?_; refine Az f_ rfl A5 A5 () (by simp_all [binds]) (fun w hs => hs.none)
         ·refine Vz ?_; refine Az f_ rfl A5 A5 () (by simp_all [binds]) (fun w hs => hs.none)
        ·refine Vz ?_; refine Az f_ rfl A5 A5 () (by simp_all [binds]) (fun w hs => hs.none)
theorem A7o (t : T) (vr vk vs : SH) (c : FuncId) (cap : List Value) (FΓ : List Fact) (SM SF : Nat → List Bj) (β : Nat → Bool)
  (hc : ∀ (args : Array Value) (w : World), (callFunc c args).run prog w = .ok (.enter c args) w)
  (hcl : ∀ m k v d, (parts t)[m]? = some (k, v, d) → (∀ j, j < m → β j = true) → ∀ vr vk vs, Spec prog c (.agg (tc k vr vk vs).toArray :: iv v :: iv d :: cap).toArray (RT k vr vk vs :: FΓ) (SM m) (fun _ : Unit => .bool (β m)) (fun _ => []) (fun _ => if β m then SM (m + 1) else SF m)) :
  Spec prog 98 #[.agg (tc t vr vk vs).toArray, .func (.func c) #[] cap.toArray] (RT t vr vk vs :: FΓ) (SM 0) (fun _ : Unit => .bool (ff β (parts t).length == (parts t).length)) (fun _ => []) (fun _ => if ff β (parts t).length = (parts t).length then SM (parts t).length else SF (ff β (parts t).length)) := by
 refine D1 ntmps98 fun B hB => ?_
 refine go_open (fun hk hn hnm => ?_); refine B4 (ts := t.kids) (fun VR VK VS hl1 hA1 => ?_); refine Df (bs := t.sys) (fun VF VK2 hl2 hA2 => ?_); have hpl := R4 t; refine B8 ?_; refine q0 rfl (B3 fun b2 => ?_); refine J1 ?_; refine Jq ?_; refine Jy ?_; refine Ef (X := Nat) (fun i => i ≤ t.kids.length ∧ ∀ j, j < i → β j = true) (fun i => [(1, .func (.func c) #[] cap.toArray), (2, pz b2), (15, sl vk t.kids.length), (16, iv (t.kids.length : Int)), (17, iv (i : Int))]) (fun i => TLx t.kids vk VR VK VS :: BLx t.sys vs VF VK2 :: RT t vr vk vs :: FΓ) (fun i => Ae b2 (tc t vr vk vs) 35 :: SM i) (fun i => t.kids.length - i) (0) (⟨Nat.zero_le _, fun j hj => by omega⟩) (by exact Cb) ?_ ?_
 ·exact fun w hs => hs.l9
 ·intro i base0 ⟨hi, hβ⟩ next0; refine Fk ?_; refine A6 (fun h18 => ?_) (fun h18 => ?_)
  ·have hlt : i < t.kids.length := by have := of_decide_eq_true h18; omega
   obtain ⟨bk, o, hav⟩ := hA1 A2; refine Jr ?_; refine Ex ?_; refine Of ?_; refine Pw ?_; refine q0 rfl (Bf fun b6 => ?_); refine zq2 ?_; refine Rs ?_; refine Ev i hlt ?_; refine O8 ?_; have hpk := F3 t i hlt; refine Nl ?_; refine q0 rfl (A1 call147 (Vl t.kind i) (fun x26 => ?_)); refine Lr ?_; refine Ex ?_; refine I7 ?_; refine Ha ?_; refine q0 rfl (Fo hc (hcl i _ _ _ hpk hβ _ _ _) (fun x33 => ?_)); refine H4 ?_; refine A6 (fun h34 => ?_) (fun h34 => ?_)
   ·have hβf : β i = false := by simpa using h34
    refine Bw ?_; have hff := B0q hβf hβ (n := (parts t).length) A2; refine As f_ rfl A5 () (by simp [hff]; omega) (fun w hs => by rw [hff, if_neg A2]; simp only [hβf, Bool.false_eq_true, if_false] at hs; exact (hs.l8).Bt)
   ·refine Ik ?_; have hβt : β i = true := by simpa using h34
    refine A0 (fun w hs => ?_) (next0 (i + 1) _ ⟨hlt, fun j hj => (by rcases Nat.lt_succ_iff_lt_or_eq.mp hj with h | h; exact hβ j h; subst h; exact hβt)⟩ A2 Cb); simp only [hβt, if_true] at hs; exact ((hs.l9).perm List.perm_append_comm).drop
  ·have hge : i = t.kids.length := by have := of_decide_eq_false h18; omega
   refine Nk ?_; refine L5 ?_; refine Q7 ?_; refine Al ([(1, .func (.func c) #[] cap.toArray), (2, pz b2), (9, iv (more t.kind))]) (fun hK => ?_) (fun base => ?_)
   ·refine A6 (fun h38 => ?_) (fun h38 => ?_)
    ·refine Mm ?_; exact hK _ ⟨rfl, rfl, by first | (rw [more, if_pos (of_decide_eq_true h38)]; rfl) | (rw [more, if_neg (of_decide_eq_false h38)]; rfl), trivial⟩
    ·refine H7 ?_; exact hK _ ⟨rfl, rfl, by first | (rw [more, if_pos (of_decide_eq_true h38)]; rfl) | (rw [more, if_neg (of_decide_eq_false h38)]; rfl), trivial⟩
   ·refine L5 ?_; refine Jy ?_; refine Ef (X := Nat) (fun i2 => i2 ≤ t.sys.length ∧ ∀ j, j < t.kids.length + Bm i2 t.sys → β j = true) (fun i2 => [(1, .func (.func c) #[] cap.toArray), (9, iv (more t.kind)), (40, sl vs t.sys.length), (41, iv (t.sys.length : Int)), (42, iv (i2 : Int))]) (fun i2 => BLx t.sys vs VF VK2 :: FΓ) (fun i2 => SM (t.kids.length + Bm i2 t.sys)) (fun i2 => t.sys.length - i2) (0) (⟨Nat.zero_le _, fun j hj => hβ j (by simp [Bm] at hj; omega)⟩) (by exact Cb) ?_ ?_
    ·exact fun w hs => (by simpa [Bm, show i = t.kids.length by omega] using (hs.drop.less (Γ' := BLx t.sys vs VF VK2 :: FΓ) sx_))
    ·intro i2 base1 ⟨hi2, hβ2⟩ next1; refine Fk ?_; refine A6 (fun h43 => ?_) (fun h43 => ?_)
     ·have hlt2 : i2 < t.sys.length := by have := of_decide_eq_true h43; omega
      obtain ⟨bk2, o2, hav2⟩ := hA2 A2; refine Jx ?_; refine Of ?_; refine C3n ?_; refine q0 rfl (Bf fun b11 => ?_); refine Ei ?_; refine Jq ?_; refine Jy ?_; refine G3 i2 A2 ?_; refine B4 (ts := (t.sys.getD i2 Bq).kids) (fun VR3 VK3 VS3 hl3 hA3 => ?_); refine Ef (X := Nat) (fun j => j ≤ (t.sys.getD i2 Bq).kids.length ∧ ∀ m, m < t.kids.length + Bm i2 t.sys + j → β m = true) (fun j => [(1, .func (.func c) #[] cap.toArray), (9, iv (more t.kind)), (40, sl vs t.sys.length), (41, iv (t.sys.length : Int)), (42, iv ((i2 : Nat) : Int)), (47, sl (VK2 i2) (t.sys.getD i2 Bq).kids.length), (48, iv ((t.sys.getD i2 Bq).kids.length : Int)), (49, iv (j : Int))]) (fun j => TLx (t.sys.getD i2 Bq).kids (VK2 i2) VR3 VK3 VS3 :: BLx t.sys vs VF VK2 :: FΓ) (fun j => SM (t.kids.length + Bm i2 t.sys + j)) (fun j => (t.sys.getD i2 Bq).kids.length - j) (0) (⟨Nat.zero_le _, hβ2⟩) (by exact Cb) ?_ ?_
      ·exact fun w hs => (hs.l9).drop
      ·intro j base2 ⟨hj, hβ3⟩ next2; refine Fk ?_; refine A6 (fun h50 => ?_) (fun h50 => ?_)
       ·have hlt3 : j < (t.sys.getD i2 Bq).kids.length := by have := of_decide_eq_true h50; omega
        obtain ⟨bk3, o3, hav3⟩ := hA3 A2; have hps := Fm t i2 j hlt2 hlt3; refine Ev j hlt3 ?_; refine Jx ?_; refine Of ?_; refine Pw ?_; refine q0 rfl (Bf fun b13 => ?_); refine Ei ?_; refine Ex ?_; refine I7 ?_; refine F5 ?_; refine q0 rfl (Fo hc (hcl _ _ _ _ hps hβ3 _ _ _) (fun x56 => ?_)); refine H4 ?_; refine A6 (fun h57 => ?_) (fun h57 => ?_)
        ·have hβf : β (t.kids.length + Bm i2 t.sys + j) = false := by simpa using h57
         refine Bw ?_; have hbd := A8w hlt2 hlt3; have hff := B0q hβf hβ3 (n := (parts t).length) A2; refine As f_ rfl A5 () (by simp [hff]; omega) (fun w hs => by rw [hff, if_neg A2]; simp only [hβf, Bool.false_eq_true, if_false] at hs; exact (hs.l8).Bt)
        ·refine Ik ?_; have hβt : β (t.kids.length + Bm i2 t.sys + j) = true := by simpa using h57
         refine A0 (fun w hs => ?_) (next2 (j + 1) _ ⟨hlt3, fun j2 hj2 => (by rcases Nat.lt_succ_iff_lt_or_eq.mp hj2 with h | h; exact hβ3 j2 h; subst h; exact hβt)⟩ A2 Cb); simp only [hβt, if_true] at hs; exact (hs.l9).Bt
       ·have hge3 : j = (t.sys.getD i2 Bq).kids.length := by have := of_decide_eq_false h50; omega
        refine Dt ?_; refine Q8 ?_; refine A0 (fun w hs => ?_) (next1 (i2 + 1) _ ⟨hlt2, by rw [Io i2 t.sys hlt2]; rw [hge3] at hβ3; simpa [Nat.add_assoc] using hβ3⟩ A2 Cb); rw [hge3] at hs; simp only [Io i2 t.sys hlt2, ← Nat.add_assoc]; exact hs.l9
     ·refine Nk ?_; have hie : i2 = t.sys.length := by have := of_decide_eq_false h43; omega
      have hff := B0r (β := β) (n := (parts t).length) (by rw [hpl, ← hie]; exact hβ2); refine As f_ rfl A5 () (by simp [hff]) (fun w hs => by rw [hff, if_pos rfl, hpl, ← hie]; exact hs.l8)
theorem C6i (k : Int) : Spec prog 173 #[iv k] [] [] (fun _ : Unit => iv (D4 k)) (fun _ => []) (fun _ => []) := by
 refine D1 ntmps173 fun B hB => ?_
 refine W4 ?_; refine Ly ?_; refine zq8 ?_; refine Kl ?_; refine Ed ?_; refine A6 (fun h4 => ?_) (fun h4 => ?_)
 ·refine I9 ?_; refine As f_ rfl A5 () (by simp_all [D4]) (fun w hs => hs.none)
 ·refine Ed ?_; refine A6 (fun h4 => ?_) (fun h4 => ?_)
  ·refine I9 ?_; refine As f_ rfl A5 () (by simp_all [D4]) (fun w hs => hs.none)
  ·refine Ed ?_; refine A6 (fun h4 => ?_) (fun h4 => ?_)
   ·refine I9 ?_; refine As f_ rfl A5 () (by simp_all [D4]) (fun w hs => hs.none)
   ·refine Ed ?_; refine A6 (fun h4 => ?_) (fun h4 => ?_)
    ·refine I9 ?_; refine As f_ rfl A5 () (by simp_all [D4]) (fun w hs => hs.none)
    ·refine Ed ?_; refine A6 (fun h4 => ?_) (fun h4 => ?_)
     ·refine I9 ?_; refine As f_ rfl A5 () (by simp_all [D4]) (fun w hs => hs.none)
     ·refine Ed ?_; refine A6 (fun h4 => ?_) (fun h4 => ?_)
      ·refine I9 ?_; refine As f_ rfl A5 () (by simp_all [D4]) (fun w hs => hs.none)
      ·refine Ed ?_; refine A6 (fun h4 => ?_) (fun h4 => ?_)
       ·refine I9 ?_; refine As f_ rfl A5 () (by simp_all [D4]) (fun w hs => hs.none)
       ·refine Vy ?_; refine A6 (fun h4 => ?_) (fun h4 => ?_)
        ·refine Bw ?_; refine As f_ rfl A5 () (by simp_all [D4]) (fun w hs => hs.none)
        ·refine Kl ?_; refine Ed ?_; refine A6 (fun h13 => ?_) (fun h13 => ?_)
         ·refine I9 ?_; refine As f_ rfl A5 () (by simp_all [D4]) (fun w hs => hs.none)
         ·refine Ed ?_; refine A6 (fun h13 => ?_) (fun h13 => ?_)
          ·refine I9 ?_; refine As f_ rfl A5 () (by simp_all [D4]) (fun w hs => hs.none)
          ·refine Ed ?_; refine A6 (fun h13 => ?_) (fun h13 => ?_)
           ·refine I9 ?_; refine As f_ rfl A5 () (by simp_all [D4]) (fun w hs => hs.none)
           ·refine Ed ?_; refine A6 (fun h13 => ?_) (fun h13 => ?_)
            ·refine I9 ?_; refine As f_ rfl A5 () (by simp_all [D4]) (fun w hs => hs.none)
            ·refine Ed ?_; refine A6 (fun h13 => ?_) (fun h13 => ?_)
             ·refine I9 ?_; refine As f_ rfl A5 () (by simp_all [D4]) (fun w hs => hs.none)
             ·refine Ed ?_; refine A6 (fun h13 => ?_) (fun h13 => ?_)
              ·refine I9 ?_; refine As f_ rfl A5 () (by simp_all [D4]) (fun w hs => hs.none)
              ·refine Ed ?_; refine A6 (fun h13 => ?_) (fun h13 => ?_)
               ·refine I9 ?_; refine As f_ rfl A5 () (by simp_all [D4]) (fun w hs => hs.none)
               ·refine Ed ?_; refine A6 (fun h13 => ?_) (fun h13 => ?_)
                ·refine I9 ?_; refine As f_ rfl A5 () (by simp_all [D4]) (fun w hs => hs.none)
                ·refine Vy ?_; refine A6 (fun h13 => ?_) (fun h13 => ?_)
                 ·refine Bw ?_; refine As f_ rfl A5 () (by simp_all [D4]) (fun w hs => hs.none)
                 ·refine Kl ?_; refine Ed ?_; refine A6 (fun h23 => ?_) (fun h23 => ?_)
                  ·refine I9 ?_; refine As f_ rfl A5 () (by simp_all [D4]) (fun w hs => hs.none)
                  ·refine Ed ?_; refine A6 (fun h23 => ?_) (fun h23 => ?_)
                   ·refine I9 ?_; refine As f_ rfl A5 () (by simp_all [D4]) (fun w hs => hs.none)
                   ·refine Ed ?_; refine A6 (fun h23 => ?_) (fun h23 => ?_)
                    ·refine I9 ?_; refine As f_ rfl A5 () (by simp_all [D4]) (fun w hs => hs.none)
                    ·refine Ed ?_; refine A6 (fun h23 => ?_) (fun h23 => ?_)
                     ·refine I9 ?_; refine As f_ rfl A5 () (by simp_all [D4]) (fun w hs => hs.none)
                     ·refine Ed ?_; refine A6 (fun h23 => ?_) (fun h23 => ?_)
                      ·refine I9 ?_; refine As f_ rfl A5 () (by simp_all [D4]) (fun w hs => hs.none)
                      ·refine Ed ?_; refine A6 (fun h23 => ?_) (fun h23 => ?_)
                       ·refine I9 ?_; refine As f_ rfl A5 () (by simp_all [D4]) (fun w hs => hs.none)
                       ·refine Vy ?_; refine A6 (fun h23 => ?_) (fun h23 => ?_)
                        ·refine Bw ?_; refine As f_ rfl A5 () (by simp_all [D4]) (fun w hs => hs.none)
                        ·refine Kl ?_; refine Ed ?_; refine A6 (fun h31 => ?_) (fun h31 => ?_)
                         ·refine I9 ?_; refine As f_ rfl A5 () (by simp_all [D4]) (fun w hs => hs.none)
                         ·refine Vy ?_; refine A6 (fun h31 => ?_) (fun h31 => ?_)
                          ·refine Bw ?_; refine As f_ rfl A5 () (by simp_all [D4]) (fun w hs => hs.none)
                          ·refine Ed ?_; refine A6 (fun h34 => ?_) (fun h34 => ?_)
                           ·refine Bw ?_; refine As f_ rfl A5 () (by simp_all [D4]) (fun w hs => hs.none)
                           ·refine Ed ?_; refine A6 (fun h36 => ?_) (fun h36 => ?_)
                            ·refine Bw ?_; refine As f_ rfl A5 () (by simp_all [D4]) (fun w hs => hs.none)
                            ·refine Q4 ?_; refine Bw ?_; refine As f_ rfl A5 () (by simp_all [D4]) (fun w hs => hs.none)
theorem Ny (k : Int) : Spec prog 172 #[iv k] [] [] (fun _ : Unit => iv (Cs k)) (fun _ => []) (fun _ => []) := by
 refine D1 ntmps172 fun B hB => ?_
 refine W4 ?_; refine Ly ?_; refine zq8 ?_; refine Kl ?_; refine Ed ?_; refine A6 (fun h4 => ?_) (fun h4 => ?_)
 ·refine I9 ?_; refine As f_ rfl A5 () (by simp_all [Cs]) (fun w hs => hs.none)
 ·refine Ed ?_; refine A6 (fun h4 => ?_) (fun h4 => ?_)
  ·refine I9 ?_; refine As f_ rfl A5 () (by simp_all [Cs]) (fun w hs => hs.none)
  ·refine Vy ?_; refine A6 (fun h4 => ?_) (fun h4 => ?_)
   ·refine Bw ?_; refine As f_ rfl A5 () (by simp_all [Cs]) (fun w hs => hs.none)
   ·refine Ed ?_; refine A6 (fun h8 => ?_) (fun h8 => ?_)
    ·refine Bw ?_; refine As f_ rfl A5 () (by simp_all [Cs]) (fun w hs => hs.none)
    ·refine Q4 ?_; refine Bw ?_; refine As f_ rfl A5 () (by simp_all [Cs]) (fun w hs => hs.none)
theorem Sa (k : Int) : Spec prog 121 #[iv k] [] [] (fun _ : Unit => iv (Cs k)) (fun _ => []) (fun _ => []) := by
 refine D1 ntmps121 fun B hB => ?_
 refine Bw ?_; refine Ia ?_; refine A6 (fun h4 => ?_) (fun h4 => ?_)
 ·refine Bw ?_; refine As f_ rfl A5 () (by simp_all [Cs]) (fun w hs => hs.none)
 ·refine Oo ?_; refine L6 ?_; refine qI rfl rfl rfl Hk (fun hg7 => Cf ?_) (fun hg7 => ?_)
  ·refine Kc ?_; refine Hz ?_; refine qI rfl rfl rfl Hk (fun hg11 => Cf ?_) (fun hg11 => ?_)
   ·refine Kc ?_; refine Ge ?_; refine A6 (fun h14 => ?_) (fun h14 => ?_)
    ·refine Bw ?_; refine As f_ rfl A5 () (by simp_all [Cs]) (fun w hs => hs.none)
    ·refine H7 ?_; refine Bw ?_; refine As f_ rfl A5 () (by simp_all [Cs]) (fun w hs => hs.none)
   ·refine Q3 ?_; refine C3p ?_; refine Bw ?_; refine As f_ rfl A5 () (by simp_all [Cs]) (fun w hs => hs.none)
  ·refine Mw ?_; refine Hl ?_; refine On ?_; refine C3p ?_; refine Bw ?_; refine As f_ rfl A5 () (by simp_all [Cs]) (fun w hs => hs.none)
theorem V2 (k : Int) : Spec prog 206 #[iv k] [] [] (fun _ : Unit => iv (more k)) (fun _ => []) (fun _ => []) := by
 refine D1 ntmps206 fun B hB => ?_
 refine Bw ?_; refine Ia ?_; refine A6 (fun h4 => ?_) (fun h4 => ?_)
 ·refine Bw ?_; refine As f_ rfl A5 () (by simp_all [more]) (fun w hs => hs.none)
 ·refine H7 ?_; refine Bw ?_; refine As f_ rfl A5 () (by simp_all [more]) (fun w hs => hs.none)
theorem Sh (k i : Int) : Spec prog 205 #[iv k, iv i] [] [] (fun _ : Unit => .tuple #[iv (binds k i).1, iv (binds k i).2]) (fun _ => []) (fun _ => []) := by
 refine D1 ntmps205 fun B hB => ?_
 refine Q5 ?_; refine L6 ?_; refine qI rfl rfl rfl Hk (fun hg8 => Cf ?_) (fun hg8 => ?_)
 ·refine Kc ?_; refine D2 ?_; refine qI rfl rfl rfl Hk (fun hg11 => Cf ?_) (fun hg11 => ?_)
  ·refine Kc ?_; refine Om ?_; refine A6 (fun h15 => ?_) (fun h15 => ?_)
   ·refine Et ?_; refine Az f_ rfl A5 A5 () (by simp_all [binds]) (fun w hs => hs.none)
   ·refine Oo ?_; refine L6 ?_; refine qI rfl rfl rfl Hk (fun hg18 => Cf ?_) (fun hg18 => ?_)
    ·refine Kc ?_; refine D2 ?_; refine qI rfl rfl rfl Hk (fun hg21 => Cf ?_) (fun hg21 => ?_)
     ·refine Kc ?_; refine Tu ?_; refine D2 ?_; refine qI rfl rfl rfl Hk (fun hg25 => Cf ?_) (fun hg25 => ?_)
      ·refine Kc ?_; refine Om ?_; refine A6 (fun h29 => ?_) (fun h29 => ?_)
       ·refine Et ?_; refine Az f_ rfl A5 A5 () (by simp_all [binds]) (fun w hs => hs.none)
       ·refine Oo ?_; refine L6 ?_; refine qI rfl rfl rfl Hk (fun hg32 => Cf ?_) (fun hg32 => ?_)
        ·refine Kc ?_; refine D2 ?_; refine qI rfl rfl rfl Hk (fun hg35 => Cf ?_) (fun hg35 => ?_)
         ·refine Kc ?_; refine Tu ?_; refine D2 ?_; refine qI rfl rfl rfl Hk (fun hg39 => Cf ?_) (fun hg39 => ?_)
          ·refine Kc ?_; refine Om ?_; refine A6 (fun h43 => ?_) (fun h43 => ?_)
           ·refine Et ?_; refine Az f_ rfl A5 A5 () (by simp_all [binds]) (fun w hs => hs.none)
           ·refine H7 ?_; refine Et ?_; refine Az f_ rfl A5 A5 () (by simp_all [binds]) (fun w hs => hs.none)
          ·refine Mw ?_; refine Q2 ?_; refine Az f_ rfl A5 A5 () (by simp_all [binds]) (fun w hs => hs.none)
         ·refine Mw ?_; refine Tv ?_; refine D2 ?_; refine Ii ?_; refine Q2 ?_; refine Az f_ rfl A5 A5 () (by simp_all [binds]) (fun w hs => hs.none)
        ·refine Oq ?_; refine U9 ?_; refine A4k ?_; refine H7 ?_; refine Et ?_; refine Az f_ rfl A5 A5 () (by simp_all [binds]) (fun w hs => hs.none)
      ·refine Mw ?_; refine Q2 ?_; refine Az f_ rfl A5 A5 () (by simp_all [binds]) (fun w hs => hs.none)
     ·refine Mw ?_; refine Tv ?_; refine D2 ?_; refine Ii ?_; refine Q2 ?_; refine Az f_ rfl A5 A5 () (by simp_all [binds]) (fun w hs => hs.none)
    ·refine Oq ?_; refine U9 ?_; refine A4k ?_; refine Oo ?_; refine L6 ?_; refine qI rfl rfl rfl Hk (fun hg32 => Cf ?_) (fun hg32 => ?_)
     ·refine Kc ?_; refine D2 ?_; refine qI rfl rfl rfl Hk (fun hg35 => Cf ?_) (fun hg35 => ?_)
      ·refine Kc ?_; refine Tu ?_; refine D2 ?_; refine qI rfl rfl rfl Hk (fun hg39 => Cf ?_) (fun hg39 => ?_)
       ·refine Kc ?_; refine Om ?_; refine A6 (fun h43 => ?_) (fun h43 => ?_)
        ·refine Et ?_; refine Az f_ rfl A5 A5 () (by simp_all [binds]) (fun w hs => hs.none)
        ·refine H7 ?_; refine Et ?_; refine Az f_ rfl A5 A5 () (by simp_all [binds]) (fun w hs => hs.none)
       ·refine Mw ?_; refine Q2 ?_; refine Az f_ rfl A5 A5 () (by simp_all [binds]) (fun w hs => hs.none)
      ·refine Mw ?_; refine Tv ?_; refine D2 ?_; refine Ii ?_; refine Q2 ?_; refine Az f_ rfl A5 A5 () (by simp_all [binds]) (fun w hs => hs.none)
     ·refine Oq ?_; refine U9 ?_; refine A4k ?_; refine H7 ?_; refine Et ?_; refine Az f_ rfl A5 A5 () (by simp_all [binds]) (fun w hs => hs.none)
  ·refine Mw ?_; refine Q2 ?_; refine Az f_ rfl A5 A5 () (by simp_all [binds]) (fun w hs => hs.none)
 ·refine U9 ?_; refine A4k ?_; refine Oo ?_; refine L6 ?_; refine qI rfl rfl rfl Hk (fun hg18 => Cf ?_) (fun hg18 => ?_)
  ·refine Kc ?_; refine D2 ?_; refine qI rfl rfl rfl Hk (fun hg21 => Cf ?_) (fun hg21 => ?_)
   ·refine Kc ?_; refine Tu ?_; refine D2 ?_; refine qI rfl rfl rfl Hk (fun hg25 => Cf ?_) (fun hg25 => ?_)
    ·refine Kc ?_; refine Om ?_; refine A6 (fun h29 => ?_) (fun h29 => ?_)
     ·refine Et ?_; refine Az f_ rfl A5 A5 () (by simp_all [binds]) (fun w hs => hs.none)
     ·refine Oo ?_; refine L6 ?_; refine qI rfl rfl rfl Hk (fun hg32 => Cf ?_) (fun hg32 => ?_)
      ·refine Kc ?_; refine D2 ?_; refine qI rfl rfl rfl Hk (fun hg35 => Cf ?_) (fun hg35 => ?_)
       ·refine Kc ?_; refine Tu ?_; refine D2 ?_; refine qI rfl rfl rfl Hk (fun hg39 => Cf ?_) (fun hg39 => ?_)
        ·refine Kc ?_; refine Om ?_; refine A6 (fun h43 => ?_) (fun h43 => ?_)
         ·refine Et ?_; refine Az f_ rfl A5 A5 () (by simp_all [binds]) (fun w hs => hs.none)
         ·refine H7 ?_; refine Et ?_; refine Az f_ rfl A5 A5 () (by simp_all [binds]) (fun w hs => hs.none)
        ·refine Mw ?_; refine Q2 ?_; refine Az f_ rfl A5 A5 () (by simp_all [binds]) (fun w hs => hs.none)
       ·refine Mw ?_; refine Tv ?_; refine D2 ?_; refine Ii ?_; refine Q2 ?_; refine Az f_ rfl A5 A5 () (by simp_all [binds]) (fun w hs => hs.none)
      ·refine Oq ?_; refine U9 ?_; refine A4k ?_; refine H7 ?_; refine Et ?_; refine Az f_ rfl A5 A5 () (by simp_all [binds]) (fun w hs => hs.none)
    ·refine Mw ?_; refine Q2 ?_; refine Az f_ rfl A5 A5 () (by simp_all [binds]) (fun w hs => hs.none)
   ·refine Mw ?_; refine Tv ?_; refine D2 ?_; refine Ii ?_; refine Q2 ?_; refine Az f_ rfl A5 A5 () (by simp_all [binds]) (fun w hs => hs.none)
  ·refine Oq ?_; refine U9 ?_; refine A4k ?_; refine Oo ?_; refine L6 ?_; refine qI rfl rfl rfl Hk (fun hg32 => Cf ?_) (fun hg32 => ?_)
   ·refine Kc ?_; refine D2 ?_; refine qI rfl rfl rfl Hk (fun hg35 => Cf ?_) (fun hg35 => ?_)
    ·refine Kc ?_; refine Tu ?_; refine D2 ?_; refine qI rfl rfl rfl Hk (fun hg39 => Cf ?_) (fun hg39 => ?_)
     ·refine Kc ?_; refine Om ?_; refine A6 (fun h43 => ?_) (fun h43 => ?_)
      ·refine Et ?_; refine Az f_ rfl A5 A5 () (by simp_all [binds]) (fun w hs => hs.none)
      ·refine H7 ?_; refine Et ?_; refine Az f_ rfl A5 A5 () (by simp_all [binds]) (fun w hs => hs.none)
     ·refine Mw ?_; refine Q2 ?_; refine Az f_ rfl A5 A5 () (by simp_all [binds]) (fun w hs => hs.none)
    ·refine Mw ?_; refine Tv ?_; refine D2 ?_; refine Ii ?_; refine Q2 ?_; refine Az f_ rfl A5 A5 () (by simp_all [binds]) (fun w hs => hs.none)
   ·refine Oq ?_; refine U9 ?_; refine A4k ?_; refine H7 ?_; refine Et ?_; refine Az f_ rfl A5 A5 () (by simp_all [binds]) (fun w hs => hs.none)
theorem Int.ofNat_max' (a b : Nat) : ((max a b : Nat) : Int) = if (b : Int) > (a : Int) then (b : Int) else (a : Int) := by
 split <;> omega
theorem A7q (t : T) (vr vk vs : SH) (c : FuncId) (cap : List Value) (FΓ : List Fact) (M : List Bj) (g : Part → Bool)
  (hc : ∀ (args : Array Value) (w : World), (callFunc c args).run prog w = .ok (.enter c args) w)
  (hcl : ∀ k v d, (k, v, d) ∈ parts t → ∀ vr vk vs, Spec prog c (.agg (tc k vr vk vs).toArray :: iv v :: iv d :: cap).toArray (RT k vr vk vs :: FΓ) M (fun _ : Unit => .bool (g (k, v, d))) (fun _ => []) (fun _ => M)) :
  Spec prog 98 #[.agg (tc t vr vk vs).toArray, .func (.func c) #[] cap.toArray] (RT t vr vk vs :: FΓ) M (fun _ : Unit => .bool ((parts t).all g)) (fun _ => []) (fun _ => M) := by
 have h := A7o t vr vk vs c cap FΓ (fun _ => M) (fun _ => M) (B1e t g) hc (fun m k v d hm _ vr vk vs => by simpa [T6 hm] using hcl k v d (Gk hm) vr vk vs); rw [D2u] at h; simpa using h
abbrev Z5 (t : T) : Prop := ∀ (left : Int) vr vk vs, Ak left → Spec prog 162 #[.agg (tc t vr vk vs).toArray, iv left] [RT t vr vk vs] [] (fun _ : Unit => .bool (decide ((depth t : Int) ≤ left))) (fun _ => []) (fun _ => [])
theorem A4o (k : T) (vr vk vs : SH) (b : Nat) (left v d : Int) (h0 : 0 < left) (hl : Ak left) (ih : Z5 k) : Spec prog 215 #[.agg (tc k vr vk vs).toArray, iv v, iv d, pz b] [RT k vr vk vs] [Ae b [iv left] 3] (fun _ : Unit => .bool (decide ((depth k : Int) ≤ left - 1))) (fun _ => []) (fun _ => [Ae b [iv left] 3]) := by
 refine D1 ntmps215 fun B hB => ?_
 refine B8 ?_; refine q0 rfl (B3 fun b4 => ?_); refine C9 ?_; refine F9 ?_; refine A8r ?_; refine A8p ?_; refine q0 rfl (A1 call162 (ih (left - 1) vr vk vs (by unfold Ak at *; omega)) (fun x11 => ?_)); refine C9 ?_; refine As f_ rfl A5 () rfl (fun w hs => (hs.l8).drop)
theorem A9e (t : T) (ih : ∀ p, p ∈ parts t → Z5 p.1) (left : Int) (vr vk vs : SH) (hl : Ak left) : Spec prog 162 #[.agg (tc t vr vk vs).toArray, iv left] [RT t vr vk vs] [] (fun _ : Unit => .bool (decide ((depth t : Int) ≤ left))) (fun _ => []) (fun _ => []) := by
 refine D1 ntmps162 fun B hB => ?_
 refine B8 ?_; refine q0 rfl (B3 fun b2 => ?_); refine q0 rfl (B3 fun b3 => ?_); refine C9 ?_; refine Vx ?_; refine C3o ?_; refine F5 ?_; refine qI rfl rfl rfl Hk (fun hg7 => Qn ?_) (fun hg7 => ?_)
 ·refine qT rfl rfl rfl (B8e ?_); have h0 : 0 < left := of_decide_eq_true hg7; have hE := A7q t vr vk vs 215 [pz b3] [] [Ae b3 [iv left] 3] (fun p => decide ((depth p.1 : Int) ≤ left - 1)) call215 (fun k v d hm vr vk vs => A4o k vr vk vs b3 left v d h0 hl (ih _ hm)); rw [← C7a t left h0] at hE; refine qT rfl rfl rfl (A1 call98 (hE) (fun x10 => ?_)); refine Fj ?_; refine As f_ rfl A5 () rfl (fun w hs => hs.none)
 ·refine Q1 ?_; have h0 : ¬ 0 < left := of_decide_eq_false hg7; have hp := A7w t; refine As f_ rfl A5 () (by rw [decide_eq_false A2]) (fun w hs => hs.none)
theorem A9f : ∀ t : T, Z5 t := T.ind fun t ih left vr vk vs hl => A9e t ih left vr vk vs hl
def leftOf (t : T) (m : Int) : Int := if (size t : Int) ≤ m then m - size t else -1
abbrev A4g (b bc : Nat) : List Value := [pz b, pz bc]
abbrev Jo (b bc : Nat) (m : Int) : List Bj := [Ae b [iv m] 3, Ae bc [.func (.func 216) #[] (A4g b bc).toArray] 63]
abbrev A0w (t : T) : Prop := ∀ (m : Int) b bc vr vk vs, 0 ≤ m → Ak m → Spec prog 216 #[.agg (tc t vr vk vs).toArray, pz b, pz bc] [RT t vr vk vs] (Jo b bc m) (fun _ : Unit => .bool (decide ((size t : Int) ≤ m))) (fun _ => []) (fun _ => Jo b bc (leftOf t m))
theorem A8z (k : T) (vr vk vs : SH) (b bc : Nat) (m v d : Int) (h0 : 0 ≤ m) (hl : Ak m) (ih : A0w k) : Spec prog 217 #[.agg (tc k vr vk vs).toArray, iv v, iv d, pz bc] [RT k vr vk vs] (Jo b bc m) (fun _ : Unit => .bool (decide ((size k : Int) ≤ m))) (fun _ => []) (fun _ => Jo b bc (leftOf k m)) := by
 refine D1 ntmps217 fun B hB => ?_
 refine B8 ?_; refine q0 rfl (B3 fun b4 => ?_); refine C9 ?_; refine Vx ?_; refine I7 ?_; refine q0 rfl (Fo call216 (ih m b bc vr vk vs h0 hl) (cap := A4g b bc) (fun x10 => ?_)); refine C9 ?_; refine As f_ rfl A5 () rfl (fun w hs => (hs.l8).Bt (A := Jo b bc (leftOf k m)))
theorem B9l (t : T) (ih : ∀ p, p ∈ parts t → A0w p.1) (m : Int) (b bc : Nat) (vr vk vs : SH) (h0 : 0 < m) (hl : Ak m) :
  Spec prog 98 #[.agg (tc t vr vk vs).toArray, .func (.func 217) #[] #[pz bc]] [RT t vr vk vs] (Jo b bc (m - 1)) (fun _ : Unit => .bool (decide ((size t : Int) ≤ m))) (fun _ => []) (fun _ => Jo b bc (leftOf t m)) := by
 have h := A7o t vr vk vs 217 [pz bc] [] (fun j => Jo b bc (if (Ca t j : Int) ≤ m then m - Ca t j else -1)) (fun _ => Jo b bc (-1)) (fun j => decide ((Ca t (j + 1) : Int) ≤ m)) call217 ?_
 ·have hall : (ff (fun j => decide ((Ca t (j + 1) : Int) ≤ m)) (parts t).length == (parts t).length) = decide ((size t : Int) ≤ m) := by
   rw [Bool.eq_iff_iff, beq_iff_eq, Yv, decide_eq_true_iff]; constructor
   ·intro h; cases hn : (parts t).length with
    | zero => have := Ld t; rw [hn, Mh] at this; omega
    | succ n =>
     have := h n A2; rw [← hn, Ld] at this; exact of_decide_eq_true this
   ·intro h j hj; have := S9 t (j + 1); exact decide_eq_true A2
  simp only [hall, Mh, Ld, beq_iff_eq] at h; rw [if_pos A2] at h; by_cases hs : (size t : Int) ≤ m
  ·have e : ff (fun j => decide ((Ca t (j + 1) : Int) ≤ m)) (parts t).length = (parts t).length := by rw [← beq_iff_eq, hall]; exact decide_eq_true hs
   simp only [e, if_true, if_pos hs] at h; unfold leftOf; rw [if_pos hs]; exact h
  ·have e : ¬ ff (fun j => decide ((Ca t (j + 1) : Int) ≤ m)) (parts t).length = (parts t).length := by rw [← beq_iff_eq, hall]; simpa using hs
   simp only [if_neg e] at h; unfold leftOf; rw [if_neg hs]; exact h
 ·intro j k v d hm hβ vr vk vs; have hs := K0 hm; simp only at hs; have hp := size_pos k
  have hj : (Ca t j : Int) ≤ m := by
   cases j with
   | zero => rw [Mh]; omega
   | succ j => exact of_decide_eq_true (hβ j A2)
  have := A8z k vr vk vs b bc (m - Ca t j) v d A2 (by unfold Ak at *; omega) (ih _ (Gk hm)); rw [if_pos hj]; have e1 : decide ((size k : Int) ≤ m - Ca t j) = decide ((Ca t (j + 1) : Int) ≤ m) := by rw [hs]; congr 1; apply propext; omega
  rw [e1] at this
  have e2 : Jo b bc (leftOf k (m - Ca t j)) = if decide ((Ca t (j + 1) : Int) ≤ m) = true then Jo b bc (if (Ca t (j + 1) : Int) ≤ m then m - Ca t (j + 1) else -1) else Jo b bc (-1) := by
   unfold leftOf; by_cases hk : (Ca t (j + 1) : Int) ≤ m
   ·rw [if_pos A2, if_pos (decide_eq_true hk), if_pos hk, hs]; congr 1; omega
   ·rw [if_neg A2, if_neg (by simpa using hk)]
  rw [e2] at this; exact this
theorem B2i (t : T) (ih : ∀ p, p ∈ parts t → A0w p.1) (m : Int) (b bc : Nat) (vr vk vs : SH) (h0 : 0 ≤ m) (hl : Ak m) : Spec prog 216 #[.agg (tc t vr vk vs).toArray, pz b, pz bc] [RT t vr vk vs] (Jo b bc m) (fun _ : Unit => .bool (decide ((size t : Int) ≤ m))) (fun _ => []) (fun _ => Jo b bc (leftOf t m)) := by
 refine D1 ntmps216 fun B hB => ?_
 refine B8 ?_; refine q0 rfl (B3 fun b3 => ?_); refine C9 ?_; refine Vx ?_; refine A8p ?_; refine C7s ?_; refine Vx ?_; refine A4j ?_; refine F5 ?_; refine qI rfl rfl rfl Hk (fun hg9 => Qn ?_) (fun hg9 => ?_)
 ·refine qT rfl rfl rfl (B8e ?_); have h1 : 0 ≤ m - 1 := of_decide_eq_true hg9; have hE := B9l t ih m b bc vr vk vs A2 hl; refine qT rfl rfl rfl (A1 call98 (hE) (fun x12 => ?_) (hm := (List.Perm.swap _ _ _).cons _)); refine Fj ?_; refine As f_ rfl A5 () rfl (fun w hs => (hs.l8).Bt (A := Jo b bc (leftOf t m)))
 ·refine Q1 ?_; have h1 : ¬ 0 ≤ m - 1 := of_decide_eq_false hg9; have hp := size_pos t; refine As f_ rfl A5 () (by rw [decide_eq_false A2]) (fun w hs => by rw [leftOf, if_neg A2, show (-1 : Int) = m - 1 by omega]; exact ((hs.l7).perm ((List.Perm.swap _ _ _).cons _)).Bt (A := Jo b bc (m - 1)))
theorem B9k : ∀ t : T, A0w t := T.ind fun t ih m b bc vr vk vs h0 hl => B2i t ih m b bc vr vk vs h0 hl
def D3u : Prop := ∀ (l : List Cl) (a : SH), Spec prog 137 #[sl a l.length] [CL l a] [] (fun _ : Unit => .bool (Aa l)) (fun _ => []) (fun _ => [])
def A8k : Prop := ∀ (l : List Cl) (a : SH), Spec prog 88 #[sl a l.length] [CL l a] [] (fun _ : Unit => .bool (A8 l)) (fun _ => []) (fun _ => [])
def D3v : Prop := ∀ (l : List Cl) (a : SH), Spec prog 97 #[sl a l.length] [CL l a] [] (fun _ : Unit => .int .u32 (Dl l : Int)) (fun _ => []) (fun _ => [])
def B9z : Prop := D3u ∧ A8k ∧ D3v
theorem B6t (t : T) (vr vk vs : SH) (Dm : Int) (h0 : 0 ≤ Dm) (hl : Ak Dm) : Spec prog 163 #[.agg (tc t vr vk vs).toArray, iv Dm] [RT t vr vk vs] [] (fun _ : Unit => .bool (decide ((size t : Int) ≤ Dm))) (fun _ => []) (fun _ => []) := by
 refine D1 ntmps163 fun B hB => ?_
 refine B8 ?_; refine q0 rfl (B3 fun b2 => ?_); refine q0 rfl (B3 fun b3 => ?_); refine C9 ?_; refine B8 ?_; refine q0 rfl (Bf fun b5 => ?_); refine Ly ?_; refine B8 ?_; refine Up ?_; refine Ei ?_; refine Vx ?_; refine I7 ?_; refine q0 rfl (Fo call216 (B9k t Dm b3 b5 vr vk vs h0 hl) (cap := A4g b3 b5) (fun x9 => ?_)); refine C9 ?_; refine As f_ rfl A5 () rfl (fun w hs => hs.none)
theorem A1n (t : T) (vr vk vs : SH) : Spec prog 85 #[.agg (tc t vr vk vs).toArray] [RT t vr vk vs] [] (fun _ : Unit => iv (sized t)) (fun _ => []) (fun _ => []) := by
 refine D1 ntmps85 fun B hB => ?_
 refine B8 ?_; refine q0 rfl (B3 fun b1 => ?_); refine J1 ?_; refine zq8 ?_; refine F9 ?_; refine q0 rfl (A1 call162 (A9f t 200 vr vk vs (by unfold Ak; omega)) (fun x5 => ?_)); refine D4d ?_; refine C9 ?_; refine A6 (fun h3 => ?_) (fun h3 => ?_)
 ·refine Bw ?_; have h : 200 < depth t := by simp at h3; omega
  refine As f_ rfl A5 () (by rw [sized, if_pos h]) (fun w hs => hs.none)
 ·refine F9 ?_; refine q0 rfl (A1 call163 (B6t t vr vk vs 20000 A2 (by unfold Ak; omega)) (fun x9 => ?_)); refine D4d ?_; refine C9 ?_; refine A6 (fun h7 => ?_) (fun h7 => ?_)
  ·refine Bw ?_; have h : ¬ 200 < depth t := by simp at h3; omega
   have h2 : 20000 < size t := by simp at h7; omega
   refine As f_ rfl A5 () (by rw [sized, if_neg h, if_pos h2]) (fun w hs => hs.none)
  ·refine Q4 ?_; refine Bw ?_; have h : ¬ 200 < depth t := by simp at h3; omega
   have h2 : ¬ 20000 < size t := by simp at h7; omega
   refine As f_ rfl A5 () (by rw [sized, if_neg h, if_neg h2]) (fun w hs => hs.none)
theorem C5u (s : ByteArray) (hs : s.size ≤ Gd) : Spec prog 218 #[.string s] [] [] (fun _ : Unit => .bool (Jm s)) (fun _ => []) (fun _ => []) := by
 refine D1 ntmps218 fun B hB => ?_
 refine W4 ?_; refine q0 rfl (Sp ?_); refine D8g ?_; refine zq8 ?_; refine Ef (X := Nat) (fun i => i ≤ s.size ∧ ∀ j, j < i → Wx s j = true) (fun i => [(0, .string s), (7, iv (s.size : Int)), (8, iv (i : Int))]) (fun i => []) (fun i => []) (fun i => s.size - i) (0) (⟨Nat.zero_le _, fun j hj => by omega⟩) (by exact Cb) ?_ ?_
 ·exact fun w hs => hs.none
 ·intro i base0 ⟨hi, hok⟩ next0; refine Fk ?_; refine A6 (fun h9 => ?_) (fun h9 => ?_)
  ·have hlt : i < s.size := by have := of_decide_eq_true h9; omega
   obtain ⟨c, hc, hca⟩ := C2x hlt; refine Jr ?_; refine Mn ?_; refine Nn ?_; refine q0 rfl (C2b ?_); refine J1 ?_; refine Al ([(0, .string s), (3, iv (i : Int)), (4, .int .u8 c.toNat), (5, .bool (Hf c.toNat)), (7, iv (s.size : Int)), (8, iv (i : Int))]) (fun hK => ?_) (fun base => ?_)
   ·refine Ds ?_; refine A4j ?_; refine F5 ?_; refine qI rfl rfl rfl Hk (fun hg16 => Cf ?_) (fun hg16 => ?_)
    ·refine B6j ?_; refine Hl ?_; refine qI rfl rfl rfl Hk (fun hg20 => Cf ?_) (fun hg20 => ?_)
     ·refine Tt ?_; refine D2 ?_; refine qI rfl rfl rfl Hk (fun hg23 => Cf ?_) (fun hg23 => ?_)
      ·refine B6j ?_; refine Tv ?_; refine Hz ?_; refine qI rfl rfl rfl Hk (fun hg28 => Cf ?_) (fun hg28 => ?_)
       ·refine Kc ?_; refine Ji ?_; exact hK _ ⟨rfl, rfl, rfl, (by (conv => lhs; whnf); first | (simp_all [Hf]; done) | (simp_all [Hf]; omega)), rfl, rfl, trivial⟩
       ·refine Mw ?_; refine Fj ?_; exact hK _ ⟨rfl, rfl, rfl, (by (conv => lhs; whnf); first | (simp_all [Hf]; done) | (simp_all [Hf]; omega)), rfl, rfl, trivial⟩
      ·refine Mw ?_; refine Tu ?_; refine Hz ?_; refine D2 ?_; refine Kc ?_; refine Ji ?_; exact hK _ ⟨rfl, rfl, rfl, (by (conv => lhs; whnf); first | (simp_all [Hf]; done) | (simp_all [Hf]; omega)), rfl, rfl, trivial⟩
     ·refine Oq ?_; refine Mw ?_; refine Hl ?_; refine Ii ?_; refine Fj ?_; exact hK _ ⟨rfl, rfl, rfl, (by (conv => lhs; whnf); first | (simp_all [Hf]; done) | (simp_all [Hf]; omega)), rfl, rfl, trivial⟩
    ·refine Mw ?_; refine Hz ?_; refine D2 ?_; refine Tt ?_; refine D2 ?_; refine qI rfl rfl rfl Hk (fun hg23 => Cf ?_) (fun hg23 => ?_)
     ·refine B6j ?_; refine Tv ?_; refine Hz ?_; refine qI rfl rfl rfl Hk (fun hg28 => Cf ?_) (fun hg28 => ?_)
      ·refine Kc ?_; refine Ji ?_; exact hK _ ⟨rfl, rfl, rfl, (by (conv => lhs; whnf); first | (simp_all [Hf]; done) | (simp_all [Hf]; omega)), rfl, rfl, trivial⟩
      ·refine Mw ?_; refine Fj ?_; exact hK _ ⟨rfl, rfl, rfl, (by (conv => lhs; whnf); first | (simp_all [Hf]; done) | (simp_all [Hf]; omega)), rfl, rfl, trivial⟩
     ·refine Mw ?_; refine Tu ?_; refine Hz ?_; refine D2 ?_; refine Kc ?_; refine Ji ?_; exact hK _ ⟨rfl, rfl, rfl, (by (conv => lhs; whnf); first | (simp_all [Hf]; done) | (simp_all [Hf]; omega)), rfl, rfl, trivial⟩
   ·refine Kl ?_; refine Al ([(0, .string s), (7, iv (s.size : Int)), (8, iv (i : Int)), (45, .bool (!(Wx s i)))]) (fun hK => ?_) (fun base => ?_)
    ·refine Ds ?_; refine U8 ?_; refine qI rfl rfl rfl Hk (fun hg34 => Cf ?_) (fun hg34 => ?_)
     ·refine Kc ?_; refine D2 ?_; refine qI rfl rfl rfl Hk (fun hg37 => Cf ?_) (fun hg37 => ?_)
      ·refine B1q ?_; refine Tu ?_; refine D2 ?_; refine qI rfl rfl rfl Hk (fun hg41 => Cf ?_) (fun hg41 => ?_)
       ·refine Vp ?_; refine Om ?_; exact hK _ ⟨rfl, rfl, rfl, (by (conv => lhs; whnf); rw [hca]; first | (simp_all [digit]; done) | (simp_all [digit]; omega) | (simp_all [digit]; rw [← decide_not]; congr 1; apply propext; omega)), trivial⟩
       ·refine Mw ?_; refine W5 ?_; exact hK _ ⟨rfl, rfl, rfl, (by (conv => lhs; whnf); rw [hca]; first | (simp_all [digit]; done) | (simp_all [digit]; omega) | (simp_all [digit]; rw [← decide_not]; congr 1; apply propext; omega)), trivial⟩
      ·refine Mw ?_; refine Tv ?_; refine D2 ?_; refine Ii ?_; refine W5 ?_; exact hK _ ⟨rfl, rfl, rfl, (by (conv => lhs; whnf); rw [hca]; first | (simp_all [digit]; done) | (simp_all [digit]; omega) | (simp_all [digit]; rw [← decide_not]; congr 1; apply propext; omega)), trivial⟩
     ·refine Oq ?_; refine U9 ?_; exact hK _ ⟨rfl, rfl, rfl, (by (conv => lhs; whnf); rw [hca]; first | (simp_all [digit]; done) | (simp_all [digit]; omega) | (simp_all [digit]; rw [← decide_not]; congr 1; apply propext; omega)), trivial⟩
    ·refine A6 (fun h45 => ?_) (fun h45 => ?_)
     ·refine Bw ?_; refine As f_ rfl A5 () (by rw [A2n hlt (by simpa using h45)]) (fun w hs => hs.none)
     ·refine Ik ?_; have hb : Wx s i = true := by simpa using h45
      refine A0 (fun w hs => hs) (next0 (i + 1) _ ⟨hlt, fun j hj => (by rcases Nat.lt_succ_iff_lt_or_eq.mp hj with h | h; exact hok j h; subst h; exact hb)⟩ A2 Cb)
  ·have hge : i = s.size := by have := of_decide_eq_false h9; omega
   refine Dt ?_; refine Ex ?_; refine q0 rfl (C1y ?_); refine C9 ?_; refine As f_ rfl A5 () (by rw [A2o (by rw [← hge]; exact hok), empty_eq]; rfl) (fun w hs => hs.none)
theorem Mo (hF : D3v) (l : List Cl) (a : SH) (dims : Int) (h0 : 0 ≤ dims) (hl : Ak dims) : Spec prog 219 #[sl a l.length, iv dims] [CL l a] [] (fun _ : Unit => .bool (within l dims)) (fun _ => []) (fun _ => []) := by
 refine D1 ntmps219 fun B hB => ?_
 refine L4 ?_; refine A4j ?_; refine F5 ?_; refine qI rfl rfl rfl Hk (fun hg7 => Cf ?_) (fun hg7 => ?_)
 ·refine qT rfl rfl rfl (A1 call97 (hF l a) (fun x9 => ?_)); refine D2 ?_; refine qT rfl rfl rfl (E0n ?_); refine qT rfl rfl rfl (A2k ?_ (m := dims.toNat) (hy := congrArg (Value.int .u64) (C4a h0 hl))); refine Kc ?_; refine Ji ?_; refine As f_ rfl A5 () (by first | (simp_all [within]; done) | (simp_all [within]; intros; omega)) (fun w hs => hs.none)
 ·refine Ga ?_; refine Mw ?_; refine Fj ?_; refine As f_ rfl A5 () (by first | (simp_all [within]; done) | (simp_all [within]; intros; omega)) (fun w hs => hs.none)
theorem B3t (t : T) (hf : Sk t = true ∨ B9z) (vr vk vs : SH) (vars dims : Int) (hd : 0 ≤ dims) (hl : Ak dims) : Spec prog 164 #[.agg (tc t vr vk vs).toArray, iv vars, iv dims] [RT t vr vk vs] [] (fun _ : Unit => .bool (M9 t vars dims)) (fun _ => []) (fun _ => []) := by
 refine D1 ntmps164 fun B hB => ?_
 refine go_open (fun hk hn hnm => ?_); refine B4 (ts := t.kids) (fun VR VK VS hl1 hA1 => ?_); refine Df (bs := t.sys) (fun VF VK2 hl2 hA2 => ?_); refine B8 ?_; refine q0 rfl (B3 fun b3 => ?_); refine Kj ?_; refine Al ([(1, iv vars), (2, iv dims), (3, pz b3), (47, .bool (Jb t))]) (fun hK => ?_) (fun base => ?_)
 ·refine Bp (pn := 1000000) (tn := false) (A := [0, 1, 3, 0, 8, 24, 63, 127, 255, 511, 1023, 2047, 4095, 8191, 16383, 32767, 65535, 131071, 262143, 524287, 1048575, 2097151, 4194303, 8388607, 16777215, 33554431, 67108863, 134217727, 268435455, 536870911, 1073741823, 2147483647, 4294967295, 8589934591, 17179869183, 34359738367, 68719476735, 137438953471, 274877906943]) (l := [0, 1, 3, 4, 5, 2, 6, 7, 8, 9, 10, 11, 12, 13, 14, 15, 16, 17, 18, 19, 20, 21, 22, 23, 24, 25, 26, 27, 28, 29, 30, 31, 32, 33, 34, 35, 36, 37, 38]) (fin := []) Tab.mixed ⟨_, func164⟩ (by rfl) ?_; refine Vw ?_; refine n0 rfl (A5l ?_); refine n0 rfl (Bk call173 (C6i t.kind) (fun x11 => ?_)); refine n0 rfl (C0g ?_); refine G9 ?_; refine nI rfl rfl rfl Hk (fun hg16 => Nr ?_) (fun hg16 => ?_)
  ·refine Ls ?_; refine C3m ?_; refine Pg ?_; refine nI rfl rfl rfl Hk (fun hg20 => Nr ?_) (fun hg20 => ?_)
   ·refine Ls ?_; refine C3m ?_; refine A8o ?_; refine S4 ?_; refine nI rfl rfl rfl Hk (fun hg26 => Nr ?_) (fun hg26 => ?_)
    ·refine Ls ?_; refine C3m ?_; refine Pg ?_; refine nI rfl rfl rfl Hk (fun hg30 => Nr ?_) (fun hg30 => ?_)
     ·refine Ls ?_; refine nT rfl rfl rfl (D7b ?_); refine A8o ?_; refine S4 ?_; refine nI rfl rfl rfl Hk (fun hg36 => Nr ?_) (fun hg36 => ?_)
      ·refine Ls ?_; refine nT rfl rfl rfl (Bk call172 (Ny t.kind) (fun x39 => ?_)); refine C3l ?_; refine Pg ?_; refine nI rfl rfl rfl Hk (fun hg41 => Nr ?_) (fun hg41 => ?_)
       ·refine Ls ?_; refine B1p ?_; refine B6i ?_; refine A8o ?_; refine Lt ?_; exact hK _ ⟨rfl, rfl, rfl, (by (conv => lhs; whnf); first | (simp_all [Jb]; done) | (simp_all [Jb]; omega)), trivial⟩
       ·refine Ts ?_; refine Tw ?_; refine A8n ?_; refine Lt ?_; exact hK _ ⟨rfl, rfl, rfl, (by (conv => lhs; whnf); first | (simp_all [Jb]; done) | (simp_all [Jb]; omega)), trivial⟩
      ·refine Jw ?_; refine Ml ?_; refine Ml ?_; refine U7 ?_; exact hK _ ⟨rfl, rfl, rfl, (by (conv => lhs; whnf); first | (simp_all [Jb]; done) | (simp_all [Jb]; omega)), trivial⟩
     ·refine Ts ?_; refine A8n ?_; refine S4 ?_; refine A8m ?_; refine Ls ?_; refine nT rfl rfl rfl (Bk call172 (Ny t.kind) (fun x39 => ?_)); refine C3l ?_; refine Pg ?_; refine nI rfl rfl rfl Hk (fun hg41 => Nr ?_) (fun hg41 => ?_)
      ·refine Ls ?_; refine B1p ?_; refine B6i ?_; refine A8o ?_; refine Lt ?_; exact hK _ ⟨rfl, rfl, rfl, (by (conv => lhs; whnf); first | (simp_all [Jb]; done) | (simp_all [Jb]; omega)), trivial⟩
      ·refine Ts ?_; refine Tw ?_; refine A8n ?_; refine Lt ?_; exact hK _ ⟨rfl, rfl, rfl, (by (conv => lhs; whnf); first | (simp_all [Jb]; done) | (simp_all [Jb]; omega)), trivial⟩
    ·refine Ts ?_; refine Tw ?_; refine Ml ?_; refine C7r ?_; refine A5g ?_; refine G9 ?_; refine Jw ?_; refine Tw ?_; refine Ml ?_; refine Ml ?_; refine U7 ?_; exact hK _ ⟨rfl, rfl, rfl, (by (conv => lhs; whnf); first | (simp_all [Jb]; done) | (simp_all [Jb]; omega)), trivial⟩
   ·refine Ts ?_; refine A8n ?_; refine S4 ?_; refine A8m ?_; refine Ls ?_; refine C3m ?_; refine Pg ?_; refine nI rfl rfl rfl Hk (fun hg30 => Nr ?_) (fun hg30 => ?_)
    ·refine Ls ?_; refine nT rfl rfl rfl (D7b ?_); refine A8o ?_; refine S4 ?_; refine nI rfl rfl rfl Hk (fun hg36 => Nr ?_) (fun hg36 => ?_)
     ·refine Ls ?_; refine nT rfl rfl rfl (Bk call172 (Ny t.kind) (fun x39 => ?_)); refine C3l ?_; refine Pg ?_; refine nI rfl rfl rfl Hk (fun hg41 => Nr ?_) (fun hg41 => ?_)
      ·refine Ls ?_; refine B1p ?_; refine B6i ?_; refine A8o ?_; refine Lt ?_; exact hK _ ⟨rfl, rfl, rfl, (by (conv => lhs; whnf); first | (simp_all [Jb]; done) | (simp_all [Jb]; omega)), trivial⟩
      ·refine Ts ?_; refine Tw ?_; refine A8n ?_; refine Lt ?_; exact hK _ ⟨rfl, rfl, rfl, (by (conv => lhs; whnf); first | (simp_all [Jb]; done) | (simp_all [Jb]; omega)), trivial⟩
     ·refine Jw ?_; refine Ml ?_; refine Ml ?_; refine U7 ?_; exact hK _ ⟨rfl, rfl, rfl, (by (conv => lhs; whnf); first | (simp_all [Jb]; done) | (simp_all [Jb]; omega)), trivial⟩
    ·refine Ts ?_; refine A8n ?_; refine S4 ?_; refine A8m ?_; refine Ls ?_; refine nT rfl rfl rfl (Bk call172 (Ny t.kind) (fun x39 => ?_)); refine C3l ?_; refine Pg ?_; refine nI rfl rfl rfl Hk (fun hg41 => Nr ?_) (fun hg41 => ?_)
     ·refine Ls ?_; refine B1p ?_; refine B6i ?_; refine A8o ?_; refine Lt ?_; exact hK _ ⟨rfl, rfl, rfl, (by (conv => lhs; whnf); first | (simp_all [Jb]; done) | (simp_all [Jb]; omega)), trivial⟩
     ·refine Ts ?_; refine Tw ?_; refine A8n ?_; refine Lt ?_; exact hK _ ⟨rfl, rfl, rfl, (by (conv => lhs; whnf); first | (simp_all [Jb]; done) | (simp_all [Jb]; omega)), trivial⟩
  ·refine Ts ?_; refine Tw ?_; refine Ml ?_; refine C7r ?_; refine A5g ?_; refine G9 ?_; refine Jw ?_; refine Ml ?_; refine C7r ?_; refine A5g ?_; refine G9 ?_; refine Jw ?_; refine Tw ?_; refine Ml ?_; refine Ml ?_; refine U7 ?_; exact hK _ ⟨rfl, rfl, rfl, (by (conv => lhs; whnf); first | (simp_all [Jb]; done) | (simp_all [Jb]; omega)), trivial⟩
 ·refine A6 (fun h47 => ?_) (fun h47 => ?_)
  ·refine Bw ?_; refine As f_ rfl A5 () (by simp [M9, h47]) (fun w hs => hs.none)
  ·refine Hp ?_; refine Jq ?_; refine Ly ?_; refine zq8 ?_; refine Ed ?_; refine A6 (fun h50 => ?_) (fun h50 => ?_)
   ·refine Kl ?_; refine Al ([(6, .bool (decide ((t.r.length : Int) = 0) && decide (0 ≤ t.n) && (decide (vars < 0) || decide (t.n < vars))))]) (fun hK => ?_) (fun base => ?_)
    ·refine Ey ?_; refine L1 ?_; refine L6 ?_; refine qI rfl rfl rfl Hk (fun hg56 => V8 ?_) (fun hg56 => ?_)
     ·refine Uq ?_; refine Tt ?_; refine Hl ?_; refine qI rfl rfl rfl Hk (fun hg61 => Cf ?_) (fun hg61 => ?_)
      ·refine B1q ?_; refine D2 ?_; refine qI rfl rfl rfl Hk (fun hg64 => V8 ?_) (fun hg64 => ?_)
       ·refine Uq ?_; refine D2 ?_; refine B1q ?_; refine Tu ?_; refine Fj ?_; exact hK _ ⟨(by (conv => lhs; whnf); first | (simp_all [Bool.and_assoc]; done) | (simp_all [Bool.and_assoc]; omega)), trivial⟩
       ·refine H9 ?_; refine Tv ?_; refine Fj ?_; exact hK _ ⟨(by (conv => lhs; whnf); first | (simp_all [Bool.and_assoc]; done) | (simp_all [Bool.and_assoc]; omega)), trivial⟩
      ·refine Oq ?_; refine Q6 ?_; refine Mw ?_; refine Ji ?_; exact hK _ ⟨(by (conv => lhs; whnf); first | (simp_all [Bool.and_assoc]; done) | (simp_all [Bool.and_assoc]; omega)), trivial⟩
     ·refine Ii ?_; refine Hz ?_; refine H9 ?_; refine Q6 ?_; refine Q6 ?_; refine Mw ?_; refine Ji ?_; exact hK _ ⟨(by (conv => lhs; whnf); first | (simp_all [Bool.and_assoc]; done) | (simp_all [Bool.and_assoc]; omega)), trivial⟩
    ·refine As f_ rfl A5 () (by simp_all [M9, Bool.and_assoc]) (fun w hs => hs.none)
   ·refine Ed ?_; refine A6 (fun h71 => ?_) (fun h71 => ?_)
    ·refine Kl ?_; refine Al ([(6, .bool (decide ((t.r.length : Int) = 0) && Jm t.name))]) (fun hK => ?_) (fun base => ?_)
     ·refine Ey ?_; refine L1 ?_; refine L6 ?_; refine qI rfl rfl rfl Hk (fun hg77 => V8 ?_) (fun hg77 => ?_)
      ·refine Uq ?_; refine qT rfl rfl rfl (A1 call218 (C5u t.name hnm) (fun x80 => ?_)); refine Fj ?_; exact hK _ ⟨(by (conv => lhs; whnf); first | (simp_all [Bool.and_assoc]; done) | (simp_all [Bool.and_assoc]; omega)), trivial⟩
      ·refine Q1 ?_; exact hK _ ⟨(by (conv => lhs; whnf); first | (simp_all [Bool.and_assoc]; done) | (simp_all [Bool.and_assoc]; omega)), trivial⟩
     ·refine As f_ rfl A5 () (by simp_all [M9, Bool.and_assoc]) (fun w hs => hs.none)
    ·refine Kl ?_; refine Ed ?_; refine A6 (fun h82 => ?_) (fun h82 => ?_)
     ·refine Z8 ?_; refine Kl ?_; refine Al ([(6, .bool (Aa t.r && within t.r dims))]) (fun hK => ?_) (fun base => ?_)
      ·refine Ey ?_; refine q0 rfl (A1 call137 ((Kv hf (by simp_all)).1 t.r vr) (fun x88 => ?_)); refine F5 ?_; refine qI rfl rfl rfl Hk (fun hg89 => V8 ?_) (fun hg89 => ?_)
       ·refine Uq ?_; refine D2 ?_; refine qT rfl rfl rfl (A1 call219 (Mo (Kv hf (by simp_all)).2.2 t.r vr dims hd hl) (fun x93 => ?_)); refine Fj ?_; exact hK _ ⟨(by (conv => lhs; whnf); first | (simp_all [Bool.and_assoc]; done) | (simp_all [Bool.and_assoc]; omega)), trivial⟩
       ·refine H9 ?_; refine Ji ?_; exact hK _ ⟨(by (conv => lhs; whnf); first | (simp_all [Bool.and_assoc]; done) | (simp_all [Bool.and_assoc]; omega)), trivial⟩
      ·refine As f_ rfl A5 () (by simp_all [M9, Bool.and_assoc]) (fun w hs => hs.none)
     ·refine Ed ?_; refine A6 (fun h82 => ?_) (fun h82 => ?_)
      ·refine Z8 ?_; refine Kl ?_; refine Al ([(6, .bool (Aa t.r && within t.r dims))]) (fun hK => ?_) (fun base => ?_)
       ·refine Ey ?_; refine q0 rfl (A1 call137 ((Kv hf (by simp_all)).1 t.r vr) (fun x88 => ?_)); refine F5 ?_; refine qI rfl rfl rfl Hk (fun hg89 => V8 ?_) (fun hg89 => ?_)
        ·refine Uq ?_; refine D2 ?_; refine qT rfl rfl rfl (A1 call219 (Mo (Kv hf (by simp_all)).2.2 t.r vr dims hd hl) (fun x93 => ?_)); refine Fj ?_; exact hK _ ⟨(by (conv => lhs; whnf); first | (simp_all [Bool.and_assoc]; done) | (simp_all [Bool.and_assoc]; omega)), trivial⟩
        ·refine H9 ?_; refine Ji ?_; exact hK _ ⟨(by (conv => lhs; whnf); first | (simp_all [Bool.and_assoc]; done) | (simp_all [Bool.and_assoc]; omega)), trivial⟩
       ·refine As f_ rfl A5 () (by simp_all [M9, Bool.and_assoc]) (fun w hs => hs.none)
      ·refine Vy ?_; refine A6 (fun h82 => ?_) (fun h82 => ?_)
       ·refine Kl ?_; refine Al ([(6, .bool (Aa t.r && within t.r dims))]) (fun hK => ?_) (fun base => ?_)
        ·refine Ey ?_; refine q0 rfl (A1 call137 ((Kv hf (by simp_all)).1 t.r vr) (fun x88 => ?_)); refine F5 ?_; refine qI rfl rfl rfl Hk (fun hg89 => V8 ?_) (fun hg89 => ?_)
         ·refine Uq ?_; refine D2 ?_; refine qT rfl rfl rfl (A1 call219 (Mo (Kv hf (by simp_all)).2.2 t.r vr dims hd hl) (fun x93 => ?_)); refine Fj ?_; exact hK _ ⟨(by (conv => lhs; whnf); first | (simp_all [Bool.and_assoc]; done) | (simp_all [Bool.and_assoc]; omega)), trivial⟩
         ·refine H9 ?_; refine Ji ?_; exact hK _ ⟨(by (conv => lhs; whnf); first | (simp_all [Bool.and_assoc]; done) | (simp_all [Bool.and_assoc]; omega)), trivial⟩
        ·refine As f_ rfl A5 () (by simp_all [M9, Bool.and_assoc]) (fun w hs => hs.none)
       ·refine Ed ?_; refine A6 (fun h95 => ?_) (fun h95 => ?_)
        ·refine Kl ?_; refine Al ([(6, .bool (A8 t.r && within t.r dims))]) (fun hK => ?_) (fun base => ?_)
         ·refine Ey ?_; refine q0 rfl (A1 call88 ((Kv hf (by simp_all)).2.1 t.r vr) (fun x99 => ?_)); refine F5 ?_; refine qI rfl rfl rfl Hk (fun hg100 => V8 ?_) (fun hg100 => ?_)
          ·refine Uq ?_; refine D2 ?_; refine qT rfl rfl rfl (A1 call219 (Mo (Kv hf (by simp_all)).2.2 t.r vr dims hd hl) (fun x104 => ?_)); refine Fj ?_; exact hK _ ⟨(by (conv => lhs; whnf); first | (simp_all [Bool.and_assoc]; done) | (simp_all [Bool.and_assoc]; omega)), trivial⟩
          ·refine H9 ?_; refine Ji ?_; exact hK _ ⟨(by (conv => lhs; whnf); first | (simp_all [Bool.and_assoc]; done) | (simp_all [Bool.and_assoc]; omega)), trivial⟩
         ·refine As f_ rfl A5 () (by simp_all [M9, Bool.and_assoc]) (fun w hs => hs.none)
        ·refine Q4 ?_; refine L5 ?_; refine Jy ?_; refine Ef (X := Nat) (fun i => i ≤ t.sys.length ∧ ∀ j, j < i → Mx t dims (t.sys.getD j Bq) = true) (fun i => [(2, iv dims), (3, pz b3), (107, sl vs t.sys.length), (108, iv (t.sys.length : Int)), (109, iv (i : Int))]) (fun i => BLx t.sys vs VF VK2 :: RT t vr vk vs :: []) (fun i => [Ae b3 (tc t vr vk vs) 35]) (fun i => t.sys.length - i) (0) (⟨Nat.zero_le _, fun j hj => by omega⟩) (by exact Cb) ?_ ?_
         ·exact fun w hs => hs.l9
         ·intro i base0 ⟨hi, hok⟩ next0; refine Fk ?_; refine A6 (fun h110 => ?_) (fun h110 => ?_)
          ·have hlt : i < t.sys.length := by have := of_decide_eq_true h110; omega
           obtain ⟨bk, o, hav⟩ := hA2 A2; refine Jx ?_; refine Of ?_; refine C3n ?_; refine q0 rfl (Bf fun b8 => ?_); refine Rs ?_; refine G3 i hlt ?_; refine Al ([(2, iv dims), (3, pz b3), (107, sl vs t.sys.length), (108, iv (t.sys.length : Int)), (109, iv (i : Int)), (132, .bool (!(Mx t dims (t.sys.getD i Bq))))]) (fun hK => ?_) (fun base => ?_)
           ·refine Bp (pn := 1000000) (tn := false) (A := [0, 1, 3, 0, 8, 24, 63, 127, 255, 511, 1023, 2047, 4095, 8191, 16383, 32767, 16383, 131071, 262143, 524287]) (l := [0, 1, 2, 3, 4, 5, 6, 7, 8, 9, 10, 11, 12, 13, 14, 15, 16, 17, 18, 19]) (fin := []) Tab.mixed ⟨_, func164⟩ (by rfl) ?_; refine Kk ?_; refine n0 rfl (A5l ?_); refine Kk ?_; refine n0 rfl (Bk call172 (Ny t.kind) (fun x118 => ?_)); refine n0 rfl (C0g ?_); refine G9 ?_; refine nI rfl rfl rfl Hk (fun hg120 => Nr ?_) (fun hg120 => ?_)
            ·refine Ls ?_; refine nT rfl rfl rfl (Bk call88 ((B5d hf hlt).2.1 _ (VF i)) (fun x123 => ?_)); refine nT rfl rfl rfl (A5k ?_); refine S4 ?_; refine nI rfl rfl rfl Hk (fun hg126 => Nr ?_) (fun hg126 => ?_)
             ·refine Ls ?_; refine Pg ?_; refine nT rfl rfl rfl (Bk call219 (Mo (B5d hf hlt).2.2 _ (VF i) dims hd hl) (fun x130 => ?_)); refine nT rfl rfl rfl (A5k ?_); refine Lt ?_; exact hK _ ⟨rfl, rfl, rfl, rfl, rfl, (by (conv => lhs; whnf); first | (simp_all [Mx]; done) | (simp_all [Mx]; omega)), trivial⟩
             ·refine Jw ?_; refine B1r ?_; refine Ou ?_; exact hK _ ⟨rfl, rfl, rfl, rfl, rfl, (by (conv => lhs; whnf); first | (simp_all [Mx]; done) | (simp_all [Mx]; omega)), trivial⟩
            ·refine Ts ?_; refine A5g ?_; refine G9 ?_; refine Jw ?_; refine U7 ?_; exact hK _ ⟨rfl, rfl, rfl, rfl, rfl, (by (conv => lhs; whnf); first | (simp_all [Mx]; done) | (simp_all [Mx]; omega)), trivial⟩
           ·refine A6 (fun h132 => ?_) (fun h132 => ?_)
            ·refine Bw ?_; have ha := B1h hlt (by simpa using h132); refine As f_ rfl A5 () (by rw [M9, ha]; clear hok ha h132; simp_all [Bool.and_assoc]) (fun w hs => hs.none)
            ·refine Ik ?_; have hb : Mx t dims (t.sys.getD i Bq) = true := by simpa using h132
             refine A0 (fun w hs => ?_) (next0 (i + 1) _ ⟨hlt, fun j hj => (by rcases Nat.lt_succ_iff_lt_or_eq.mp hj with h | h; exact hok j h; subst h; exact hb)⟩ A2 Cb); exact (hs.l9).drop
          ·have hge : i = t.sys.length := by have := of_decide_eq_false h110; omega
           refine Dt ?_; refine Jq ?_; refine L1 ?_; refine C7t ?_; have ha := D3p (t := t) (g := Mx t dims) (by rw [← hge]; exact hok); refine As f_ rfl A5 () (by rw [M9, ha]; clear hok ha; simp_all [Bool.and_assoc]) (fun w hs => hs.none)
abbrev D3y (t : T) : Prop := (Nx t = true ∨ B9z) → ∀ (vars dims : Int) (bound : Bool) vr vk vs, Ak vars → 0 ≤ dims → dims + depth t ≤ 1152921504606846976 → Spec prog 86 #[.agg (tc t vr vk vs).toArray, iv vars, iv dims, .bool bound] [RT t vr vk vs] [] (fun _ : Unit => .bool (Hx t vars dims bound)) (fun _ => []) (fun _ => [])
abbrev E3f (b1 b2 b3 : Nat) : List Value := [pz b1, pz b2, pz b3]
abbrev E3e (b1 b2 b3 : Nat) (vars dims : Int) (bound : Bool) : List Bj := [Ae b1 [iv vars] 3, Ae b2 [iv dims] 3, Ae b3 [.bool bound] 4]
def Pb (v d : Int) : Prop := 0 ≤ v ∧ v ≤ 1 ∧ 0 ≤ d ∧ d ≤ 1
theorem B5w (k i : Int) : Pb (binds k i).1 (binds k i).2 := by
 unfold binds Pb; repeat (split; (simp))
 simp
theorem D0k {t : T} {k : T} {v d : Int} (h : (k, v, d) ∈ parts t) : Pb v d := by
 have hk : ∀ (kind : Int) (i : Nat) (ks : List T), (k, v, d) ∈ Em kind i ks → Pb v d := by
  intro kind i ks
  induction ks generalizing i with
  | nil => intro h; simp [Em] at h
  | cons a ks ih =>
   intro h; simp only [Em, List.mem_cons] at h; rcases h with h | h
   ·have e : (v, d) = binds kind i := (Prod.mk.inj h).2; have := B5w kind i; rw [← e] at this; exact this
   ·exact ih _ h
 have hs : ∀ (kind : Int) (bs : List Br), (k, v, d) ∈ Di kind bs → Pb v d := by
  intro kind bs
  induction bs with
  | nil => intro h; simp [Di] at h
  | cons b bs ih =>
   intro h; simp only [Di, List.mem_append, List.mem_map] at h; rcases h with ⟨a, ha, e⟩ | h
   ·have e2 := (Prod.mk.inj e).2; have e3 := (Prod.mk.inj e2); rw [← e3.1, ← e3.2]; unfold Pb more; split <;> simp
   ·exact ih h
 unfold parts at h; rcases List.mem_append.mp h with h | h
 ·exact hk _ _ _ h
 ·exact hs _ _ h
theorem Yx {t : T} {p : Part} (h : p ∈ parts t) : depth p.1 < depth t := by
 obtain ⟨m, hm⟩ := List.mem_iff_getElem?.mp h; exact B9h hm
theorem C7m (k : T) (vr vk vs : SH) (b1 b2 b3 : Nat) (vars dims v d : Int) (bound : Bool) (hv : Ak vars) (h0 : 0 ≤ dims) (hvd : Pb v d) (hl : dims + 1 + depth k ≤ 1152921504606846976) (hp : Nx k = true ∨ B9z) (ih : D3y k) : Spec prog 165 #[.agg (tc k vr vk vs).toArray, iv v, iv d, pz b1, pz b2, pz b3] [RT k vr vk vs] (E3e b1 b2 b3 vars dims bound) (fun _ : Unit => .bool (Hx k (IntKind.i64.wrap (vars + if vars < 0 then 0 else v)) (dims + d) bound)) (fun _ => []) (fun _ => E3e b1 b2 b3 vars dims bound) := by
 refine D1 ntmps165 fun B hB => ?_
 obtain ⟨hv0, hv1, hd0, hd1⟩ := hvd; refine B8 ?_; refine q0 rfl (B3 fun b6 => ?_); refine J1 ?_; refine Vx ?_; refine Pd ?_; refine Al ([(1, iv (if vars < 0 then 0 else v)), (2, iv d), (3, pz b1), (4, pz b2), (5, pz b3), (6, pz b6)]) (fun hK => ?_) (fun base => ?_)
 ·refine A6 (fun h11 => ?_) (fun h11 => ?_)
  ·refine Mm ?_; exact hK _ ⟨(by first | (rw [if_pos (of_decide_eq_true h11)]; rfl) | (rw [if_neg (of_decide_eq_false h11)]; rfl)), rfl, rfl, rfl, rfl, rfl, trivial⟩
  ·refine H7 ?_; exact hK _ ⟨(by first | (rw [if_pos (of_decide_eq_true h11)]; rfl) | (rw [if_neg (of_decide_eq_false h11)]; rfl)), rfl, rfl, rfl, rfl, rfl, trivial⟩
 ·refine F9 ?_; refine A8r ?_; refine F5 ?_; refine q0 rfl (D1g ?_); refine A8r ?_; refine U6 ?_; refine A8r ?_; refine q0 rfl (A1 call86 (ih hp (IntKind.i64.wrap (vars + if vars < 0 then 0 else v)) (dims + d) bound vr vk vs (W7 _) A2 A2) (fun x20 => ?_)); refine C9 ?_; refine As f_ rfl A5 () rfl (fun w hs => (hs.l8).drop)
theorem D3o (t : T) (hp : Nx t = true ∨ B9z) (ih : ∀ p, p ∈ parts t → D3y p.1) (vars dims : Int) (bound : Bool) (vr vk vs : SH) (hv : Ak vars) (h0 : 0 ≤ dims) (hl : dims + depth t ≤ 1152921504606846976) : Spec prog 86 #[.agg (tc t vr vk vs).toArray, iv vars, iv dims, .bool bound] [RT t vr vk vs] [] (fun _ : Unit => .bool (Hx t vars dims bound)) (fun _ => []) (fun _ => []) := by
 refine D1 ntmps86 fun B hB => ?_
 refine B8 ?_; refine q0 rfl (B3 fun b4 => ?_); refine q0 rfl (B3 fun b5 => ?_); refine q0 rfl (B3 fun b6 => ?_); refine q0 rfl (B3 fun b7 => ?_); refine Kj ?_; refine Al ([(4, pz b4), (5, pz b5), (6, pz b6), (7, pz b7), (20, .bool ((bound && decide (24 < dims)) || !(M9 t vars dims)))]) (fun hK => ?_) (fun base => ?_)
 ·refine O8 ?_; refine A8r ?_; refine F5 ?_; refine qI rfl rfl rfl Hk (fun hg10 => D5s ?_) (fun hg10 => ?_)
  ·refine Vp ?_; refine Hl ?_; refine qI rfl rfl rfl Hk (fun hg14 => Qn ?_) (fun hg14 => ?_)
   ·refine Uq ?_; refine Uq ?_; refine qT rfl rfl rfl (A1 call164 (B3t t (A1y hp) vr vk vs vars dims h0 (by unfold Ak; omega)) (fun x18 => ?_)); refine Rz ?_; refine Ge ?_; exact hK _ ⟨rfl, rfl, rfl, rfl, (by (conv => lhs; whnf); first | (simp_all [Bool.and_assoc]; done) | (simp_all [Bool.and_assoc]; omega)), trivial⟩
   ·refine Ga ?_; refine Js ?_; exact hK _ ⟨rfl, rfl, rfl, rfl, (by (conv => lhs; whnf); first | (simp_all [Bool.and_assoc]; done) | (simp_all [Bool.and_assoc]; omega)), trivial⟩
  ·refine Mw ?_; refine Hz ?_; refine qT rfl rfl rfl (Qn ?_); refine Uq ?_; refine Uq ?_; refine qT rfl rfl rfl (A1 call164 (B3t t (A1y hp) vr vk vs vars dims h0 (by unfold Ak; omega)) (fun x18 => ?_)); refine Rz ?_; refine Ge ?_; exact hK _ ⟨rfl, rfl, rfl, rfl, (by (conv => lhs; whnf); first | (simp_all [Bool.and_assoc]; done) | (simp_all [Bool.and_assoc]; omega)), trivial⟩
 ·refine A6 (fun h20 => ?_) (fun h20 => ?_)
  ·refine Bw ?_; refine As f_ rfl A5 () (by rw [B1i, h20]; rfl) (fun w hs => hs.none)
  ·refine H7 ?_; refine F9 ?_; refine Up ?_; have hE := A7q t vr vk vs 165 (E3f b5 b6 b7) [] (E3e b5 b6 b7 vars dims bound) (fun p => Hx p.1 (IntKind.i64.wrap (vars + if vars < 0 then 0 else p.2.1)) (dims + p.2.2) bound) call165 (fun k v d hm vr vk vs => C7m k vr vk vs b5 b6 b7 vars dims v d bound hv h0 (D0k hm) (by have := Yx hm; simp only at this; omega) (B7s hp hm) (ih _ hm)); refine q0 rfl (A1 call98 (hE) (fun x23 => ?_)); refine C9 ?_; refine As f_ rfl A5 () (by rw [B1i, h20]; rfl) (fun w hs => hs.none)
theorem B6e : ∀ t : T, D3y t := T.ind fun t ih hp vars dims bound vr vk vs hv h0 hl => D3o t hp ih vars dims bound vr vk vs hv h0 hl
theorem B7k (t : T) (hp : Nx t = true ∨ B9z) (vr vk vs : SH) (vars dims : Int) (hv : Ak vars) (hsz : size t ≤ 1152921504606846) : Spec prog 38 #[.agg (tc t vr vk vs).toArray, iv vars, iv dims] [RT t vr vk vs] [] (fun _ : Unit => iv (Fc t vars dims)) (fun _ => []) (fun _ => []) := by
 refine D1 ntmps38 fun B hB => ?_
 have hds := K5 t; refine B8 ?_; refine q0 rfl (B3 fun b3 => ?_); refine Kj ?_; refine Al ([(1, iv vars), (2, iv dims), (3, pz b3), (17, .bool (decide (vars < 0) || decide (dims < 0) || decide (24 < dims)))]) (fun hK => ?_) (fun base => ?_)
 ·refine U5 ?_; refine qI rfl rfl rfl Hk (fun hg10 => Cf ?_) (fun hg10 => ?_)
  ·refine B1q ?_; refine Hz ?_; refine qI rfl rfl rfl Hk (fun hg14 => Cf ?_) (fun hg14 => ?_)
   ·refine Vp ?_; refine Ge ?_; exact hK _ ⟨rfl, rfl, rfl, (by (conv => lhs; whnf); first | (simp_all [Bool.and_assoc]; done) | (simp_all [Bool.and_assoc]; omega)), trivial⟩
   ·refine Q3 ?_; exact hK _ ⟨rfl, rfl, rfl, (by (conv => lhs; whnf); first | (simp_all [Bool.and_assoc]; done) | (simp_all [Bool.and_assoc]; omega)), trivial⟩
  ·refine Mw ?_; refine Hl ?_; refine On ?_; exact hK _ ⟨rfl, rfl, rfl, (by (conv => lhs; whnf); first | (simp_all [Bool.and_assoc]; done) | (simp_all [Bool.and_assoc]; omega)), trivial⟩
 ·refine A6 (fun h17 => ?_) (fun h17 => ?_)
  ·refine Bw ?_; refine As f_ rfl A5 () (by rw [Fc, if_pos h17]) (fun w hs => hs.none)
  ·have hb : 0 ≤ vars ∧ 0 ≤ dims ∧ dims ≤ 24 := by simp at h17; omega
   refine Hp ?_; refine F9 ?_; refine q0 rfl (A1 call85 (A1n t vr vk vs) (fun x19 => ?_)); refine Ol ?_; refine A6 (fun h21 => ?_) (fun h21 => ?_)
   ·have hs := of_decide_eq_true h21; refine Mn ?_; refine As f_ rfl A5 () (by rw [Fc, if_neg (by rw [h17]; simp), if_pos hs]) (fun w hs => hs.none)
   ·have hs := of_decide_eq_false h21; refine Hp ?_; refine F9 ?_; refine Ha ?_; refine q0 rfl (A1 call86 (B6e t hp vars dims true vr vk vs hv A2 A2) (fun x26 => ?_)); refine H4 ?_; refine A6 (fun h27 => ?_) (fun h27 => ?_)
    ·refine Bw ?_; refine As f_ rfl A5 () (by rw [Fc, if_neg (by rw [h17]; simp), if_neg hs]; simp_all) (fun w hs => hs.none)
    ·refine H7 ?_; refine Bw ?_; refine As f_ rfl A5 () (by rw [Fc, if_neg (by rw [h17]; simp), if_neg hs]; simp_all) (fun w hs => hs.none)
theorem Zw (t : T) (hp : Nx t = true ∨ B9z) (vr vk vs : SH) (hsz : size t ≤ 1152921504606846) : Spec prog 32 #[.agg (tc t vr vk vs).toArray] [RT t vr vk vs] [] (fun _ : Unit => iv (C0 t)) (fun _ => []) (fun _ => []) := by
 refine D1 ntmps32 fun B hB => ?_
 have hds := K5 t; refine B8 ?_; refine q0 rfl (B3 fun b1 => ?_); refine U4 ?_; refine q0 rfl (A1 call85 (A1n t vr vk vs) (fun x5 => ?_)); refine Ol ?_; refine A6 (fun h7 => ?_) (fun h7 => ?_)
 ·have hs := of_decide_eq_true h7; refine Mn ?_; refine As f_ rfl A5 () (by rw [C0, if_pos hs]) (fun w hs => hs.none)
 ·have hs := of_decide_eq_false h7; refine Hp ?_; refine F9 ?_; refine q0 rfl (A1 call86 (B6e t hp (-1) 24 false vr vk vs (by unfold Ak; omega) A2 A2) (fun x10 => ?_)); refine H4 ?_; refine A6 (fun h11 => ?_) (fun h11 => ?_)
  ·refine Bw ?_; refine As f_ rfl A5 () (by rw [C0, if_neg hs]; simp_all) (fun w hs => hs.none)
  ·refine H7 ?_; refine Bw ?_; refine As f_ rfl A5 () (by rw [C0, if_neg hs]; simp_all) (fun w hs => hs.none)
theorem A8s {n : Int} (h : Ak n) : IntKind.i64.wrap n = n := by rw [IntKind.wrap_i64]; unfold Ak at h; omega
theorem A1m {t : T} : sized t = 0 ↔ depth t ≤ 200 ∧ size t ≤ 20000 := by
 unfold sized
 split
 ·simp; omega
 ·split
  ·simp; omega
  ·simp; omega
theorem B7j {t : T} {v d : Int} : Fc t v d = 0 ↔ 0 ≤ v ∧ 0 ≤ d ∧ d ≤ 24 ∧ sized t = 0 ∧ Hx t v d true = true := by
 unfold Fc
 split
 ·rename_i h
  simp only [Bool.or_eq_true, decide_eq_true_eq] at h
  constructor
  ·intro h2; cases h2
  ·intro h2; omega
 ·rename_i h
  simp only [Bool.or_eq_true, decide_eq_true_eq] at h
  split
  ·rename_i h2; constructor
   ·intro h3; exact absurd h3 h2
   ·intro h3; exact absurd h3.2.2.2.1 h2
  ·rename_i h2
   have h2 : sized t = 0 := by simpa using h2
   split
   ·rename_i h3; simp only [h2, h3, and_self, and_true, true_iff]; omega
   ·rename_i h3; simp only [h3]; constructor
    ·intro h4; cases h4
    ·intro h4; exact absurd h4.2.2.2.2 Jp
theorem B5c {t : T} : C0 t = 0 ↔ sized t = 0 ∧ Hx t (-1) 24 false = true := by
 unfold C0
 split
 ·rename_i h; constructor
  ·intro h2; exact absurd h2 h
  ·intro h2; exact absurd h2.1 h
 ·rename_i h
  have h : sized t = 0 := by simpa using h
  split
  ·rename_i h3; simp [h, h3]
  ·rename_i h3; simp [h3]
theorem C6z {t k : T} (hk : k ∈ t.kids) : depth k < depth t := by obtain ⟨p, hp, e⟩ := H2 hk; exact e ▸ Yx hp
def C2v (s : Nat) (i : Int) : Nat := if 0 ≤ i ∧ i < 24 then ((s &&& 16777215) &&& (2 ^ i.toNat - 1)) ||| ((s &&& 16777215) / 2 ^ (i.toNat + 1) * 2 ^ i.toNat) else s &&& 16777215
theorem I4 (s : Nat) : s &&& 16777215 < 16777216 := by rw [A0f]; exact Nat.mod_lt _ Jp
theorem B5p (s : Nat) (i : Int) : C2v s i < 16777216 := by
 have h := I4 s
 unfold C2v
 split
 ·refine Nat.or_lt_two_pow (n := 24) (Nat.lt_of_le_of_lt Nat.and_le_left h) ?_
  generalize s &&& 16777215 = q at *
  have h1 : q / 2 ^ (i.toNat + 1) * 2 ^ i.toNat ≤ q / 2 ^ i.toNat * 2 ^ i.toNat := Nat.mul_le_mul_right _ (Nat.div_le_div_left (Nat.pow_le_pow_right A2 A2) (Nat.pow_pos A2))
  have h2 := Nat.div_mul_le_self q (2 ^ i.toNat)
  show _ < 16777216
  omega
 ·exact h
theorem Qr (l : List Cl) : Dl l < 16777216 := by rw [A3n]; exact I4 _
def Aj (s : Nat) (f b : Int) : Int × Nat :=
 if f < 0 ∨ b < 0 then (2, 0) else
 if Bi (s &&& 16777215) (2 ^ (min f.toNat 24) - 1) = 0 then (0, (s &&& 16777215) &&& (2 ^ (min f.toNat 24) - 1)) else
 if 24 ≤ b ∨ 16777215 < Bi (s &&& 16777215) (2 ^ (min f.toNat 24) - 1) * 2 ^ b.toNat then (10, 0) else
 (0, ((s &&& 16777215) &&& (2 ^ (min f.toNat 24) - 1)) ||| (Bi (s &&& 16777215) (2 ^ (min f.toNat 24) - 1) * 2 ^ b.toNat))
theorem G0 (a b i : Nat) : (Bi a b).testBit i = (decide (i < 32) && a.testBit i && !b.testBit i) := by
 unfold Bi
 rw [BitVec.testBit_toNat]
 by_cases h : i < 32
 ·rw [BitVec.getLsbD_and, BitVec.getLsbD_not, BitVec.getLsbD_ofNat, BitVec.getLsbD_ofNat]
  simp [h]
 ·have : (BitVec.ofNat 32 a &&& ~~~BitVec.ofNat 32 b).getLsbD i = false := BitVec.getLsbD_of_ge _ _ A2
  rw [this]; simp [h]
theorem Fq (s i : Nat) : (s &&& 16777215).testBit i = (decide (i < 24) && s.testBit i) := by
 rw [A0f, Nat.testBit_mod_two_pow]
theorem Mt (m i : Nat) : (2 ^ m - 1).testBit i = decide (i < m) := Nat.testBit_two_pow_sub_one m i
theorem A8e {q m : Nat} (h : q < 16777216) : Bi q m < 16777216 := by
 refine Nat.lt_pow_two_of_testBit (n := 24) _ (fun i hi => ?_)
 rw [G0, Nat.testBit_lt_two_pow (x := q) (Nat.lt_of_lt_of_le h (Nat.pow_le_pow_right (n := 2) Jp hi))]
 simp
theorem Iu (s : Nat) (f b : Int) : (Aj s f b).2 < 16777216 := by
 unfold Aj
 split
 ·decide
 ·split
  ·exact Nat.lt_of_le_of_lt Nat.and_le_left (I4 s)
  ·split
   ·decide
   ·refine Nat.or_lt_two_pow (n := 24) ?_ ?_
    ·exact Nat.lt_of_le_of_lt Nat.and_le_left (I4 s)
    ·rename_i h; simp only [not_or] at h; have := h.2; omega
def B0 (c : Cl) (f b : Int) : Int × Cl :=
 if Ao c = false then (2, A4) else
 if (Aj c.pos f b).1 ≠ 0 then ((Aj c.pos f b).1, A4) else
 if (Aj c.neg f b).1 ≠ 0 then ((Aj c.neg f b).1, A4) else
 (0, ⟨(Aj c.pos f b).2, (Aj c.neg f b).2⟩)
theorem Rg (c : Cl) (f b : Int) : u32 (B0 c f b).2 := by
 have h1 := Iu c.pos f b
 have h2 := Iu c.neg f b
 unfold B0
 split
 ·exact ⟨(by decide : (0 : Nat) < 4294967296), (by decide : (0 : Nat) < 4294967296)⟩
 ·split
  ·exact ⟨(by decide : (0 : Nat) < 4294967296), (by decide : (0 : Nat) < 4294967296)⟩
  ·split
   ·exact ⟨(by decide : (0 : Nat) < 4294967296), (by decide : (0 : Nat) < 4294967296)⟩
   ·exact ⟨by show (Aj c.pos f b).2 < _; omega, by show (Aj c.neg f b).2 < _; omega⟩
def Fw (g : Cl → Int × Cl) (l : List Cl) : Int × List Cl := match l.find? (fun c => (g c).1 ≠ 0) with
 | some c => ((g c).1, [])
 | none => (0, l.map fun c => (g c).2)
theorem A7j {g : Cl → Int × Cl} {l : List Cl} {i : Nat} (hi : i < l.length) (h0 : ∀ j, j < i → (g (l.getD j A4)).1 = 0) (h : (g (l.getD i A4)).1 ≠ 0) : Fw g l = ((g (l.getD i A4)).1, []) := by
 have : l.find? (fun c => (g c).1 ≠ 0) = some (l.getD i A4) := by
  rw [List.find?_eq_some_iff_getElem]
  rw [Eo (d := A4) hi] at h ⊢
  refine ⟨by simpa using h, i, hi, rfl, fun j hj => ?_⟩
  have := h0 j hj
  rw [Eo (d := A4) A2] at this
  simp [this]
 rw [Fw, this]
theorem A3k {g : Cl → Int × Cl} {l : List Cl} (h0 : ∀ j, j < l.length → (g (l.getD j A4)).1 = 0) : Fw g l = (0, l.map fun c => (g c).2) := by
 have : l.find? (fun c => (g c).1 ≠ 0) = none := by
  rw [List.find?_eq_none]
  intro x hx
  obtain ⟨j, hj, e⟩ := List.mem_iff_getElem.mp hx
  have := h0 j hj
  rw [Eo (d := A4) hj, e] at this
  simp [this]
 rw [Fw, this]
theorem A7i {g : Cl → Int × Cl} {l : List Cl} : (Fw g l).1 = 0 ↔ ∀ c, c ∈ l → (g c).1 = 0 := by
 unfold Fw
 cases h : l.find? (fun c => (g c).1 ≠ 0) with
 | none =>
  rw [List.find?_eq_none] at h
  simp only [true_iff]
  intro c hc
  simpa using h c hc
 | some c =>
  have h1 := List.find?_some h
  have h2 := List.mem_of_find?_eq_some h
  simp only
  refine ⟨fun h3 => ?_, fun h3 => h3 c h2⟩
  simp at h1; exact absurd h3 h1
theorem C6s {g : Cl → Int × Cl} {l : List Cl} (h : (Fw g l).1 = 0) : Fw g l = (0, l.map fun c => (g c).2) :=
 A3k fun j hj => A7i.mp h _ (Ac hj)
theorem Uj {l : List Cl} : Aa l = true ↔ Ax l = (0, l) := by
 rw [← Rc, Bool.and_eq_true, decide_eq_true_eq, decide_eq_true_eq]
 constructor
 ·rintro ⟨h1, h2⟩; exact Prod.ext h1 h2
 ·intro h; rw [h]; exact ⟨rfl, rfl⟩
def An (l : List Cl) (f b : Int) : Int × List Cl :=
 if Aa l = false then (2, []) else
 if (Fw (fun c => B0 c f b) l).1 ≠ 0 then ((Fw (fun c => B0 c f b) l).1, []) else Ax (Fw (fun c => B0 c f b) l).2
def Cp (by_ : Int) (l : List Cl) (f : Int) : B9 (List Cl) :=
 if by_ = 0 ∨ 24 ≤ f then .ok l else if (An l f by_).1 = 0 then .ok (An l f by_).2 else .bad (An l f by_).1
def Ct (vb db : Int) : Tr (Int × Int) where
 own c k n _ r := (Cp db r c.2).bind fun r' => if k = 1 ∧ c.1 ≤ n then (if 1000000000 - vb < n then .bad 100 else .ok (.inr (n + vb, r'))) else .ok (.inr (n, r'))
 B1 c f := (Cp db f c.2).bind fun f' => .ok (some f')
 S2 c b := .ok (c.1 + b.1, c.2 + b.2)
section
variable {C : Type} {A : Tr C} {t : T} {c : C} {e : Int}
theorem J4 (h : A.own c t.kind t.n t.name t.r = .bad e) : Cq A t c = .bad e := by rw [Mg, h]; rfl
theorem Qw {p : Int × List Cl} {i : Nat} {l : List T} (h : A.own c t.kind t.n t.name t.r = .ok (.inr p)) (hi : i < t.kids.length) (hl : Fb A t.kind 0 (t.kids.take i) c = .ok l) {c' : C} (hc : A.S2 c (binds t.kind i) = .ok c') (hb : Cq A (t.kids.getD i t0) c' = .bad e) : Cq A t c = .bad e := by
 have h1 : Fb A t.kind 0 (t.kids.take (i + 1)) c = .bad e := by
  rw [Ad (d := t0) hi, Uw, hl]
  simp only [B9.bind, List.length_take, Nat.zero_add, Nat.min_eq_left (Nat.le_of_lt hi)]
  rw [hc]; simp only; rw [hb]
 have h2 := A5u (m := t.kids.drop (i + 1)) h1
 rw [List.take_append_drop] at h2
 rw [Mg, h]; simp only [B9.bind]; rw [h2]
theorem S5 {k : Int} {ts : List T} {i : Nat} {l : List T} {u : T} (hi : i < ts.length) (hl : Fb A k 0 (ts.take i) c = .ok l) {c' : C} (hc : A.S2 c (binds k i) = .ok c') (hb : Cq A (ts.getD i t0) c' = .ok u) : Fb A k 0 (ts.take (i + 1)) c = .ok (l ++ [u]) := by
 rw [Ad (d := t0) hi, Uw, hl]
 simp only [B9.bind, List.length_take, Nat.zero_add, Nat.min_eq_left (Nat.le_of_lt hi)]
 rw [hc]; simp only; rw [hb]
theorem Qx {k : Int} {ts : List T} {i : Nat} {l : List T} (hi : i < ts.length) (hl : Ee A k (ts.take i) c = .ok l) {c' : C} (hc : A.S2 c (0, more k) = .ok c') (hb : Cq A (ts.getD i t0) c' = .bad e) : Ee A k ts c = .bad e := by
 have h1 : Ee A k (ts.take (i + 1)) c = .bad e := by
  rw [Ad (d := t0) hi, Uv, hl]
  simp only [B9.bind]
  rw [hc]; simp only; rw [hb]
 have h2 := A5r (m := ts.drop (i + 1)) h1
 rwa [List.take_append_drop] at h2
theorem S6 {k : Int} {ts : List T} {i : Nat} {l : List T} {u : T} (hi : i < ts.length) (hl : Ee A k (ts.take i) c = .ok l) {c' : C} (hc : A.S2 c (0, more k) = .ok c') (hb : Cq A (ts.getD i t0) c' = .ok u) : Ee A k (ts.take (i + 1)) c = .ok (l ++ [u]) := by
 rw [Ad (d := t0) hi, Uv, hl]
 simp only [B9.bind]
 rw [hc]; simp only; rw [hb]
theorem Gr {p : Int × List Cl} {s : Nat} {l : List T} {bs : List Br} (h : A.own c t.kind t.n t.name t.r = .ok (.inr p)) (hl : Fb A t.kind 0 t.kids c = .ok l) (hs : s < t.sys.length) (hb : F6 A t.kind (t.sys.take s) c = .ok bs) (hf : A.B1 c (t.sys.getD s Bq).B1 = .bad e ∨ ∃ f', A.B1 c (t.sys.getD s Bq).B1 = .ok (some f') ∧ Ee A t.kind (t.sys.getD s Bq).kids c = .bad e) : Cq A t c = .bad e := by
 have h1 : F6 A t.kind (t.sys.take (s + 1)) c = .bad e := by
  rw [Ad (d := Bq) hs, Qy, hb]
  simp only [B9.bind]
  rcases hf with hf | ⟨f', hf, h2⟩
  ·rw [hf]
  ·rw [hf]; simp only; rw [h2]
 have h2 := Y3 (m := t.sys.drop (s + 1)) h1
 rw [List.take_append_drop] at h2
 rw [Mg, h]; simp only [B9.bind]; rw [hl]; simp only; rw [h2]
theorem Ov {k : Int} {ss : List Br} {s : Nat} {bs : List Br} {f' : List Cl} {ks : List T} (hs : s < ss.length) (hb : F6 A k (ss.take s) c = .ok bs) (hf : A.B1 c (ss.getD s Bq).B1 = .ok (some f')) (hk : Ee A k (ss.getD s Bq).kids c = .ok ks) : F6 A k (ss.take (s + 1)) c = .ok (bs ++ [.mk f' ks]) := by
 rw [Ad (d := Bq) hs, Qy, hb]
 simp only [B9.bind]
 rw [hf]; simp only; rw [hk]
theorem Qv {p : Int × List Cl} {l : List T} {bs : List Br} (h : A.own c t.kind t.n t.name t.r = .ok (.inr p)) (hl : Fb A t.kind 0 t.kids c = .ok l) (hb : F6 A t.kind t.sys c = .ok bs) : Cq A t c = .ok (.mk t.kind p.1 t.name p.2 l bs) := by
 rw [Mg, h]; simp only [B9.bind]; rw [hl]; simp only; rw [hb]
end
theorem A7h {g : Cl → Int × Cl} {l : List Cl} (h : ∀ c, u32 (g c).2) : ∀ c, c ∈ (Fw g l).2 → u32 c := by
 intro c hc
 unfold Fw at hc
 split at hc
 ·cases hc
 ·obtain ⟨d, _, rfl⟩ := List.mem_map.mp hc; exact h d
theorem C6t {g : Cl → Int × Cl} {l : List Cl} : (Fw g l).2.length ≤ l.length := by
 unfold Fw
 split <;> simp
theorem X1 (k : Int) : 0 ≤ more k ∧ more k ≤ 1 := by unfold more; split <;> omega
theorem S8 {t : T} {i : Nat} (h : i < t.kids.length) : size (t.kids.getD i t0) < size t := by
 obtain ⟨p, hp, e⟩ := H2 (Ac (d := t0) h); exact e ▸ Lc hp
theorem S7 {t : T} {s k : Nat} (h : s < t.sys.length) (h2 : k < (t.sys.getD s Bq).kids.length) : size ((t.sys.getD s Bq).kids.getD k t0) < size t := by
 obtain ⟨p, hp, e⟩ := Gy (Ac (d := Bq) h) (Ac (d := t0) h2); exact e ▸ Lc hp
def H5 (vb : Int) (v : Int) (k n : Int) : Int := if k = 1 ∧ v ≤ n then n + vb else n
theorem B4o {vb db v d : Int} {t : T} {g : List Cl} (hg : Cp db t.r d = .ok g) (h : ¬ (t.kind = 1 ∧ v ≤ t.n ∧ 1000000000 - vb < t.n)) : (Ct vb db).own (v, d) t.kind t.n t.name t.r = .ok (.inr (H5 vb v t.kind t.n, g)) := by
 simp only [Ct, hg, B9.bind, H5]
 split
 ·rename_i h1
  rw [if_neg (fun h2 => h ⟨h1.1, h1.2, h2⟩)]
 ·rfl
theorem X4 {vb db v d : Int} {t : T} {e : Int} (hg : Cp db t.r d = .bad e) : (Ct vb db).own (v, d) t.kind t.n t.name t.r = .bad e := by
 simp only [Ct, hg, B9.bind]
theorem X5 {vb db v d : Int} {t : T} {g : List Cl} (hg : Cp db t.r d = .ok g) (h : t.kind = 1 ∧ v ≤ t.n ∧ 1000000000 - vb < t.n) : (Ct vb db).own (v, d) t.kind t.n t.name t.r = .bad 100 := by
 simp only [Ct, hg, B9.bind]
 rw [if_pos ⟨h.1, h.2.1⟩, if_pos h.2.2]
theorem N8 {vb db v d : Int} {f g : List Cl} (hg : Cp db f d = .ok g) : (Ct vb db).B1 (v, d) f = .ok (some g) := by simp only [Ct, hg, B9.bind]
theorem Ui {vb db v d : Int} {f : List Cl} {e : Int} (hg : Cp db f d = .bad e) : (Ct vb db).B1 (v, d) f = .bad e := by simp only [Ct, hg, B9.bind]
theorem X6 {vb db v d : Int} {b : Int × Int} : (Ct vb db).S2 (v, d) b = .ok (v + b.1, d + b.2) := rfl
theorem Y4 {vb db : Int} {k : Int} {c : Int × Int} : ∀ {l l' : List Br}, F6 (Ct vb db) k l c = .ok l' → l'.length = l.length
 | [], l', h => by rw [G2] at h; injection h with h; subst h; rfl
 | a :: l, l', h => by
  rw [G7] at h
  obtain ⟨o, ho, h⟩ := B9.Ai h
  obtain ⟨g, _, hg⟩ := B9.Ai (x := Cp db a.B1 c.2) ho
  injection hg with hg
  subst hg
  obtain ⟨ks', _, h⟩ := B9.Ai h
  obtain ⟨bs', h3, h⟩ := B9.Ai h
  injection h with h
  subst h
  simp [Y4 h3]
theorem Ul : h0.er = t0 := by simp [h0, HT.er, HT.erL, HT.erB, t0]
theorem St.h0R {B : Cu} {Γ : List Fact} {Ms : List Bj} {w : World} (y : Tys) (hs : St B Γ Ms w) : St B Γ (Dc (Gb y h0) :: Ms) w := by
 have h1 := ((((hs.Pu).Pu).Bs 2 y.b).Bs 6 y.t).Bs 2 y.c
 exact St.C2m (y := y) (k := 0) (n := 0) (nm := ByteArray.mk #[]) (r := []) (v := Gw) (u := Gw) (x := Gw) (ks := []) (ss := []) rfl rfl rfl rfl rfl rfl (by simpa [F1, Ps] using h1)
def Cm (t : T) (ns : List Int) (r : B9 T) : Int × T := if C0 t ≠ 0 then (C0 t, t0) else if ns.all (fun n => decide (0 ≤ n)) = false then (2, t0) else match r with
 | .ok u => (0, u)
 | .bad e => (e, t0)
theorem B8s {t : T} {ns : List Int} {r : B9 T} (h : C0 t ≠ 0) : Cm t ns r = (C0 t, t0) := by unfold Cm; rw [if_pos h]
theorem C6p {t : T} {ns : List Int} {r : B9 T} (h : C0 t = 0) (h2 : ns.all (fun n => decide (0 ≤ n)) = false) : Cm t ns r = (2, t0) := by unfold Cm; rw [if_neg (by simp [h]), if_pos h2]
theorem B5a {t u : T} {ns : List Int} {r : B9 T} (h : C0 t = 0) (h2 : ns.all (fun n => decide (0 ≤ n)) = true) (hr : r = .ok u) : Cm t ns r = (0, u) := by unfold Cm; rw [if_neg (by simp [h]), if_neg (by simp [h2]), hr]
theorem A7e {t : T} {e : Int} {ns : List Int} {r : B9 T} (h : C0 t = 0) (h2 : ns.all (fun n => decide (0 ≤ n)) = true) (hr : r = .bad e) : Cm t ns r = (e, t0) := by unfold Cm; rw [if_neg (by simp [h]), if_neg (by simp [h2]), hr]
theorem Spec.P1 {P : Program} {k : FuncId} {args : Array Value} {pre : List Fact} (y : Tys) {u : T} (g : Value → Value) (h : Spec P k args pre [] (fun x : {h : HT // h.er = u} => g (.agg (tc u x.1.vr x.1.vk x.1.vs).toArray)) (fun _ => []) (fun x => [Dc (Gb y x.1)])) (hok : ∀ ok w, St ⟨ok, Bo [], w⟩ pre [] w → Rw u) :
  Spec P k args pre [] (fun x : SH × SH × SH => g (.agg (tc u x.1 x.2.1 x.2.2).toArray)) (fun x => [RT u x.1 x.2.1 x.2.2]) (fun _ => []) := fun ok w hk hs => (h ok w hk hs).mono fun e w' hh => by
 obtain ⟨x, he, hs'⟩ := hh
 have h1 : St ⟨ok, Bo [], w⟩ [] (Gb y x.1 ++ []) w' := hs'.unpack
 have h2 := St.P1 y trivial x.1 (by rw [x.2]; exact hok ok w hs) h1
 rw [x.2] at h2
 exact ⟨(x.1.vr, x.1.vk, x.1.vs), he, h2⟩
theorem Ry.P1 {P : Program} {Te : TypeId} {k : FuncId} {args : Array Value} {pre : List Fact} (y : Tys) {r : B9 T} (h : Ry P Te k args pre r (fun (u : T) => fun x : {h : HT // h.er = u} => .agg (tc u x.1.vr x.1.vk x.1.vs).toArray) (fun _ _ => []) (fun (u : T) => fun x : {h : HT // h.er = u} => [Dc (Gb y x.1)])) (hok : ∀ u, r = .ok u → ∀ ok w, St ⟨ok, Bo [], w⟩ pre [] w → Rw u) :
  Ry P Te k args pre r (fun (u : T) => fun x : SH × SH × SH => .agg (tc u x.1 x.2.1 x.2.2).toArray) (fun u x => [RT u x.1 x.2.1 x.2.2]) (fun _ _ => []) := ⟨fun u hu => Spec.P1 y (fun v => v) (h.1 u hu) (hok u hu), h.2⟩
abbrev Ba (l : List Cl) : Prop := (∀ c, c ∈ l → u32 c) ∧ l.length * 8 ≤ reach
section
variable {C : Type} {A : Tr C}
mutual
theorem Wc (ho : ∀ c k n nm r p, Ak k → Ak n → Ba r → A.own c k n nm r = .ok (.inr p) → Ak p.1 ∧ Ba p.2) (hi : ∀ c k n nm r u, A.own c k n nm r = .ok (.inl u) → Rw u) (hf : ∀ c f f', Ba f → A.B1 c f = .ok (some f') → Ba f') : ∀ (t : T) (c : C) (u : T), Rw t → Cq A t c = .ok u → Rw u
 | .mk k n nm r ks ss, c, u, h, hu => by
  simp only [Rw] at h
  obtain ⟨h1, h2, h3, h4, h5, h6, h7, h8⟩ := h
  rw [Mg] at hu
  simp only [T.kind, T.n, T.name, T.r, T.kids, T.sys] at hu
  obtain ⟨o, h9, hu⟩ := B9.Ai hu
  cases o with
  | inl v => injection hu with hu; subst hu; exact hi _ _ _ _ _ _ h9
  | inr p =>
   obtain ⟨ks', h10, hu⟩ := B9.Ai hu
   obtain ⟨ss', h11, hu⟩ := B9.Ai hu
   injection hu with hu
   subst hu
   obtain ⟨p1, p2⟩ := ho _ _ _ _ _ _ h1 h2 h4 h9
   simp only [Rw]
   exact ⟨h1, p1, h3, p2, by rw [Nd h10]; exact h5, Nat.le_trans (Nat.mul_le_mul_right _ (M1 h11)) h6, A5t ho hi hf ks 0 c ks' h7 h10, Y2 ho hi hf ss c ss' h8 h11⟩
theorem A5t (ho : ∀ c k n nm r p, Ak k → Ak n → Ba r → A.own c k n nm r = .ok (.inr p) → Ak p.1 ∧ Ba p.2) (hi : ∀ c k n nm r u, A.own c k n nm r = .ok (.inl u) → Rw u) (hf : ∀ c f f', Ba f → A.B1 c f = .ok (some f') → Ba f') {kd : Int} : ∀ (ts : List T) (i : Nat) (c : C) (us : List T), okL ts → Fb A kd i ts c = .ok us → okL us
 | [], i, c, us, h, hu => by rw [Gh] at hu; injection hu with hu; subst hu; simp only [okL]
 | t :: ts, i, c, us, h, hu => by
  simp only [okL] at h
  rw [G6] at hu
  obtain ⟨c', _, hu⟩ := B9.Ai hu
  obtain ⟨t', h2, hu⟩ := B9.Ai hu
  obtain ⟨ts', h3, hu⟩ := B9.Ai hu
  injection hu with hu
  subst hu
  simp only [okL]
  exact ⟨Wc ho hi hf t c' t' h.1 h2, A5t ho hi hf ts (i + 1) c ts' h.2 h3⟩
theorem A5q (ho : ∀ c k n nm r p, Ak k → Ak n → Ba r → A.own c k n nm r = .ok (.inr p) → Ak p.1 ∧ Ba p.2) (hi : ∀ c k n nm r u, A.own c k n nm r = .ok (.inl u) → Rw u) (hf : ∀ c f f', Ba f → A.B1 c f = .ok (some f') → Ba f') {kd : Int} : ∀ (ts : List T) (c : C) (us : List T), okL ts → Ee A kd ts c = .ok us → okL us
 | [], c, us, h, hu => by rw [Gg] at hu; injection hu with hu; subst hu; simp only [okL]
 | t :: ts, c, us, h, hu => by
  simp only [okL] at h
  rw [G5] at hu
  obtain ⟨c', _, hu⟩ := B9.Ai hu
  obtain ⟨t', h2, hu⟩ := B9.Ai hu
  obtain ⟨ts', h3, hu⟩ := B9.Ai hu
  injection hu with hu
  subst hu
  simp only [okL]
  exact ⟨Wc ho hi hf t c' t' h.1 h2, A5q ho hi hf ts c ts' h.2 h3⟩
theorem Y2 (ho : ∀ c k n nm r p, Ak k → Ak n → Ba r → A.own c k n nm r = .ok (.inr p) → Ak p.1 ∧ Ba p.2) (hi : ∀ c k n nm r u, A.own c k n nm r = .ok (.inl u) → Rw u) (hf : ∀ c f f', Ba f → A.B1 c f = .ok (some f') → Ba f') {kd : Int} : ∀ (bs : List Br) (c : C) (us : List Br), okB bs → F6 A kd bs c = .ok us → okB us
 | [], c, us, h, hu => by rw [G2] at hu; injection hu with hu; subst hu; simp only [okB]
 | .mk f ks :: bs, c, us, h, hu => by
  simp only [okB] at h
  obtain ⟨h1, h2, h3, h4⟩ := h
  rw [G7] at hu
  simp only [Br.B1, Br.kids] at hu
  obtain ⟨o, h5, hu⟩ := B9.Ai hu
  cases o with
  | none => exact Y2 ho hi hf bs c us h4 hu
  | some f' =>
   obtain ⟨ks', h6, hu⟩ := B9.Ai hu
   obtain ⟨bs', h7, hu⟩ := B9.Ai hu
   injection hu with hu
   subst hu
   simp only [okB]
   exact ⟨hf _ _ _ h1 h5, by rw [Nc h6]; exact h2, A5q ho hi hf ks c ks' h3 h6, Y2 ho hi hf bs c bs' h4 h7⟩
end
end
theorem Fl : Ba [] := ⟨fun c hc => (by cases hc), by unfold reach; decide⟩
theorem A7d {l : List Cl} (h : ∀ c, c ∈ l → u32 c) : Ba (Ax l).2 := by
 unfold Ax
 split
 ·exact Fl
 ·split
  ·exact Fl
  ·rename_i h64
   exact ⟨fun c hc => h c (F8.mp hc).1, by show (E2 l).length * 8 ≤ reach; unfold reach; omega⟩
theorem P8 (l : List Cl) (f b : Int) : Ba (An l f b).2 := by
 unfold An
 split
 ·exact Fl
 ·split
  ·exact Fl
  ·exact A7d (A7h (fun c => Rg c f b))
theorem A1s {l g : List Cl} {f b : Int} (h : Ba l) (hg : Cp b l f = .ok g) : Ba g := by
 unfold Cp at hg
 split at hg
 ·injection hg with hg; subst hg; exact h
 ·split at hg
  ·injection hg with hg; subst hg; exact P8 l f b
  ·cases hg
theorem D1t {vb db : Int} (hv : 0 ≤ vb ∧ vb ≤ 1000000) {t u : T} {c : Int × Int} (h : Rw t) (hu : Cq (Ct vb db) t c = .ok u) : Rw u := by
 refine Wc (A := Ct vb db) ?_ ?_ ?_ t c u h hu
 ·intro c k n nm r p _ hn hr ho
  obtain ⟨g, hg, ho⟩ := B9.Ai (x := Cp db r c.2) ho
  have hgo := A1s hr hg
  split at ho
  ·rename_i h1
   split at ho
   ·cases ho
   ·injection ho with ho; injection ho with ho; subst ho
    exact ⟨by unfold Ak at *; dsimp only; omega, hgo⟩
  ·injection ho with ho; injection ho with ho; subst ho
   exact ⟨hn, hgo⟩
 ·intro c k n nm r u ho
  obtain ⟨g, hg, ho⟩ := B9.Ai (x := Cp db r c.2) ho
  split at ho
  ·split at ho
   ·cases ho
   ·injection ho with ho; cases ho
  ·injection ho with ho; cases ho
 ·intro c f f' hr ho
  obtain ⟨g, hg, ho⟩ := B9.Ai (x := Cp db f c.2) ho
  injection ho with ho; injection ho with ho; subst ho
  exact A1s hr hg
theorem Sn : Rw t0 := by simp [t0, Rw, okL, okB, Ak, Gd, reach]; decide
theorem guard_okT' {t : T} {ns : List Int} {r : B9 T} (h : ns.all (fun n => decide (0 ≤ n)) = true → ∀ u, r = .ok u → Rw u) : Rw (Cm t ns r).2 := by
 unfold Cm
 split
 ·exact Sn
 ·split
  ·exact Sn
  ·rename_i ha
   cases r with
   | ok u => exact h (by simpa using ha) u rfl
   | bad e => exact Sn
abbrev A5j (t : T) (f b : Int) : B9 T := Cq (Ct b 0) t (if 2000000000 < f then 2000000000 else f, 0)
def Dm (b : Int) : Int := IntKind.i64.wrap (1000000 - b)
theorem D5w (b : Int) : Ak (Dm b) := by
 have h : Dm b = (1000000 - b + 9223372036854775808) % 18446744073709551616 - 9223372036854775808 := by
  unfold Dm; rw [IntKind.wrap_i64]
 unfold Ak; rw [h]; omega
theorem C2g {b : Int} (hb : Ak b) (h0 : 0 ≤ b) (h : 0 ≤ Dm b) : b ≤ 1000000 := by
 have h1 : Dm b = (1000000 - b + 9223372036854775808) % 18446744073709551616 - 9223372036854775808 := by
  unfold Dm; rw [IntKind.wrap_i64]
 unfold Ak at hb; omega
theorem C2f {b : Int} (hb : Ak b) (h0 : 0 ≤ b) : Dm b = 1000000 - b := by
 have h1 : Dm b = (1000000 - b + 9223372036854775808) % 18446744073709551616 - 9223372036854775808 := by
  unfold Dm; rw [IntKind.wrap_i64]
 unfold Ak at hb; omega
def E4 (t : T) (f b : Int) : Int × T := Cm t [f, b, Dm b] (A5j t f b)
theorem B0f {vb db : Int} {c : Int × Int} {k n : Int} {nm : ByteArray} {r : List Cl} {u : T} : (Ct vb db).own c k n nm r ≠ .ok (.inl u) := by
 intro ho
 obtain ⟨g, hg, ho⟩ := B9.Ai (x := Cp db r c.2) ho
 split at ho
 ·split at ho
  ·cases ho
  ·injection ho with ho; cases ho
 ·injection ho with ho; cases ho
theorem B1g {t : T} {v d : Int} {b : Bool} : Hx t v d b = true ↔ (¬ (b = true ∧ 24 < d)) ∧ M9 t v d = true ∧ ∀ p, p ∈ parts t → Hx p.1 (IntKind.i64.wrap (v + if v < 0 then 0 else p.2.1)) (d + p.2.2) b = true := by
  rw [B1i, Bool.and_eq_true, List.all_eq_true]
  simp only [Bool.not_eq_true', Bool.or_eq_false_iff, Bool.and_eq_false_iff, decide_eq_false_iff_not, Bool.not_eq_false']
  constructor
  · rintro ⟨⟨h1, h2⟩, h3⟩
    refine ⟨?_, h2, h3⟩
    rintro ⟨h4, h5⟩
    rcases h1 with h1 | h1
    · rw [h1] at h4; cases h4
    · exact h1 h5
  · rintro ⟨h1, h2, h3⟩
    refine ⟨⟨?_, h2⟩, h3⟩
    cases b
    · exact .inl rfl
    · exact .inr (fun h => h1 ⟨rfl, h⟩)
theorem Wt {t : T} {v d : Int} : M9 t v d = true ↔ Jb t = false ∧
    (if t.kind = 1 then t.r.length = 0 ∧ 0 ≤ t.n ∧ (v < 0 ∨ t.n < v)
     else if t.kind = 2 then t.r.length = 0 ∧ Jm t.name = true
     else if t.kind = 13 ∨ t.kind = 21 ∨ t.kind = 26 then Aa t.r = true ∧ within t.r d = true
     else if t.kind = 14 then A8 t.r = true ∧ within t.r d = true
     else (∀ x, x ∈ t.sys → Mx t d x = true) ∧ t.r.length = 0) := by
  unfold M9
  rw [Bool.and_eq_true, Bool.not_eq_true']
  apply and_congr Iff.rfl
  split
  · simp only [Bool.and_eq_true, decide_eq_true_eq, Bool.or_eq_true, and_assoc]; constructor <;> (rintro ⟨h1, h2⟩; exact ⟨by omega, h2⟩)
  · split
    · simp only [Bool.and_eq_true, decide_eq_true_eq]; constructor <;> (rintro ⟨h1, h2⟩; exact ⟨by omega, h2⟩)
    · split
      · simp only [Bool.and_eq_true]
      · split
        · simp only [Bool.and_eq_true]
        · simp only [Bool.and_eq_true, decide_eq_true_eq, List.all_eq_true]; constructor <;> (rintro ⟨h1, h2⟩; exact ⟨h1, by omega⟩)
theorem within_iff {l : List Cl} {d : Int} (h0 : 0 ≤ d) : within l d = true ↔ ∀ i : Nat, d ≤ (i : Int) → (Dl l).testBit i = false := by
  have hlt := Qr l
  unfold within
  rw [Bool.or_eq_true, decide_eq_true_eq, decide_eq_true_eq]
  by_cases h24 : 24 ≤ d
  · constructor
    · intro _ i hi
      exact Nat.testBit_lt_two_pow (Nat.lt_of_lt_of_le hlt (Nat.pow_le_pow_right (n := 2) A2 (show 24 ≤ i by omega)))
    · intro _; exact .inl h24
  · have hm : min d.toNat 32 = d.toNat := by omega
    rw [hm]
    constructor
    · rintro (h | h) i hi
      · exact absurd h h24
      · have h1 : Dl l / 2 ^ d.toNat = 0 := by omega
        have h2 : Dl l < 2 ^ d.toNat := by
          have := Nat.div_eq_zero_iff.mp h1
          have hp : 0 < 2 ^ d.toNat := Nat.pow_pos A2
          omega
        exact Nat.testBit_lt_two_pow (Nat.lt_of_lt_of_le h2 (Nat.pow_le_pow_right (n := 2) A2 A2))
    · intro h
      right
      have h2 : Dl l < 2 ^ d.toNat := Nat.lt_pow_two_of_testBit _ (fun i hi => h i A2)
      rw [Nat.div_eq_of_lt h2]; rfl
theorem C0n {t : T} (h : Jb t = false) (hp : Cs t.kind = 0) : t.sys = [] := by
  unfold Jb at h
  simp only [Bool.or_eq_false_iff, Bool.and_eq_false_iff, decide_eq_false_iff_not] at h
  rcases h.2 with h2 | h2
  · exact absurd hp h2
  · exact List.eq_nil_of_length_eq_zero A2
theorem Pp (s n : Nat) : (Bv s n).Pairwise fun a b => a < b := by
 unfold Bv
 rw [List.pairwise_map]
 refine (List.Pairwise.filter _ List.pairwise_lt_range).imp (fun h => by omega)
theorem D2c {l : List Int} (hs : l.Pairwise fun a b => a < b) {x : Int} (hx : x ∈ l) : x ≤ l.getD (l.length - 1) 0 := by
 obtain ⟨j, hj, e⟩ := List.mem_iff_getElem.mp hx
 have hs := List.pairwise_iff_getElem.mp hs
 have hl : l.length - 1 < l.length := by omega
 rw [Eo (d := (0 : Int)) hl]
 rcases Nat.lt_or_ge j (l.length - 1) with h2 | h2
 ·have := hs j (l.length - 1) hj hl h2
  rw [e] at this
  exact Int.le_of_lt this
 ·have hje : j = l.length - 1 := by omega
  subst hje
  exact Int.le_of_eq e.symm
def E5d (l : List Cl) (d : Int) : Bool := decide (((A3 (Dl l)).length : Int) = 0) || decide ((A3 (Dl l)).getD ((A3 (Dl l)).length - 1) 0 < d)
theorem B8i {l : List Cl} {d : Int} (h0 : 0 ≤ d) : E5d l d = within l d := by
 rw [Bool.eq_iff_iff, within_iff h0]
 unfold E5d
 rw [Bool.or_eq_true, decide_eq_true_eq, decide_eq_true_eq]
 have hlt := Qr l
 constructor
 ·intro h i hi
  apply Bool.eq_false_iff.mpr
  intro hb
  have hi24 : i < 24 := by
   apply Classical.byContradiction
   intro hc
   have := Nat.testBit_lt_two_pow (Nat.lt_of_lt_of_le hlt (Nat.pow_le_pow_right (n := 2) A2 (show 24 ≤ i by omega)))
   rw [this] at hb; cases hb
  have hm : ((i : Nat) : Int) ∈ A3 (Dl l) := El.mpr ⟨by omega, by omega, by simpa using hb⟩
  rcases h with h | h
  ·have : A3 (Dl l) = [] := List.eq_nil_of_length_eq_zero A2
   rw [this] at hm; cases hm
  ·have := D2c (l := A3 (Dl l)) (Pp (Dl l) 24) hm
   omega
 ·intro h
  by_cases hn : (A3 (Dl l)).length = 0
  ·exact .inl A2
  ·right
   have hmem : (A3 (Dl l)).getD ((A3 (Dl l)).length - 1) 0 ∈ A3 (Dl l) := Ac A2
   have hx := El.mp hmem
   apply Classical.byContradiction
   intro hc
   have := h ((A3 (Dl l)).getD ((A3 (Dl l)).length - 1) 0).toNat A2
   rw [this] at hx; cases hx.2.2
structure Od (t : T) (v d : Int) (b : Bool) : Prop where
 bound : ¬ (b = true ∧ 24 < d)
 kids : D4 t.kind = (t.kids.length : Int)
 sys : Cs t.kind = 0 → t.sys.length = 0
 n1 : if t.kind = 1 then 0 ≤ t.n ∧ (v < 0 ∨ t.n < v) else t.n = 0
 nm : if t.kind = 2 then Jm t.name = true else (t.name.toList == (ByteArray.mk #[]).toList) = true
 r : if t.kind = 13 ∨ t.kind = 21 ∨ t.kind = 26 then Aa t.r = true else if t.kind = 14 then A8 t.r = true else t.r.length = 0
 low : within t.r d = true
theorem C7n {t : T} {v d : Int} {b : Bool} (h : Od t v d b) (hs : ∀ x, x ∈ t.sys → Mx t d x = true) : M9 t v d = true := by
 rw [Wt]
 have h1 := h.n1; have h2 := h.nm; have h3 := h.r
 refine ⟨?_, ?_⟩
 ·simp only [Jb, Bool.or_eq_false_iff, Bool.and_eq_false_iff, decide_eq_false_iff_not, Bool.not_eq_false']
  refine ⟨⟨⟨fun hc => hc h.kids, ?_⟩, ?_⟩, ?_⟩
  ·by_cases hk : t.kind = 1
   ·exact .inl (fun hc => hc hk)
   ·rw [if_neg hk] at h1; exact .inr (fun hc => hc h1)
  ·by_cases hk : t.kind = 2
   ·exact .inl (fun hc => hc hk)
   ·rw [if_neg hk] at h2; exact .inr h2
  ·by_cases hk : Cs t.kind = 0
   ·have := h.sys hk; exact .inr A2
   ·exact .inl hk
 ·by_cases k1 : t.kind = 1
  ·rw [if_pos k1] at h1 ⊢
   rw [if_neg A2, if_neg A2] at h3
   exact ⟨h3, h1⟩
  ·rw [if_neg k1]
   by_cases k2 : t.kind = 2
   ·rw [if_pos k2] at h2 ⊢
    rw [if_neg A2, if_neg A2] at h3
    exact ⟨h3, h2⟩
   ·rw [if_neg k2]
    by_cases k3 : t.kind = 13 ∨ t.kind = 21 ∨ t.kind = 26
    ·rw [if_pos k3] at h3 ⊢; exact ⟨h3, h.low⟩
    ·rw [if_neg k3] at h3 ⊢
     by_cases k4 : t.kind = 14
     ·rw [if_pos k4] at h3 ⊢; exact ⟨h3, h.low⟩
     ·rw [if_neg k4] at h3 ⊢; exact ⟨hs, h3⟩
theorem C5j {t : T} {v d : Int} {b : Bool} (h0 : ¬ (b = true ∧ 24 < d)) (hd : 0 ≤ d) (h : M9 t v d = true) : Od t v d b := by
 rw [Wt] at h
 obtain ⟨h1, h2⟩ := h
 have hsys := fun hp => C0n h1 hp
 simp only [Jb, Bool.or_eq_false_iff, Bool.and_eq_false_iff, decide_eq_false_iff_not, Bool.not_eq_false', ne_eq, Decidable.not_not] at h1
 obtain ⟨⟨⟨a1, a2⟩, a3⟩, a4⟩ := h1
 have hwn : t.r.length = 0 → within t.r d = true := fun hr => by
  rw [List.eq_nil_of_length_eq_zero hr, within_iff hd]; intro i _; simp [Dl]
 refine ⟨h0, a1, fun hp => by rw [hsys hp]; rfl, ?_, ?_, ?_, ?_⟩
 ·by_cases k1 : t.kind = 1
  ·rw [if_pos k1] at h2 ⊢; exact h2.2
  ·rw [if_neg k1]; exact a2.resolve_left k1
 ·by_cases k2 : t.kind = 2
  ·rw [if_neg A2, if_pos k2] at h2
   rw [if_pos k2]; exact h2.2
  ·rw [if_neg k2]; exact a3.resolve_left k2
 ·split at h2
  ·rw [if_neg A2, if_neg A2]; exact h2.1
  ·split at h2
   ·rw [if_neg A2, if_neg A2]; exact h2.1
   ·split at h2
    ·rename_i k; rw [if_pos k]; exact h2.1
    ·rename_i k; rw [if_neg k]
     split at h2
     ·rename_i k; rw [if_pos k]; exact h2.1
     ·rename_i k; rw [if_neg k]; exact h2.2
 ·split at h2
  ·exact hwn h2.1
  ·split at h2
   ·exact hwn h2.1
   ·split at h2
    ·exact h2.2
    ·split at h2
     ·exact h2.2
     ·exact hwn h2.2
def A2z (t : T) (v d : Int) (b : Bool) (i : Nat) : Bool := Hx (t.kids.getD i t0) (IntKind.i64.wrap (v + if v < 0 then 0 else (binds t.kind i).1)) (d + (binds t.kind i).2) b
def Z2 (t : T) (v d : Int) (b : Bool) (x : Br) : Bool := Mx t d x && x.kids.all fun k => Hx k v (d + more t.kind) b
theorem D0o {t : T} {v d : Int} (h : M9 t v d = true) : ∀ x, x ∈ t.sys → Mx t d x = true := by
 rw [Wt] at h
 have h2 := h.2
 have hs := fun hp => C0n h.1 hp
 split at h2
 ·rename_i k; rw [hs (by rw [k]; decide)]; intro x hx; cases hx
 ·split at h2
  ·rename_i k; rw [hs (by rw [k]; decide)]; intro x hx; cases hx
  ·split at h2
   ·rename_i k; rw [hs (by rcases k with k | k | k <;> rw [k] <;> decide)]; intro x hx; cases hx
   ·split at h2
    ·rename_i k; rw [hs (by rw [k]; decide)]; intro x hx; cases hx
    ·exact h2.1
theorem Eh {t : T} {v d : Int} {b : Bool} (hv : Ak v) (hd : 0 ≤ d) : Hx t v d b = true ↔ Od t v d b ∧ (∀ i, i < t.kids.length → A2z t v d b i = true) ∧ ∀ i, i < t.sys.length → Z2 t v d b (t.sys.getD i Bq) = true := by
 rw [B1g]
 constructor
 ·rintro ⟨h1, h2, h3⟩
  refine ⟨C5j h1 hd h2, fun i hi => ?_, fun i hi => ?_⟩
  ·exact h3 _ (Gk (F3 t i hi))
  ·unfold Z2
   rw [Bool.and_eq_true, List.all_eq_true]
   refine ⟨D0o h2 _ (Ac hi), fun k hk => ?_⟩
   obtain ⟨j, hj, e⟩ := List.mem_iff_getElem.mp hk
   have := h3 _ (Gk (Fm t i j hi hj))
   simp only at this
   rw [show (if v < 0 then (0 : Int) else 0) = 0 by split <;> rfl, Int.add_zero, A8s hv] at this
   rwa [Eo (d := t0) hj, e] at this
 ·rintro ⟨h1, h2, h3⟩
  have hb : ∀ x, x ∈ t.sys → Z2 t v d b x = true := fun x hx => by
   obtain ⟨i, hi, e⟩ := List.mem_iff_getElem.mp hx
   have := h3 i hi
   rwa [Eo (d := Bq) hi, e] at this
  refine ⟨h1.bound, C7n h1 (fun x hx => by have := hb x hx; unfold Z2 at this; rw [Bool.and_eq_true] at this; exact this.1), fun p hp => ?_⟩
  obtain ⟨m, hm⟩ := List.mem_iff_getElem?.mp hp
  have hlt : m < (parts t).length := (List.getElem?_eq_some_iff.mp hm).1
  rcases Nat.lt_or_ge m t.kids.length with hmk | hmk
  ·rw [F3 t m hmk] at hm
   injection hm with hm
   subst hm
   exact h2 m hmk
  ·unfold parts at hp hm
   rw [List.getElem?_append_right (by rw [Gm]; exact hmk)] at hm
   have hp2 : p ∈ Di t.kind t.sys := List.mem_iff_getElem?.mpr ⟨_, hm⟩
   have key : ∀ (bs : List Br), (∀ x, x ∈ bs → x ∈ t.sys) → p ∈ Di t.kind bs → Hx p.1 (IntKind.i64.wrap (v + if v < 0 then 0 else p.2.1)) (d + p.2.2) b = true := by
    intro bs
    induction bs with
    | nil => intro _ h; simp [Di] at h
    | cons x bs ih =>
     intro hx h
     simp only [Di, List.mem_append, List.mem_map] at h
     rcases h with ⟨k, hk, e⟩ | h
     ·subst e
      simp only
      rw [show (if v < 0 then (0 : Int) else 0) = 0 by split <;> rfl, Int.add_zero, A8s hv]
      have := hb x (hx x List.mem_cons_self)
      unfold Z2 at this
      rw [Bool.and_eq_true, List.all_eq_true] at this
      exact this.2 k hk
     ·exact ih (fun y hy => hx y (List.mem_cons_of_mem _ hy)) h
   exact key t.sys (fun _ h => h) hp2
theorem Ih {t : T} {v d : Int} {b : Bool} (hv : Ak v) (hd : 0 ≤ d) (hn : ¬ Od t v d b) : Hx t v d b = false := Bool.eq_false_iff.mpr fun h => hn ((Eh hv hd).mp h).1
theorem Ig {t : T} {v d : Int} {b : Bool} (hv : Ak v) (hd : 0 ≤ d) {i : Nat} (hi : i < t.kids.length) (hn : A2z t v d b i = false) : Hx t v d b = false := Bool.eq_false_iff.mpr fun h => by
 have h9 := ((Eh hv hd).mp h).2.1 i hi
 rw [hn] at h9; cases h9
theorem Ie {t : T} {v d : Int} {b : Bool} (hv : Ak v) (hd : 0 ≤ d) {i : Nat} (hi : i < t.sys.length) (hn : Z2 t v d b (t.sys.getD i Bq) = false) : Hx t v d b = false := Bool.eq_false_iff.mpr fun h => by
 have h9 := ((Eh hv hd).mp h).2.2 i hi
 rw [hn] at h9; cases h9
theorem V5 {t : T} {p : Part} (hp : p ∈ parts t) : (∃ i, i < t.kids.length ∧ p = (t.kids.getD i t0, binds t.kind (i : Int))) ∨ ∃ s k, s < t.sys.length ∧ k < (t.sys.getD s Bq).kids.length ∧ p = ((t.sys.getD s Bq).kids.getD k t0, 0, more t.kind) := by
 unfold parts at hp
 rcases List.mem_append.mp hp with hp | hp
 ·left
  have key : ∀ (ks : List T) (s : Nat), p ∈ Em t.kind s ks → ∃ i, i < ks.length ∧ p = (ks.getD i t0, binds t.kind ((s + i : Nat) : Int)) := by
   intro ks
   induction ks with
   | nil => intro s h; simp [Em] at h
   | cons k ks ih =>
    intro s h
    simp only [Em, List.mem_cons] at h
    rcases h with h | h
    ·exact ⟨0, by simp, by simpa using h⟩
    ·obtain ⟨i, hi, e⟩ := ih (s + 1) h
     exact ⟨i + 1, by simpa using hi, by rw [e]; simp only [List.getD_cons_succ]; rw [show s + 1 + i = s + (i + 1) by omega]⟩
  obtain ⟨i, hi, e⟩ := key t.kids 0 hp
  exact ⟨i, hi, by rw [e]; simp⟩
 ·right
  have key : ∀ (bs : List Br), p ∈ Di t.kind bs → ∃ s k, s < bs.length ∧ k < (bs.getD s Bq).kids.length ∧ p = ((bs.getD s Bq).kids.getD k t0, 0, more t.kind) := by
   intro bs
   induction bs with
   | nil => intro h; simp [Di] at h
   | cons b bs ih =>
    intro h
    simp only [Di, List.mem_append, List.mem_map] at h
    rcases h with ⟨k, hk, e⟩ | h
    ·obtain ⟨j, hj, e2⟩ := List.mem_iff_getElem.mp hk
     exact ⟨0, j, by simp, by simpa using hj, by rw [← e]; simp only [List.getD_cons_zero]; rw [Eo (d := t0) hj, e2]⟩
    ·obtain ⟨s, k, h1, h2, e⟩ := ih h
     exact ⟨s + 1, k, by simpa using h1, by simpa using h2, by rw [e]; simp⟩
  exact key t.sys hp
theorem B5e {α : Type} (f : α → Nat) (i : Nat) : ∀ (l : List α) (a : Nat), (l.foldl (fun a x => a ||| f x) a).testBit i = true ↔ a.testBit i = true ∨ ∃ x, x ∈ l ∧ (f x).testBit i = true
 | [], a => by simp
 | x :: l, a => by
  rw [List.foldl_cons, B5e f i l, Nat.testBit_or]
  simp only [Bool.or_eq_true, List.mem_cons, exists_eq_or_imp, or_assoc]
end Go.Hy
