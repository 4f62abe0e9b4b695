/- Contracts of this program's functions and the laws that they need. -/
import Derived.Test.YtpfjlbopkhdebaaGreatDoorP4
set_option linter.unusedVariables false
set_option linter.unusedSimpArgs false
set_option linter.unusedSectionVars false
namespace Go.Hy
open Go.Proofs Go.Proofs.Tryz
theorem sm_ {p q : Prop} (h : p) (e : p = q := by
 try (conv => lhs; simp only [sC, bne_iff_ne, beq_iff_eq, ne_eq])
 try rfl) : q := e ▸ h
class Cv (P : Program) (k : FuncId) (fn : outParam Func) : Prop where
 f : P.funcs[k]? = some fn
structure Aq (p : Prop) : Prop where
 out : p
section
variable {P : Program} {f : FuncId} {R : Ending → World → Prop} {B : D5} {n : Fz} {K : List Item} {σ : Nat → Value} {Γ Γ' : List Fact} {Ms : List Bq}
theorem f_ {k : FuncId} {fn : Func} [h : Cv P k fn] : P.funcs[k]? = some fn := h.f
theorem Tp {fn : Func} {id : Nat} {ops : Array Oper} [h9 : Cv P f fn] (h : Ep P f R B n K ops (List.range ops.size) σ Γ Ms) : G9 P f R B n (.code (.region id ops false) :: K) σ Γ Ms := go_region ⟨_, h9.f⟩ rfl h
theorem Jr {Q : Program} [Tab Q] {g : FuncId} {S : Ending → World → Prop} {C : D5} {m : Fz} {L : List Item} {ops : Array Oper} {i : Nat} {l : List Nat} {τ : Nat → Value} {Δ : List Fact} {Ns : List Bq} {dst : Option Tmp} {op : Op} {ty : TypeId} {pos : String} {after : Array Edge} {e d : Nat} {want : Bool} {og : Oper} (ho : ops[i]? = some ⟨dst, op, ty, pos, after, some (e, want)⟩) (t : Bool) {p q : Prop} (kT : t = want → p → Ff Q g S C m L ops l (Ct dst op ty) (Ul τ d (.bool want)) Δ Ns) (kF : t = !want → q → Ep Q g S C m L ops l (Ay (Ul τ d (.bool !want)) dst undef) Δ Ns) (hog : ops[e]? = some og := by exact rfl) (hgd : og.dst = some d := by exact rfl) (ht : τ d = .bool t := by exact A7) (e1 : (t = want) = p := by
 try (conv => lhs; simp only [sC, bne_iff_ne, beq_iff_eq, ne_eq])
 try rfl) (e2 : (t = !want) = q := by
 try (conv => lhs; simp only [Bool.not_true, Bool.not_false, sC, bne_iff_ne, beq_iff_eq, ne_eq])
 try rfl) (hd : Aj m dst = true := by rfl) : Ep Q g S C m L ops (i :: l) τ Δ Ns := qI ho hog hgd ht (fun h => kT h (e1 ▸ h)) (fun h => kF h (e2 ▸ h)) hd
theorem B8 {d : Nat} {x y : Code} (t : Bool) {p q : Prop} (kT : t = true → p → G9 P f R B n (.code x :: K) (Ul σ d (.bool true)) Γ Ms) (kF : t = false → q → G9 P f R B n (.code y :: K) (Ul σ d (.bool false)) Γ Ms) (hc : σ d = .bool t := by exact A7) (e1 : (t = true) = p := by
 try (conv => lhs; simp only [sC, bne_iff_ne, beq_iff_eq, ne_eq])
 try rfl) (e2 : (t = false) = q := by
 try (conv => lhs; simp only [sC, bne_iff_ne, beq_iff_eq, ne_eq])
 try rfl) : G9 P f R B n (.code (.cond (.tmp d) x y) :: K) σ Γ Ms := A8 (fun h => kT h (e1 ▸ h)) (fun h => kF h (e2 ▸ h)) hc
theorem Cy {fn : Func} {c : Code} {m : Nat} {args : List Value} {pre : List Fact} {Ms0 : List Bq} {X : Type} {val : X → Value} {N : X → List Fact} {Ms1 : X → List Bq} [h9 : Cv P f fn] (hn : fn.ntmps = m) (h : ∀ B : D5, (∀ b, B.S0 b ↔ C0 Ms0 b) → G9 P f (Ends B val N Ms1) B ⟨m, [], .normal⟩ [.code c] (fun t => args.getD t undef) pre Ms0) (hb : fn.body = some c := by exact rfl) (ha : args.length ≤ m := by exact Nat.le_of_ble_eq_true rfl) : Spec P f args.toArray pre Ms0 val N Ms1 := Q1 h9.f hn hb ha h
theorem St.l9 {w : World} (hs : St B Γ Ms w) (h : ∀ F, F ∈ Γ' → F ∈ Γ := by simp +contextual) : St B Γ' Ms w := hs.less h
theorem St.l7 {w : World} (hs : St B Γ Ms w) (h : ∀ F, F ∈ ([] : List Fact) → F ∈ Γ := by simp) : St B [] Ms w := hs.less h
theorem St.l8 {w : World} (hs : St B Γ Ms w) (h : ∀ F, F ∈ Γ' → F ∈ Γ := by simp) : St B Γ' Ms w := hs.less h
end
section
variable {p q : Prop}
theorem L3 (k : p) (h : Aq p → q := by intro h; refine E4t ?_; exact h.1) : q := h ⟨k⟩
theorem Lo (k : p) (h : Aq p → q := by intro h; refine E1m ?_; exact h.1) : q := h ⟨k⟩
theorem Ek (k : p) (h : Aq p → q := by intro h; refine q0 rfl (Cx ?_); exact h.1) : q := h ⟨k⟩
theorem zq3 (k : p) (h : Aq p → q := by intro h; refine q0 rfl (D3o ?_); exact h.1) : q := h ⟨k⟩
theorem zq4 (k : p) (h : Aq p → q := by intro h; refine qF rfl rfl rfl ?_; exact h.1) : q := h ⟨k⟩
theorem I1 (k : p) (h : Aq p → q := by intro h; refine go_skip ?_; exact h.1) : q := h ⟨k⟩
theorem zq6 (k : p) (h : Aq p → q := by intro h; refine q0 rfl (C7v ?_); exact h.1) : q := h ⟨k⟩
theorem zq7 (k : p) (h : Aq p → q := by intro h; refine q0 rfl (Zh ?_); exact h.1) : q := h ⟨k⟩
theorem zq8 (k : p) (h : Aq p → q := by intro h; refine D4u ?_; exact h.1) : q := h ⟨k⟩
theorem zq9 (k : p) (h : Aq p → q := by intro h; refine q0 rfl (E6z ?_); exact h.1) : q := h ⟨k⟩
theorem B1a (k : p) (h : Aq p → q := by intro h; refine C1l ?_; exact h.1) : q := h ⟨k⟩
theorem B0z (k : p) (h : Aq p → q := by intro h; refine q0 rfl (D8b ?_); exact h.1) : q := h ⟨k⟩
theorem E0v (k : p) (h : Aq p → q := by intro h; refine q0 rfl (C4j ?_); exact h.1) : q := h ⟨k⟩
theorem Gr (k : p) (h : Aq p → q := by intro h; refine n0 rfl (A2m ?_); exact h.1) : q := h ⟨k⟩
theorem A6l (k : p) (h : Aq p → q := by intro h; refine q0 rfl (F0d ?_); exact h.1) : q := h ⟨k⟩
theorem Uk (k : p) (h : Aq p → q := by intro h; refine nF rfl rfl rfl ?_; exact h.1) : q := h ⟨k⟩
theorem C9v (k : p) (h : Aq p → q := by intro h; refine q0 rfl (Xz ?_); exact h.1) : q := h ⟨k⟩
theorem E4 (k : p) (h : Aq p → q := by intro h; refine D8r rfl ?_; exact h.1) : q := h ⟨k⟩
theorem E0u (k : p) (h : Aq p → q := by intro h; refine q0 rfl (C4k ?_); exact h.1) : q := h ⟨k⟩
theorem E0t (k : p) (h : Aq p → q := by intro h; refine q0 rfl (D9z ?_); exact h.1) : q := h ⟨k⟩
theorem Mn (k : p) (h : Aq p → q := by intro h; refine q0 rfl (A8y ?_); exact h.1) : q := h ⟨k⟩
theorem E0s (k : p) (h : Aq p → q := by intro h; refine q0 rfl (A8x ?_); exact h.1) : q := h ⟨k⟩
theorem I8 (k : p) (h : Aq p → q := by intro h; refine q0 rfl (Td ?_); exact h.1) : q := h ⟨k⟩
theorem D9 (k : p) (h : Aq p → q := by intro h; refine qT rfl rfl rfl (Cx ?_); exact h.1) : q := h ⟨k⟩
theorem A6k (k : p) (h : Aq p → q := by intro h; refine NV.done ?_; exact h.1) : q := h ⟨k⟩
theorem P0 (k : p) (h : Aq p → q := by intro h; refine q0 rfl (E0a ?_); exact h.1) : q := h ⟨k⟩
theorem C9t (k : p) (h : Aq p → q := by intro h; refine qU rfl rfl rfl ?_; exact h.1) : q := h ⟨k⟩
theorem Uj (k : p) (h : Aq p → q := by intro h; refine n0 rfl (P9 ?_); exact h.1) : q := h ⟨k⟩
theorem C5z (k : p) (h : Aq p → q := by intro h; refine D4s ?_; exact h.1) : q := h ⟨k⟩
theorem Jo (k : p) (h : Aq p → q := by intro h; refine Cx ?_; exact h.1) : q := h ⟨k⟩
theorem D6k (k : p) (h : Aq p → q := by intro h; refine q0 rfl (D9y ?_); exact h.1) : q := h ⟨k⟩
theorem Vi (k : p) (h : Aq p → q := by intro h; refine qT rfl rfl rfl (D8b ?_); exact h.1) : q := h ⟨k⟩
theorem C9s (k : p) (h : Aq p → q := by intro h; refine nU rfl rfl rfl ?_; exact h.1) : q := h ⟨k⟩
theorem Sv (k : p) (h : Aq p → q := by intro h; refine qT rfl rfl rfl (C4j ?_); exact h.1) : q := h ⟨k⟩
theorem Rp (k : p) (h : Aq p → q := by intro h; refine qT rfl rfl rfl (Xz ?_); exact h.1) : q := h ⟨k⟩
theorem E5l (k : p) (h : Aq p → q := by intro h; refine n0 rfl (C2x ?_); exact h.1) : q := h ⟨k⟩
theorem Ui (k : p) (h : Aq p → q := by intro h; refine qT rfl rfl rfl (C4k ?_); exact h.1) : q := h ⟨k⟩
theorem Mm (k : p) (h : Aq p → q := by intro h; refine nT rfl rfl rfl (E5p ?_); exact h.1) : q := h ⟨k⟩
theorem E0r (k : p) (h : Aq p → q := by intro h; refine q0 rfl (E6n ?_); exact h.1) : q := h ⟨k⟩
theorem Oa (k : p) (h : Aq p → q := by intro h; refine n0 rfl (D9i ?_); exact h.1) : q := h ⟨k⟩
theorem Oz (k : p) (h : Aq p → q := by intro h; refine q0 rfl (E0b ?_); exact h.1) : q := h ⟨k⟩
theorem Pr (k : p) (h : Aq p → q := by intro h; refine q0 rfl (Cn ?_); exact h.1) : q := h ⟨k⟩
theorem B4k (k : p) (h : Aq p → q := by intro h; refine n0 rfl (C2w ?_); exact h.1) : q := h ⟨k⟩
theorem Qk (k : p) (h : Aq p → q := by intro h; refine nT rfl rfl rfl (A2m ?_); exact h.1) : q := h ⟨k⟩
theorem A2f (k : p) (h : Aq p → q := by intro h; refine qT rfl rfl rfl (D9y ?_); exact h.1) : q := h ⟨k⟩
theorem Su (k : p) (h : Aq p → q := by intro h; refine q0 rfl (C0w ?_); exact h.1) : q := h ⟨k⟩
theorem B9e (k : p) (h : Aq p → q := by intro h; refine qT rfl rfl rfl (D9z ?_); exact h.1) : q := h ⟨k⟩
theorem Uh (k : p) (h : Aq p → q := by intro h; refine q0 rfl (E6v ?_); exact h.1) : q := h ⟨k⟩
theorem C9r (k : p) (h : Aq p → q := by intro h; refine q0 rfl (D3j ?_); exact h.1) : q := h ⟨k⟩
theorem Vh (k : p) (h : Aq p → q := by intro h; refine n0 rfl (E5s ?_); exact h.1) : q := h ⟨k⟩
theorem Wo (k : p) (h : Aq p → q := by intro h; refine q0 rfl (D3f ?_); exact h.1) : q := h ⟨k⟩
theorem A1k (k : p) (h : Aq p → q := by intro h; refine D4t ?_; exact h.1) : q := h ⟨k⟩
theorem A1j (k : p) (h : Aq p → q := by intro h; refine qT rfl rfl rfl (E0c ?_); exact h.1) : q := h ⟨k⟩
theorem E0q (k : p) (h : Aq p → q := by intro h; refine qT rfl rfl rfl (Zh ?_); exact h.1) : q := h ⟨k⟩
theorem A2e (k : p) (h : Aq p → q := by intro h; refine qT rfl rfl rfl (D3j ?_); exact h.1) : q := h ⟨k⟩
theorem A6j (k : p) (h : Aq p → q := by intro h; refine q0 rfl (E0c ?_); exact h.1) : q := h ⟨k⟩
theorem A6i (k : p) (h : Aq p → q := by intro h; refine n0 rfl (C6e ?_); exact h.1) : q := h ⟨k⟩
theorem B0y (k : p) (h : Aq p → q := by intro h; refine nT rfl rfl rfl (C2w ?_); exact h.1) : q := h ⟨k⟩
theorem B0x (k : p) (h : Aq p → q := by intro h; refine nT rfl rfl rfl (C2x ?_); exact h.1) : q := h ⟨k⟩
theorem B0w (k : p) (h : Aq p → q := by intro h; refine nT rfl rfl rfl (P9 ?_); exact h.1) : q := h ⟨k⟩
theorem B0v (k : p) (h : Aq p → q := by intro h; refine n0 rfl (A7n ?_); exact h.1) : q := h ⟨k⟩
theorem B4j (k : p) (h : Aq p → q := by intro h; refine q0 rfl (E6w ?_); exact h.1) : q := h ⟨k⟩
theorem B4i (k : p) (h : Aq p → q := by intro h; refine q0 rfl (D9w ?_); exact h.1) : q := h ⟨k⟩
theorem B4h (k : p) (h : Aq p → q := by intro h; refine nT rfl rfl rfl (A7m ?_); exact h.1) : q := h ⟨k⟩
theorem B9d (k : p) (h : Aq p → q := by intro h; refine qT rfl rfl rfl (E6u ?_); exact h.1) : q := h ⟨k⟩
theorem B9c (k : p) (h : Aq p → q := by intro h; refine nT rfl rfl rfl (E5q ?_); exact h.1) : q := h ⟨k⟩
theorem B9b (k : p) (h : Aq p → q := by intro h; refine n0 rfl (E9u ?_); exact h.1) : q := h ⟨k⟩
theorem B9a (k : p) (h : Aq p → q := by intro h; refine q0 rfl (D3g ?_); exact h.1) : q := h ⟨k⟩
theorem C5y (k : p) (h : Aq p → q := by intro h; refine nT rfl rfl rfl (C2y ?_); exact h.1) : q := h ⟨k⟩
theorem C5x (k : p) (h : Aq p → q := by intro h; refine nT rfl rfl rfl (D9k ?_); exact h.1) : q := h ⟨k⟩
theorem C5w (k : p) (h : Aq p → q := by intro h; refine n0 rfl (A7l ?_); exact h.1) : q := h ⟨k⟩
theorem C5v (k : p) (h : Aq p → q := by intro h; refine n0 rfl (E5o ?_); exact h.1) : q := h ⟨k⟩
theorem Bf (k : p) (h : Aq p → q := by intro h; refine L3 ?_; refine Tp ?_; exact h.1) : q := h ⟨k⟩
theorem Ci (k : p) (h : Aq p → q := by intro h; refine zq3 ?_; refine Lo ?_; exact h.1) : q := h ⟨k⟩
theorem Ft (k : p) (h : Aq p → q := by intro h; refine Bf ?_; refine Ek ?_; exact h.1) : q := h ⟨k⟩
theorem Ls (k : p) (h : Aq p → q := by intro h; refine zq3 ?_; refine Ci ?_; exact h.1) : q := h ⟨k⟩
theorem C9 (k : p) (h : Aq p → q := by intro h; refine Bf ?_; refine Ci ?_; exact h.1) : q := h ⟨k⟩
theorem De (k : p) (h : Aq p → q := by intro h; refine Tp ?_; refine Ek ?_; exact h.1) : q := h ⟨k⟩
theorem Gl (k : p) (h : Aq p → q := by intro h; refine L3 ?_; refine Ft ?_; exact h.1) : q := h ⟨k⟩
theorem J2 (k : p) (h : Aq p → q := by intro h; refine zq4 ?_; refine zq4 ?_; exact h.1) : q := h ⟨k⟩
theorem E0o (k : p) (h : Aq p → q := by intro h; refine zq6 ?_; refine zq6 ?_; exact h.1) : q := h ⟨k⟩
theorem Ln (k : p) (h : Aq p → q := by intro h; refine zq7 ?_; refine B0z ?_; exact h.1) : q := h ⟨k⟩
theorem K3 (k : p) (h : Aq p → q := by intro h; refine I1 ?_; refine L3 ?_; exact h.1) : q := h ⟨k⟩
theorem Ir (k : p) (h : Aq p → q := by intro h; refine E0o ?_; refine Ls ?_; exact h.1) : q := h ⟨k⟩
theorem Ei (k : p) (h : Aq p → q := by intro h; refine Bf ?_; refine Ls ?_; exact h.1) : q := h ⟨k⟩
theorem A2d (k : p) (h : Aq p → q := by intro h; refine zq9 ?_; refine Ci ?_; exact h.1) : q := h ⟨k⟩
theorem O9 (k : p) (h : Aq p → q := by intro h; refine E0t ?_; refine Lo ?_; exact h.1) : q := h ⟨k⟩
theorem B8z (k : p) (h : Aq p → q := by intro h; refine De ?_; refine A2d ?_; exact h.1) : q := h ⟨k⟩
theorem A6h (k : p) (h : Aq p → q := by intro h; refine E0s ?_; refine Lo ?_; exact h.1) : q := h ⟨k⟩
theorem En (k : p) (h : Aq p → q := by intro h; refine A6l ?_; refine Lo ?_; exact h.1) : q := h ⟨k⟩
theorem Qj (k : p) (h : Aq p → q := by intro h; refine B1a ?_; refine B8z ?_; exact h.1) : q := h ⟨k⟩
theorem J4 (k : p) (h : Aq p → q := by intro h; refine K3 ?_; refine zq8 ?_; exact h.1) : q := h ⟨k⟩
theorem D6j (k : p) (h : Aq p → q := by intro h; refine Ek ?_; refine Lo ?_; exact h.1) : q := h ⟨k⟩
theorem Ug (k : p) (h : Aq p → q := by intro h; refine Ek ?_; refine Ir ?_; exact h.1) : q := h ⟨k⟩
theorem Gk (k : p) (h : Aq p → q := by intro h; refine E0v ?_; refine Lo ?_; exact h.1) : q := h ⟨k⟩
theorem E3 (k : p) (h : Aq p → q := by intro h; refine Ft ?_; refine Ls ?_; exact h.1) : q := h ⟨k⟩
theorem Nf (k : p) (h : Aq p → q := by intro h; refine I1 ?_; refine Ft ?_; exact h.1) : q := h ⟨k⟩
theorem Lr (k : p) (h : Aq p → q := by intro h; refine Bf ?_; refine Ln ?_; exact h.1) : q := h ⟨k⟩
theorem F1 (k : p) (h : Aq p → q := by intro h; refine De ?_; refine Ek ?_; exact h.1) : q := h ⟨k⟩
theorem J1 (k : p) (h : Aq p → q := by intro h; refine E0u ?_; refine Lo ?_; exact h.1) : q := h ⟨k⟩
theorem O4 (k : p) (h : Aq p → q := by intro h; refine Uk ?_; refine Uk ?_; exact h.1) : q := h ⟨k⟩
theorem Ez (k : p) (h : Aq p → q := by intro h; refine Ci ?_; refine L3 ?_; exact h.1) : q := h ⟨k⟩
theorem Pw (k : p) (h : Aq p → q := by intro h; refine A6k ?_; refine Lo ?_; exact h.1) : q := h ⟨k⟩
theorem Lw (k : p) (h : Aq p → q := by intro h; refine C9 ?_; refine zq8 ?_; exact h.1) : q := h ⟨k⟩
theorem C9x (k : p) (h : Aq p → q := by intro h; refine C9v ?_; refine Ci ?_; exact h.1) : q := h ⟨k⟩
theorem D9e (k : p) (h : Aq p → q := by intro h; refine Tp ?_; refine zq9 ?_; refine D6j ?_; exact h.1) : q := h ⟨k⟩
theorem I3 (k : p) (h : Aq p → q := by intro h; refine C9v ?_; refine Lo ?_; exact h.1) : q := h ⟨k⟩
theorem R5 (k : p) (h : Aq p → q := by intro h; refine B1a ?_; refine D9e ?_; exact h.1) : q := h ⟨k⟩
theorem Dq (k : p) (h : Aq p → q := by intro h; refine I1 ?_; refine Qj ?_; exact h.1) : q := h ⟨k⟩
theorem L2 (k : p) (h : Aq p → q := by intro h; refine Uj ?_; refine n0 rfl (E5p ?_); exact h.1) : q := h ⟨k⟩
theorem Fb (k : p) (h : Aq p → q := by intro h; refine Ek ?_; refine Ek ?_; exact h.1) : q := h ⟨k⟩
theorem I2 (k : p) (h : Aq p → q := by intro h; refine Bf ?_; refine I8 ?_; exact h.1) : q := h ⟨k⟩
theorem K7 (k : p) (h : Aq p → q := by intro h; refine zq7 ?_; refine P0 ?_; exact h.1) : q := h ⟨k⟩
theorem L1 (k : p) (h : Aq p → q := by intro h; refine Mn ?_; refine O9 ?_; exact h.1) : q := h ⟨k⟩
theorem Er (k : p) (h : Aq p → q := by intro h; refine Bf ?_; refine C9x ?_; exact h.1) : q := h ⟨k⟩
theorem Mq (k : p) (h : Aq p → q := by intro h; refine A6l ?_; refine Ci ?_; exact h.1) : q := h ⟨k⟩
theorem H5 (k : p) (h : Aq p → q := by intro h; refine Tp ?_; refine Ln ?_; exact h.1) : q := h ⟨k⟩
theorem V1 (k : p) (h : Aq p → q := by intro h; refine Ug ?_; refine Gl ?_; exact h.1) : q := h ⟨k⟩
theorem Fg (k : p) (h : Aq p → q := by intro h; refine Bf ?_; refine O9 ?_; refine L3 ?_; exact h.1) : q := h ⟨k⟩
theorem Fp (k : p) (h : Aq p → q := by intro h; refine J2 ?_; refine zq4 ?_; exact h.1) : q := h ⟨k⟩
theorem Ni (k : p) (h : Aq p → q := by intro h; refine L3 ?_; refine Lw ?_; exact h.1) : q := h ⟨k⟩
theorem C2t (k : p) (h : Aq p → q := by intro h; refine Mn ?_; refine D6j ?_; exact h.1) : q := h ⟨k⟩
theorem R4 (k : p) (h : Aq p → q := by intro h; refine Ug ?_; refine Ft ?_; exact h.1) : q := h ⟨k⟩
theorem Ig (k : p) (h : Aq p → q := by intro h; refine E0v ?_; refine Ek ?_; exact h.1) : q := h ⟨k⟩
theorem Ie (k : p) (h : Aq p → q := by intro h; refine Gr ?_; refine Gr ?_; exact h.1) : q := h ⟨k⟩
theorem J9 (k : p) (h : Aq p → q := by intro h; refine L3 ?_; refine L3 ?_; exact h.1) : q := h ⟨k⟩
theorem Lv (k : p) (h : Aq p → q := by intro h; refine C2t ?_; refine zq8 ?_; exact h.1) : q := h ⟨k⟩
theorem A0d (k : p) (h : Aq p → q := by intro h; refine I1 ?_; refine C5z ?_; exact h.1) : q := h ⟨k⟩
theorem X5 (k : p) (h : Aq p → q := by intro h; refine C9t ?_; refine C9t ?_; exact h.1) : q := h ⟨k⟩
theorem Gn (k : p) (h : Aq p → q := by intro h; refine E0v ?_; refine Ci ?_; exact h.1) : q := h ⟨k⟩
theorem K6 (k : p) (h : Aq p → q := by intro h; refine E0u ?_; refine Ci ?_; exact h.1) : q := h ⟨k⟩
theorem H4 (k : p) (h : Aq p → q := by intro h; refine D6k ?_; refine Lo ?_; exact h.1) : q := h ⟨k⟩
theorem H3 (k : p) (h : Aq p → q := by intro h; refine C9 ?_; refine Ft ?_; exact h.1) : q := h ⟨k⟩
theorem H2 (k : p) (h : Aq p → q := by intro h; refine V1 ?_; refine A6h ?_; exact h.1) : q := h ⟨k⟩
theorem B4l (k : p) (h : Aq p → q := by intro h; refine Gl ?_; refine Ek ?_; exact h.1) : q := h ⟨k⟩
theorem Hm (k : p) (h : Aq p → q := by intro h; refine J4 ?_; refine L3 ?_; exact h.1) : q := h ⟨k⟩
theorem Mp (k : p) (h : Aq p → q := by intro h; refine C9v ?_; refine Ek ?_; exact h.1) : q := h ⟨k⟩
theorem O3 (k : p) (h : Aq p → q := by intro h; refine Gl ?_; refine I3 ?_; exact h.1) : q := h ⟨k⟩
theorem It (k : p) (h : Aq p → q := by intro h; refine I1 ?_; refine R5 ?_; exact h.1) : q := h ⟨k⟩
theorem Is (k : p) (h : Aq p → q := by intro h; refine A0d ?_; refine C9 ?_; exact h.1) : q := h ⟨k⟩
theorem C9w (k : p) (h : Aq p → q := by intro h; refine E0r ?_; refine Lo ?_; exact h.1) : q := h ⟨k⟩
theorem O2 (k : p) (h : Aq p → q := by intro h; refine Ft ?_; refine Ci ?_; exact h.1) : q := h ⟨k⟩
theorem J8 (k : p) (h : Aq p → q := by intro h; refine J4 ?_; refine Bf ?_; exact h.1) : q := h ⟨k⟩
theorem J7 (k : p) (h : Aq p → q := by intro h; refine E0u ?_; refine Ek ?_; exact h.1) : q := h ⟨k⟩
theorem Pv (k : p) (h : Aq p → q := by intro h; refine J2 ?_; refine X5 ?_; exact h.1) : q := h ⟨k⟩
theorem J6 (k : p) (h : Aq p → q := by intro h; refine J2 ?_; refine J2 ?_; exact h.1) : q := h ⟨k⟩
theorem J5 (k : p) (h : Aq p → q := by intro h; refine B4l ?_; refine L1 ?_; exact h.1) : q := h ⟨k⟩
theorem X4 (k : p) (h : Aq p → q := by intro h; refine C9 ?_; refine Gl ?_; exact h.1) : q := h ⟨k⟩
theorem Jx (k : p) (h : Aq p → q := by intro h; refine Nf ?_; refine Ek ?_; exact h.1) : q := h ⟨k⟩
theorem Jw (k : p) (h : Aq p → q := by intro h; refine R4 ?_; refine A6h ?_; exact h.1) : q := h ⟨k⟩
theorem R3 (k : p) (h : Aq p → q := by intro h; refine zq7 ?_; refine C9w ?_; exact h.1) : q := h ⟨k⟩
theorem K5 (k : p) (h : Aq p → q := by intro h; refine L3 ?_; refine Lr ?_; exact h.1) : q := h ⟨k⟩
theorem K4 (k : p) (h : Aq p → q := by intro h; refine O4 ?_; refine O4 ?_; exact h.1) : q := h ⟨k⟩
theorem L0 (k : p) (h : Aq p → q := by intro h; refine zq4 ?_; refine Sv ?_; exact h.1) : q := h ⟨k⟩
theorem Kz (k : p) (h : Aq p → q := by intro h; refine C9 ?_; refine Ni ?_; exact h.1) : q := h ⟨k⟩
theorem Lu (k : p) (h : Aq p → q := by intro h; refine Zh ?_; refine Vi ?_; exact h.1) : q := h ⟨k⟩
theorem Lt (k : p) (h : Aq p → q := by intro h; refine Nf ?_; refine A6h ?_; exact h.1) : q := h ⟨k⟩
theorem Mo (k : p) (h : Aq p → q := by intro h; refine E5l ?_; refine Pw ?_; exact h.1) : q := h ⟨k⟩
theorem X3 (k : p) (h : Aq p → q := by intro h; refine Ft ?_; refine Ek ?_; exact h.1) : q := h ⟨k⟩
theorem Nh (k : p) (h : Aq p → q := by intro h; refine C9s ?_; refine C9s ?_; exact h.1) : q := h ⟨k⟩
theorem Ng (k : p) (h : Aq p → q := by intro h; refine Tp ?_; refine K7 ?_; exact h.1) : q := h ⟨k⟩
theorem O1 (k : p) (h : Aq p → q := by intro h; refine Ei ?_; refine Gl ?_; exact h.1) : q := h ⟨k⟩
theorem A2g (k : p) (h : Aq p → q := by intro h; refine zq4 ?_; refine J1 ?_; exact h.1) : q := h ⟨k⟩
theorem O0 (k : p) (h : Aq p → q := by intro h; refine Ez ?_; refine L3 ?_; exact h.1) : q := h ⟨k⟩
theorem Nz (k : p) (h : Aq p → q := by intro h; refine E4 ?_; refine L3 ?_; exact h.1) : q := h ⟨k⟩
theorem P8 (k : p) (h : Aq p → q := by intro h; refine Ln ?_; refine Ek ?_; exact h.1) : q := h ⟨k⟩
theorem P7 (k : p) (h : Aq p → q := by intro h; refine E4 ?_; refine C9 ?_; exact h.1) : q := h ⟨k⟩
theorem P6 (k : p) (h : Aq p → q := by intro h; refine I1 ?_; refine Gl ?_; exact h.1) : q := h ⟨k⟩
theorem C9u (k : p) (h : Aq p → q := by intro h; refine Gk ?_; refine C5z ?_; exact h.1) : q := h ⟨k⟩
theorem A7g (k : p) (h : Aq p → q := by intro h; refine Uk ?_; refine B4k ?_; exact h.1) : q := h ⟨k⟩
theorem P5 (k : p) (h : Aq p → q := by intro h; refine Ci ?_; refine Qj ?_; exact h.1) : q := h ⟨k⟩
theorem P4 (k : p) (h : Aq p → q := by intro h; refine n0 rfl (D0e ?_); refine Pw ?_; exact h.1) : q := h ⟨k⟩
theorem P3 (k : p) (h : Aq p → q := by intro h; refine Ci ?_; refine R5 ?_; exact h.1) : q := h ⟨k⟩
theorem P2 (k : p) (h : Aq p → q := by intro h; refine Ek ?_; refine Mq ?_; exact h.1) : q := h ⟨k⟩
theorem P1 (k : p) (h : Aq p → q := by intro h; refine I1 ?_; refine Bf ?_; exact h.1) : q := h ⟨k⟩
theorem Pu (k : p) (h : Aq p → q := by intro h; refine X4 ?_; refine Lv ?_; exact h.1) : q := h ⟨k⟩
theorem Pt (k : p) (h : Aq p → q := by intro h; refine zq7 ?_; refine q0 rfl (E2n ?_); exact h.1) : q := h ⟨k⟩
theorem R2 (k : p) (h : Aq p → q := by intro h; refine Tp ?_; refine Ci ?_; exact h.1) : q := h ⟨k⟩
theorem R1 (k : p) (h : Aq p → q := by intro h; refine Rp ?_; refine Ui ?_; exact h.1) : q := h ⟨k⟩
theorem R0 (k : p) (h : Aq p → q := by intro h; refine C9u ?_; refine Ei ?_; exact h.1) : q := h ⟨k⟩
theorem C2s (k : p) (h : Aq p → q := by intro h; refine Ci ?_; refine Ft ?_; exact h.1) : q := h ⟨k⟩
theorem Sk (k : p) (h : Aq p → q := by intro h; refine En ?_; refine L3 ?_; exact h.1) : q := h ⟨k⟩
theorem Sj (k : p) (h : Aq p → q := by intro h; refine I1 ?_; refine B1a ?_; exact h.1) : q := h ⟨k⟩
theorem Si (k : p) (h : Aq p → q := by intro h; refine D6k ?_; refine Ek ?_; exact h.1) : q := h ⟨k⟩
theorem Sh (k : p) (h : Aq p → q := by intro h; refine Ek ?_; refine E0o ?_; exact h.1) : q := h ⟨k⟩
theorem Sg (k : p) (h : Aq p → q := by intro h; refine L2 ?_; refine Gr ?_; exact h.1) : q := h ⟨k⟩
theorem Sf (k : p) (h : Aq p → q := by intro h; refine Lr ?_; refine Ek ?_; exact h.1) : q := h ⟨k⟩
theorem Se (k : p) (h : Aq p → q := by intro h; refine I2 ?_; refine En ?_; exact h.1) : q := h ⟨k⟩
theorem T1 (k : p) (h : Aq p → q := by intro h; refine J2 ?_; refine K6 ?_; exact h.1) : q := h ⟨k⟩
theorem T0 (k : p) (h : Aq p → q := by intro h; refine E5l ?_; refine Gr ?_; exact h.1) : q := h ⟨k⟩
theorem Sz (k : p) (h : Aq p → q := by intro h; refine Jo ?_; refine B9e ?_; exact h.1) : q := h ⟨k⟩
theorem Sy (k : p) (h : Aq p → q := by intro h; refine C9r ?_; refine Lo ?_; exact h.1) : q := h ⟨k⟩
theorem Sx (k : p) (h : Aq p → q := by intro h; refine Ei ?_; refine J9 ?_; exact h.1) : q := h ⟨k⟩
theorem Sw (k : p) (h : Aq p → q := by intro h; refine J2 ?_; refine Gk ?_; exact h.1) : q := h ⟨k⟩
theorem V0 (k : p) (h : Aq p → q := by intro h; refine Pv ?_; refine A2g ?_; exact h.1) : q := h ⟨k⟩
theorem Uz (k : p) (h : Aq p → q := by intro h; refine Ci ?_; refine I2 ?_; exact h.1) : q := h ⟨k⟩
theorem Uy (k : p) (h : Aq p → q := by intro h; refine A7g ?_; refine Pw ?_; exact h.1) : q := h ⟨k⟩
theorem Ux (k : p) (h : Aq p → q := by intro h; refine C2s ?_; refine A6h ?_; exact h.1) : q := h ⟨k⟩
theorem Uw (k : p) (h : Aq p → q := by intro h; refine E0q ?_; refine Vi ?_; exact h.1) : q := h ⟨k⟩
theorem Uv (k : p) (h : Aq p → q := by intro h; refine J2 ?_; refine Ig ?_; exact h.1) : q := h ⟨k⟩
theorem Uu (k : p) (h : Aq p → q := by intro h; refine E0t ?_; refine Ek ?_; exact h.1) : q := h ⟨k⟩
theorem Ut (k : p) (h : Aq p → q := by intro h; refine Lo ?_; refine L3 ?_; exact h.1) : q := h ⟨k⟩
theorem Us (k : p) (h : Aq p → q := by intro h; refine Ie ?_; refine Gr ?_; exact h.1) : q := h ⟨k⟩
theorem Ur (k : p) (h : Aq p → q := by intro h; refine H5 ?_; refine I8 ?_; exact h.1) : q := h ⟨k⟩
theorem Uq (k : p) (h : Aq p → q := by intro h; refine I1 ?_; refine O3 ?_; exact h.1) : q := h ⟨k⟩
theorem Up (k : p) (h : Aq p → q := by intro h; refine R3 ?_; refine Qj ?_; exact h.1) : q := h ⟨k⟩
theorem X2 (k : p) (h : Aq p → q := by intro h; refine I1 ?_; refine E4 ?_; refine Ei ?_; exact h.1) : q := h ⟨k⟩
theorem X1 (k : p) (h : Aq p → q := by intro h; refine Tp ?_; refine C9x ?_; exact h.1) : q := h ⟨k⟩
theorem X0 (k : p) (h : Aq p → q := by intro h; refine Bf ?_; refine B0z ?_; exact h.1) : q := h ⟨k⟩
theorem Wz (k : p) (h : Aq p → q := by intro h; refine L2 ?_; refine L2 ?_; exact h.1) : q := h ⟨k⟩
theorem Wy (k : p) (h : Aq p → q := by intro h; refine A2f ?_; refine J1 ?_; exact h.1) : q := h ⟨k⟩
theorem Wx (k : p) (h : Aq p → q := by intro h; refine E4 ?_; refine O2 ?_; exact h.1) : q := h ⟨k⟩
theorem Ww (k : p) (h : Aq p → q := by intro h; refine J4 ?_; refine X3 ?_; exact h.1) : q := h ⟨k⟩
theorem Wv (k : p) (h : Aq p → q := by intro h; refine De ?_; refine Mp ?_; exact h.1) : q := h ⟨k⟩
theorem Wu (k : p) (h : Aq p → q := by intro h; refine zq4 ?_; refine Gk ?_; exact h.1) : q := h ⟨k⟩
theorem Wt (k : p) (h : Aq p → q := by intro h; refine E0o ?_; refine Mq ?_; exact h.1) : q := h ⟨k⟩
theorem Ws (k : p) (h : Aq p → q := by intro h; refine A6k ?_; refine En ?_; exact h.1) : q := h ⟨k⟩
theorem Wr (k : p) (h : Aq p → q := by intro h; refine Gl ?_; refine A6h ?_; exact h.1) : q := h ⟨k⟩
theorem Wq (k : p) (h : Aq p → q := by intro h; refine K7 ?_; refine Ek ?_; exact h.1) : q := h ⟨k⟩
theorem Wp (k : p) (h : Aq p → q := by intro h; refine Fb ?_; refine Ek ?_; exact h.1) : q := h ⟨k⟩
end
instance : Cv prog 11 f11 := ⟨func11⟩
instance : Cv prog 15 f15 := ⟨func15⟩
instance : Cv prog 16 f16 := ⟨func16⟩
instance : Cv prog 17 f17 := ⟨func17⟩
instance : Cv prog 19 f19 := ⟨func19⟩
instance : Cv prog 21 f21 := ⟨func21⟩
instance : Cv prog 27 f27 := ⟨func27⟩
instance : Cv prog 28 f28 := ⟨func28⟩
instance : Cv prog 29 f29 := ⟨func29⟩
instance : Cv prog 30 f30 := ⟨func30⟩
instance : Cv prog 31 f31 := ⟨func31⟩
instance : Cv prog 32 f32 := ⟨func32⟩
instance : Cv prog 33 f33 := ⟨func33⟩
instance : Cv prog 34 f34 := ⟨func34⟩
instance : Cv prog 36 f36 := ⟨func36⟩
instance : Cv prog 41 f41 := ⟨func41⟩
instance : Cv prog 43 f43 := ⟨func43⟩
instance : Cv prog 51 f51 := ⟨func51⟩
instance : Cv prog 52 f52 := ⟨func52⟩
instance : Cv prog 53 f53 := ⟨func53⟩
instance : Cv prog 54 f54 := ⟨func54⟩
instance : Cv prog 55 f55 := ⟨func55⟩
instance : Cv prog 56 f56 := ⟨func56⟩
instance : Cv prog 60 f60 := ⟨func60⟩
instance : Cv prog 62 f62 := ⟨func62⟩
instance : Cv prog 63 f63 := ⟨func63⟩
instance : Cv prog 64 f64 := ⟨func64⟩
instance : Cv prog 65 f65 := ⟨func65⟩
instance : Cv prog 66 f66 := ⟨func66⟩
instance : Cv prog 69 f69 := ⟨func69⟩
instance : Cv prog 70 f70 := ⟨func70⟩
instance : Cv prog 71 f71 := ⟨func71⟩
instance : Cv prog 72 f72 := ⟨func72⟩
instance : Cv prog 73 f73 := ⟨func73⟩
instance : Cv prog 74 f74 := ⟨func74⟩
instance : Cv prog 75 f75 := ⟨func75⟩
instance : Cv prog 76 f76 := ⟨func76⟩
instance : Cv prog 77 f77 := ⟨func77⟩
instance : Cv prog 78 f78 := ⟨func78⟩
instance : Cv prog 79 f79 := ⟨func79⟩
instance : Cv prog 80 f80 := ⟨func80⟩
instance : Cv prog 82 f82 := ⟨func82⟩
instance : Cv prog 83 f83 := ⟨func83⟩
instance : Cv prog 84 f84 := ⟨func84⟩
instance : Cv prog 85 f85 := ⟨func85⟩
instance : Cv prog 86 f86 := ⟨func86⟩
instance : Cv prog 87 f87 := ⟨func87⟩
instance : Cv prog 88 f88 := ⟨func88⟩
instance : Cv prog 90 f90 := ⟨func90⟩
instance : Cv prog 91 f91 := ⟨func91⟩
instance : Cv prog 93 f93 := ⟨func93⟩
instance : Cv prog 94 f94 := ⟨func94⟩
instance : Cv prog 95 f95 := ⟨func95⟩
instance : Cv prog 97 f97 := ⟨func97⟩
instance : Cv prog 98 f98 := ⟨func98⟩
instance : Cv prog 100 f100 := ⟨func100⟩
instance : Cv prog 101 f101 := ⟨func101⟩
instance : Cv prog 102 f102 := ⟨func102⟩
instance : Cv prog 103 f103 := ⟨func103⟩
instance : Cv prog 105 f105 := ⟨func105⟩
instance : Cv prog 106 f106 := ⟨func106⟩
instance : Cv prog 107 f107 := ⟨func107⟩
instance : Cv prog 108 f108 := ⟨func108⟩
instance : Cv prog 109 f109 := ⟨func109⟩
instance : Cv prog 112 f112 := ⟨func112⟩
instance : Cv prog 116 f116 := ⟨func116⟩
instance : Cv prog 119 f119 := ⟨func119⟩
instance : Cv prog 120 f120 := ⟨func120⟩
instance : Cv prog 121 f121 := ⟨func121⟩
instance : Cv prog 122 f122 := ⟨func122⟩
instance : Cv prog 123 f123 := ⟨func123⟩
instance : Cv prog 124 f124 := ⟨func124⟩
instance : Cv prog 132 f132 := ⟨func132⟩
instance : Cv prog 133 f133 := ⟨func133⟩
instance : Cv prog 134 f134 := ⟨func134⟩
instance : Cv prog 135 f135 := ⟨func135⟩
instance : Cv prog 136 f136 := ⟨func136⟩
instance : Cv prog 137 f137 := ⟨func137⟩
instance : Cv prog 138 f138 := ⟨func138⟩
instance : Cv prog 139 f139 := ⟨func139⟩
instance : Cv prog 140 f140 := ⟨func140⟩
instance : Cv prog 141 f141 := ⟨func141⟩
instance : Cv prog 142 f142 := ⟨func142⟩
instance : Cv prog 143 f143 := ⟨func143⟩
instance : Cv prog 144 f144 := ⟨func144⟩
instance : Cv prog 145 f145 := ⟨func145⟩
instance : Cv prog 146 f146 := ⟨func146⟩
instance : Cv prog 147 f147 := ⟨func147⟩
instance : Cv prog 148 f148 := ⟨func148⟩
instance : Cv prog 149 f149 := ⟨func149⟩
instance : Cv prog 150 f150 := ⟨func150⟩
instance : Cv prog 151 f151 := ⟨func151⟩
instance : Cv prog 152 f152 := ⟨func152⟩
instance : Cv prog 153 f153 := ⟨func153⟩
instance : Cv prog 154 f154 := ⟨func154⟩
instance : Cv prog 155 f155 := ⟨func155⟩
instance : Cv prog 157 f157 := ⟨func157⟩
instance : Cv prog 158 f158 := ⟨func158⟩
instance : Cv prog 159 f159 := ⟨func159⟩
instance : Cv prog 160 f160 := ⟨func160⟩
instance : Cv prog 161 f161 := ⟨func161⟩
instance : Cv prog 162 f162 := ⟨func162⟩
instance : Cv prog 163 f163 := ⟨func163⟩
instance : Cv prog 164 f164 := ⟨func164⟩
instance : Cv prog 165 f165 := ⟨func165⟩
instance : Cv prog 166 f166 := ⟨func166⟩
instance : Cv prog 167 f167 := ⟨func167⟩
instance : Cv prog 168 f168 := ⟨func168⟩
instance : Cv prog 169 f169 := ⟨func169⟩
instance : Cv prog 172 f172 := ⟨func172⟩
instance : Cv prog 173 f173 := ⟨func173⟩
instance : Cv prog 175 f175 := ⟨func175⟩
instance : Cv prog 176 f176 := ⟨func176⟩
instance : Cv prog 177 f177 := ⟨func177⟩
instance : Cv prog 178 f178 := ⟨func178⟩
instance : Cv prog 179 f179 := ⟨func179⟩
instance : Cv prog 180 f180 := ⟨func180⟩
instance : Cv prog 181 f181 := ⟨func181⟩
instance : Cv prog 184 f184 := ⟨func184⟩
instance : Cv prog 185 f185 := ⟨func185⟩
instance : Cv prog 186 f186 := ⟨func186⟩
instance : Cv prog 187 f187 := ⟨func187⟩
instance : Cv prog 188 f188 := ⟨func188⟩
instance : Cv prog 189 f189 := ⟨func189⟩
instance : Cv prog 193 f193 := ⟨func193⟩
instance : Cv prog 194 f194 := ⟨func194⟩
instance : Cv prog 195 f195 := ⟨func195⟩
instance : Cv prog 196 f196 := ⟨func196⟩
instance : Cv prog 197 f197 := ⟨func197⟩
instance : Cv prog 198 f198 := ⟨func198⟩
instance : Cv prog 199 f199 := ⟨func199⟩
instance : Cv prog 200 f200 := ⟨func200⟩
instance : Cv prog 201 f201 := ⟨func201⟩
instance : Cv prog 202 f202 := ⟨func202⟩
instance : Cv prog 203 f203 := ⟨func203⟩
instance : Cv prog 204 f204 := ⟨func204⟩
instance : Cv prog 205 f205 := ⟨func205⟩
instance : Cv prog 206 f206 := ⟨func206⟩
instance : Cv prog 207 f207 := ⟨func207⟩
instance : Cv prog 210 f210 := ⟨func210⟩
instance : Cv prog 211 f211 := ⟨func211⟩
instance : Cv prog 212 f212 := ⟨func212⟩
instance : Cv prog 213 f213 := ⟨func213⟩
instance : Cv prog 214 f214 := ⟨func214⟩
instance : Cv prog 215 f215 := ⟨func215⟩
instance : Cv prog 216 f216 := ⟨func216⟩
instance : Cv prog 217 f217 := ⟨func217⟩
instance : Cv prog 218 f218 := ⟨func218⟩
instance : Cv prog 219 f219 := ⟨func219⟩
instance : Cv prog 220 f220 := ⟨func220⟩
instance : Cv prog 224 f224 := ⟨func224⟩
instance : Cv prog 225 f225 := ⟨func225⟩
instance : Cv prog 226 f226 := ⟨func226⟩
instance : Cv prog 227 f227 := ⟨func227⟩
instance : Cv prog 228 f228 := ⟨func228⟩
instance : Cv prog 229 f229 := ⟨func229⟩
instance : Cv prog 230 f230 := ⟨func230⟩
instance : Cv prog 231 f231 := ⟨func231⟩
instance : Cv prog 232 f232 := ⟨func232⟩
instance : Cv prog 233 f233 := ⟨func233⟩
instance : Cv prog 234 f234 := ⟨func234⟩
instance : Cv prog 235 f235 := ⟨func235⟩
instance : Cv prog 236 f236 := ⟨func236⟩
instance : Cv prog 248 f248 := ⟨func248⟩
instance : Cv prog 249 f249 := ⟨func249⟩
instance : Cv prog 250 f250 := ⟨func250⟩
instance : Cv prog 251 f251 := ⟨func251⟩
instance : Cv prog 252 f252 := ⟨func252⟩
instance : Cv prog 253 f253 := ⟨func253⟩
instance : Cv prog 254 f254 := ⟨func254⟩
instance : Cv prog 255 f255 := ⟨func255⟩
instance : Cv prog 256 f256 := ⟨func256⟩
instance : Cv prog 262 f262 := ⟨func262⟩
instance : Cv prog 263 f263 := ⟨func263⟩
instance : Cv prog 265 f265 := ⟨func265⟩
instance : Cv prog 266 f266 := ⟨func266⟩
set_option maxRecDepth 100000
theorem Wl (k i : Int) : Spec prog 147 #[iv k, iv i] [] [] (fun _ : Unit => .tuple #[iv (binds k i).1, iv (binds k i).2]) (fun _ => []) (fun _ => []) := by
 refine Cy ntmps147 fun B hB => ?_
 refine O1 ?_; refine Lo ?_; refine zq8 ?_; refine L3 ?_; refine zq8 ?_; refine L3 ?_; refine zq8 ?_; refine zq8 ?_; refine zq8 ?_; refine L3 ?_; refine zq8 ?_; refine J9 ?_; refine L3 ?_; refine Er ?_; refine A8 (fun h7 => ?_) (fun h7 => ?_)
 ·refine A0d ?_; refine E4 ?_; refine O3 ?_; refine A8 (fun h21 => ?_) (fun h21 => ?_)
  ·refine Ei ?_; refine B1 f_ rfl A7 A7 () (by simp_all [binds]) (fun w hs => hs.none)
  ·refine X2 ?_; refine B1 f_ rfl A7 A7 () (by simp_all [binds]) (fun w hs => hs.none)
 ·refine X1 ?_; refine A8 (fun h7 => ?_) (fun h7 => ?_)
  ·refine E4 ?_; refine O3 ?_; refine A8 (fun h21 => ?_) (fun h21 => ?_)
   ·refine Ei ?_; refine B1 f_ rfl A7 A7 () (by simp_all [binds]) (fun w hs => hs.none)
   ·refine X2 ?_; refine B1 f_ rfl A7 A7 () (by simp_all [binds]) (fun w hs => hs.none)
  ·refine K3 ?_; refine Er ?_; refine A8 (fun h10 => ?_) (fun h10 => ?_)
   ·refine E4 ?_; refine B1a ?_; refine B1a ?_; refine O3 ?_; refine A8 (fun h23 => ?_) (fun h23 => ?_)
    ·refine Ei ?_; refine B1 f_ rfl A7 A7 () (by simp_all [binds]) (fun w hs => hs.none)
    ·refine X2 ?_; refine B1 f_ rfl A7 A7 () (by simp_all [binds]) (fun w hs => hs.none)
   ·refine K3 ?_; refine Er ?_; refine A8 (fun h12 => ?_) (fun h12 => ?_)
    ·refine E4 ?_; refine B1a ?_; refine O3 ?_; refine A8 (fun h23 => ?_) (fun h23 => ?_)
     ·refine Ei ?_; refine B1 f_ rfl A7 A7 () (by simp_all [binds]) (fun w hs => hs.none)
     ·refine X2 ?_; refine B1 f_ rfl A7 A7 () (by simp_all [binds]) (fun w hs => hs.none)
    ·refine K3 ?_; refine Er ?_; refine A8 (fun h14 => ?_) (fun h14 => ?_)
     ·refine E4 ?_; refine O3 ?_; refine A8 (fun h23 => ?_) (fun h23 => ?_)
      ·refine Ei ?_; refine B1 f_ rfl A7 A7 () (by simp_all [binds]) (fun w hs => hs.none)
      ·refine X2 ?_; refine B1 f_ rfl A7 A7 () (by simp_all [binds]) (fun w hs => hs.none)
     ·refine K3 ?_; refine Er ?_; refine A8 (fun h16 => ?_) (fun h16 => ?_)
      ·refine A0d ?_; refine E4 ?_; refine O3 ?_; refine A8 (fun h25 => ?_) (fun h25 => ?_)
       ·refine Ei ?_; refine B1 f_ rfl A7 A7 () (by simp_all [binds]) (fun w hs => hs.none)
       ·refine X2 ?_; refine B1 f_ rfl A7 A7 () (by simp_all [binds]) (fun w hs => hs.none)
      ·refine Er ?_; refine A8 (fun h16 => ?_) (fun h16 => ?_)
       ·refine A0d ?_; refine E4 ?_; refine O3 ?_; refine A8 (fun h25 => ?_) (fun h25 => ?_)
        ·refine Ei ?_; refine B1 f_ rfl A7 A7 () (by simp_all [binds]) (fun w hs => hs.none)
        ·refine X2 ?_; refine B1 f_ rfl A7 A7 () (by simp_all [binds]) (fun w hs => hs.none)
       ·refine X1 ?_; refine A8 (fun h16 => ?_) (fun h16 => ?_)
        ·refine E4 ?_; refine O3 ?_; refine A8 (fun h25 => ?_) (fun h25 => ?_)
         ·refine Ei ?_; refine B1 f_ rfl A7 A7 () (by simp_all [binds]) (fun w hs => hs.none)
         ·refine X2 ?_; refine B1 f_ rfl A7 A7 () (by simp_all [binds]) (fun w hs => hs.none)
        ·refine X2 ?_; refine B1 f_ rfl A7 A7 () (by simp_all [binds]) (fun w hs => hs.none)
theorem A9w (t : T) (vr vk vs : SH) (c : FuncId) (cap : List Value) (FΓ : List Fact) (SM SF : Nat → List Bq) (β : Nat → Bool)
  (hc : ∀ (args : Array Value) (w : World), (callFunc c args).run prog w = .ok (.enter c args) w)
  (hcl : ∀ m k v d, (parts t)[m]? = some (k, v, d) → (∀ j, j < m → β j = true) → ∀ vr vk vs, Spec prog c (.agg (tc k vr vk vs).toArray :: iv v :: iv d :: cap).toArray (RT k vr vk vs :: FΓ) (SM m) (fun _ : Unit => .bool (β m)) (fun _ => []) (fun _ => if β m then SM (m + 1) else SF m)) :
  Spec prog 98 #[.agg (tc t vr vk vs).toArray, .func (.func c) #[] cap.toArray] (RT t vr vk vs :: FΓ) (SM 0) (fun _ : Unit => .bool (ff β (parts t).length == (parts t).length)) (fun _ => []) (fun _ => if ff β (parts t).length = (parts t).length then SM (parts t).length else SF (ff β (parts t).length)) := by
 refine Cy ntmps98 fun B hB => ?_
 refine go_open (fun hk hn hnm => ?_); refine Be (ts := t.kids) (fun VR VK VS hl1 hA1 => ?_); refine Bl (bs := t.sys) (fun VF VK2 hl2 hA2 => ?_); have hpl := Rv t; refine Bf ?_; refine q0 rfl (Ba fun b2 => ?_); refine Ez ?_; refine Lr ?_; refine Lv ?_; refine Eu (X := Nat) (fun i => i ≤ t.kids.length ∧ ∀ j, j < i → β j = true) (fun i => [(1, .func (.func c) #[] cap.toArray), (2, pz b2), (15, sl vk t.kids.length), (16, iv (t.kids.length : Int)), (17, iv (i : Int))]) (fun i => TLx t.kids vk VR VK VS :: BLx t.sys vs VF VK2 :: RT t vr vk vs :: FΓ) (fun i => Ae b2 (tc t vr vk vs) 35 :: SM i) (fun i => t.kids.length - i) (0) (⟨Nat.zero_le _, fun j hj => by omega⟩) (by exact C7) ?_ ?_
 ·exact fun w hs => hs.l9
 ·intro i base0 ⟨hi, hβ⟩ next0; refine Fg ?_; refine A8 (fun h18 => ?_) (fun h18 => ?_)
  ·have hlt : i < t.kids.length := by have := of_decide_eq_true h18; omega
   obtain ⟨bk, o, hav⟩ := hA1 A3; refine J4 ?_; refine Ft ?_; refine Pr ?_; refine Uh ?_; refine q0 rfl (Bk fun b6 => ?_); refine zq3 ?_; refine Sk ?_; refine Gu i hlt ?_; refine Tp ?_; have hpk := Eg t i hlt; refine P8 ?_; refine q0 rfl (A0 call147 (Wl t.kind i) (fun x26 => ?_)); refine R4 ?_; refine I8 ?_; refine Fb ?_; refine q0 rfl (Fy hc (hcl i _ _ _ hpk hβ _ _ _) (fun x33 => ?_)); refine H4 ?_; refine A8 (fun h34 => ?_) (fun h34 => ?_)
   ·have hβf : β i = false := by simpa using h34
    refine C9 ?_; have hff := B3e hβf hβ (n := (parts t).length) A3; refine Ax f_ rfl A7 () (by simp [hff]; omega) (fun w hs => by rw [hff, if_neg A3]; simp only [hβf, Bool.false_eq_true, if_false] at hs; exact (hs.l8).Bx)
   ·refine It ?_; have hβt : β i = true := by simpa using h34
    refine A1 (fun w hs => ?_) (next0 (i + 1) _ ⟨hlt, fun j hj => (by rcases Nat.lt_succ_iff_lt_or_eq.mp hj with h | h; exact hβ j h; subst h; exact hβt)⟩ A3 C7); simp only [hβt, if_true] at hs; exact ((hs.l9).perm List.perm_append_comm).drop
  ·have hge : i = t.kids.length := by have := of_decide_eq_false h18; omega
   refine P7 ?_; refine K5 ?_; refine I3 ?_; refine Aw ([(1, .func (.func c) #[] cap.toArray), (2, pz b2), (9, iv (more t.kind))]) (fun hK => ?_) (fun base => ?_)
   ·refine A8 (fun h38 => ?_) (fun h38 => ?_)
    ·refine R2 ?_; exact hK _ ⟨rfl, rfl, by first | (rw [more, if_pos (of_decide_eq_true h38)]; rfl) | (rw [more, if_neg (of_decide_eq_false h38)]; rfl), trivial⟩
    ·refine I1 ?_; exact hK _ ⟨rfl, rfl, by first | (rw [more, if_pos (of_decide_eq_true h38)]; rfl) | (rw [more, if_neg (of_decide_eq_false h38)]; rfl), trivial⟩
   ·refine K5 ?_; refine Lv ?_; refine Eu (X := Nat) (fun i2 => i2 ≤ t.sys.length ∧ ∀ j, j < t.kids.length + Bv i2 t.sys → β j = true) (fun i2 => [(1, .func (.func c) #[] cap.toArray), (9, iv (more t.kind)), (40, sl vs t.sys.length), (41, iv (t.sys.length : Int)), (42, iv (i2 : Int))]) (fun i2 => BLx t.sys vs VF VK2 :: FΓ) (fun i2 => SM (t.kids.length + Bv i2 t.sys)) (fun i2 => t.sys.length - i2) (0) (⟨Nat.zero_le _, fun j hj => hβ j (by simp [Bv] at hj; omega)⟩) (by exact C7) ?_ ?_
    ·exact fun w hs => (by simpa [Bv, show i = t.kids.length by omega] using (hs.drop.less (Γ' := BLx t.sys vs VF VK2 :: FΓ) sx_))
    ·intro i2 base1 ⟨hi2, hβ2⟩ next1; refine Fg ?_; refine A8 (fun h43 => ?_) (fun h43 => ?_)
     ·have hlt2 : i2 < t.sys.length := by have := of_decide_eq_true h43; omega
      obtain ⟨bk2, o2, hav2⟩ := hA2 A3; refine J8 ?_; refine Pr ?_; refine B4j ?_; refine q0 rfl (Bk fun b11 => ?_); refine En ?_; refine Lr ?_; refine Lv ?_; refine F9 i2 A3 ?_; refine Be (ts := (t.sys.getD i2 Bp).kids) (fun VR3 VK3 VS3 hl3 hA3 => ?_); refine Eu (X := Nat) (fun j => j ≤ (t.sys.getD i2 Bp).kids.length ∧ ∀ m, m < t.kids.length + Bv i2 t.sys + j → β m = true) (fun j => [(1, .func (.func c) #[] cap.toArray), (9, iv (more t.kind)), (40, sl vs t.sys.length), (41, iv (t.sys.length : Int)), (42, iv ((i2 : Nat) : Int)), (47, sl (VK2 i2) (t.sys.getD i2 Bp).kids.length), (48, iv ((t.sys.getD i2 Bp).kids.length : Int)), (49, iv (j : Int))]) (fun j => TLx (t.sys.getD i2 Bp).kids (VK2 i2) VR3 VK3 VS3 :: BLx t.sys vs VF VK2 :: FΓ) (fun j => SM (t.kids.length + Bv i2 t.sys + j)) (fun j => (t.sys.getD i2 Bp).kids.length - j) (0) (⟨Nat.zero_le _, hβ2⟩) (by exact C7) ?_ ?_
      ·exact fun w hs => (hs.l9).drop
      ·intro j base2 ⟨hj, hβ3⟩ next2; refine Fg ?_; refine A8 (fun h50 => ?_) (fun h50 => ?_)
       ·have hlt3 : j < (t.sys.getD i2 Bp).kids.length := by have := of_decide_eq_true h50; omega
        obtain ⟨bk3, o3, hav3⟩ := hA3 A3; have hps := Et t i2 j hlt2 hlt3; refine Gu j hlt3 ?_; refine J8 ?_; refine Pr ?_; refine Uh ?_; refine q0 rfl (Bk fun b13 => ?_); refine En ?_; refine Ft ?_; refine I8 ?_; refine Ek ?_; refine q0 rfl (Fy hc (hcl _ _ _ _ hps hβ3 _ _ _) (fun x56 => ?_)); refine H4 ?_; refine A8 (fun h57 => ?_) (fun h57 => ?_)
        ·have hβf : β (t.kids.length + Bv i2 t.sys + j) = false := by simpa using h57
         refine C9 ?_; have hbd := B1i hlt2 hlt3; have hff := B3e hβf hβ3 (n := (parts t).length) A3; refine Ax f_ rfl A7 () (by simp [hff]; omega) (fun w hs => by rw [hff, if_neg A3]; simp only [hβf, Bool.false_eq_true, if_false] at hs; exact (hs.l8).Bx)
        ·refine It ?_; have hβt : β (t.kids.length + Bv i2 t.sys + j) = true := by simpa using h57
         refine A1 (fun w hs => ?_) (next2 (j + 1) _ ⟨hlt3, fun j2 hj2 => (by rcases Nat.lt_succ_iff_lt_or_eq.mp hj2 with h | h; exact hβ3 j2 h; subst h; exact hβt)⟩ A3 C7); simp only [hβt, if_true] at hs; exact (hs.l9).Bx
       ·have hge3 : j = (t.sys.getD i2 Bp).kids.length := by have := of_decide_eq_false h50; omega
        refine E4 ?_; refine R5 ?_; refine A1 (fun w hs => ?_) (next1 (i2 + 1) _ ⟨hlt2, by rw [Jd i2 t.sys hlt2]; rw [hge3] at hβ3; simpa [Nat.add_assoc] using hβ3⟩ A3 C7); rw [hge3] at hs; simp only [Jd i2 t.sys hlt2, ← Nat.add_assoc]; exact hs.l9
     ·refine P7 ?_; have hie : i2 = t.sys.length := by have := of_decide_eq_false h43; omega
      have hff := B3f (β := β) (n := (parts t).length) (by rw [hpl, ← hie]; exact hβ2); refine Ax f_ rfl A7 () (by simp [hff]) (fun w hs => by rw [hff, if_pos rfl, hpl, ← hie]; exact hs.l8)
theorem A9j (k : Int) : Spec prog 173 #[iv k] [] [] (fun _ : Unit => iv (Ch k)) (fun _ => []) (fun _ => []) := by
 refine Cy ntmps173 fun B hB => ?_
 refine X4 ?_; refine Lo ?_; refine zq8 ?_; refine L3 ?_; refine Er ?_; refine A8 (fun h4 => ?_) (fun h4 => ?_)
 ·refine Is ?_; refine Ax f_ rfl A7 () (by simp_all [Ch]) (fun w hs => hs.none)
 ·refine Er ?_; refine A8 (fun h4 => ?_) (fun h4 => ?_)
  ·refine Is ?_; refine Ax f_ rfl A7 () (by simp_all [Ch]) (fun w hs => hs.none)
  ·refine Er ?_; refine A8 (fun h4 => ?_) (fun h4 => ?_)
   ·refine Is ?_; refine Ax f_ rfl A7 () (by simp_all [Ch]) (fun w hs => hs.none)
   ·refine Er ?_; refine A8 (fun h4 => ?_) (fun h4 => ?_)
    ·refine Is ?_; refine Ax f_ rfl A7 () (by simp_all [Ch]) (fun w hs => hs.none)
    ·refine Er ?_; refine A8 (fun h4 => ?_) (fun h4 => ?_)
     ·refine Is ?_; refine Ax f_ rfl A7 () (by simp_all [Ch]) (fun w hs => hs.none)
     ·refine Er ?_; refine A8 (fun h4 => ?_) (fun h4 => ?_)
      ·refine Is ?_; refine Ax f_ rfl A7 () (by simp_all [Ch]) (fun w hs => hs.none)
      ·refine Er ?_; refine A8 (fun h4 => ?_) (fun h4 => ?_)
       ·refine Is ?_; refine Ax f_ rfl A7 () (by simp_all [Ch]) (fun w hs => hs.none)
       ·refine X1 ?_; refine A8 (fun h4 => ?_) (fun h4 => ?_)
        ·refine C9 ?_; refine Ax f_ rfl A7 () (by simp_all [Ch]) (fun w hs => hs.none)
        ·refine L3 ?_; refine Er ?_; refine A8 (fun h13 => ?_) (fun h13 => ?_)
         ·refine Is ?_; refine Ax f_ rfl A7 () (by simp_all [Ch]) (fun w hs => hs.none)
         ·refine Er ?_; refine A8 (fun h13 => ?_) (fun h13 => ?_)
          ·refine Is ?_; refine Ax f_ rfl A7 () (by simp_all [Ch]) (fun w hs => hs.none)
          ·refine Er ?_; refine A8 (fun h13 => ?_) (fun h13 => ?_)
           ·refine Is ?_; refine Ax f_ rfl A7 () (by simp_all [Ch]) (fun w hs => hs.none)
           ·refine Er ?_; refine A8 (fun h13 => ?_) (fun h13 => ?_)
            ·refine Is ?_; refine Ax f_ rfl A7 () (by simp_all [Ch]) (fun w hs => hs.none)
            ·refine Er ?_; refine A8 (fun h13 => ?_) (fun h13 => ?_)
             ·refine Is ?_; refine Ax f_ rfl A7 () (by simp_all [Ch]) (fun w hs => hs.none)
             ·refine Er ?_; refine A8 (fun h13 => ?_) (fun h13 => ?_)
              ·refine Is ?_; refine Ax f_ rfl A7 () (by simp_all [Ch]) (fun w hs => hs.none)
              ·refine Er ?_; refine A8 (fun h13 => ?_) (fun h13 => ?_)
               ·refine Is ?_; refine Ax f_ rfl A7 () (by simp_all [Ch]) (fun w hs => hs.none)
               ·refine Er ?_; refine A8 (fun h13 => ?_) (fun h13 => ?_)
                ·refine Is ?_; refine Ax f_ rfl A7 () (by simp_all [Ch]) (fun w hs => hs.none)
                ·refine X1 ?_; refine A8 (fun h13 => ?_) (fun h13 => ?_)
                 ·refine C9 ?_; refine Ax f_ rfl A7 () (by simp_all [Ch]) (fun w hs => hs.none)
                 ·refine L3 ?_; refine Er ?_; refine A8 (fun h23 => ?_) (fun h23 => ?_)
                  ·refine Is ?_; refine Ax f_ rfl A7 () (by simp_all [Ch]) (fun w hs => hs.none)
                  ·refine Er ?_; refine A8 (fun h23 => ?_) (fun h23 => ?_)
                   ·refine Is ?_; refine Ax f_ rfl A7 () (by simp_all [Ch]) (fun w hs => hs.none)
                   ·refine Er ?_; refine A8 (fun h23 => ?_) (fun h23 => ?_)
                    ·refine Is ?_; refine Ax f_ rfl A7 () (by simp_all [Ch]) (fun w hs => hs.none)
                    ·refine Er ?_; refine A8 (fun h23 => ?_) (fun h23 => ?_)
                     ·refine Is ?_; refine Ax f_ rfl A7 () (by simp_all [Ch]) (fun w hs => hs.none)
                     ·refine Er ?_; refine A8 (fun h23 => ?_) (fun h23 => ?_)
                      ·refine Is ?_; refine Ax f_ rfl A7 () (by simp_all [Ch]) (fun w hs => hs.none)
                      ·refine Er ?_; refine A8 (fun h23 => ?_) (fun h23 => ?_)
                       ·refine Is ?_; refine Ax f_ rfl A7 () (by simp_all [Ch]) (fun w hs => hs.none)
                       ·refine X1 ?_; refine A8 (fun h23 => ?_) (fun h23 => ?_)
                        ·refine C9 ?_; refine Ax f_ rfl A7 () (by simp_all [Ch]) (fun w hs => hs.none)
                        ·refine L3 ?_; refine Er ?_; refine A8 (fun h31 => ?_) (fun h31 => ?_)
                         ·refine Is ?_; refine Ax f_ rfl A7 () (by simp_all [Ch]) (fun w hs => hs.none)
                         ·refine X1 ?_; refine A8 (fun h31 => ?_) (fun h31 => ?_)
                          ·refine C9 ?_; refine Ax f_ rfl A7 () (by simp_all [Ch]) (fun w hs => hs.none)
                          ·refine Er ?_; refine A8 (fun h34 => ?_) (fun h34 => ?_)
                           ·refine C9 ?_; refine Ax f_ rfl A7 () (by simp_all [Ch]) (fun w hs => hs.none)
                           ·refine Er ?_; refine A8 (fun h36 => ?_) (fun h36 => ?_)
                            ·refine C9 ?_; refine Ax f_ rfl A7 () (by simp_all [Ch]) (fun w hs => hs.none)
                            ·refine Sj ?_; refine C9 ?_; refine Ax f_ rfl A7 () (by simp_all [Ch]) (fun w hs => hs.none)
theorem N4 (k : Int) : Spec prog 172 #[iv k] [] [] (fun _ : Unit => iv (C6 k)) (fun _ => []) (fun _ => []) := by
 refine Cy ntmps172 fun B hB => ?_
 refine X4 ?_; refine Lo ?_; refine zq8 ?_; refine L3 ?_; refine Er ?_; refine A8 (fun h4 => ?_) (fun h4 => ?_)
 ·refine Is ?_; refine Ax f_ rfl A7 () (by simp_all [C6]) (fun w hs => hs.none)
 ·refine Er ?_; refine A8 (fun h4 => ?_) (fun h4 => ?_)
  ·refine Is ?_; refine Ax f_ rfl A7 () (by simp_all [C6]) (fun w hs => hs.none)
  ·refine X1 ?_; refine A8 (fun h4 => ?_) (fun h4 => ?_)
   ·refine C9 ?_; refine Ax f_ rfl A7 () (by simp_all [C6]) (fun w hs => hs.none)
   ·refine Er ?_; refine A8 (fun h8 => ?_) (fun h8 => ?_)
    ·refine C9 ?_; refine Ax f_ rfl A7 () (by simp_all [C6]) (fun w hs => hs.none)
    ·refine Sj ?_; refine C9 ?_; refine Ax f_ rfl A7 () (by simp_all [C6]) (fun w hs => hs.none)
theorem L7 (k : Int) : Spec prog 121 #[iv k] [] [] (fun _ : Unit => iv (C6 k)) (fun _ => []) (fun _ => []) := by
 refine Cy ntmps121 fun B hB => ?_
 refine C9 ?_; refine O3 ?_; refine A8 (fun h4 => ?_) (fun h4 => ?_)
 ·refine C9 ?_; refine Ax f_ rfl A7 () (by simp_all [C6]) (fun w hs => hs.none)
 ·refine P6 ?_; refine Mp ?_; refine qI rfl rfl rfl I9 (fun hg7 => Cx ?_) (fun hg7 => ?_)
  ·refine Rp ?_; refine J7 ?_; refine qI rfl rfl rfl I9 (fun hg11 => Cx ?_) (fun hg11 => ?_)
   ·refine Rp ?_; refine J1 ?_; refine A8 (fun h14 => ?_) (fun h14 => ?_)
    ·refine C9 ?_; refine Ax f_ rfl A7 () (by simp_all [C6]) (fun w hs => hs.none)
    ·refine I1 ?_; refine C9 ?_; refine Ax f_ rfl A7 () (by simp_all [C6]) (fun w hs => hs.none)
   ·refine zq4 ?_; refine C9u ?_; refine C9 ?_; refine Ax f_ rfl A7 () (by simp_all [C6]) (fun w hs => hs.none)
  ·refine zq4 ?_; refine Ig ?_; refine J2 ?_; refine C9u ?_; refine C9 ?_; refine Ax f_ rfl A7 () (by simp_all [C6]) (fun w hs => hs.none)
theorem Rt (k : Int) : Spec prog 206 #[iv k] [] [] (fun _ : Unit => iv (more k)) (fun _ => []) (fun _ => []) := by
 refine Cy ntmps206 fun B hB => ?_
 refine C9 ?_; refine O3 ?_; refine A8 (fun h4 => ?_) (fun h4 => ?_)
 ·refine C9 ?_; refine Ax f_ rfl A7 () (by simp_all [more]) (fun w hs => hs.none)
 ·refine I1 ?_; refine C9 ?_; refine Ax f_ rfl A7 () (by simp_all [more]) (fun w hs => hs.none)
theorem Q7 (k i : Int) : Spec prog 205 #[iv k, iv i] [] [] (fun _ : Unit => .tuple #[iv (binds k i).1, iv (binds k i).2]) (fun _ => []) (fun _ => []) := by
 refine Cy ntmps205 fun B hB => ?_
 refine O1 ?_; refine Mp ?_; refine qI rfl rfl rfl I9 (fun hg8 => Cx ?_) (fun hg8 => ?_)
 ·refine Rp ?_; refine D9 ?_; refine qI rfl rfl rfl I9 (fun hg11 => Cx ?_) (fun hg11 => ?_)
  ·refine R1 ?_; refine Gk ?_; refine A8 (fun h15 => ?_) (fun h15 => ?_)
   ·refine Ei ?_; refine B1 f_ rfl A7 A7 () (by simp_all [binds]) (fun w hs => hs.none)
   ·refine P6 ?_; refine Mp ?_; refine qI rfl rfl rfl I9 (fun hg18 => Cx ?_) (fun hg18 => ?_)
    ·refine Rp ?_; refine D9 ?_; refine qI rfl rfl rfl I9 (fun hg21 => Cx ?_) (fun hg21 => ?_)
     ·refine R1 ?_; refine D9 ?_; refine qI rfl rfl rfl I9 (fun hg25 => Cx ?_) (fun hg25 => ?_)
      ·refine R1 ?_; refine Gk ?_; refine A8 (fun h29 => ?_) (fun h29 => ?_)
       ·refine Ei ?_; refine B1 f_ rfl A7 A7 () (by simp_all [binds]) (fun w hs => hs.none)
       ·refine P6 ?_; refine Mp ?_; refine qI rfl rfl rfl I9 (fun hg32 => Cx ?_) (fun hg32 => ?_)
        ·refine Rp ?_; refine D9 ?_; refine qI rfl rfl rfl I9 (fun hg35 => Cx ?_) (fun hg35 => ?_)
         ·refine R1 ?_; refine D9 ?_; refine qI rfl rfl rfl I9 (fun hg39 => Cx ?_) (fun hg39 => ?_)
          ·refine R1 ?_; refine Gk ?_; refine A8 (fun h43 => ?_) (fun h43 => ?_)
           ·refine Ei ?_; refine B1 f_ rfl A7 A7 () (by simp_all [binds]) (fun w hs => hs.none)
           ·refine I1 ?_; refine Ei ?_; refine B1 f_ rfl A7 A7 () (by simp_all [binds]) (fun w hs => hs.none)
          ·refine L0 ?_; refine R0 ?_; refine B1 f_ rfl A7 A7 () (by simp_all [binds]) (fun w hs => hs.none)
         ·refine L0 ?_; refine D9 ?_; refine J2 ?_; refine Sv ?_; refine R0 ?_; refine B1 f_ rfl A7 A7 () (by simp_all [binds]) (fun w hs => hs.none)
        ·refine Pv ?_; refine V0 ?_; refine A1k ?_; refine I1 ?_; refine Ei ?_; refine B1 f_ rfl A7 A7 () (by simp_all [binds]) (fun w hs => hs.none)
      ·refine L0 ?_; refine R0 ?_; refine B1 f_ rfl A7 A7 () (by simp_all [binds]) (fun w hs => hs.none)
     ·refine L0 ?_; refine D9 ?_; refine J2 ?_; refine Sv ?_; refine R0 ?_; refine B1 f_ rfl A7 A7 () (by simp_all [binds]) (fun w hs => hs.none)
    ·refine Pv ?_; refine V0 ?_; refine A1k ?_; refine P6 ?_; refine Mp ?_; refine qI rfl rfl rfl I9 (fun hg32 => Cx ?_) (fun hg32 => ?_)
     ·refine Rp ?_; refine D9 ?_; refine qI rfl rfl rfl I9 (fun hg35 => Cx ?_) (fun hg35 => ?_)
      ·refine R1 ?_; refine D9 ?_; refine qI rfl rfl rfl I9 (fun hg39 => Cx ?_) (fun hg39 => ?_)
       ·refine R1 ?_; refine Gk ?_; refine A8 (fun h43 => ?_) (fun h43 => ?_)
        ·refine Ei ?_; refine B1 f_ rfl A7 A7 () (by simp_all [binds]) (fun w hs => hs.none)
        ·refine I1 ?_; refine Ei ?_; refine B1 f_ rfl A7 A7 () (by simp_all [binds]) (fun w hs => hs.none)
       ·refine L0 ?_; refine R0 ?_; refine B1 f_ rfl A7 A7 () (by simp_all [binds]) (fun w hs => hs.none)
      ·refine L0 ?_; refine D9 ?_; refine J2 ?_; refine Sv ?_; refine R0 ?_; refine B1 f_ rfl A7 A7 () (by simp_all [binds]) (fun w hs => hs.none)
     ·refine Pv ?_; refine V0 ?_; refine A1k ?_; refine I1 ?_; refine Ei ?_; refine B1 f_ rfl A7 A7 () (by simp_all [binds]) (fun w hs => hs.none)
  ·refine L0 ?_; refine R0 ?_; refine B1 f_ rfl A7 A7 () (by simp_all [binds]) (fun w hs => hs.none)
 ·refine V0 ?_; refine A1k ?_; refine P6 ?_; refine Mp ?_; refine qI rfl rfl rfl I9 (fun hg18 => Cx ?_) (fun hg18 => ?_)
  ·refine Rp ?_; refine D9 ?_; refine qI rfl rfl rfl I9 (fun hg21 => Cx ?_) (fun hg21 => ?_)
   ·refine R1 ?_; refine D9 ?_; refine qI rfl rfl rfl I9 (fun hg25 => Cx ?_) (fun hg25 => ?_)
    ·refine R1 ?_; refine Gk ?_; refine A8 (fun h29 => ?_) (fun h29 => ?_)
     ·refine Ei ?_; refine B1 f_ rfl A7 A7 () (by simp_all [binds]) (fun w hs => hs.none)
     ·refine P6 ?_; refine Mp ?_; refine qI rfl rfl rfl I9 (fun hg32 => Cx ?_) (fun hg32 => ?_)
      ·refine Rp ?_; refine D9 ?_; refine qI rfl rfl rfl I9 (fun hg35 => Cx ?_) (fun hg35 => ?_)
       ·refine R1 ?_; refine D9 ?_; refine qI rfl rfl rfl I9 (fun hg39 => Cx ?_) (fun hg39 => ?_)
        ·refine R1 ?_; refine Gk ?_; refine A8 (fun h43 => ?_) (fun h43 => ?_)
         ·refine Ei ?_; refine B1 f_ rfl A7 A7 () (by simp_all [binds]) (fun w hs => hs.none)
         ·refine I1 ?_; refine Ei ?_; refine B1 f_ rfl A7 A7 () (by simp_all [binds]) (fun w hs => hs.none)
        ·refine L0 ?_; refine R0 ?_; refine B1 f_ rfl A7 A7 () (by simp_all [binds]) (fun w hs => hs.none)
       ·refine L0 ?_; refine D9 ?_; refine J2 ?_; refine Sv ?_; refine R0 ?_; refine B1 f_ rfl A7 A7 () (by simp_all [binds]) (fun w hs => hs.none)
      ·refine Pv ?_; refine V0 ?_; refine A1k ?_; refine I1 ?_; refine Ei ?_; refine B1 f_ rfl A7 A7 () (by simp_all [binds]) (fun w hs => hs.none)
    ·refine L0 ?_; refine R0 ?_; refine B1 f_ rfl A7 A7 () (by simp_all [binds]) (fun w hs => hs.none)
   ·refine L0 ?_; refine D9 ?_; refine J2 ?_; refine Sv ?_; refine R0 ?_; refine B1 f_ rfl A7 A7 () (by simp_all [binds]) (fun w hs => hs.none)
  ·refine Pv ?_; refine V0 ?_; refine A1k ?_; refine P6 ?_; refine Mp ?_; refine qI rfl rfl rfl I9 (fun hg32 => Cx ?_) (fun hg32 => ?_)
   ·refine Rp ?_; refine D9 ?_; refine qI rfl rfl rfl I9 (fun hg35 => Cx ?_) (fun hg35 => ?_)
    ·refine R1 ?_; refine D9 ?_; refine qI rfl rfl rfl I9 (fun hg39 => Cx ?_) (fun hg39 => ?_)
     ·refine R1 ?_; refine Gk ?_; refine A8 (fun h43 => ?_) (fun h43 => ?_)
      ·refine Ei ?_; refine B1 f_ rfl A7 A7 () (by simp_all [binds]) (fun w hs => hs.none)
      ·refine I1 ?_; refine Ei ?_; refine B1 f_ rfl A7 A7 () (by simp_all [binds]) (fun w hs => hs.none)
     ·refine L0 ?_; refine R0 ?_; refine B1 f_ rfl A7 A7 () (by simp_all [binds]) (fun w hs => hs.none)
    ·refine L0 ?_; refine D9 ?_; refine J2 ?_; refine Sv ?_; refine R0 ?_; refine B1 f_ rfl A7 A7 () (by simp_all [binds]) (fun w hs => hs.none)
   ·refine Pv ?_; refine V0 ?_; refine A1k ?_; refine I1 ?_; refine Ei ?_; refine B1 f_ rfl A7 A7 () (by simp_all [binds]) (fun w hs => hs.none)
theorem Int.ofNat_max' (a b : Nat) : ((max a b : Nat) : Int) = if (b : Int) > (a : Int) then (b : Int) else (a : Int) := by
 split <;> omega
theorem A9x (t : T) (vr vk vs : SH) (c : FuncId) (cap : List Value) (FΓ : List Fact) (M : List Bq) (g : Part → Bool)
  (hc : ∀ (args : Array Value) (w : World), (callFunc c args).run prog w = .ok (.enter c args) w)
  (hcl : ∀ k v d, (k, v, d) ∈ parts t → ∀ vr vk vs, Spec prog c (.agg (tc k vr vk vs).toArray :: iv v :: iv d :: cap).toArray (RT k vr vk vs :: FΓ) M (fun _ : Unit => .bool (g (k, v, d))) (fun _ => []) (fun _ => M)) :
  Spec prog 98 #[.agg (tc t vr vk vs).toArray, .func (.func c) #[] cap.toArray] (RT t vr vk vs :: FΓ) M (fun _ : Unit => .bool ((parts t).all g)) (fun _ => []) (fun _ => M) := by
 have h := A9w t vr vk vs c cap FΓ (fun _ => M) (fun _ => M) (B3x t g) hc (fun m k v d hm _ vr vk vs => by simpa [Ts hm] using hcl k v d (Gy hm) vr vk vs); rw [D5b] at h; simpa using h
abbrev A0b (t : T) : Prop := ∀ (left : Int) vr vk vs, Au left → Spec prog 162 #[.agg (tc t vr vk vs).toArray, iv left] [RT t vr vk vs] [] (fun _ : Unit => .bool (decide ((depth t : Int) ≤ left))) (fun _ => []) (fun _ => [])
theorem A6q (k : T) (vr vk vs : SH) (b : Nat) (left v d : Int) (h0 : 0 < left) (hl : Au left) (ih : A0b k) : Spec prog 215 #[.agg (tc k vr vk vs).toArray, iv v, iv d, pz b] [RT k vr vk vs] [Ae b [iv left] 3] (fun _ : Unit => .bool (decide ((depth k : Int) ≤ left - 1))) (fun _ => []) (fun _ => [Ae b [iv left] 3]) := by
 refine Cy ntmps215 fun B hB => ?_
 refine Bf ?_; refine q0 rfl (Ba fun b4 => ?_); refine Uz ?_; refine B0z ?_; refine B4i ?_; refine q0 rfl (A0 call162 (ih (left - 1) vr vk vs (by unfold Au at *; omega)) (fun x11 => ?_)); refine Ci ?_; refine Ax f_ rfl A7 () rfl (fun w hs => (hs.l8).drop)
theorem B1q (t : T) (ih : ∀ p, p ∈ parts t → A0b p.1) (left : Int) (vr vk vs : SH) (hl : Au left) : Spec prog 162 #[.agg (tc t vr vk vs).toArray, iv left] [RT t vr vk vs] [] (fun _ : Unit => .bool (decide ((depth t : Int) ≤ left))) (fun _ => []) (fun _ => []) := by
 refine Cy ntmps162 fun B hB => ?_
 refine Bf ?_; refine q0 rfl (Ba fun b2 => ?_); refine q0 rfl (Ba fun b3 => ?_); refine Ci ?_; refine X0 ?_; refine C9r ?_; refine Ek ?_; refine qI rfl rfl rfl I9 (fun hg7 => Td ?_) (fun hg7 => ?_)
 ·refine qT rfl rfl rfl (C0w ?_); have h0 : 0 < left := of_decide_eq_true hg7; have hE := A9x t vr vk vs 215 [pz b3] [] [Ae b3 [iv left] 3] (fun p => decide ((depth p.1 : Int) ≤ left - 1)) call215 (fun k v d hm vr vk vs => A6q k vr vk vs b3 left v d h0 hl (ih _ hm)); rw [← C9b t left h0] at hE; refine qT rfl rfl rfl (A0 call98 (hE) (fun x10 => ?_)); refine Gn ?_; refine Ax f_ rfl A7 () rfl (fun w hs => hs.none)
 ·refine T1 ?_; have h0 : ¬ 0 < left := of_decide_eq_false hg7; have hp := B0d t; refine Ax f_ rfl A7 () (by rw [decide_eq_false A3]) (fun w hs => hs.none)
theorem B1r : ∀ t : T, A0b t := T.ind fun t ih left vr vk vs hl => B1q t ih left vr vk vs hl
def leftOf (t : T) (m : Int) : Int := if (size t : Int) ≤ m then m - size t else -1
abbrev A6c (b bc : Nat) : List Value := [pz b, pz bc]
abbrev K2 (b bc : Nat) (m : Int) : List Bq := [Ae b [iv m] 3, Ae bc [.func (.func 216) #[] (A6c b bc).toArray] 63]
abbrev A2c (t : T) : Prop := ∀ (m : Int) b bc vr vk vs, 0 ≤ m → Au m → Spec prog 216 #[.agg (tc t vr vk vs).toArray, pz b, pz bc] [RT t vr vk vs] (K2 b bc m) (fun _ : Unit => .bool (decide ((size t : Int) ≤ m))) (fun _ => []) (fun _ => K2 b bc (leftOf t m))
theorem B1l (k : T) (vr vk vs : SH) (b bc : Nat) (m v d : Int) (h0 : 0 ≤ m) (hl : Au m) (ih : A2c k) : Spec prog 217 #[.agg (tc k vr vk vs).toArray, iv v, iv d, pz bc] [RT k vr vk vs] (K2 b bc m) (fun _ : Unit => .bool (decide ((size k : Int) ≤ m))) (fun _ => []) (fun _ => K2 b bc (leftOf k m)) := by
 refine Cy ntmps217 fun B hB => ?_
 refine Bf ?_; refine q0 rfl (Ba fun b4 => ?_); refine Ci ?_; refine X0 ?_; refine I8 ?_; refine q0 rfl (Fy call216 (ih m b bc vr vk vs h0 hl) (cap := A6c b bc) (fun x10 => ?_)); refine Ci ?_; refine Ax f_ rfl A7 () rfl (fun w hs => (hs.l8).Bx (A := K2 b bc (leftOf k m)))
theorem C2a (t : T) (ih : ∀ p, p ∈ parts t → A2c p.1) (m : Int) (b bc : Nat) (vr vk vs : SH) (h0 : 0 < m) (hl : Au m) :
  Spec prog 98 #[.agg (tc t vr vk vs).toArray, .func (.func 217) #[] #[pz bc]] [RT t vr vk vs] (K2 b bc (m - 1)) (fun _ : Unit => .bool (decide ((size t : Int) ≤ m))) (fun _ => []) (fun _ => K2 b bc (leftOf t m)) := by
 have h := A9w t vr vk vs 217 [pz bc] [] (fun j => K2 b bc (if (Cj t j : Int) ≤ m then m - Cj t j else -1)) (fun _ => K2 b bc (-1)) (fun j => decide ((Cj t (j + 1) : Int) ≤ m)) call217 ?_
 ·have hall : (ff (fun j => decide ((Cj t (j + 1) : Int) ≤ m)) (parts t).length == (parts t).length) = decide ((size t : Int) ≤ m) := by
   rw [Bool.eq_iff_iff, beq_iff_eq, Zs, decide_eq_true_iff]; constructor
   ·intro h; cases hn : (parts t).length with
    | zero => have := M1 t; rw [hn, N9] at this; omega
    | succ n =>
     have := h n A3; rw [← hn, M1] at this; exact of_decide_eq_true this
   ·intro h j hj; have := T4 t (j + 1); exact decide_eq_true A3
  simp only [hall, N9, M1, beq_iff_eq] at h; rw [if_pos A3] at h; by_cases hs : (size t : Int) ≤ m
  ·have e : ff (fun j => decide ((Cj t (j + 1) : Int) ≤ m)) (parts t).length = (parts t).length := by rw [← beq_iff_eq, hall]; exact decide_eq_true hs
   simp only [e, if_true, if_pos hs] at h; unfold leftOf; rw [if_pos hs]; exact h
  ·have e : ¬ ff (fun j => decide ((Cj t (j + 1) : Int) ≤ m)) (parts t).length = (parts t).length := by rw [← beq_iff_eq, hall]; simpa using hs
   simp only [if_neg e] at h; unfold leftOf; rw [if_neg hs]; exact h
 ·intro j k v d hm hβ vr vk vs; have hs := K8 hm; simp only at hs; have hp := size_pos k
  have hj : (Cj t j : Int) ≤ m := by
   cases j with
   | zero => rw [N9]; omega
   | succ j => exact of_decide_eq_true (hβ j A3)
  have := B1l k vr vk vs b bc (m - Cj t j) v d A3 (by unfold Au at *; omega) (ih _ (Gy hm)); rw [if_pos hj]; have e1 : decide ((size k : Int) ≤ m - Cj t j) = decide ((Cj t (j + 1) : Int) ≤ m) := by rw [hs]; congr 1; apply propext; omega
  rw [e1] at this
  have e2 : K2 b bc (leftOf k (m - Cj t j)) = if decide ((Cj t (j + 1) : Int) ≤ m) = true then K2 b bc (if (Cj t (j + 1) : Int) ≤ m then m - Cj t (j + 1) else -1) else K2 b bc (-1) := by
   unfold leftOf; by_cases hk : (Cj t (j + 1) : Int) ≤ m
   ·rw [if_pos A3, if_pos (decide_eq_true hk), if_pos hk, hs]; congr 1; omega
   ·rw [if_neg A3, if_neg (by simpa using hk)]
  rw [e2] at this; exact this
theorem B5f (t : T) (ih : ∀ p, p ∈ parts t → A2c p.1) (m : Int) (b bc : Nat) (vr vk vs : SH) (h0 : 0 ≤ m) (hl : Au m) : Spec prog 216 #[.agg (tc t vr vk vs).toArray, pz b, pz bc] [RT t vr vk vs] (K2 b bc m) (fun _ : Unit => .bool (decide ((size t : Int) ≤ m))) (fun _ => []) (fun _ => K2 b bc (leftOf t m)) := by
 refine Cy ntmps216 fun B hB => ?_
 refine Bf ?_; refine q0 rfl (Ba fun b3 => ?_); refine Ci ?_; refine X0 ?_; refine B4i ?_; refine C9w ?_; refine X0 ?_; refine A6j ?_; refine Ek ?_; refine qI rfl rfl rfl I9 (fun hg9 => Td ?_) (fun hg9 => ?_)
 ·refine qT rfl rfl rfl (C0w ?_); have h1 : 0 ≤ m - 1 := of_decide_eq_true hg9; have hE := C2a t ih m b bc vr vk vs A3 hl; refine qT rfl rfl rfl (A0 call98 (hE) (fun x12 => ?_) (hm := (List.Perm.swap _ _ _).cons _)); refine Gn ?_; refine Ax f_ rfl A7 () rfl (fun w hs => (hs.l8).Bx (A := K2 b bc (leftOf t m)))
 ·refine T1 ?_; have h1 : ¬ 0 ≤ m - 1 := of_decide_eq_false hg9; have hp := size_pos t; refine Ax f_ rfl A7 () (by rw [decide_eq_false A3]) (fun w hs => by rw [leftOf, if_neg A3, show (-1 : Int) = m - 1 by omega]; exact ((hs.l7).perm ((List.Perm.swap _ _ _).cons _)).Bx (A := K2 b bc (m - 1)))
theorem C1z : ∀ t : T, A2c t := T.ind fun t ih m b bc vr vk vs h0 hl => B5f t ih m b bc vr vk vs h0 hl
def D6c : Prop := ∀ (l : List Cl) (a : SH), Spec prog 137 #[sl a l.length] [CL l a] [] (fun _ : Unit => .bool (A9 l)) (fun _ => []) (fun _ => [])
def B0u : Prop := ∀ (l : List Cl) (a : SH), Spec prog 88 #[sl a l.length] [CL l a] [] (fun _ : Unit => .bool (A2 l)) (fun _ => []) (fun _ => [])
def D6d : Prop := ∀ (l : List Cl) (a : SH), Spec prog 97 #[sl a l.length] [CL l a] [] (fun _ : Unit => .int .u32 (E5 l : Int)) (fun _ => []) (fun _ => [])
def C9p : Prop := D6c ∧ B0u ∧ D6d
theorem B9l (t : T) (vr vk vs : SH) (E1 : Int) (h0 : 0 ≤ E1) (hl : Au E1) : Spec prog 163 #[.agg (tc t vr vk vs).toArray, iv E1] [RT t vr vk vs] [] (fun _ : Unit => .bool (decide ((size t : Int) ≤ E1))) (fun _ => []) (fun _ => []) := by
 refine Cy ntmps163 fun B hB => ?_
 refine Bf ?_; refine q0 rfl (Ba fun b2 => ?_); refine q0 rfl (Ba fun b3 => ?_); refine Ci ?_; refine Bf ?_; refine q0 rfl (Bk fun b5 => ?_); refine Lo ?_; refine Bf ?_; refine Su ?_; refine En ?_; refine X0 ?_; refine I8 ?_; refine q0 rfl (Fy call216 (C1z t E1 b3 b5 vr vk vs h0 hl) (cap := A6c b3 b5) (fun x9 => ?_)); refine Ci ?_; refine Ax f_ rfl A7 () rfl (fun w hs => hs.none)
theorem B9m (t : T) (vr vk vs : SH) : Spec prog 85 #[.agg (tc t vr vk vs).toArray] [RT t vr vk vs] [] (fun _ : Unit => iv (sized t)) (fun _ => []) (fun _ => []) := by
 refine Cy ntmps85 fun B hB => ?_
 refine Bf ?_; refine q0 rfl (Ba fun b1 => ?_); refine Ez ?_; refine zq8 ?_; refine I2 ?_; refine q0 rfl (A0 call162 (B1r t 200 vr vk vs (by unfold Au; omega)) (fun x5 => ?_)); refine D6k ?_; refine Ci ?_; refine A8 (fun h3 => ?_) (fun h3 => ?_)
 ·refine C9 ?_; have h : 200 < depth t := by simp at h3; omega
  refine Ax f_ rfl A7 () (by rw [sized, if_pos h]) (fun w hs => hs.none)
 ·refine I2 ?_; refine q0 rfl (A0 call163 (B9l t vr vk vs 20000 A3 (by unfold Au; omega)) (fun x9 => ?_)); refine D6k ?_; refine Ci ?_; refine A8 (fun h7 => ?_) (fun h7 => ?_)
  ·refine C9 ?_; have h : ¬ 200 < depth t := by simp at h3; omega
   have h2 : 20000 < size t := by simp at h7; omega
   refine Ax f_ rfl A7 () (by rw [sized, if_neg h, if_pos h2]) (fun w hs => hs.none)
  ·refine Sj ?_; refine C9 ?_; have h : ¬ 200 < depth t := by simp at h3; omega
   have h2 : ¬ 20000 < size t := by simp at h7; omega
   refine Ax f_ rfl A7 () (by rw [sized, if_neg h, if_neg h2]) (fun w hs => hs.none)
theorem C7x (s : ByteArray) (hs : s.size ≤ Hl) : Spec prog 218 #[.string s] [] [] (fun _ : Unit => .bool (Ku s)) (fun _ => []) (fun _ => []) := by
 refine Cy ntmps218 fun B hB => ?_
 refine X4 ?_; refine q0 rfl (Tc ?_); refine D6j ?_; refine zq8 ?_; refine Eu (X := Nat) (fun i => i ≤ s.size ∧ ∀ j, j < i → Xx s j = true) (fun i => [(0, .string s), (7, iv (s.size : Int)), (8, iv (i : Int))]) (fun i => []) (fun i => []) (fun i => s.size - i) (0) (⟨Nat.zero_le _, fun j hj => by omega⟩) (by exact C7) ?_ ?_
 ·exact fun w hs => hs.none
 ·intro i base0 ⟨hi, hok⟩ next0; refine Fg ?_; refine A8 (fun h9 => ?_) (fun h9 => ?_)
  ·have hlt : i < s.size := by have := of_decide_eq_true h9; omega
   obtain ⟨c, hc, hca⟩ := C5j hlt; refine J4 ?_; refine O2 ?_; refine X3 ?_; refine q0 rfl (C4o ?_); refine Ez ?_; refine Aw ([(0, .string s), (3, iv (i : Int)), (4, .int .u8 c.toNat), (5, .bool (Hp c.toNat)), (7, iv (s.size : Int)), (8, iv (i : Int))]) (fun hK => ?_) (fun base => ?_)
   ·refine De ?_; refine A6j ?_; refine Ek ?_; refine qI rfl rfl rfl I9 (fun hg16 => Cx ?_) (fun hg16 => ?_)
    ·refine B9d ?_; refine Ig ?_; refine qI rfl rfl rfl I9 (fun hg20 => Cx ?_) (fun hg20 => ?_)
     ·refine A1j ?_; refine D9 ?_; refine qI rfl rfl rfl I9 (fun hg23 => Cx ?_) (fun hg23 => ?_)
      ·refine B9d ?_; refine Sv ?_; refine J7 ?_; refine qI rfl rfl rfl I9 (fun hg28 => Cx ?_) (fun hg28 => ?_)
       ·refine Rp ?_; refine K6 ?_; exact hK _ ⟨rfl, rfl, rfl, (by (conv => lhs; whnf); first | (simp_all [Hp]; done) | (simp_all [Hp]; omega)), rfl, rfl, trivial⟩
       ·refine zq4 ?_; refine Gn ?_; exact hK _ ⟨rfl, rfl, rfl, (by (conv => lhs; whnf); first | (simp_all [Hp]; done) | (simp_all [Hp]; omega)), rfl, rfl, trivial⟩
      ·refine zq4 ?_; refine Ui ?_; refine J7 ?_; refine D9 ?_; refine Rp ?_; refine K6 ?_; exact hK _ ⟨rfl, rfl, rfl, (by (conv => lhs; whnf); first | (simp_all [Hp]; done) | (simp_all [Hp]; omega)), rfl, rfl, trivial⟩
     ·refine Pv ?_; refine zq4 ?_; refine Ig ?_; refine J2 ?_; refine Gn ?_; exact hK _ ⟨rfl, rfl, rfl, (by (conv => lhs; whnf); first | (simp_all [Hp]; done) | (simp_all [Hp]; omega)), rfl, rfl, trivial⟩
    ·refine zq4 ?_; refine J7 ?_; refine D9 ?_; refine A1j ?_; refine D9 ?_; refine qI rfl rfl rfl I9 (fun hg23 => Cx ?_) (fun hg23 => ?_)
     ·refine B9d ?_; refine Sv ?_; refine J7 ?_; refine qI rfl rfl rfl I9 (fun hg28 => Cx ?_) (fun hg28 => ?_)
      ·refine Rp ?_; refine K6 ?_; exact hK _ ⟨rfl, rfl, rfl, (by (conv => lhs; whnf); first | (simp_all [Hp]; done) | (simp_all [Hp]; omega)), rfl, rfl, trivial⟩
      ·refine zq4 ?_; refine Gn ?_; exact hK _ ⟨rfl, rfl, rfl, (by (conv => lhs; whnf); first | (simp_all [Hp]; done) | (simp_all [Hp]; omega)), rfl, rfl, trivial⟩
     ·refine zq4 ?_; refine Ui ?_; refine J7 ?_; refine D9 ?_; refine Rp ?_; refine K6 ?_; exact hK _ ⟨rfl, rfl, rfl, (by (conv => lhs; whnf); first | (simp_all [Hp]; done) | (simp_all [Hp]; omega)), rfl, rfl, trivial⟩
   ·refine L3 ?_; refine Aw ([(0, .string s), (7, iv (s.size : Int)), (8, iv (i : Int)), (45, .bool (!(Xx s i)))]) (fun hK => ?_) (fun base => ?_)
    ·refine De ?_; refine Si ?_; refine qI rfl rfl rfl I9 (fun hg34 => Cx ?_) (fun hg34 => ?_)
     ·refine Rp ?_; refine D9 ?_; refine qI rfl rfl rfl I9 (fun hg37 => Cx ?_) (fun hg37 => ?_)
      ·refine B9e ?_; refine Ui ?_; refine D9 ?_; refine qI rfl rfl rfl I9 (fun hg41 => Cx ?_) (fun hg41 => ?_)
       ·refine A2e ?_; refine Ui ?_; refine Gk ?_; exact hK _ ⟨rfl, rfl, rfl, (by (conv => lhs; whnf); rw [hca]; first | (simp_all [digit]; done) | (simp_all [digit]; omega) | (simp_all [digit]; rw [← decide_not]; congr 1; apply propext; omega)), trivial⟩
       ·refine L0 ?_; refine Gk ?_; exact hK _ ⟨rfl, rfl, rfl, (by (conv => lhs; whnf); rw [hca]; first | (simp_all [digit]; done) | (simp_all [digit]; omega) | (simp_all [digit]; rw [← decide_not]; congr 1; apply propext; omega)), trivial⟩
      ·refine L0 ?_; refine D9 ?_; refine J2 ?_; refine Sv ?_; refine Gk ?_; exact hK _ ⟨rfl, rfl, rfl, (by (conv => lhs; whnf); rw [hca]; first | (simp_all [digit]; done) | (simp_all [digit]; omega) | (simp_all [digit]; rw [← decide_not]; congr 1; apply propext; omega)), trivial⟩
     ·refine Pv ?_; refine V0 ?_; exact hK _ ⟨rfl, rfl, rfl, (by (conv => lhs; whnf); rw [hca]; first | (simp_all [digit]; done) | (simp_all [digit]; omega) | (simp_all [digit]; rw [← decide_not]; congr 1; apply propext; omega)), trivial⟩
    ·refine A8 (fun h45 => ?_) (fun h45 => ?_)
     ·refine C9 ?_; refine Ax f_ rfl A7 () (by rw [A4f hlt (by simpa using h45)]) (fun w hs => hs.none)
     ·refine It ?_; have hb : Xx s i = true := by simpa using h45
      refine A1 (fun w hs => hs) (next0 (i + 1) _ ⟨hlt, fun j hj => (by rcases Nat.lt_succ_iff_lt_or_eq.mp hj with h | h; exact hok j h; subst h; exact hb)⟩ A3 C7)
  ·have hge : i = s.size := by have := of_decide_eq_false h9; omega
   refine E4 ?_; refine Ft ?_; refine q0 rfl (C4m ?_); refine Ci ?_; refine Ax f_ rfl A7 () (by rw [A4g (by rw [← hge]; exact hok), empty_eq]; rfl) (fun w hs => hs.none)
theorem Nj (hF : D6d) (l : List Cl) (a : SH) (dims : Int) (h0 : 0 ≤ dims) (hl : Au dims) : Spec prog 219 #[sl a l.length, iv dims] [CL l a] [] (fun _ : Unit => .bool (within l dims)) (fun _ => []) (fun _ => []) := by
 refine Cy ntmps219 fun B hB => ?_
 refine H3 ?_; refine A6j ?_; refine Ek ?_; refine qI rfl rfl rfl I9 (fun hg7 => Cx ?_) (fun hg7 => ?_)
 ·refine qT rfl rfl rfl (A0 call97 (hF l a) (fun x9 => ?_)); refine D9 ?_; refine qT rfl rfl rfl (E2o ?_); refine qT rfl rfl rfl (A3z ?_ (m := dims.toNat) (hy := congrArg (Value.int .u64) (C6i h0 hl))); refine Rp ?_; refine K6 ?_; refine Ax f_ rfl A7 () (by first | (simp_all [within]; done) | (simp_all [within]; intros; omega)) (fun w hs => hs.none)
 ·refine J2 ?_; refine Fp ?_; refine Gn ?_; refine Ax f_ rfl A7 () (by first | (simp_all [within]; done) | (simp_all [within]; intros; omega)) (fun w hs => hs.none)
theorem B6n (t : T) (hf : T9 t = true ∨ C9p) (vr vk vs : SH) (vars dims : Int) (hd : 0 ≤ dims) (hl : Au dims) : Spec prog 164 #[.agg (tc t vr vk vs).toArray, iv vars, iv dims] [RT t vr vk vs] [] (fun _ : Unit => .bool (Pg t vars dims)) (fun _ => []) (fun _ => []) := by
 refine Cy ntmps164 fun B hB => ?_
 refine go_open (fun hk hn hnm => ?_); refine Be (ts := t.kids) (fun VR VK VS hl1 hA1 => ?_); refine Bl (bs := t.sys) (fun VF VK2 hl2 hA2 => ?_); refine Bf ?_; refine q0 rfl (Ba fun b3 => ?_); refine O0 ?_; refine Aw ([(1, iv vars), (2, iv dims), (3, pz b3), (47, .bool (Kc t))]) (fun hK => ?_) (fun base => ?_)
 ·refine Bm (pn := 1000000) (tn := false) (A := [0, 1, 3, 0, 8, 24, 63, 127, 255, 511, 1023, 2047, 4095, 8191, 16383, 32767, 65535, 131071, 262143, 524287, 1048575, 2097151, 4194303, 8388607, 16777215, 33554431, 67108863, 134217727, 268435455, 536870911, 1073741823, 2147483647, 4294967295, 8589934591, 17179869183, 34359738367, 68719476735, 137438953471, 274877906943]) (l := [0, 1, 3, 4, 5, 2, 6, 7, 8, 9, 10, 11, 12, 13, 14, 15, 16, 17, 18, 19, 20, 21, 22, 23, 24, 25, 26, 27, 28, 29, 30, 31, 32, 33, 34, 35, 36, 37, 38]) (fin := []) Tab.mixed ⟨_, func164⟩ (by rfl) ?_; refine Wz ?_; refine n0 rfl (A7m ?_); refine n0 rfl (Bg call173 (A9j t.kind) (fun x11 => ?_)); refine n0 rfl (C2y ?_); refine Gr ?_; refine nI rfl rfl rfl I9 (fun hg16 => P9 ?_) (fun hg16 => ?_)
  ·refine Mm ?_; refine C5y ?_; refine Qk ?_; refine nI rfl rfl rfl I9 (fun hg20 => P9 ?_) (fun hg20 => ?_)
   ·refine Mm ?_; refine C5y ?_; refine B0y ?_; refine T0 ?_; refine nI rfl rfl rfl I9 (fun hg26 => P9 ?_) (fun hg26 => ?_)
    ·refine Mm ?_; refine C5y ?_; refine Qk ?_; refine nI rfl rfl rfl I9 (fun hg30 => P9 ?_) (fun hg30 => ?_)
     ·refine Mm ?_; refine nT rfl rfl rfl (D9h ?_); refine B0y ?_; refine T0 ?_; refine nI rfl rfl rfl I9 (fun hg36 => P9 ?_) (fun hg36 => ?_)
      ·refine Mm ?_; refine nT rfl rfl rfl (Bg call172 (N4 t.kind) (fun x39 => ?_)); refine C5x ?_; refine Qk ?_; refine nI rfl rfl rfl I9 (fun hg41 => P9 ?_) (fun hg41 => ?_)
       ·refine Mm ?_; refine B4h ?_; refine B9c ?_; refine B0y ?_; refine Mo ?_; exact hK _ ⟨rfl, rfl, rfl, (by (conv => lhs; whnf); first | (simp_all [Kc]; done) | (simp_all [Kc]; omega)), trivial⟩
       ·refine O4 ?_; refine Uk ?_; refine B0x ?_; refine Mo ?_; exact hK _ ⟨rfl, rfl, rfl, (by (conv => lhs; whnf); first | (simp_all [Kc]; done) | (simp_all [Kc]; omega)), trivial⟩
      ·refine K4 ?_; refine Nh ?_; refine Nh ?_; refine Uy ?_; exact hK _ ⟨rfl, rfl, rfl, (by (conv => lhs; whnf); first | (simp_all [Kc]; done) | (simp_all [Kc]; omega)), trivial⟩
     ·refine O4 ?_; refine B0x ?_; refine T0 ?_; refine B0w ?_; refine Mm ?_; refine nT rfl rfl rfl (Bg call172 (N4 t.kind) (fun x39 => ?_)); refine C5x ?_; refine Qk ?_; refine nI rfl rfl rfl I9 (fun hg41 => P9 ?_) (fun hg41 => ?_)
      ·refine Mm ?_; refine B4h ?_; refine B9c ?_; refine B0y ?_; refine Mo ?_; exact hK _ ⟨rfl, rfl, rfl, (by (conv => lhs; whnf); first | (simp_all [Kc]; done) | (simp_all [Kc]; omega)), trivial⟩
      ·refine O4 ?_; refine Uk ?_; refine B0x ?_; refine Mo ?_; exact hK _ ⟨rfl, rfl, rfl, (by (conv => lhs; whnf); first | (simp_all [Kc]; done) | (simp_all [Kc]; omega)), trivial⟩
    ·refine O4 ?_; refine Uk ?_; refine Nh ?_; refine C9s ?_; refine A7g ?_; refine Gr ?_; refine K4 ?_; refine Uk ?_; refine Nh ?_; refine Nh ?_; refine Uy ?_; exact hK _ ⟨rfl, rfl, rfl, (by (conv => lhs; whnf); first | (simp_all [Kc]; done) | (simp_all [Kc]; omega)), trivial⟩
   ·refine O4 ?_; refine B0x ?_; refine T0 ?_; refine B0w ?_; refine Mm ?_; refine C5y ?_; refine Qk ?_; refine nI rfl rfl rfl I9 (fun hg30 => P9 ?_) (fun hg30 => ?_)
    ·refine Mm ?_; refine nT rfl rfl rfl (D9h ?_); refine B0y ?_; refine T0 ?_; refine nI rfl rfl rfl I9 (fun hg36 => P9 ?_) (fun hg36 => ?_)
     ·refine Mm ?_; refine nT rfl rfl rfl (Bg call172 (N4 t.kind) (fun x39 => ?_)); refine C5x ?_; refine Qk ?_; refine nI rfl rfl rfl I9 (fun hg41 => P9 ?_) (fun hg41 => ?_)
      ·refine Mm ?_; refine B4h ?_; refine B9c ?_; refine B0y ?_; refine Mo ?_; exact hK _ ⟨rfl, rfl, rfl, (by (conv => lhs; whnf); first | (simp_all [Kc]; done) | (simp_all [Kc]; omega)), trivial⟩
      ·refine O4 ?_; refine Uk ?_; refine B0x ?_; refine Mo ?_; exact hK _ ⟨rfl, rfl, rfl, (by (conv => lhs; whnf); first | (simp_all [Kc]; done) | (simp_all [Kc]; omega)), trivial⟩
     ·refine K4 ?_; refine Nh ?_; refine Nh ?_; refine Uy ?_; exact hK _ ⟨rfl, rfl, rfl, (by (conv => lhs; whnf); first | (simp_all [Kc]; done) | (simp_all [Kc]; omega)), trivial⟩
    ·refine O4 ?_; refine B0x ?_; refine T0 ?_; refine B0w ?_; refine Mm ?_; refine nT rfl rfl rfl (Bg call172 (N4 t.kind) (fun x39 => ?_)); refine C5x ?_; refine Qk ?_; refine nI rfl rfl rfl I9 (fun hg41 => P9 ?_) (fun hg41 => ?_)
     ·refine Mm ?_; refine B4h ?_; refine B9c ?_; refine B0y ?_; refine Mo ?_; exact hK _ ⟨rfl, rfl, rfl, (by (conv => lhs; whnf); first | (simp_all [Kc]; done) | (simp_all [Kc]; omega)), trivial⟩
     ·refine O4 ?_; refine Uk ?_; refine B0x ?_; refine Mo ?_; exact hK _ ⟨rfl, rfl, rfl, (by (conv => lhs; whnf); first | (simp_all [Kc]; done) | (simp_all [Kc]; omega)), trivial⟩
  ·refine O4 ?_; refine Uk ?_; refine Nh ?_; refine C9s ?_; refine A7g ?_; refine Gr ?_; refine K4 ?_; refine Nh ?_; refine C9s ?_; refine A7g ?_; refine Gr ?_; refine K4 ?_; refine Uk ?_; refine Nh ?_; refine Nh ?_; refine Uy ?_; exact hK _ ⟨rfl, rfl, rfl, (by (conv => lhs; whnf); first | (simp_all [Kc]; done) | (simp_all [Kc]; omega)), trivial⟩
 ·refine A8 (fun h47 => ?_) (fun h47 => ?_)
  ·refine C9 ?_; refine Ax f_ rfl A7 () (by simp [Pg, h47]) (fun w hs => hs.none)
  ·refine K3 ?_; refine Lr ?_; refine Lo ?_; refine zq8 ?_; refine Er ?_; refine A8 (fun h50 => ?_) (fun h50 => ?_)
   ·refine L3 ?_; refine Aw ([(6, .bool (decide ((t.r.length : Int) = 0) && decide (0 ≤ t.n) && (decide (vars < 0) || decide (t.n < vars))))]) (fun hK => ?_) (fun base => ?_)
    ·refine H5 ?_; refine Mn ?_; refine Mp ?_; refine qI rfl rfl rfl I9 (fun hg56 => Zh ?_) (fun hg56 => ?_)
     ·refine Vi ?_; refine A1j ?_; refine Ig ?_; refine qI rfl rfl rfl I9 (fun hg61 => Cx ?_) (fun hg61 => ?_)
      ·refine B9e ?_; refine D9 ?_; refine qI rfl rfl rfl I9 (fun hg64 => Zh ?_) (fun hg64 => ?_)
       ·refine Vi ?_; refine D9 ?_; refine B9e ?_; refine Ui ?_; refine Gn ?_; exact hK _ ⟨(by (conv => lhs; whnf); first | (simp_all [Bool.and_assoc]; done) | (simp_all [Bool.and_assoc]; omega)), trivial⟩
       ·refine Fp ?_; refine Sv ?_; refine Gn ?_; exact hK _ ⟨(by (conv => lhs; whnf); first | (simp_all [Bool.and_assoc]; done) | (simp_all [Bool.and_assoc]; omega)), trivial⟩
      ·refine Pv ?_; refine X5 ?_; refine zq4 ?_; refine K6 ?_; exact hK _ ⟨(by (conv => lhs; whnf); first | (simp_all [Bool.and_assoc]; done) | (simp_all [Bool.and_assoc]; omega)), trivial⟩
     ·refine J2 ?_; refine J7 ?_; refine Fp ?_; refine X5 ?_; refine X5 ?_; refine zq4 ?_; refine K6 ?_; exact hK _ ⟨(by (conv => lhs; whnf); first | (simp_all [Bool.and_assoc]; done) | (simp_all [Bool.and_assoc]; omega)), trivial⟩
    ·refine Ax f_ rfl A7 () (by simp_all [Pg, Bool.and_assoc]) (fun w hs => hs.none)
   ·refine Er ?_; refine A8 (fun h71 => ?_) (fun h71 => ?_)
    ·refine L3 ?_; refine Aw ([(6, .bool (decide ((t.r.length : Int) = 0) && Ku t.name))]) (fun hK => ?_) (fun base => ?_)
     ·refine H5 ?_; refine Mn ?_; refine Mp ?_; refine qI rfl rfl rfl I9 (fun hg77 => Zh ?_) (fun hg77 => ?_)
      ·refine Vi ?_; refine qT rfl rfl rfl (A0 call218 (C7x t.name hnm) (fun x80 => ?_)); refine Gn ?_; exact hK _ ⟨(by (conv => lhs; whnf); first | (simp_all [Bool.and_assoc]; done) | (simp_all [Bool.and_assoc]; omega)), trivial⟩
      ·refine T1 ?_; exact hK _ ⟨(by (conv => lhs; whnf); first | (simp_all [Bool.and_assoc]; done) | (simp_all [Bool.and_assoc]; omega)), trivial⟩
     ·refine Ax f_ rfl A7 () (by simp_all [Pg, Bool.and_assoc]) (fun w hs => hs.none)
    ·refine L3 ?_; refine Er ?_; refine A8 (fun h82 => ?_) (fun h82 => ?_)
     ·refine A0d ?_; refine L3 ?_; refine Aw ([(6, .bool (A9 t.r && within t.r dims))]) (fun hK => ?_) (fun base => ?_)
      ·refine H5 ?_; refine q0 rfl (A0 call137 ((Lh hf (by simp_all)).1 t.r vr) (fun x88 => ?_)); refine Ek ?_; refine qI rfl rfl rfl I9 (fun hg89 => Zh ?_) (fun hg89 => ?_)
       ·refine Vi ?_; refine D9 ?_; refine qT rfl rfl rfl (A0 call219 (Nj (Lh hf (by simp_all)).2.2 t.r vr dims hd hl) (fun x93 => ?_)); refine Gn ?_; exact hK _ ⟨(by (conv => lhs; whnf); first | (simp_all [Bool.and_assoc]; done) | (simp_all [Bool.and_assoc]; omega)), trivial⟩
       ·refine Fp ?_; refine K6 ?_; exact hK _ ⟨(by (conv => lhs; whnf); first | (simp_all [Bool.and_assoc]; done) | (simp_all [Bool.and_assoc]; omega)), trivial⟩
      ·refine Ax f_ rfl A7 () (by simp_all [Pg, Bool.and_assoc]) (fun w hs => hs.none)
     ·refine Er ?_; refine A8 (fun h82 => ?_) (fun h82 => ?_)
      ·refine A0d ?_; refine L3 ?_; refine Aw ([(6, .bool (A9 t.r && within t.r dims))]) (fun hK => ?_) (fun base => ?_)
       ·refine H5 ?_; refine q0 rfl (A0 call137 ((Lh hf (by simp_all)).1 t.r vr) (fun x88 => ?_)); refine Ek ?_; refine qI rfl rfl rfl I9 (fun hg89 => Zh ?_) (fun hg89 => ?_)
        ·refine Vi ?_; refine D9 ?_; refine qT rfl rfl rfl (A0 call219 (Nj (Lh hf (by simp_all)).2.2 t.r vr dims hd hl) (fun x93 => ?_)); refine Gn ?_; exact hK _ ⟨(by (conv => lhs; whnf); first | (simp_all [Bool.and_assoc]; done) | (simp_all [Bool.and_assoc]; omega)), trivial⟩
        ·refine Fp ?_; refine K6 ?_; exact hK _ ⟨(by (conv => lhs; whnf); first | (simp_all [Bool.and_assoc]; done) | (simp_all [Bool.and_assoc]; omega)), trivial⟩
       ·refine Ax f_ rfl A7 () (by simp_all [Pg, Bool.and_assoc]) (fun w hs => hs.none)
      ·refine X1 ?_; refine A8 (fun h82 => ?_) (fun h82 => ?_)
       ·refine L3 ?_; refine Aw ([(6, .bool (A9 t.r && within t.r dims))]) (fun hK => ?_) (fun base => ?_)
        ·refine H5 ?_; refine q0 rfl (A0 call137 ((Lh hf (by simp_all)).1 t.r vr) (fun x88 => ?_)); refine Ek ?_; refine qI rfl rfl rfl I9 (fun hg89 => Zh ?_) (fun hg89 => ?_)
         ·refine Vi ?_; refine D9 ?_; refine qT rfl rfl rfl (A0 call219 (Nj (Lh hf (by simp_all)).2.2 t.r vr dims hd hl) (fun x93 => ?_)); refine Gn ?_; exact hK _ ⟨(by (conv => lhs; whnf); first | (simp_all [Bool.and_assoc]; done) | (simp_all [Bool.and_assoc]; omega)), trivial⟩
         ·refine Fp ?_; refine K6 ?_; exact hK _ ⟨(by (conv => lhs; whnf); first | (simp_all [Bool.and_assoc]; done) | (simp_all [Bool.and_assoc]; omega)), trivial⟩
        ·refine Ax f_ rfl A7 () (by simp_all [Pg, Bool.and_assoc]) (fun w hs => hs.none)
       ·refine Er ?_; refine A8 (fun h95 => ?_) (fun h95 => ?_)
        ·refine L3 ?_; refine Aw ([(6, .bool (A2 t.r && within t.r dims))]) (fun hK => ?_) (fun base => ?_)
         ·refine H5 ?_; refine q0 rfl (A0 call88 ((Lh hf (by simp_all)).2.1 t.r vr) (fun x99 => ?_)); refine Ek ?_; refine qI rfl rfl rfl I9 (fun hg100 => Zh ?_) (fun hg100 => ?_)
          ·refine Vi ?_; refine D9 ?_; refine qT rfl rfl rfl (A0 call219 (Nj (Lh hf (by simp_all)).2.2 t.r vr dims hd hl) (fun x104 => ?_)); refine Gn ?_; exact hK _ ⟨(by (conv => lhs; whnf); first | (simp_all [Bool.and_assoc]; done) | (simp_all [Bool.and_assoc]; omega)), trivial⟩
          ·refine Fp ?_; refine K6 ?_; exact hK _ ⟨(by (conv => lhs; whnf); first | (simp_all [Bool.and_assoc]; done) | (simp_all [Bool.and_assoc]; omega)), trivial⟩
         ·refine Ax f_ rfl A7 () (by simp_all [Pg, Bool.and_assoc]) (fun w hs => hs.none)
        ·refine Sj ?_; refine K5 ?_; refine Lv ?_; refine Eu (X := Nat) (fun i => i ≤ t.sys.length ∧ ∀ j, j < i → Ps t dims (t.sys.getD j Bp) = true) (fun i => [(2, iv dims), (3, pz b3), (107, sl vs t.sys.length), (108, iv (t.sys.length : Int)), (109, iv (i : Int))]) (fun i => BLx t.sys vs VF VK2 :: RT t vr vk vs :: []) (fun i => [Ae b3 (tc t vr vk vs) 35]) (fun i => t.sys.length - i) (0) (⟨Nat.zero_le _, fun j hj => by omega⟩) (by exact C7) ?_ ?_
         ·exact fun w hs => hs.l9
         ·intro i base0 ⟨hi, hok⟩ next0; refine Fg ?_; refine A8 (fun h110 => ?_) (fun h110 => ?_)
          ·have hlt : i < t.sys.length := by have := of_decide_eq_true h110; omega
           obtain ⟨bk, o, hav⟩ := hA2 A3; refine J8 ?_; refine Pr ?_; refine B4j ?_; refine q0 rfl (Bk fun b8 => ?_); refine Sk ?_; refine F9 i hlt ?_; refine Aw ([(2, iv dims), (3, pz b3), (107, sl vs t.sys.length), (108, iv (t.sys.length : Int)), (109, iv (i : Int)), (132, .bool (!(Ps t dims (t.sys.getD i Bp))))]) (fun hK => ?_) (fun base => ?_)
           ·refine Bm (pn := 1000000) (tn := false) (A := [0, 1, 3, 0, 8, 24, 63, 127, 255, 511, 1023, 2047, 4095, 8191, 16383, 32767, 16383, 131071, 262143, 524287]) (l := [0, 1, 2, 3, 4, 5, 6, 7, 8, 9, 10, 11, 12, 13, 14, 15, 16, 17, 18, 19]) (fin := []) Tab.mixed ⟨_, func164⟩ (by rfl) ?_; refine L2 ?_; refine n0 rfl (A7m ?_); refine L2 ?_; refine n0 rfl (Bg call172 (N4 t.kind) (fun x118 => ?_)); refine n0 rfl (C2y ?_); refine Gr ?_; refine nI rfl rfl rfl I9 (fun hg120 => P9 ?_) (fun hg120 => ?_)
            ·refine Mm ?_; refine nT rfl rfl rfl (Bg call88 ((B7w hf hlt).2.1 _ (VF i)) (fun x123 => ?_)); refine nT rfl rfl rfl (A7l ?_); refine T0 ?_; refine nI rfl rfl rfl I9 (fun hg126 => P9 ?_) (fun hg126 => ?_)
             ·refine Mm ?_; refine Qk ?_; refine nT rfl rfl rfl (Bg call219 (Nj (B7w hf hlt).2.2 _ (VF i) dims hd hl) (fun x130 => ?_)); refine nT rfl rfl rfl (A7l ?_); refine Mo ?_; exact hK _ ⟨rfl, rfl, rfl, rfl, rfl, (by (conv => lhs; whnf); first | (simp_all [Ps]; done) | (simp_all [Ps]; omega)), trivial⟩
             ·refine K4 ?_; refine B4k ?_; refine Pw ?_; exact hK _ ⟨rfl, rfl, rfl, rfl, rfl, (by (conv => lhs; whnf); first | (simp_all [Ps]; done) | (simp_all [Ps]; omega)), trivial⟩
            ·refine O4 ?_; refine A7g ?_; refine Gr ?_; refine K4 ?_; refine Uy ?_; exact hK _ ⟨rfl, rfl, rfl, rfl, rfl, (by (conv => lhs; whnf); first | (simp_all [Ps]; done) | (simp_all [Ps]; omega)), trivial⟩
           ·refine A8 (fun h132 => ?_) (fun h132 => ?_)
            ·refine C9 ?_; have ha := B3z hlt (by simpa using h132); refine Ax f_ rfl A7 () (by rw [Pg, ha]; clear hok ha h132; simp_all [Bool.and_assoc]) (fun w hs => hs.none)
            ·refine It ?_; have hb : Ps t dims (t.sys.getD i Bp) = true := by simpa using h132
             refine A1 (fun w hs => ?_) (next0 (i + 1) _ ⟨hlt, fun j hj => (by rcases Nat.lt_succ_iff_lt_or_eq.mp hj with h | h; exact hok j h; subst h; exact hb)⟩ A3 C7); exact (hs.l9).drop
          ·have hge : i = t.sys.length := by have := of_decide_eq_false h110; omega
           refine E4 ?_; refine Lr ?_; refine Mn ?_; refine C9x ?_; have ha := D5x (t := t) (g := Ps t dims) (by rw [← hge]; exact hok); refine Ax f_ rfl A7 () (by rw [Pg, ha]; clear hok ha; simp_all [Bool.and_assoc]) (fun w hs => hs.none)
abbrev D6h (t : T) : Prop := (Qp t = true ∨ C9p) → ∀ (vars dims : Int) (bound : Bool) vr vk vs, Au vars → 0 ≤ dims → dims + depth t ≤ 1152921504606846976 → Spec prog 86 #[.agg (tc t vr vk vs).toArray, iv vars, iv dims, .bool bound] [RT t vr vk vs] [] (fun _ : Unit => .bool (Lp t vars dims bound)) (fun _ => []) (fun _ => [])
abbrev E5h (b1 b2 b3 : Nat) : List Value := [pz b1, pz b2, pz b3]
abbrev E5g (b1 b2 b3 : Nat) (vars dims : Int) (bound : Bool) : List Bq := [Ae b1 [iv vars] 3, Ae b2 [iv dims] 3, Ae b3 [.bool bound] 4]
def Qh (v d : Int) : Prop := 0 ≤ v ∧ v ≤ 1 ∧ 0 ≤ d ∧ d ≤ 1
theorem B8p (k i : Int) : Qh (binds k i).1 (binds k i).2 := by
 unfold binds Qh; repeat (split; (simp))
 simp
theorem D2s {t : T} {k : T} {v d : Int} (h : (k, v, d) ∈ parts t) : Qh v d := by
 have hk : ∀ (kind : Int) (i : Nat) (ks : List T), (k, v, d) ∈ F5 kind i ks → Qh v d := by
  intro kind i ks
  induction ks generalizing i with
  | nil => intro h; simp [F5] at h
  | cons a ks ih =>
   intro h; simp only [F5, List.mem_cons] at h; rcases h with h | h
   ·have e : (v, d) = binds kind i := (Prod.mk.inj h).2; have := B8p kind i; rw [← e] at this; exact this
   ·exact ih _ h
 have hs : ∀ (kind : Int) (bs : List Br), (k, v, d) ∈ Dz kind bs → Qh v d := by
  intro kind bs
  induction bs with
  | nil => intro h; simp [Dz] at h
  | cons b bs ih =>
   intro h; simp only [Dz, List.mem_append, List.mem_map] at h; rcases h with ⟨a, ha, e⟩ | h
   ·have e2 := (Prod.mk.inj e).2; have e3 := (Prod.mk.inj e2); rw [← e3.1, ← e3.2]; unfold Qh more; split <;> simp
   ·exact ih h
 unfold parts at h; rcases List.mem_append.mp h with h | h
 ·exact hk _ _ _ h
 ·exact hs _ _ h
theorem Zw {t : T} {p : Part} (h : p ∈ parts t) : depth p.1 < depth t := by
 obtain ⟨m, hm⟩ := List.mem_iff_getElem?.mp h; exact C1y hm
theorem C9n (k : T) (vr vk vs : SH) (b1 b2 b3 : Nat) (vars dims v d : Int) (bound : Bool) (hv : Au vars) (h0 : 0 ≤ dims) (hvd : Qh v d) (hl : dims + 1 + depth k ≤ 1152921504606846976) (hp : Qp k = true ∨ C9p) (ih : D6h k) : Spec prog 165 #[.agg (tc k vr vk vs).toArray, iv v, iv d, pz b1, pz b2, pz b3] [RT k vr vk vs] (E5g b1 b2 b3 vars dims bound) (fun _ : Unit => .bool (Lp k (IntKind.i64.wrap (vars + if vars < 0 then 0 else v)) (dims + d) bound)) (fun _ => []) (fun _ => E5g b1 b2 b3 vars dims bound) := by
 refine Cy ntmps165 fun B hB => ?_
 obtain ⟨hv0, hv1, hd0, hd1⟩ := hvd; refine Bf ?_; refine q0 rfl (Ba fun b6 => ?_); refine Ez ?_; refine X0 ?_; refine O9 ?_; refine Aw ([(1, iv (if vars < 0 then 0 else v)), (2, iv d), (3, pz b1), (4, pz b2), (5, pz b3), (6, pz b6)]) (fun hK => ?_) (fun base => ?_)
 ·refine A8 (fun h11 => ?_) (fun h11 => ?_)
  ·refine R2 ?_; exact hK _ ⟨(by first | (rw [if_pos (of_decide_eq_true h11)]; rfl) | (rw [if_neg (of_decide_eq_false h11)]; rfl)), rfl, rfl, rfl, rfl, rfl, trivial⟩
  ·refine I1 ?_; exact hK _ ⟨(by first | (rw [if_pos (of_decide_eq_true h11)]; rfl) | (rw [if_neg (of_decide_eq_false h11)]; rfl)), rfl, rfl, rfl, rfl, rfl, trivial⟩
 ·refine I2 ?_; refine B0z ?_; refine Ek ?_; refine q0 rfl (D3p ?_); refine B0z ?_; refine Ek ?_; refine zq9 ?_; refine B0z ?_; refine q0 rfl (A0 call86 (ih hp (IntKind.i64.wrap (vars + if vars < 0 then 0 else v)) (dims + d) bound vr vk vs (A1p _) A3 A3) (fun x20 => ?_)); refine Ci ?_; refine Ax f_ rfl A7 () rfl (fun w hs => (hs.l8).drop)
theorem D5v (t : T) (hp : Qp t = true ∨ C9p) (ih : ∀ p, p ∈ parts t → D6h p.1) (vars dims : Int) (bound : Bool) (vr vk vs : SH) (hv : Au vars) (h0 : 0 ≤ dims) (hl : dims + depth t ≤ 1152921504606846976) : Spec prog 86 #[.agg (tc t vr vk vs).toArray, iv vars, iv dims, .bool bound] [RT t vr vk vs] [] (fun _ : Unit => .bool (Lp t vars dims bound)) (fun _ => []) (fun _ => []) := by
 refine Cy ntmps86 fun B hB => ?_
 refine Bf ?_; refine q0 rfl (Ba fun b4 => ?_); refine q0 rfl (Ba fun b5 => ?_); refine q0 rfl (Ba fun b6 => ?_); refine q0 rfl (Ba fun b7 => ?_); refine O0 ?_; refine Aw ([(4, pz b4), (5, pz b5), (6, pz b6), (7, pz b7), (20, .bool ((bound && decide (24 < dims)) || !(Pg t vars dims)))]) (fun hK => ?_) (fun base => ?_)
 ·refine Tp ?_; refine B0z ?_; refine Ek ?_; refine qI rfl rfl rfl I9 (fun hg10 => D8b ?_) (fun hg10 => ?_)
  ·refine A2e ?_; refine Ig ?_; refine qI rfl rfl rfl I9 (fun hg14 => Td ?_) (fun hg14 => ?_)
   ·refine Vi ?_; refine Vi ?_; refine qT rfl rfl rfl (A0 call164 (B6n t (A3l hp) vr vk vs vars dims h0 (by unfold Au; omega)) (fun x18 => ?_)); refine Wy ?_; exact hK _ ⟨rfl, rfl, rfl, rfl, (by (conv => lhs; whnf); first | (simp_all [Bool.and_assoc]; done) | (simp_all [Bool.and_assoc]; omega)), trivial⟩
   ·refine J6 ?_; refine Gk ?_; exact hK _ ⟨rfl, rfl, rfl, rfl, (by (conv => lhs; whnf); first | (simp_all [Bool.and_assoc]; done) | (simp_all [Bool.and_assoc]; omega)), trivial⟩
  ·refine zq4 ?_; refine J7 ?_; refine qT rfl rfl rfl (Td ?_); refine Vi ?_; refine Vi ?_; refine qT rfl rfl rfl (A0 call164 (B6n t (A3l hp) vr vk vs vars dims h0 (by unfold Au; omega)) (fun x18 => ?_)); refine Wy ?_; exact hK _ ⟨rfl, rfl, rfl, rfl, (by (conv => lhs; whnf); first | (simp_all [Bool.and_assoc]; done) | (simp_all [Bool.and_assoc]; omega)), trivial⟩
 ·refine A8 (fun h20 => ?_) (fun h20 => ?_)
  ·refine C9 ?_; refine Ax f_ rfl A7 () (by rw [B4a, h20]; rfl) (fun w hs => hs.none)
  ·refine I1 ?_; refine I2 ?_; refine Su ?_; have hE := A9x t vr vk vs 165 (E5h b5 b6 b7) [] (E5g b5 b6 b7 vars dims bound) (fun p => Lp p.1 (IntKind.i64.wrap (vars + if vars < 0 then 0 else p.2.1)) (dims + p.2.2) bound) call165 (fun k v d hm vr vk vs => C9n k vr vk vs b5 b6 b7 vars dims v d bound hv h0 (D2s hm) (by have := Zw hm; simp only at this; omega) (C0k hp hm) (ih _ hm)); refine q0 rfl (A0 call98 (hE) (fun x23 => ?_)); refine Ci ?_; refine Ax f_ rfl A7 () (by rw [B4a, h20]; rfl) (fun w hs => hs.none)
theorem D5w : ∀ t : T, D6h t := T.ind fun t ih hp vars dims bound vr vk vs hv h0 hl => D5v t hp ih vars dims bound vr vk vs hv h0 hl
theorem Tq (t : T) (hp : Qp t = true ∨ C9p) (vr vk vs : SH) (hsz : size t ≤ 1152921504606846) : Spec prog 32 #[.agg (tc t vr vk vs).toArray] [RT t vr vk vs] [] (fun _ : Unit => iv (B5 t)) (fun _ => []) (fun _ => []) := by
 refine Cy ntmps32 fun B hB => ?_
 have hds := Qw t; refine Bf ?_; refine q0 rfl (Ba fun b1 => ?_); refine Ez ?_; refine I2 ?_; refine q0 rfl (A0 call85 (B9m t vr vk vs) (fun x5 => ?_)); refine Ux ?_; refine A8 (fun h7 => ?_) (fun h7 => ?_)
 ·have hs := of_decide_eq_true h7; refine O2 ?_; refine Ax f_ rfl A7 () (by rw [B5, if_pos hs]) (fun w hs => hs.none)
 ·have hs := of_decide_eq_false h7; refine K3 ?_; refine I2 ?_; refine q0 rfl (A0 call86 (D5w t hp (-1) 24 false vr vk vs (by unfold Au; omega) A3 A3) (fun x10 => ?_)); refine H4 ?_; refine A8 (fun h11 => ?_) (fun h11 => ?_)
  ·refine C9 ?_; refine Ax f_ rfl A7 () (by rw [B5, if_neg hs]; simp_all) (fun w hs => hs.none)
  ·refine I1 ?_; refine C9 ?_; refine Ax f_ rfl A7 () (by rw [B5, if_neg hs]; simp_all) (fun w hs => hs.none)
theorem C1o (l : List Part) (a : Nat) : l.foldl (fun a p => a + size p.1) a = a + (l.map fun p => size p.1).sum := by
 induction l generalizing a with
 | nil => simp
 | cons b l ih => rw [List.foldl_cons, ih]; simp; omega
theorem D0q (t : T) : size t = 1 + ((parts t).map fun p => size p.1).sum := by rw [size_eq, C1o]
theorem V6 (t : T) : size t = 1 + (t.kids.map size).sum + ((t.sys.map fun b => b.kids.map size).flatten).sum := by
 rw [D0q, Ou, List.sum_append]; omega
theorem C2u {n : Int} (h : Au n) : IntKind.i64.wrap n = n := by rw [IntKind.wrap_i64]; unfold Au at h; omega
theorem B7v {t : T} : B5 t = 0 ↔ sized t = 0 ∧ Lp t (-1) 24 false = true := by
 unfold B5
 split
 ·rename_i h; constructor
  ·intro h2; exact absurd h2 h
  ·intro h2; exact absurd h2.1 h
 ·rename_i h
  have h : sized t = 0 := by simpa using h
  split
  ·rename_i h3; simp [h, h3]
  ·rename_i h3; simp [h3]
theorem C9a {t k : T} (hk : k ∈ t.kids) : depth k < depth t := by obtain ⟨p, hp, e⟩ := Hg hk; exact e ▸ Zw hp
def Ev (s : Nat) (i : Int) : Nat := if 0 ≤ i ∧ i < 24 then ((s &&& 16777215) &&& (2 ^ i.toNat - 1)) ||| ((s &&& 16777215) / 2 ^ (i.toNat + 1) * 2 ^ i.toNat) else s &&& 16777215
theorem Hx (s : Nat) : s &&& 16777215 < 16777216 := by rw [A1i]; exact Nat.mod_lt _ K1
theorem Nu (s : Nat) (i : Int) : Ev s i < 16777216 := by
 have h := Hx s
 unfold Ev
 split
 ·refine Nat.or_lt_two_pow (n := 24) (Nat.lt_of_le_of_lt Nat.and_le_left h) ?_
  generalize s &&& 16777215 = q at *
  have h1 : q / 2 ^ (i.toNat + 1) * 2 ^ i.toNat ≤ q / 2 ^ i.toNat * 2 ^ i.toNat := Nat.mul_le_mul_right _ (Nat.div_le_div_left (Nat.pow_le_pow_right A3 A3) (Nat.pow_pos A3))
  have h2 := Nat.div_mul_le_self q (2 ^ i.toNat)
  show _ < 16777216
  omega
 ·exact h
theorem Rj (l : List Cl) : E5 l < 16777216 := by rw [A5k]; exact Hx _
def Ak (s : Nat) (f b : Int) : Int × Nat :=
 if f < 0 ∨ b < 0 then (2, 0) else
 if Bn (s &&& 16777215) (2 ^ (min f.toNat 24) - 1) = 0 then (0, (s &&& 16777215) &&& (2 ^ (min f.toNat 24) - 1)) else
 if 24 ≤ b ∨ 16777215 < Bn (s &&& 16777215) (2 ^ (min f.toNat 24) - 1) * 2 ^ b.toNat then (10, 0) else
 (0, ((s &&& 16777215) &&& (2 ^ (min f.toNat 24) - 1)) ||| (Bn (s &&& 16777215) (2 ^ (min f.toNat 24) - 1) * 2 ^ b.toNat))
theorem Gh (a b i : Nat) : (Bn a b).testBit i = (decide (i < 32) && a.testBit i && !b.testBit i) := by
 unfold Bn
 rw [BitVec.testBit_toNat]
 by_cases h : i < 32
 ·rw [BitVec.getLsbD_and, BitVec.getLsbD_not, BitVec.getLsbD_ofNat, BitVec.getLsbD_ofNat]
  simp [h]
 ·have : (BitVec.ofNat 32 a &&& ~~~BitVec.ofNat 32 b).getLsbD i = false := BitVec.getLsbD_of_ge _ _ A3
  rw [this]; simp [h]
theorem Eh (s i : Nat) : (s &&& 16777215).testBit i = (decide (i < 24) && s.testBit i) := by
 rw [A1i, Nat.testBit_mod_two_pow]
theorem Mc (m i : Nat) : (2 ^ m - 1).testBit i = decide (i < m) := Nat.testBit_two_pow_sub_one m i
theorem B0n {q m : Nat} (h : q < 16777216) : Bn q m < 16777216 := by
 refine Nat.lt_pow_two_of_testBit (n := 24) _ (fun i hi => ?_)
 rw [Gh, Nat.testBit_lt_two_pow (x := q) (Nat.lt_of_lt_of_le h (Nat.pow_le_pow_right (n := 2) K1 hi))]
 simp
theorem Jk (s : Nat) (f b : Int) : (Ak s f b).2 < 16777216 := by
 unfold Ak
 split
 ·decide
 ·split
  ·exact Nat.lt_of_le_of_lt Nat.and_le_left (Hx s)
  ·split
   ·decide
   ·refine Nat.or_lt_two_pow (n := 24) ?_ ?_
    ·exact Nat.lt_of_le_of_lt Nat.and_le_left (Hx s)
    ·rename_i h; simp only [not_or] at h; have := h.2; omega
def B4 (c : Cl) (f b : Int) : Int × Cl :=
 if Av c = false then (2, A6) else
 if (Ak c.pos f b).1 ≠ 0 then ((Ak c.pos f b).1, A6) else
 if (Ak c.neg f b).1 ≠ 0 then ((Ak c.neg f b).1, A6) else
 (0, ⟨(Ak c.pos f b).2, (Ak c.neg f b).2⟩)
theorem S8 (c : Cl) (f b : Int) : u32 (B4 c f b).2 := by
 have h1 := Jk c.pos f b
 have h2 := Jk c.neg f b
 unfold B4
 split
 ·exact ⟨(by decide : (0 : Nat) < 4294967296), (by decide : (0 : Nat) < 4294967296)⟩
 ·split
  ·exact ⟨(by decide : (0 : Nat) < 4294967296), (by decide : (0 : Nat) < 4294967296)⟩
  ·split
   ·exact ⟨(by decide : (0 : Nat) < 4294967296), (by decide : (0 : Nat) < 4294967296)⟩
   ·exact ⟨by show (Ak c.pos f b).2 < _; omega, by show (Ak c.neg f b).2 < _; omega⟩
def Ge (g : Cl → Int × Cl) (l : List Cl) : Int × List Cl := match l.find? (fun c => (g c).1 ≠ 0) with
 | some c => ((g c).1, [])
 | none => (0, l.map fun c => (g c).2)
theorem A9r {g : Cl → Int × Cl} {l : List Cl} {i : Nat} (hi : i < l.length) (h0 : ∀ j, j < i → (g (l.getD j A6)).1 = 0) (h : (g (l.getD i A6)).1 ≠ 0) : Ge g l = ((g (l.getD i A6)).1, []) := by
 have : l.find? (fun c => (g c).1 ≠ 0) = some (l.getD i A6) := by
  rw [List.find?_eq_some_iff_getElem]
  rw [Gd (d := A6) hi] at h ⊢
  refine ⟨by simpa using h, i, hi, rfl, fun j hj => ?_⟩
  have := h0 j hj
  rw [Gd (d := A6) A3] at this
  simp [this]
 rw [Ge, this]
theorem A5g {g : Cl → Int × Cl} {l : List Cl} (h0 : ∀ j, j < l.length → (g (l.getD j A6)).1 = 0) : Ge g l = (0, l.map fun c => (g c).2) := by
 have : l.find? (fun c => (g c).1 ≠ 0) = none := by
  rw [List.find?_eq_none]
  intro x hx
  obtain ⟨j, hj, e⟩ := List.mem_iff_getElem.mp hx
  have := h0 j hj
  rw [Gd (d := A6) hj, e] at this
  simp [this]
 rw [Ge, this]
theorem A9q {g : Cl → Int × Cl} {l : List Cl} : (Ge g l).1 = 0 ↔ ∀ c, c ∈ l → (g c).1 = 0 := by
 unfold Ge
 cases h : l.find? (fun c => (g c).1 ≠ 0) with
 | none =>
  rw [List.find?_eq_none] at h
  simp only [true_iff]
  intro c hc
  simpa using h c hc
 | some c =>
  have h1 := List.find?_some h
  have h2 := List.mem_of_find?_eq_some h
  simp only
  refine ⟨fun h3 => ?_, fun h3 => h3 c h2⟩
  simp at h1; exact absurd h3 h1
theorem C8q {g : Cl → Int × Cl} {l : List Cl} (h : (Ge g l).1 = 0) : Ge g l = (0, l.map fun c => (g c).2) :=
 A5g fun j hj => A9q.mp h _ (Ag hj)
theorem Va {l : List Cl} : A9 l = true ↔ Am l = (0, l) := by
 rw [← S5, Bool.and_eq_true, decide_eq_true_eq, decide_eq_true_eq]
 constructor
 ·rintro ⟨h1, h2⟩; exact Prod.ext h1 h2
 ·intro h; rw [h]; exact ⟨rfl, rfl⟩
def Aa (l : List Cl) (f b : Int) : Int × List Cl :=
 if A9 l = false then (2, []) else
 if (Ge (fun c => B4 c f b) l).1 ≠ 0 then ((Ge (fun c => B4 c f b) l).1, []) else Am (Ge (fun c => B4 c f b) l).2
def C5 (by_ : Int) (l : List Cl) (f : Int) : Ao (List Cl) :=
 if by_ = 0 ∨ 24 ≤ f then .ok l else if (Aa l f by_).1 = 0 then .ok (Aa l f by_).2 else .bad (Aa l f by_).1
def Bj (vb db : Int) : Tr (Int × Int) where
 own c k n _ r := (C5 db r c.2).bind fun r' => if k = 1 ∧ c.1 ≤ n then (if 1000000000 - vb < n then .bad 100 else .ok (.inr (n + vb, r'))) else .ok (.inr (n, r'))
 An c f := (C5 db f c.2).bind fun f' => .ok (some f')
 S6 c b := .ok (c.1 + b.1, c.2 + b.2)
section
variable {C : Type} {A : Tr C} {t : T} {c : C} {e : Int}
theorem Ia (h : A.own c t.kind t.n t.name t.r = .bad e) : C1 A t c = .bad e := by rw [H8, h]; rfl
theorem Oc {p : Int × List Cl} {i : Nat} {l : List T} (h : A.own c t.kind t.n t.name t.r = .ok (.inr p)) (hi : i < t.kids.length) (hl : Du A t.kind 0 (t.kids.take i) c = .ok l) {c' : C} (hc : A.S6 c (binds t.kind i) = .ok c') (hb : C1 A (t.kids.getD i t0) c' = .bad e) : C1 A t c = .bad e := by
 have h1 : Du A t.kind 0 (t.kids.take (i + 1)) c = .bad e := by
  rw [Af (d := t0) hi, Vq, hl]
  simp only [Ao.bind, List.length_take, Nat.zero_add, Nat.min_eq_left (Nat.le_of_lt hi)]
  rw [hc]; simp only; rw [hb]
 have h2 := A7v (m := t.kids.drop (i + 1)) h1
 rw [List.take_append_drop] at h2
 rw [H8, h]; simp only [Ao.bind]; rw [h2]
theorem Py {k : Int} {ts : List T} {i : Nat} {l : List T} {u : T} (hi : i < ts.length) (hl : Du A k 0 (ts.take i) c = .ok l) {c' : C} (hc : A.S6 c (binds k i) = .ok c') (hb : C1 A (ts.getD i t0) c' = .ok u) : Du A k 0 (ts.take (i + 1)) c = .ok (l ++ [u]) := by
 rw [Af (d := t0) hi, Vq, hl]
 simp only [Ao.bind, List.length_take, Nat.zero_add, Nat.min_eq_left (Nat.le_of_lt hi)]
 rw [hc]; simp only; rw [hb]
theorem Od {k : Int} {ts : List T} {i : Nat} {l : List T} (hi : i < ts.length) (hl : D3 A k (ts.take i) c = .ok l) {c' : C} (hc : A.S6 c (0, more k) = .ok c') (hb : C1 A (ts.getD i t0) c' = .bad e) : D3 A k ts c = .bad e := by
 have h1 : D3 A k (ts.take (i + 1)) c = .bad e := by
  rw [Af (d := t0) hi, Vp, hl]
  simp only [Ao.bind]
  rw [hc]; simp only; rw [hb]
 have h2 := A7s (m := ts.drop (i + 1)) h1
 rwa [List.take_append_drop] at h2
theorem Pz {k : Int} {ts : List T} {i : Nat} {l : List T} {u : T} (hi : i < ts.length) (hl : D3 A k (ts.take i) c = .ok l) {c' : C} (hc : A.S6 c (0, more k) = .ok c') (hb : C1 A (ts.getD i t0) c' = .ok u) : D3 A k (ts.take (i + 1)) c = .ok (l ++ [u]) := by
 rw [Af (d := t0) hi, Vp, hl]
 simp only [Ao.bind]
 rw [hc]; simp only; rw [hb]
theorem Fw {p : Int × List Cl} {s : Nat} {l : List T} {bs : List Br} (h : A.own c t.kind t.n t.name t.r = .ok (.inr p)) (hl : Du A t.kind 0 t.kids c = .ok l) (hs : s < t.sys.length) (hb : Dv A t.kind (t.sys.take s) c = .ok bs) (hf : A.An c (t.sys.getD s Bp).An = .bad e ∨ ∃ f', A.An c (t.sys.getD s Bp).An = .ok (some f') ∧ D3 A t.kind (t.sys.getD s Bp).kids c = .bad e) : C1 A t c = .bad e := by
 have h1 : Dv A t.kind (t.sys.take (s + 1)) c = .bad e := by
  rw [Af (d := Bp) hs, Rq, hb]
  simp only [Ao.bind]
  rcases hf with hf | ⟨f', hf, h2⟩
  ·rw [hf]
  ·rw [hf]; simp only; rw [h2]
 have h2 := Z0 (m := t.sys.drop (s + 1)) h1
 rw [List.take_append_drop] at h2
 rw [H8, h]; simp only [Ao.bind]; rw [hl]; simp only; rw [h2]
theorem Nk {k : Int} {ss : List Br} {s : Nat} {bs : List Br} {f' : List Cl} {ks : List T} (hs : s < ss.length) (hb : Dv A k (ss.take s) c = .ok bs) (hf : A.An c (ss.getD s Bp).An = .ok (some f')) (hk : D3 A k (ss.getD s Bp).kids c = .ok ks) : Dv A k (ss.take (s + 1)) c = .ok (bs ++ [.mk f' ks]) := by
 rw [Af (d := Bp) hs, Rq, hb]
 simp only [Ao.bind]
 rw [hf]; simp only; rw [hk]
theorem Pb {p : Int × List Cl} {l : List T} {bs : List Br} (h : A.own c t.kind t.n t.name t.r = .ok (.inr p)) (hl : Du A t.kind 0 t.kids c = .ok l) (hb : Dv A t.kind t.sys c = .ok bs) : C1 A t c = .ok (.mk t.kind p.1 t.name p.2 l bs) := by
 rw [H8, h]; simp only [Ao.bind]; rw [hl]; simp only; rw [hb]
end
theorem A9p {g : Cl → Int × Cl} {l : List Cl} (h : ∀ c, u32 (g c).2) : ∀ c, c ∈ (Ge g l).2 → u32 c := by
 intro c hc
 unfold Ge at hc
 split at hc
 ·cases hc
 ·obtain ⟨d, _, rfl⟩ := List.mem_map.mp hc; exact h d
theorem C8r {g : Cl → Int × Cl} {l : List Cl} : (Ge g l).2.length ≤ l.length := by
 unfold Ge
 split <;> simp
theorem Q9 (k : Int) : 0 ≤ more k ∧ more k ≤ 1 := by unfold more; split <;> omega
theorem Q5 {t : T} {i : Nat} (h : i < t.kids.length) : size (t.kids.getD i t0) < size t := by
 obtain ⟨p, hp, e⟩ := Hg (Ag (d := t0) h); exact e ▸ Oe hp
theorem Q4 {t : T} {s k : Nat} (h : s < t.sys.length) (h2 : k < (t.sys.getD s Bp).kids.length) : size ((t.sys.getD s Bp).kids.getD k t0) < size t := by
 obtain ⟨p, hp, e⟩ := He (Ag (d := Bp) h) (Ag (d := t0) h2); exact e ▸ Oe hp
def Hi (vb : Int) (v : Int) (k n : Int) : Int := if k = 1 ∧ v ≤ n then n + vb else n
theorem B7g {vb db v d : Int} {t : T} {g : List Cl} (hg : C5 db t.r d = .ok g) (h : ¬ (t.kind = 1 ∧ v ≤ t.n ∧ 1000000000 - vb < t.n)) : (Bj vb db).own (v, d) t.kind t.n t.name t.r = .ok (.inr (Hi vb v t.kind t.n, g)) := by
 simp only [Bj, hg, Ao.bind, Hi]
 split
 ·rename_i h1
  rw [if_neg (fun h2 => h ⟨h1.1, h1.2, h2⟩)]
 ·rfl
theorem Y5 {vb db v d : Int} {t : T} {e : Int} (hg : C5 db t.r d = .bad e) : (Bj vb db).own (v, d) t.kind t.n t.name t.r = .bad e := by
 simp only [Bj, hg, Ao.bind]
theorem Y6 {vb db v d : Int} {t : T} {g : List Cl} (hg : C5 db t.r d = .ok g) (h : t.kind = 1 ∧ v ≤ t.n ∧ 1000000000 - vb < t.n) : (Bj vb db).own (v, d) t.kind t.n t.name t.r = .bad 100 := by
 simp only [Bj, hg, Ao.bind]
 rw [if_pos ⟨h.1, h.2.1⟩, if_pos h.2.2]
theorem Ol {vb db v d : Int} {f g : List Cl} (hg : C5 db f d = .ok g) : (Bj vb db).An (v, d) f = .ok (some g) := by simp only [Bj, hg, Ao.bind]
theorem V9 {vb db v d : Int} {f : List Cl} {e : Int} (hg : C5 db f d = .bad e) : (Bj vb db).An (v, d) f = .bad e := by simp only [Bj, hg, Ao.bind]
theorem Re {vb db v d : Int} {b : Int × Int} : (Bj vb db).S6 (v, d) b = .ok (v + b.1, d + b.2) := rfl
theorem Z1 {vb db : Int} {k : Int} {c : Int × Int} : ∀ {l l' : List Br}, Dv (Bj vb db) k l c = .ok l' → l'.length = l.length
 | [], l', h => by rw [Dk] at h; injection h with h; subst h; rfl
 | a :: l, l', h => by
  rw [Dc] at h
  obtain ⟨o, ho, h⟩ := Ao.Ab h
  obtain ⟨g, _, hg⟩ := Ao.Ab (x := C5 db a.An c.2) ho
  injection hg with hg
  subst hg
  obtain ⟨ks', _, h⟩ := Ao.Ab h
  obtain ⟨bs', h3, h⟩ := Ao.Ab h
  injection h with h
  subst h
  simp [Z1 h3]
theorem Rg : h0.er = t0 := by simp [h0, HT.er, HT.erL, HT.erB, t0]
theorem St.h0R {B : D5} {Γ : List Fact} {Ms : List Bq} {w : World} (y : Tys) (hs : St B Γ Ms w) : St B Γ (Dm (Gj y h0) :: Ms) w := by
 have h1 := ((((hs.Qz).Qz).Bu 2 y.b).Bu 6 y.t).Bu 2 y.c
 exact St.C5b (y := y) (k := 0) (n := 0) (nm := ByteArray.mk #[]) (r := []) (v := G7) (u := G7) (x := G7) (ks := []) (ss := []) rfl rfl rfl rfl rfl rfl (by simpa [Fj, Qx] using h1)
def Cc (t : T) (ns : List Int) (r : Ao T) : Int × T := if B5 t ≠ 0 then (B5 t, t0) else if ns.all (fun n => decide (0 ≤ n)) = false then (2, t0) else match r with
 | .ok u => (0, u)
 | .bad e => (e, t0)
theorem C1j {t : T} {ns : List Int} {r : Ao T} (h : B5 t ≠ 0) : Cc t ns r = (B5 t, t0) := by unfold Cc; rw [if_pos h]
theorem C8o {t : T} {ns : List Int} {r : Ao T} (h : B5 t = 0) (h2 : ns.all (fun n => decide (0 ≤ n)) = false) : Cc t ns r = (2, t0) := by unfold Cc; rw [if_neg (by simp [h]), if_pos h2]
theorem B7r {t u : T} {ns : List Int} {r : Ao T} (h : B5 t = 0) (h2 : ns.all (fun n => decide (0 ≤ n)) = true) (hr : r = .ok u) : Cc t ns r = (0, u) := by unfold Cc; rw [if_neg (by simp [h]), if_neg (by simp [h2]), hr]
theorem A9l {t : T} {e : Int} {ns : List Int} {r : Ao T} (h : B5 t = 0) (h2 : ns.all (fun n => decide (0 ≤ n)) = true) (hr : r = .bad e) : Cc t ns r = (e, t0) := by unfold Cc; rw [if_neg (by simp [h]), if_neg (by simp [h2]), hr]
theorem Spec.M3 {P : Program} {k : FuncId} {args : Array Value} {pre : List Fact} (y : Tys) {u : T} (g : Value → Value) (h : Spec P k args pre [] (fun x : {h : HT // h.er = u} => g (.agg (tc u x.1.vr x.1.vk x.1.vs).toArray)) (fun _ => []) (fun x => [Dm (Gj y x.1)])) (hok : ∀ ok w, St ⟨ok, C0 [], w⟩ pre [] w → Ro u) :
  Spec P k args pre [] (fun x : SH × SH × SH => g (.agg (tc u x.1 x.2.1 x.2.2).toArray)) (fun x => [RT u x.1 x.2.1 x.2.2]) (fun _ => []) := fun ok w hk hs => (h ok w hk hs).mono fun e w' hh => by
 obtain ⟨x, he, hs'⟩ := hh
 have h1 : St ⟨ok, C0 [], w⟩ [] (Gj y x.1 ++ []) w' := hs'.unpack
 have h2 := St.M3 y trivial x.1 (by rw [x.2]; exact hok ok w hs) h1
 rw [x.2] at h2
 exact ⟨(x.1.vr, x.1.vk, x.1.vs), he, h2⟩
theorem Qi.M3 {P : Program} {Te : TypeId} {k : FuncId} {args : Array Value} {pre : List Fact} (y : Tys) {r : Ao T} (h : Qi P Te k args pre r (fun (u : T) => fun x : {h : HT // h.er = u} => .agg (tc u x.1.vr x.1.vk x.1.vs).toArray) (fun _ _ => []) (fun (u : T) => fun x : {h : HT // h.er = u} => [Dm (Gj y x.1)])) (hok : ∀ u, r = .ok u → ∀ ok w, St ⟨ok, C0 [], w⟩ pre [] w → Ro u) :
  Qi P Te k args pre r (fun (u : T) => fun x : SH × SH × SH => .agg (tc u x.1 x.2.1 x.2.2).toArray) (fun u x => [RT u x.1 x.2.1 x.2.2]) (fun _ _ => []) := ⟨fun u hu => Spec.M3 y (fun v => v) (h.1 u hu) (hok u hu), h.2⟩
abbrev B9 (l : List Cl) : Prop := (∀ c, c ∈ l → u32 c) ∧ l.length * 8 ≤ reach
section
variable {C : Type} {A : Tr C}
mutual
theorem Xd (ho : ∀ c k n nm r p, Au k → Au n → B9 r → A.own c k n nm r = .ok (.inr p) → Au p.1 ∧ B9 p.2) (hi : ∀ c k n nm r u, A.own c k n nm r = .ok (.inl u) → Ro u) (hf : ∀ c f f', B9 f → A.An c f = .ok (some f') → B9 f') : ∀ (t : T) (c : C) (u : T), Ro t → C1 A t c = .ok u → Ro u
 | .mk k n nm r ks ss, c, u, h, hu => by
  simp only [Ro] at h
  obtain ⟨h1, h2, h3, h4, h5, h6, h7, h8⟩ := h
  rw [H8] at hu
  simp only [T.kind, T.n, T.name, T.r, T.kids, T.sys] at hu
  obtain ⟨o, h9, hu⟩ := Ao.Ab hu
  cases o with
  | inl v => injection hu with hu; subst hu; exact hi _ _ _ _ _ _ h9
  | inr p =>
   obtain ⟨ks', h10, hu⟩ := Ao.Ab hu
   obtain ⟨ss', h11, hu⟩ := Ao.Ab hu
   injection hu with hu
   subst hu
   obtain ⟨p1, p2⟩ := ho _ _ _ _ _ _ h1 h2 h4 h9
   simp only [Ro]
   exact ⟨h1, p1, h3, p2, by rw [L6 h10]; exact h5, Nat.le_trans (Nat.mul_le_mul_right _ (Im h11)) h6, A7u ho hi hf ks 0 c ks' h7 h10, Yz ho hi hf ss c ss' h8 h11⟩
theorem A7u (ho : ∀ c k n nm r p, Au k → Au n → B9 r → A.own c k n nm r = .ok (.inr p) → Au p.1 ∧ B9 p.2) (hi : ∀ c k n nm r u, A.own c k n nm r = .ok (.inl u) → Ro u) (hf : ∀ c f f', B9 f → A.An c f = .ok (some f') → B9 f') {kd : Int} : ∀ (ts : List T) (i : Nat) (c : C) (us : List T), okL ts → Du A kd i ts c = .ok us → okL us
 | [], i, c, us, h, hu => by rw [Dj] at hu; injection hu with hu; subst hu; simp only [okL]
 | t :: ts, i, c, us, h, hu => by
  simp only [okL] at h
  rw [Db] at hu
  obtain ⟨c', _, hu⟩ := Ao.Ab hu
  obtain ⟨t', h2, hu⟩ := Ao.Ab hu
  obtain ⟨ts', h3, hu⟩ := Ao.Ab hu
  injection hu with hu
  subst hu
  simp only [okL]
  exact ⟨Xd ho hi hf t c' t' h.1 h2, A7u ho hi hf ts (i + 1) c ts' h.2 h3⟩
theorem A7r (ho : ∀ c k n nm r p, Au k → Au n → B9 r → A.own c k n nm r = .ok (.inr p) → Au p.1 ∧ B9 p.2) (hi : ∀ c k n nm r u, A.own c k n nm r = .ok (.inl u) → Ro u) (hf : ∀ c f f', B9 f → A.An c f = .ok (some f') → B9 f') {kd : Int} : ∀ (ts : List T) (c : C) (us : List T), okL ts → D3 A kd ts c = .ok us → okL us
 | [], c, us, h, hu => by rw [Di] at hu; injection hu with hu; subst hu; simp only [okL]
 | t :: ts, c, us, h, hu => by
  simp only [okL] at h
  rw [Da] at hu
  obtain ⟨c', _, hu⟩ := Ao.Ab hu
  obtain ⟨t', h2, hu⟩ := Ao.Ab hu
  obtain ⟨ts', h3, hu⟩ := Ao.Ab hu
  injection hu with hu
  subst hu
  simp only [okL]
  exact ⟨Xd ho hi hf t c' t' h.1 h2, A7r ho hi hf ts c ts' h.2 h3⟩
theorem Yz (ho : ∀ c k n nm r p, Au k → Au n → B9 r → A.own c k n nm r = .ok (.inr p) → Au p.1 ∧ B9 p.2) (hi : ∀ c k n nm r u, A.own c k n nm r = .ok (.inl u) → Ro u) (hf : ∀ c f f', B9 f → A.An c f = .ok (some f') → B9 f') {kd : Int} : ∀ (bs : List Br) (c : C) (us : List Br), okB bs → Dv A kd bs c = .ok us → okB us
 | [], c, us, h, hu => by rw [Dk] at hu; injection hu with hu; subst hu; simp only [okB]
 | .mk f ks :: bs, c, us, h, hu => by
  simp only [okB] at h
  obtain ⟨h1, h2, h3, h4⟩ := h
  rw [Dc] at hu
  simp only [Br.An, Br.kids] at hu
  obtain ⟨o, h5, hu⟩ := Ao.Ab hu
  cases o with
  | none => exact Yz ho hi hf bs c us h4 hu
  | some f' =>
   obtain ⟨ks', h6, hu⟩ := Ao.Ab hu
   obtain ⟨bs', h7, hu⟩ := Ao.Ab hu
   injection hu with hu
   subst hu
   simp only [okB]
   exact ⟨hf _ _ _ h1 h5, by rw [L5 h6]; exact h2, A7r ho hi hf ks c ks' h3 h6, Yz ho hi hf bs c bs' h4 h7⟩
end
end
theorem Fl : B9 [] := ⟨fun c hc => (by cases hc), by unfold reach; decide⟩
theorem A9i {l : List Cl} (h : ∀ c, c ∈ l → u32 c) : B9 (Am l).2 := by
 unfold Am
 split
 ·exact Fl
 ·split
  ·exact Fl
  ·rename_i h64
   exact ⟨fun c hc => h c (Fx.mp hc).1, by show (Ej l).length * 8 ≤ reach; unfold reach; omega⟩
theorem Nt (l : List Cl) (f b : Int) : B9 (Aa l f b).2 := by
 unfold Aa
 split
 ·exact Fl
 ·split
  ·exact Fl
  ·exact A9i (A9p (fun c => S8 c f b))
theorem A3f {l g : List Cl} {f b : Int} (h : B9 l) (hg : C5 b l f = .ok g) : B9 g := by
 unfold C5 at hg
 split at hg
 ·injection hg with hg; subst hg; exact h
 ·split at hg
  ·injection hg with hg; subst hg; exact Nt l f b
  ·cases hg
theorem A4o {vb db : Int} (hv : 0 ≤ vb ∧ vb ≤ 1000000) {t u : T} {c : Int × Int} (h : Ro t) (hu : C1 (Bj vb db) t c = .ok u) : Ro u := by
 refine Xd (A := Bj vb db) ?_ ?_ ?_ t c u h hu
 ·intro c k n nm r p _ hn hr ho
  obtain ⟨g, hg, ho⟩ := Ao.Ab (x := C5 db r c.2) ho
  have hgo := A3f hr hg
  split at ho
  ·rename_i h1
   split at ho
   ·cases ho
   ·injection ho with ho; injection ho with ho; subst ho
    exact ⟨by unfold Au at *; dsimp only; omega, hgo⟩
  ·injection ho with ho; injection ho with ho; subst ho
   exact ⟨hn, hgo⟩
 ·intro c k n nm r u ho
  obtain ⟨g, hg, ho⟩ := Ao.Ab (x := C5 db r c.2) ho
  split at ho
  ·split at ho
   ·cases ho
   ·injection ho with ho; cases ho
  ·injection ho with ho; cases ho
 ·intro c f f' hr ho
  obtain ⟨g, hg, ho⟩ := Ao.Ab (x := C5 db f c.2) ho
  injection ho with ho; injection ho with ho; subst ho
  exact A3f hr hg
theorem Qr : Ro t0 := by simp [t0, Ro, okL, okB, Au, Hl, reach]; decide
theorem guard_okT' {t : T} {ns : List Int} {r : Ao T} (h : ns.all (fun n => decide (0 ≤ n)) = true → ∀ u, r = .ok u → Ro u) : Ro (Cc t ns r).2 := by
 unfold Cc
 split
 ·exact Qr
 ·split
  ·exact Qr
  ·rename_i ha
   cases r with
   | ok u => exact h (by simpa using ha) u rfl
   | bad e => exact Qr
abbrev A0g (t : T) (f b : Int) : Ao T := C1 (Bj b 0) t (if 2000000000 < f then 2000000000 else f, 0)
abbrev B0k (t : T) (v d : Int) : Ao T := (C1 (Bj v 0) t (0, 0)).bind fun u => C1 (Bj 0 d) u (0, 0)
def E1 (b : Int) : Int := IntKind.i64.wrap (1000000 - b)
theorem D8f (b : Int) : Au (E1 b) := by
 have h : E1 b = (1000000 - b + 9223372036854775808) % 18446744073709551616 - 9223372036854775808 := by
  unfold E1; rw [IntKind.wrap_i64]
 unfold Au; rw [h]; omega
theorem C4u {b : Int} (hb : Au b) (h0 : 0 ≤ b) (h : 0 ≤ E1 b) : b ≤ 1000000 := by
 have h1 : E1 b = (1000000 - b + 9223372036854775808) % 18446744073709551616 - 9223372036854775808 := by
  unfold E1; rw [IntKind.wrap_i64]
 unfold Au at hb; omega
theorem B2s {b : Int} (hb : Au b) (h0 : 0 ≤ b) : E1 b = 1000000 - b := by
 have h1 : E1 b = (1000000 - b + 9223372036854775808) % 18446744073709551616 - 9223372036854775808 := by
  unfold E1; rw [IntKind.wrap_i64]
 unfold Au at hb; omega
def Fe (t : T) (f b : Int) : Int × T := Cc t [f, b, E1 b] (A0g t f b)
def Cm (t : T) (v d : Int) : Int × T := Cc t [v, d, E1 v] (B0k t v d)
theorem Ao.B8q {α β : Type} {x : Ao α} {e : Int} {k : α → Ao β} (h : x = .bad e) : x.bind k = .bad e := by rw [h]; rfl
theorem Ao.C5m {α β : Type} {x : Ao α} {a : α} {y : Ao β} {k : α → Ao β} (h : x = .ok a) (h2 : k a = y) : x.bind k = y := by rw [h]; exact h2
theorem S3 {vb db : Int} {c : Int × Int} {k n : Int} {nm : ByteArray} {r : List Cl} {u : T} : (Bj vb db).own c k n nm r ≠ .ok (.inl u) := by
 intro ho
 obtain ⟨g, hg, ho⟩ := Ao.Ab (x := C5 db r c.2) ho
 split at ho
 ·split at ho
  ·cases ho
  ·injection ho with ho; cases ho
 ·injection ho with ho; cases ho
mutual
theorem U9 {vb db : Int} : ∀ {t u : T} {c : Int × Int}, C1 (Bj vb db) t c = .ok u → size u = size t
 | .mk k n nm r ks ss, u, c, hu => by
  rw [H8] at hu
  simp only [T.kind, T.n, T.name, T.r, T.kids, T.sys] at hu
  obtain ⟨o, h9, hu⟩ := Ao.Ab hu
  cases o with
  | inl v => exact absurd h9 S3
  | inr p =>
   obtain ⟨ks', h10, hu⟩ := Ao.Ab hu
   obtain ⟨ss', h11, hu⟩ := Ao.Ab hu
   injection hu with hu
   subst hu
   rw [V6, V6]
   simp only [T.kids, T.sys]
   rw [A4r h10, A4t h11]
theorem A4r {vb db k : Int} : ∀ {ts us : List T} {i : Nat} {c : Int × Int}, Du (Bj vb db) k i ts c = .ok us → us.map size = ts.map size
 | [], us, i, c, hu => by rw [Dj] at hu; injection hu with hu; subst hu; rfl
 | t :: ts, us, i, c, hu => by
  rw [Db] at hu
  obtain ⟨c', _, hu⟩ := Ao.Ab hu
  obtain ⟨t', h2, hu⟩ := Ao.Ab hu
  obtain ⟨ts', h3, hu⟩ := Ao.Ab hu
  injection hu with hu
  subst hu
  simp only [List.map_cons]
  rw [U9 h2, A4r h3]
theorem A4p {vb db k : Int} : ∀ {ts us : List T} {c : Int × Int}, D3 (Bj vb db) k ts c = .ok us → us.map size = ts.map size
 | [], us, c, hu => by rw [Di] at hu; injection hu with hu; subst hu; rfl
 | t :: ts, us, c, hu => by
  rw [Da] at hu
  obtain ⟨c', _, hu⟩ := Ao.Ab hu
  obtain ⟨t', h2, hu⟩ := Ao.Ab hu
  obtain ⟨ts', h3, hu⟩ := Ao.Ab hu
  injection hu with hu
  subst hu
  simp only [List.map_cons]
  rw [U9 h2, A4p h3]
theorem A4t {vb db k : Int} : ∀ {bs us : List Br} {c : Int × Int}, Dv (Bj vb db) k bs c = .ok us → (us.map fun b => b.kids.map size) = bs.map fun b => b.kids.map size
 | [], us, c, hu => by rw [Dk] at hu; injection hu with hu; subst hu; rfl
 | .mk f ks :: bs, us, c, hu => by
  rw [Dc] at hu
  simp only [Br.An, Br.kids] at hu
  obtain ⟨o, h5, hu⟩ := Ao.Ab hu
  obtain ⟨g, _, h6⟩ := Ao.Ab (x := C5 db f c.2) h5
  injection h6 with h6
  subst h6
  obtain ⟨ks', h7, hu⟩ := Ao.Ab hu
  obtain ⟨bs', h8, hu⟩ := Ao.Ab hu
  injection hu with hu
  subst hu
  show (ks'.map size :: (bs'.map fun b => b.kids.map size)) = (ks.map size :: (bs.map fun b => b.kids.map size))
  rw [A4p h7, A4t h8]
end
theorem C5q {t : T} {v d : Int} {b : Bool} : Lp t v d b = true ↔ (¬ (b = true ∧ 24 < d)) ∧ Pg t v d = true ∧ ∀ p, p ∈ parts t → Lp p.1 (IntKind.i64.wrap (v + if v < 0 then 0 else p.2.1)) (d + p.2.2) b = true := by
  rw [B4a, Bool.and_eq_true, List.all_eq_true]
  simp only [Bool.not_eq_true', Bool.or_eq_false_iff, Bool.and_eq_false_iff, decide_eq_false_iff_not, Bool.not_eq_false']
  constructor
  · rintro ⟨⟨h1, h2⟩, h3⟩
    refine ⟨?_, h2, h3⟩
    rintro ⟨h4, h5⟩
    rcases h1 with h1 | h1
    · rw [h1] at h4; cases h4
    · exact h1 h5
  · rintro ⟨h1, h2, h3⟩
    refine ⟨⟨?_, h2⟩, h3⟩
    cases b
    · exact .inl rfl
    · exact .inr (fun h => h1 ⟨rfl, h⟩)
theorem B2i {t : T} {v d : Int} : Pg t v d = true ↔ Kc t = false ∧
    (if t.kind = 1 then t.r.length = 0 ∧ 0 ≤ t.n ∧ (v < 0 ∨ t.n < v)
     else if t.kind = 2 then t.r.length = 0 ∧ Ku t.name = true
     else if t.kind = 13 ∨ t.kind = 21 ∨ t.kind = 26 then A9 t.r = true ∧ within t.r d = true
     else if t.kind = 14 then A2 t.r = true ∧ within t.r d = true
     else (∀ x, x ∈ t.sys → Ps t d x = true) ∧ t.r.length = 0) := by
  unfold Pg
  rw [Bool.and_eq_true, Bool.not_eq_true']
  apply and_congr Iff.rfl
  split
  · simp only [Bool.and_eq_true, decide_eq_true_eq, Bool.or_eq_true, and_assoc]; constructor <;> (rintro ⟨h1, h2⟩; exact ⟨by omega, h2⟩)
  · split
    · simp only [Bool.and_eq_true, decide_eq_true_eq]; constructor <;> (rintro ⟨h1, h2⟩; exact ⟨by omega, h2⟩)
    · split
      · simp only [Bool.and_eq_true]
      · split
        · simp only [Bool.and_eq_true]
        · simp only [Bool.and_eq_true, decide_eq_true_eq, List.all_eq_true]; constructor <;> (rintro ⟨h1, h2⟩; exact ⟨h1, by omega⟩)
theorem within_iff {l : List Cl} {d : Int} (h0 : 0 ≤ d) : within l d = true ↔ ∀ i : Nat, d ≤ (i : Int) → (E5 l).testBit i = false := by
  have hlt := Rj l
  unfold within
  rw [Bool.or_eq_true, decide_eq_true_eq, decide_eq_true_eq]
  by_cases h24 : 24 ≤ d
  · constructor
    · intro _ i hi
      exact Nat.testBit_lt_two_pow (Nat.lt_of_lt_of_le hlt (Nat.pow_le_pow_right (n := 2) A3 (show 24 ≤ i by omega)))
    · intro _; exact .inl h24
  · have hm : min d.toNat 32 = d.toNat := by omega
    rw [hm]
    constructor
    · rintro (h | h) i hi
      · exact absurd h h24
      · have h1 : E5 l / 2 ^ d.toNat = 0 := by omega
        have h2 : E5 l < 2 ^ d.toNat := by
          have := Nat.div_eq_zero_iff.mp h1
          have hp : 0 < 2 ^ d.toNat := Nat.pow_pos A3
          omega
        exact Nat.testBit_lt_two_pow (Nat.lt_of_lt_of_le h2 (Nat.pow_le_pow_right (n := 2) A3 A3))
    · intro h
      right
      have h2 : E5 l < 2 ^ d.toNat := Nat.lt_pow_two_of_testBit _ (fun i hi => h i A3)
      rw [Nat.div_eq_of_lt h2]; rfl
theorem C3f {t : T} (h : Kc t = false) (hp : C6 t.kind = 0) : t.sys = [] := by
  unfold Kc at h
  simp only [Bool.or_eq_false_iff, Bool.and_eq_false_iff, decide_eq_false_iff_not] at h
  rcases h.2 with h2 | h2
  · exact absurd hp h2
  · exact List.eq_nil_of_length_eq_zero A3
theorem Qt (s n : Nat) : (C4 s n).Pairwise fun a b => a < b := by
 unfold C4
 rw [List.pairwise_map]
 refine (List.Pairwise.filter _ List.pairwise_lt_range).imp (fun h => by omega)
theorem D4k {l : List Int} (hs : l.Pairwise fun a b => a < b) {x : Int} (hx : x ∈ l) : x ≤ l.getD (l.length - 1) 0 := by
 obtain ⟨j, hj, e⟩ := List.mem_iff_getElem.mp hx
 have hs := List.pairwise_iff_getElem.mp hs
 have hl : l.length - 1 < l.length := by omega
 rw [Gd (d := (0 : Int)) hl]
 rcases Nat.lt_or_ge j (l.length - 1) with h2 | h2
 ·have := hs j (l.length - 1) hj hl h2
  rw [e] at this
  exact Int.le_of_lt this
 ·have hje : j = l.length - 1 := by omega
  subst hje
  exact Int.le_of_eq e.symm
def E7h (l : List Cl) (d : Int) : Bool := decide (((A4 (E5 l)).length : Int) = 0) || decide ((A4 (E5 l)).getD ((A4 (E5 l)).length - 1) 0 < d)
theorem C1a {l : List Cl} {d : Int} (h0 : 0 ≤ d) : E7h l d = within l d := by
 rw [Bool.eq_iff_iff, within_iff h0]
 unfold E7h
 rw [Bool.or_eq_true, decide_eq_true_eq, decide_eq_true_eq]
 have hlt := Rj l
 constructor
 ·intro h i hi
  apply Bool.eq_false_iff.mpr
  intro hb
  have hi24 : i < 24 := by
   apply Classical.byContradiction
   intro hc
   have := Nat.testBit_lt_two_pow (Nat.lt_of_lt_of_le hlt (Nat.pow_le_pow_right (n := 2) A3 (show 24 ≤ i by omega)))
   rw [this] at hb; cases hb
  have hm : ((i : Nat) : Int) ∈ A4 (E5 l) := F4.mpr ⟨by omega, by omega, by simpa using hb⟩
  rcases h with h | h
  ·have : A4 (E5 l) = [] := List.eq_nil_of_length_eq_zero A3
   rw [this] at hm; cases hm
  ·have := D4k (l := A4 (E5 l)) (Qt (E5 l) 24) hm
   omega
 ·intro h
  by_cases hn : (A4 (E5 l)).length = 0
  ·exact .inl A3
  ·right
   have hmem : (A4 (E5 l)).getD ((A4 (E5 l)).length - 1) 0 ∈ A4 (E5 l) := Ag A3
   have hx := F4.mp hmem
   apply Classical.byContradiction
   intro hc
   have := h ((A4 (E5 l)).getD ((A4 (E5 l)).length - 1) 0).toNat A3
   rw [this] at hx; cases hx.2.2
structure Pq (t : T) (v d : Int) (b : Bool) : Prop where
 bound : ¬ (b = true ∧ 24 < d)
 kids : Ch t.kind = (t.kids.length : Int)
 sys : C6 t.kind = 0 → t.sys.length = 0
 n1 : if t.kind = 1 then 0 ≤ t.n ∧ (v < 0 ∨ t.n < v) else t.n = 0
 nm : if t.kind = 2 then Ku t.name = true else (t.name.toList == (ByteArray.mk #[]).toList) = true
 r : if t.kind = 13 ∨ t.kind = 21 ∨ t.kind = 26 then A9 t.r = true else if t.kind = 14 then A2 t.r = true else t.r.length = 0
 low : within t.r d = true
theorem C9o {t : T} {v d : Int} {b : Bool} (h : Pq t v d b) (hs : ∀ x, x ∈ t.sys → Ps t d x = true) : Pg t v d = true := by
 rw [B2i]
 have h1 := h.n1; have h2 := h.nm; have h3 := h.r
 refine ⟨?_, ?_⟩
 ·simp only [Kc, Bool.or_eq_false_iff, Bool.and_eq_false_iff, decide_eq_false_iff_not, Bool.not_eq_false']
  refine ⟨⟨⟨fun hc => hc h.kids, ?_⟩, ?_⟩, ?_⟩
  ·by_cases hk : t.kind = 1
   ·exact .inl (fun hc => hc hk)
   ·rw [if_neg hk] at h1; exact .inr (fun hc => hc h1)
  ·by_cases hk : t.kind = 2
   ·exact .inl (fun hc => hc hk)
   ·rw [if_neg hk] at h2; exact .inr h2
  ·by_cases hk : C6 t.kind = 0
   ·have := h.sys hk; exact .inr A3
   ·exact .inl hk
 ·by_cases k1 : t.kind = 1
  ·rw [if_pos k1] at h1 ⊢
   rw [if_neg A3, if_neg A3] at h3
   exact ⟨h3, h1⟩
  ·rw [if_neg k1]
   by_cases k2 : t.kind = 2
   ·rw [if_pos k2] at h2 ⊢
    rw [if_neg A3, if_neg A3] at h3
    exact ⟨h3, h2⟩
   ·rw [if_neg k2]
    by_cases k3 : t.kind = 13 ∨ t.kind = 21 ∨ t.kind = 26
    ·rw [if_pos k3] at h3 ⊢; exact ⟨h3, h.low⟩
    ·rw [if_neg k3] at h3 ⊢
     by_cases k4 : t.kind = 14
     ·rw [if_pos k4] at h3 ⊢; exact ⟨h3, h.low⟩
     ·rw [if_neg k4] at h3 ⊢; exact ⟨hs, h3⟩
theorem C7n {t : T} {v d : Int} {b : Bool} (h0 : ¬ (b = true ∧ 24 < d)) (hd : 0 ≤ d) (h : Pg t v d = true) : Pq t v d b := by
 rw [B2i] at h
 obtain ⟨h1, h2⟩ := h
 have hsys := fun hp => C3f h1 hp
 simp only [Kc, Bool.or_eq_false_iff, Bool.and_eq_false_iff, decide_eq_false_iff_not, Bool.not_eq_false', ne_eq, Decidable.not_not] at h1
 obtain ⟨⟨⟨a1, a2⟩, a3⟩, a4⟩ := h1
 have hwn : t.r.length = 0 → within t.r d = true := fun hr => by
  rw [List.eq_nil_of_length_eq_zero hr, within_iff hd]; intro i _; simp [E5]
 refine ⟨h0, a1, fun hp => by rw [hsys hp]; rfl, ?_, ?_, ?_, ?_⟩
 ·by_cases k1 : t.kind = 1
  ·rw [if_pos k1] at h2 ⊢; exact h2.2
  ·rw [if_neg k1]; exact a2.resolve_left k1
 ·by_cases k2 : t.kind = 2
  ·rw [if_neg A3, if_pos k2] at h2
   rw [if_pos k2]; exact h2.2
  ·rw [if_neg k2]; exact a3.resolve_left k2
 ·split at h2
  ·rw [if_neg A3, if_neg A3]; exact h2.1
  ·split at h2
   ·rw [if_neg A3, if_neg A3]; exact h2.1
   ·split at h2
    ·rename_i k; rw [if_pos k]; exact h2.1
    ·rename_i k; rw [if_neg k]
     split at h2
     ·rename_i k; rw [if_pos k]; exact h2.1
     ·rename_i k; rw [if_neg k]; exact h2.2
 ·split at h2
  ·exact hwn h2.1
  ·split at h2
   ·exact hwn h2.1
   ·split at h2
    ·exact h2.2
    ·split at h2
     ·exact h2.2
     ·exact hwn h2.2
def A4w (t : T) (v d : Int) (b : Bool) (i : Nat) : Bool := Lp (t.kids.getD i t0) (IntKind.i64.wrap (v + if v < 0 then 0 else (binds t.kind i).1)) (d + (binds t.kind i).2) b
def Zy (t : T) (v d : Int) (b : Bool) (x : Br) : Bool := Ps t d x && x.kids.all fun k => Lp k v (d + more t.kind) b
theorem D2u {t : T} {v d : Int} (h : Pg t v d = true) : ∀ x, x ∈ t.sys → Ps t d x = true := by
 rw [B2i] at h
 have h2 := h.2
 have hs := fun hp => C3f h.1 hp
 split at h2
 ·rename_i k; rw [hs (by rw [k]; decide)]; intro x hx; cases hx
 ·split at h2
  ·rename_i k; rw [hs (by rw [k]; decide)]; intro x hx; cases hx
  ·split at h2
   ·rename_i k; rw [hs (by rcases k with k | k | k <;> rw [k] <;> decide)]; intro x hx; cases hx
   ·split at h2
    ·rename_i k; rw [hs (by rw [k]; decide)]; intro x hx; cases hx
    ·exact h2.1
theorem Ex {t : T} {v d : Int} {b : Bool} (hv : Au v) (hd : 0 ≤ d) : Lp t v d b = true ↔ Pq t v d b ∧ (∀ i, i < t.kids.length → A4w t v d b i = true) ∧ ∀ i, i < t.sys.length → Zy t v d b (t.sys.getD i Bp) = true := by
 rw [C5q]
 constructor
 ·rintro ⟨h1, h2, h3⟩
  refine ⟨C7n h1 hd h2, fun i hi => ?_, fun i hi => ?_⟩
  ·exact h3 _ (Gy (Eg t i hi))
  ·unfold Zy
   rw [Bool.and_eq_true, List.all_eq_true]
   refine ⟨D2u h2 _ (Ag hi), fun k hk => ?_⟩
   obtain ⟨j, hj, e⟩ := List.mem_iff_getElem.mp hk
   have := h3 _ (Gy (Et t i j hi hj))
   simp only at this
   rw [show (if v < 0 then (0 : Int) else 0) = 0 by split <;> rfl, Int.add_zero, C2u hv] at this
   rwa [Gd (d := t0) hj, e] at this
 ·rintro ⟨h1, h2, h3⟩
  have hb : ∀ x, x ∈ t.sys → Zy t v d b x = true := fun x hx => by
   obtain ⟨i, hi, e⟩ := List.mem_iff_getElem.mp hx
   have := h3 i hi
   rwa [Gd (d := Bp) hi, e] at this
  refine ⟨h1.bound, C9o h1 (fun x hx => by have := hb x hx; unfold Zy at this; rw [Bool.and_eq_true] at this; exact this.1), fun p hp => ?_⟩
  obtain ⟨m, hm⟩ := List.mem_iff_getElem?.mp hp
  have hlt : m < (parts t).length := (List.getElem?_eq_some_iff.mp hm).1
  rcases Nat.lt_or_ge m t.kids.length with hmk | hmk
  ·rw [Eg t m hmk] at hm
   injection hm with hm
   subst hm
   exact h2 m hmk
  ·unfold parts at hp hm
   rw [List.getElem?_append_right (by rw [Gz]; exact hmk)] at hm
   have hp2 : p ∈ Dz t.kind t.sys := List.mem_iff_getElem?.mpr ⟨_, hm⟩
   have key : ∀ (bs : List Br), (∀ x, x ∈ bs → x ∈ t.sys) → p ∈ Dz t.kind bs → Lp p.1 (IntKind.i64.wrap (v + if v < 0 then 0 else p.2.1)) (d + p.2.2) b = true := by
    intro bs
    induction bs with
    | nil => intro _ h; simp [Dz] at h
    | cons x bs ih =>
     intro hx h
     simp only [Dz, List.mem_append, List.mem_map] at h
     rcases h with ⟨k, hk, e⟩ | h
     ·subst e
      simp only
      rw [show (if v < 0 then (0 : Int) else 0) = 0 by split <;> rfl, Int.add_zero, C2u hv]
      have := hb x (hx x List.mem_cons_self)
      unfold Zy at this
      rw [Bool.and_eq_true, List.all_eq_true] at this
      exact this.2 k hk
     ·exact ih (fun y hy => hx y (List.mem_cons_of_mem _ hy)) h
   exact key t.sys (fun _ h => h) hp2
theorem J0 {t : T} {v d : Int} {b : Bool} (hv : Au v) (hd : 0 ≤ d) (hn : ¬ Pq t v d b) : Lp t v d b = false := Bool.eq_false_iff.mpr fun h => hn ((Ex hv hd).mp h).1
theorem Iz {t : T} {v d : Int} {b : Bool} (hv : Au v) (hd : 0 ≤ d) {i : Nat} (hi : i < t.kids.length) (hn : A4w t v d b i = false) : Lp t v d b = false := Bool.eq_false_iff.mpr fun h => by
 have h9 := ((Ex hv hd).mp h).2.1 i hi
 rw [hn] at h9; cases h9
theorem Iy {t : T} {v d : Int} {b : Bool} (hv : Au v) (hd : 0 ≤ d) {i : Nat} (hi : i < t.sys.length) (hn : Zy t v d b (t.sys.getD i Bp) = false) : Lp t v d b = false := Bool.eq_false_iff.mpr fun h => by
 have h9 := ((Ex hv hd).mp h).2.2 i hi
 rw [hn] at h9; cases h9
theorem A3r {t : T} {p : Part} (hp : p ∈ parts t) : (∃ i, i < t.kids.length ∧ p = (t.kids.getD i t0, binds t.kind (i : Int))) ∨ ∃ s k, s < t.sys.length ∧ k < (t.sys.getD s Bp).kids.length ∧ p = ((t.sys.getD s Bp).kids.getD k t0, 0, more t.kind) := by
 unfold parts at hp
 rcases List.mem_append.mp hp with hp | hp
 ·left
  have key : ∀ (ks : List T) (s : Nat), p ∈ F5 t.kind s ks → ∃ i, i < ks.length ∧ p = (ks.getD i t0, binds t.kind ((s + i : Nat) : Int)) := by
   intro ks
   induction ks with
   | nil => intro s h; simp [F5] at h
   | cons k ks ih =>
    intro s h
    simp only [F5, List.mem_cons] at h
    rcases h with h | h
    ·exact ⟨0, by simp, by simpa using h⟩
    ·obtain ⟨i, hi, e⟩ := ih (s + 1) h
     exact ⟨i + 1, by simpa using hi, by rw [e]; simp only [List.getD_cons_succ]; rw [show s + 1 + i = s + (i + 1) by omega]⟩
  obtain ⟨i, hi, e⟩ := key t.kids 0 hp
  exact ⟨i, hi, by rw [e]; simp⟩
 ·right
  have key : ∀ (bs : List Br), p ∈ Dz t.kind bs → ∃ s k, s < bs.length ∧ k < (bs.getD s Bp).kids.length ∧ p = ((bs.getD s Bp).kids.getD k t0, 0, more t.kind) := by
   intro bs
   induction bs with
   | nil => intro h; simp [Dz] at h
   | cons b bs ih =>
    intro h
    simp only [Dz, List.mem_append, List.mem_map] at h
    rcases h with ⟨k, hk, e⟩ | h
    ·obtain ⟨j, hj, e2⟩ := List.mem_iff_getElem.mp hk
     exact ⟨0, j, by simp, by simpa using hj, by rw [← e]; simp only [List.getD_cons_zero]; rw [Gd (d := t0) hj, e2]⟩
    ·obtain ⟨s, k, h1, h2, e⟩ := ih h
     exact ⟨s + 1, k, by simpa using h1, by simpa using h2, by rw [e]; simp⟩
  exact key t.sys hp
theorem B7x {α : Type} (f : α → Nat) (i : Nat) : ∀ (l : List α) (a : Nat), (l.foldl (fun a x => a ||| f x) a).testBit i = true ↔ a.testBit i = true ∨ ∃ x, x ∈ l ∧ (f x).testBit i = true
 | [], a => by simp
 | x :: l, a => by
  rw [List.foldl_cons, B7x f i l, Nat.testBit_or]
  simp only [Bool.or_eq_true, List.mem_cons, exists_eq_or_imp, or_assoc]
end Go.Hy
