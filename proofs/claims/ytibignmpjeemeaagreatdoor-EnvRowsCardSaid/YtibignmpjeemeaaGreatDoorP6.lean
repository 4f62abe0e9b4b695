/- Contracts of this program's functions and the laws that they need. -/
import Derived.Test.YtibignmpjeemeaaGreatDoorP4
set_option linter.unusedVariables false
set_option linter.unusedSimpArgs false
set_option linter.unusedSectionVars false
namespace Go.Hy
open Go.Proofs Go.Proofs.Tryz
theorem U5 {p q : Prop} (h : p) (e : p = q := by
 try (conv => lhs; simp only [sC, bne_iff_ne, beq_iff_eq, ne_eq])
 try rfl) : q := e ▸ h
class Cf (P : Program) (k : FuncId) (fn : outParam Func) : Prop where
 f : P.funcs[k]? = some fn
structure Ak (p : Prop) : Prop where
 out : p
section
variable {P : Program} {f : FuncId} {R : Ending → World → Prop} {B : Cs} {n : Fz} {K : List Item} {σ : Nat → Value} {Γ Γ' : List Fact} {Ms : List Bm}
theorem f_ {k : FuncId} {fn : Func} [h : Cf P k fn] : P.funcs[k]? = some fn := h.f
theorem Qj {fn : Func} {id : Nat} {ops : Array Oper} [h9 : Cf P f fn] (h : E1 P f R B n K ops (List.range ops.size) σ Γ Ms) : Fa P f R B n (.code (.region id ops false) :: K) σ Γ Ms := go_region ⟨_, h9.f⟩ rfl h
theorem Jh {Q : Program} [Tab Q] {g : FuncId} {S : Ending → World → Prop} {C : Cs} {m : Fz} {L : List Item} {ops : Array Oper} {i : Nat} {l : List Nat} {τ : Nat → Value} {Δ : List Fact} {Ns : List Bm} {dst : Option Tmp} {op : Op} {ty : TypeId} {pos : String} {after : Array Edge} {e d : Nat} {want : Bool} {og : Oper} (ho : ops[i]? = some ⟨dst, op, ty, pos, after, some (e, want)⟩) (t : Bool) {p q : Prop} (kT : t = want → p → Ex Q g S C m L ops l (Cp dst op ty) (Sb τ d (.bool want)) Δ Ns) (kF : t = !want → q → E1 Q g S C m L ops l (Aq (Sb τ d (.bool !want)) dst undef) Δ Ns) (hog : ops[e]? = some og := by exact rfl) (hgd : og.dst = some d := by exact rfl) (ht : τ d = .bool t := by exact A5) (e1 : (t = want) = p := by
 try (conv => lhs; simp only [sC, bne_iff_ne, beq_iff_eq, ne_eq])
 try rfl) (e2 : (t = !want) = q := by
 try (conv => lhs; simp only [Bool.not_true, Bool.not_false, sC, bne_iff_ne, beq_iff_eq, ne_eq])
 try rfl) (hd : Ah m dst = true := by rfl) : E1 Q g S C m L ops (i :: l) τ Δ Ns := qI ho hog hgd ht (fun h => kT h (e1 ▸ h)) (fun h => kF h (e2 ▸ h)) hd
theorem Be {d : Nat} {x y : Code} (t : Bool) {p q : Prop} (kT : t = true → p → Fa P f R B n (.code x :: K) (Sb σ d (.bool true)) Γ Ms) (kF : t = false → q → Fa P f R B n (.code y :: K) (Sb σ d (.bool false)) Γ Ms) (hc : σ d = .bool t := by exact A5) (e1 : (t = true) = p := by
 try (conv => lhs; simp only [sC, bne_iff_ne, beq_iff_eq, ne_eq])
 try rfl) (e2 : (t = false) = q := by
 try (conv => lhs; simp only [sC, bne_iff_ne, beq_iff_eq, ne_eq])
 try rfl) : Fa P f R B n (.code (.cond (.tmp d) x y) :: K) σ Γ Ms := A6 (fun h => kT h (e1 ▸ h)) (fun h => kF h (e2 ▸ h)) hc
theorem Cm {fn : Func} {c : Code} {m : Nat} {args : List Value} {pre : List Fact} {Ms0 : List Bm} {X : Type} {val : X → Value} {N : X → List Fact} {Ms1 : X → List Bm} [h9 : Cf P f fn] (hn : fn.ntmps = m) (h : ∀ B : Cs, (∀ b, B.S0 b ↔ Bu Ms0 b) → Fa P f (Ends B val N Ms1) B ⟨m, [], .normal⟩ [.code c] (fun t => args.getD t undef) pre Ms0) (hb : fn.body = some c := by exact rfl) (ha : args.length ≤ m := by exact Nat.le_of_ble_eq_true rfl) : Spec P f args.toArray pre Ms0 val N Ms1 := Ga h9.f hn hb ha h
theorem St.l9 {w : World} (hs : St B Γ Ms w) (h : ∀ F, F ∈ Γ' → F ∈ Γ := by simp +contextual) : St B Γ' Ms w := hs.less h
theorem St.l7 {w : World} (hs : St B Γ Ms w) (h : ∀ F, F ∈ ([] : List Fact) → F ∈ Γ := by simp) : St B [] Ms w := hs.less h
theorem St.l8 {w : World} (hs : St B Γ Ms w) (h : ∀ F, F ∈ Γ' → F ∈ Γ := by simp) : St B Γ' Ms w := hs.less h
end
section
variable {p q : Prop}
theorem Ia (k : p) (h : Ak p → q := by intro h; refine E1n ?_; exact h.1) : q := h ⟨k⟩
theorem Js (k : p) (h : Ak p → q := by intro h; refine D7i ?_; exact h.1) : q := h ⟨k⟩
theorem zq2 (k : p) (h : Ak p → q := by intro h; refine q0 rfl (C8k ?_); exact h.1) : q := h ⟨k⟩
theorem Eh (k : p) (h : Ak p → q := by intro h; refine q0 rfl (Ce ?_); exact h.1) : q := h ⟨k⟩
theorem Xk (k : p) (h : Ak p → q := by intro h; refine qF rfl rfl rfl ?_; exact h.1) : q := h ⟨k⟩
theorem He (k : p) (h : Ak p → q := by intro h; refine go_skip ?_; exact h.1) : q := h ⟨k⟩
theorem zq6 (k : p) (h : Ak p → q := by intro h; refine q0 rfl (C2q ?_); exact h.1) : q := h ⟨k⟩
theorem zq7 (k : p) (h : Ak p → q := by intro h; refine q0 rfl (Wz ?_); exact h.1) : q := h ⟨k⟩
theorem Yi (k : p) (h : Ak p → q := by intro h; refine C9v ?_; exact h.1) : q := h ⟨k⟩
theorem zq9 (k : p) (h : Ak p → q := by intro h; refine nF rfl rfl rfl ?_; exact h.1) : q := h ⟨k⟩
theorem T9 (k : p) (h : Ak p → q := by intro h; refine q0 rfl (D3g ?_); exact h.1) : q := h ⟨k⟩
theorem C0z (k : p) (h : Ak p → q := by intro h; refine q0 rfl (E7e ?_); exact h.1) : q := h ⟨k⟩
theorem Z2 (k : p) (h : Ak p → q := by intro h; refine q0 rfl (E3s ?_); exact h.1) : q := h ⟨k⟩
theorem Fk (k : p) (h : Ak p → q := by intro h; refine n0 rfl (Wf ?_); exact h.1) : q := h ⟨k⟩
theorem D6q (k : p) (h : Ak p → q := by intro h; refine q0 rfl (B9d ?_); exact h.1) : q := h ⟨k⟩
theorem B4b (k : p) (h : Ak p → q := by intro h; refine B6l ?_; exact h.1) : q := h ⟨k⟩
theorem En (k : p) (h : Ak p → q := by intro h; refine D3y rfl ?_; exact h.1) : q := h ⟨k⟩
theorem Hf (k : p) (h : Ak p → q := by intro h; refine q0 rfl (D5p ?_); exact h.1) : q := h ⟨k⟩
theorem Hp (k : p) (h : Ak p → q := by intro h; refine q0 rfl (Mp ?_); exact h.1) : q := h ⟨k⟩
theorem D6p (k : p) (h : Ak p → q := by intro h; refine q0 rfl (D5o ?_); exact h.1) : q := h ⟨k⟩
theorem D6o (k : p) (h : Ak p → q := by intro h; refine q0 rfl (B9e ?_); exact h.1) : q := h ⟨k⟩
theorem C0y (k : p) (h : Ak p → q := by intro h; refine q0 rfl (A4r ?_); exact h.1) : q := h ⟨k⟩
theorem C4n (k : p) (h : Ak p → q := by intro h; refine q0 rfl (A0c ?_); exact h.1) : q := h ⟨k⟩
theorem Yl (k : p) (h : Ak p → q := by intro h; refine NV.done ?_; exact h.1) : q := h ⟨k⟩
theorem Dd (k : p) (h : Ak p → q := by intro h; refine qT rfl rfl rfl (Ce ?_); exact h.1) : q := h ⟨k⟩
theorem O7 (k : p) (h : Ak p → q := by intro h; refine n0 rfl (Mh ?_); exact h.1) : q := h ⟨k⟩
theorem D1m (k : p) (h : Ak p → q := by intro h; refine qU rfl rfl rfl ?_; exact h.1) : q := h ⟨k⟩
theorem Sa (k : p) (h : Ak p → q := by intro h; refine q0 rfl (D5q ?_); exact h.1) : q := h ⟨k⟩
theorem D1l (k : p) (h : Ak p → q := by intro h; refine C9t ?_; exact h.1) : q := h ⟨k⟩
theorem T8 (k : p) (h : Ak p → q := by intro h; refine qT rfl rfl rfl (D3g ?_); exact h.1) : q := h ⟨k⟩
theorem Yk (k : p) (h : Ak p → q := by intro h; refine q0 rfl (D5n ?_); exact h.1) : q := h ⟨k⟩
theorem C4m (k : p) (h : Ak p → q := by intro h; refine nU rfl rfl rfl ?_; exact h.1) : q := h ⟨k⟩
theorem T7 (k : p) (h : Ak p → q := by intro h; refine qT rfl rfl rfl (B9d ?_); exact h.1) : q := h ⟨k⟩
theorem E2h (k : p) (h : Ak p → q := by intro h; refine n0 rfl (B7t ?_); exact h.1) : q := h ⟨k⟩
theorem Iu (k : p) (h : Ak p → q := by intro h; refine Ce ?_; exact h.1) : q := h ⟨k⟩
theorem E2g (k : p) (h : Ak p → q := by intro h; refine n0 rfl (C5c ?_); exact h.1) : q := h ⟨k⟩
theorem P6 (k : p) (h : Ak p → q := by intro h; refine qT rfl rfl rfl (A4r ?_); exact h.1) : q := h ⟨k⟩
theorem Ua (k : p) (h : Ak p → q := by intro h; refine n0 rfl (B7s ?_); exact h.1) : q := h ⟨k⟩
theorem Nt (k : p) (h : Ak p → q := by intro h; refine nT rfl rfl rfl (E2m ?_); exact h.1) : q := h ⟨k⟩
theorem U9 (k : p) (h : Ak p → q := by intro h; refine qT rfl rfl rfl (B9e ?_); exact h.1) : q := h ⟨k⟩
theorem E2f (k : p) (h : Ak p → q := by intro h; refine n0 rfl (C1g ?_); exact h.1) : q := h ⟨k⟩
theorem A2t (k : p) (h : Ak p → q := by intro h; refine q0 rfl (Bw ?_); exact h.1) : q := h ⟨k⟩
theorem Lx (k : p) (h : Ak p → q := by intro h; refine q0 rfl (E3o ?_); exact h.1) : q := h ⟨k⟩
theorem E2e (k : p) (h : Ak p → q := by intro h; refine q0 rfl (E3i ?_); exact h.1) : q := h ⟨k⟩
theorem N0 (k : p) (h : Ak p → q := by intro h; refine nT rfl rfl rfl (Wf ?_); exact h.1) : q := h ⟨k⟩
theorem O6 (k : p) (h : Ak p → q := by intro h; refine q0 rfl (E3p ?_); exact h.1) : q := h ⟨k⟩
theorem B4a (k : p) (h : Ak p → q := by intro h; refine q0 rfl (C8f ?_); exact h.1) : q := h ⟨k⟩
theorem P5 (k : p) (h : Ak p → q := by intro h; refine q0 rfl (B5t ?_); exact h.1) : q := h ⟨k⟩
theorem Qd (k : p) (h : Ak p → q := by intro h; refine n0 rfl (A3l ?_); exact h.1) : q := h ⟨k⟩
theorem S9 (k : p) (h : Ak p → q := by intro h; refine qT rfl rfl rfl (D5o ?_); exact h.1) : q := h ⟨k⟩
theorem T6 (k : p) (h : Ak p → q := by intro h; refine qT rfl rfl rfl (D5n ?_); exact h.1) : q := h ⟨k⟩
theorem D6n (k : p) (h : Ak p → q := by intro h; refine qT rfl rfl rfl (Wz ?_); exact h.1) : q := h ⟨k⟩
theorem U8 (k : p) (h : Ak p → q := by intro h; refine q0 rfl (D8o ?_); exact h.1) : q := h ⟨k⟩
theorem Yj (k : p) (h : Ak p → q := by intro h; refine qT rfl rfl rfl (C8f ?_); exact h.1) : q := h ⟨k⟩
theorem Z0 (k : p) (h : Ak p → q := by intro h; refine q0 rfl (D5r ?_); exact h.1) : q := h ⟨k⟩
theorem A2s (k : p) (h : Ak p → q := by intro h; refine C9u ?_; exact h.1) : q := h ⟨k⟩
theorem A2r (k : p) (h : Ak p → q := by intro h; refine nT rfl rfl rfl (Mh ?_); exact h.1) : q := h ⟨k⟩
theorem A2q (k : p) (h : Ak p → q := by intro h; refine q0 rfl (C8e ?_); exact h.1) : q := h ⟨k⟩
theorem A2p (k : p) (h : Ak p → q := by intro h; refine q0 rfl (D8q ?_); exact h.1) : q := h ⟨k⟩
theorem A2o (k : p) (h : Ak p → q := by intro h; refine qT rfl rfl rfl (D5p ?_); exact h.1) : q := h ⟨k⟩
theorem A6n (k : p) (h : Ak p → q := by intro h; refine qT rfl rfl rfl (C8d ?_); exact h.1) : q := h ⟨k⟩
theorem A6m (k : p) (h : Ak p → q := by intro h; refine qT rfl rfl rfl (D5r ?_); exact h.1) : q := h ⟨k⟩
theorem A6l (k : p) (h : Ak p → q := by intro h; refine nT rfl rfl rfl (B7s ?_); exact h.1) : q := h ⟨k⟩
theorem A6k (k : p) (h : Ak p → q := by intro h; refine nT rfl rfl rfl (B7t ?_); exact h.1) : q := h ⟨k⟩
theorem A6j (k : p) (h : Ak p → q := by intro h; refine n0 rfl (A3m ?_); exact h.1) : q := h ⟨k⟩
theorem A6i (k : p) (h : Ak p → q := by intro h; refine n0 rfl (E2l ?_); exact h.1) : q := h ⟨k⟩
theorem A9d (k : p) (h : Ak p → q := by intro h; refine n0 rfl (E2p ?_); exact h.1) : q := h ⟨k⟩
theorem B3z (k : p) (h : Ak p → q := by intro h; refine q0 rfl (C7x ?_); exact h.1) : q := h ⟨k⟩
theorem B3y (k : p) (h : Ak p → q := by intro h; refine nT rfl rfl rfl (E2n ?_); exact h.1) : q := h ⟨k⟩
theorem B3x (k : p) (h : Ak p → q := by intro h; refine nT rfl rfl rfl (D5b ?_); exact h.1) : q := h ⟨k⟩
theorem B3w (k : p) (h : Ak p → q := by intro h; refine n0 rfl (D5b ?_); exact h.1) : q := h ⟨k⟩
theorem C0x (k : p) (h : Ak p → q := by intro h; refine q0 rfl (E3q ?_); exact h.1) : q := h ⟨k⟩
theorem C0w (k : p) (h : Ak p → q := by intro h; refine nT rfl rfl rfl (B7u ?_); exact h.1) : q := h ⟨k⟩
theorem C0v (k : p) (h : Ak p → q := by intro h; refine nT rfl rfl rfl (D5e ?_); exact h.1) : q := h ⟨k⟩
theorem C0u (k : p) (h : Ak p → q := by intro h; refine q0 rfl (D8p ?_); exact h.1) : q := h ⟨k⟩
theorem B0 (k : p) (h : Ak p → q := by intro h; refine Ia ?_; refine Qj ?_; exact h.1) : q := h ⟨k⟩
theorem Ch (k : p) (h : Ak p → q := by intro h; refine zq2 ?_; refine Js ?_; exact h.1) : q := h ⟨k⟩
theorem Ey (k : p) (h : Ak p → q := by intro h; refine B0 ?_; refine Eh ?_; exact h.1) : q := h ⟨k⟩
theorem Kn (k : p) (h : Ak p → q := by intro h; refine zq2 ?_; refine Ch ?_; exact h.1) : q := h ⟨k⟩
theorem C9 (k : p) (h : Ak p → q := by intro h; refine B0 ?_; refine Ch ?_; exact h.1) : q := h ⟨k⟩
theorem Kj (k : p) (h : Ak p → q := by intro h; refine Ia ?_; refine Ey ?_; exact h.1) : q := h ⟨k⟩
theorem Dr (k : p) (h : Ak p → q := by intro h; refine Qj ?_; refine Eh ?_; exact h.1) : q := h ⟨k⟩
theorem Ha (k : p) (h : Ak p → q := by intro h; refine Xk ?_; refine Xk ?_; exact h.1) : q := h ⟨k⟩
theorem Hz (k : p) (h : Ak p → q := by intro h; refine zq7 ?_; refine T9 ?_; exact h.1) : q := h ⟨k⟩
theorem J7 (k : p) (h : Ak p → q := by intro h; refine He ?_; refine Ia ?_; exact h.1) : q := h ⟨k⟩
theorem D6m (k : p) (h : Ak p → q := by intro h; refine zq6 ?_; refine zq6 ?_; exact h.1) : q := h ⟨k⟩
theorem D8 (k : p) (h : Ak p → q := by intro h; refine B0 ?_; refine Kn ?_; exact h.1) : q := h ⟨k⟩
theorem O5 (k : p) (h : Ak p → q := by intro h; refine D6p ?_; refine Js ?_; exact h.1) : q := h ⟨k⟩
theorem Ho (k : p) (h : Ak p → q := by intro h; refine J7 ?_; refine Yi ?_; exact h.1) : q := h ⟨k⟩
theorem D6l (k : p) (h : Ak p → q := by intro h; refine Eh ?_; refine Js ?_; exact h.1) : q := h ⟨k⟩
theorem Gq (k : p) (h : Ak p → q := by intro h; refine D6m ?_; refine Kn ?_; exact h.1) : q := h ⟨k⟩
theorem Yz (k : p) (h : Ak p → q := by intro h; refine Z2 ?_; refine Ch ?_; exact h.1) : q := h ⟨k⟩
theorem D5 (k : p) (h : Ak p → q := by intro h; refine C0z ?_; refine Js ?_; exact h.1) : q := h ⟨k⟩
theorem U7 (k : p) (h : Ak p → q := by intro h; refine C4n ?_; refine Js ?_; exact h.1) : q := h ⟨k⟩
theorem C0t (k : p) (h : Ak p → q := by intro h; refine Dr ?_; refine Yz ?_; exact h.1) : q := h ⟨k⟩
theorem Gp (k : p) (h : Ak p → q := by intro h; refine D6q ?_; refine Js ?_; exact h.1) : q := h ⟨k⟩
theorem Gn (k : p) (h : Ak p → q := by intro h; refine C0z ?_; refine Ch ?_; exact h.1) : q := h ⟨k⟩
theorem O4 (k : p) (h : Ak p → q := by intro h; refine B4b ?_; refine C0t ?_; exact h.1) : q := h ⟨k⟩
theorem Nr (k : p) (h : Ak p → q := by intro h; refine zq9 ?_; refine zq9 ?_; exact h.1) : q := h ⟨k⟩
theorem Ez (k : p) (h : Ak p → q := by intro h; refine B0 ?_; refine Hp ?_; exact h.1) : q := h ⟨k⟩
theorem Mg (k : p) (h : Ak p → q := by intro h; refine Yl ?_; refine Js ?_; exact h.1) : q := h ⟨k⟩
theorem Dw (k : p) (h : Ak p → q := by intro h; refine Ch ?_; refine Ia ?_; exact h.1) : q := h ⟨k⟩
theorem G0 (k : p) (h : Ak p → q := by intro h; refine Ey ?_; refine Eh ?_; exact h.1) : q := h ⟨k⟩
theorem A9h (k : p) (h : Ak p → q := by intro h; refine C0y ?_; refine Ch ?_; exact h.1) : q := h ⟨k⟩
theorem Ew (k : p) (h : Ak p → q := by intro h; refine B0 ?_; refine Hz ?_; exact h.1) : q := h ⟨k⟩
theorem Ls (k : p) (h : Ak p → q := by intro h; refine Kj ?_; refine U7 ?_; exact h.1) : q := h ⟨k⟩
theorem E4 (k : p) (h : Ak p → q := by intro h; refine D6o ?_; refine Js ?_; exact h.1) : q := h ⟨k⟩
theorem K1 (k : p) (h : Ak p → q := by intro h; refine C9 ?_; refine Yi ?_; exact h.1) : q := h ⟨k⟩
theorem Il (k : p) (h : Ak p → q := by intro h; refine Eh ?_; refine Gq ?_; exact h.1) : q := h ⟨k⟩
theorem D4z (k : p) (h : Ak p → q := by intro h; refine Qj ?_; refine Z2 ?_; refine D6l ?_; exact h.1) : q := h ⟨k⟩
theorem Q8 (k : p) (h : Ak p → q := by intro h; refine B4b ?_; refine D4z ?_; exact h.1) : q := h ⟨k⟩
theorem F6 (k : p) (h : Ak p → q := by intro h; refine Eh ?_; refine Eh ?_; exact h.1) : q := h ⟨k⟩
theorem Fg (k : p) (h : Ak p → q := by intro h; refine O7 ?_; refine n0 rfl (E2m ?_); exact h.1) : q := h ⟨k⟩
theorem Sp (k : p) (h : Ak p → q := by intro h; refine Hf ?_; refine O5 ?_; exact h.1) : q := h ⟨k⟩
theorem Dm (k : p) (h : Ak p → q := by intro h; refine B0 ?_; refine O5 ?_; refine Ia ?_; exact h.1) : q := h ⟨k⟩
theorem I0 (k : p) (h : Ak p → q := by intro h; refine Qj ?_; refine Hz ?_; exact h.1) : q := h ⟨k⟩
theorem Je (k : p) (h : Ak p → q := by intro h; refine zq7 ?_; refine Sa ?_; exact h.1) : q := h ⟨k⟩
theorem C4t (k : p) (h : Ak p → q := by intro h; refine Hf ?_; refine D6l ?_; exact h.1) : q := h ⟨k⟩
theorem G9 (k : p) (h : Ak p → q := by intro h; refine Ey ?_; refine Kn ?_; exact h.1) : q := h ⟨k⟩
theorem Dv (k : p) (h : Ak p → q := by intro h; refine B0 ?_; refine A9h ?_; exact h.1) : q := h ⟨k⟩
theorem K0 (k : p) (h : Ak p → q := by intro h; refine C4t ?_; refine Yi ?_; exact h.1) : q := h ⟨k⟩
theorem E3 (k : p) (h : Ak p → q := by intro h; refine Ho ?_; refine Ia ?_; exact h.1) : q := h ⟨k⟩
theorem F5 (k : p) (h : Ak p → q := by intro h; refine Ha ?_; refine Xk ?_; exact h.1) : q := h ⟨k⟩
theorem Sn (k : p) (h : Ak p → q := by intro h; refine Ia ?_; refine K1 ?_; exact h.1) : q := h ⟨k⟩
theorem Hu (k : p) (h : Ak p → q := by intro h; refine D6o ?_; refine Ch ?_; exact h.1) : q := h ⟨k⟩
theorem Xl (k : p) (h : Ak p → q := by intro h; refine He ?_; refine D1l ?_; exact h.1) : q := h ⟨k⟩
theorem Fq (k : p) (h : Ak p → q := by intro h; refine Yk ?_; refine Js ?_; exact h.1) : q := h ⟨k⟩
theorem Jd (k : p) (h : Ak p → q := by intro h; refine D6q ?_; refine Eh ?_; exact h.1) : q := h ⟨k⟩
theorem Fy (k : p) (h : Ak p → q := by intro h; refine D6q ?_; refine Ch ?_; exact h.1) : q := h ⟨k⟩
theorem Fx (k : p) (h : Ak p → q := by intro h; refine Il ?_; refine Ls ?_; exact h.1) : q := h ⟨k⟩
theorem Ul (k : p) (h : Ak p → q := by intro h; refine D1m ?_; refine D1m ?_; exact h.1) : q := h ⟨k⟩
theorem Lr (k : p) (h : Ak p → q := by intro h; refine D8 ?_; refine Kj ?_; exact h.1) : q := h ⟨k⟩
theorem Gi (k : p) (h : Ak p → q := by intro h; refine He ?_; refine O4 ?_; exact h.1) : q := h ⟨k⟩
theorem Gh (k : p) (h : Ak p → q := by intro h; refine Fk ?_; refine Fk ?_; exact h.1) : q := h ⟨k⟩
theorem Gr (k : p) (h : Ak p → q := by intro h; refine Ho ?_; refine B0 ?_; exact h.1) : q := h ⟨k⟩
theorem La (k : p) (h : Ak p → q := by intro h; refine Ha ?_; refine Ha ?_; exact h.1) : q := h ⟨k⟩
theorem N4 (k : p) (h : Ak p → q := by intro h; refine C0y ?_; refine Js ?_; exact h.1) : q := h ⟨k⟩
theorem H3 (k : p) (h : Ak p → q := by intro h; refine Eh ?_; refine Gn ?_; exact h.1) : q := h ⟨k⟩
theorem Ht (k : p) (h : Ak p → q := by intro h; refine Ia ?_; refine Ia ?_; exact h.1) : q := h ⟨k⟩
theorem Hs (k : p) (h : Ak p → q := by intro h; refine Xl ?_; refine C9 ?_; exact h.1) : q := h ⟨k⟩
theorem Hr (k : p) (h : Ak p → q := by intro h; refine D6o ?_; refine Eh ?_; exact h.1) : q := h ⟨k⟩
theorem Hq (k : p) (h : Ak p → q := by intro h; refine Nr ?_; refine Nr ?_; exact h.1) : q := h ⟨k⟩
theorem C4s (k : p) (h : Ak p → q := by intro h; refine E2e ?_; refine Js ?_; exact h.1) : q := h ⟨k⟩
theorem Me (k : p) (h : Ak p → q := by intro h; refine Ey ?_; refine Ch ?_; exact h.1) : q := h ⟨k⟩
theorem Ik (k : p) (h : Ak p → q := by intro h; refine C0y ?_; refine Eh ?_; exact h.1) : q := h ⟨k⟩
theorem C4r (k : p) (h : Ak p → q := by intro h; refine Kj ?_; refine Eh ?_; exact h.1) : q := h ⟨k⟩
theorem Sm (k : p) (h : Ak p → q := by intro h; refine Ch ?_; refine Q8 ?_; exact h.1) : q := h ⟨k⟩
theorem Qu (k : p) (h : Ak p → q := by intro h; refine C9 ?_; refine Kj ?_; exact h.1) : q := h ⟨k⟩
theorem Q7 (k : p) (h : Ak p → q := by intro h; refine Ha ?_; refine Ul ?_; exact h.1) : q := h ⟨k⟩
theorem Ix (k : p) (h : Ak p → q := by intro h; refine Dr ?_; refine Eh ?_; exact h.1) : q := h ⟨k⟩
theorem Iw (k : p) (h : Ak p → q := by intro h; refine Wz ?_; refine T8 ?_; exact h.1) : q := h ⟨k⟩
theorem Iv (k : p) (h : Ak p → q := by intro h; refine He ?_; refine Ey ?_; exact h.1) : q := h ⟨k⟩
theorem Qt (k : p) (h : Ak p → q := by intro h; refine zq7 ?_; refine C4s ?_; exact h.1) : q := h ⟨k⟩
theorem Jc (k : p) (h : Ak p → q := by intro h; refine C4r ?_; refine Sp ?_; exact h.1) : q := h ⟨k⟩
theorem Uk (k : p) (h : Ak p → q := by intro h; refine E2g ?_; refine Mg ?_; exact h.1) : q := h ⟨k⟩
theorem Jb (k : p) (h : Ak p → q := by intro h; refine Eh ?_; refine D6m ?_; exact h.1) : q := h ⟨k⟩
theorem Jz (k : p) (h : Ak p → q := by intro h; refine En ?_; refine C9 ?_; exact h.1) : q := h ⟨k⟩
theorem Jy (k : p) (h : Ak p → q := by intro h; refine Xk ?_; refine T7 ?_; exact h.1) : q := h ⟨k⟩
theorem Jx (k : p) (h : Ak p → q := by intro h; refine Dw ?_; refine Ia ?_; exact h.1) : q := h ⟨k⟩
theorem Jw (k : p) (h : Ak p → q := by intro h; refine E2h ?_; refine Mg ?_; exact h.1) : q := h ⟨k⟩
theorem C4q (k : p) (h : Ak p → q := by intro h; refine Kj ?_; refine Hz ?_; exact h.1) : q := h ⟨k⟩
theorem Kk (k : p) (h : Ak p → q := by intro h; refine Ia ?_; refine Ew ?_; exact h.1) : q := h ⟨k⟩
theorem Z1 (k : p) (h : Ak p → q := by intro h; refine zq9 ?_; refine Ua ?_; exact h.1) : q := h ⟨k⟩
theorem L9 (k : p) (h : Ak p → q := by intro h; refine He ?_; refine Kj ?_; exact h.1) : q := h ⟨k⟩
theorem L8 (k : p) (h : Ak p → q := by intro h; refine C4m ?_; refine C4m ?_; exact h.1) : q := h ⟨k⟩
theorem L7 (k : p) (h : Ak p → q := by intro h; refine C9 ?_; refine Sn ?_; exact h.1) : q := h ⟨k⟩
theorem L6 (k : p) (h : Ak p → q := by intro h; refine C4q ?_; refine Sp ?_; exact h.1) : q := h ⟨k⟩
theorem Lq (k : p) (h : Ak p → q := by intro h; refine He ?_; refine Q8 ?_; exact h.1) : q := h ⟨k⟩
theorem Lp (k : p) (h : Ak p → q := by intro h; refine Qj ?_; refine Ch ?_; exact h.1) : q := h ⟨k⟩
theorem Lo (k : p) (h : Ak p → q := by intro h; refine C9 ?_; refine Ey ?_; exact h.1) : q := h ⟨k⟩
theorem B7q (k : p) (h : Ak p → q := by intro h; refine C9 ?_; refine G0 ?_; exact h.1) : q := h ⟨k⟩
theorem B7p (k : p) (h : Ak p → q := by intro h; refine He ?_; refine Dr ?_; exact h.1) : q := h ⟨k⟩
theorem Ln (k : p) (h : Ak p → q := by intro h; refine B0 ?_; refine Je ?_; exact h.1) : q := h ⟨k⟩
theorem C4p (k : p) (h : Ak p → q := by intro h; refine Gp ?_; refine D1l ?_; exact h.1) : q := h ⟨k⟩
theorem A9g (k : p) (h : Ak p → q := by intro h; refine Ch ?_; refine Ey ?_; exact h.1) : q := h ⟨k⟩
theorem Md (k : p) (h : Ak p → q := by intro h; refine Ch ?_; refine O4 ?_; exact h.1) : q := h ⟨k⟩
theorem Mc (k : p) (h : Ak p → q := by intro h; refine Eh ?_; refine A2t ?_; exact h.1) : q := h ⟨k⟩
theorem Mb (k : p) (h : Ak p → q := by intro h; refine He ?_; refine G0 ?_; exact h.1) : q := h ⟨k⟩
theorem A9f (k : p) (h : Ak p → q := by intro h; refine Xk ?_; refine E4 ?_; exact h.1) : q := h ⟨k⟩
theorem N3 (k : p) (h : Ak p → q := by intro h; refine En ?_; refine G9 ?_; exact h.1) : q := h ⟨k⟩
theorem N2 (k : p) (h : Ak p → q := by intro h; refine Fg ?_; refine Fk ?_; exact h.1) : q := h ⟨k⟩
theorem Oi (k : p) (h : Ak p → q := by intro h; refine Kj ?_; refine N4 ?_; exact h.1) : q := h ⟨k⟩
theorem Oh (k : p) (h : Ak p → q := by intro h; refine P6 ?_; refine U9 ?_; exact h.1) : q := h ⟨k⟩
theorem Og (k : p) (h : Ak p → q := by intro h; refine C4p ?_; refine D8 ?_; exact h.1) : q := h ⟨k⟩
theorem Of (k : p) (h : Ak p → q := by intro h; refine Ch ?_; refine B0 ?_; exact h.1) : q := h ⟨k⟩
theorem Oe (k : p) (h : Ak p → q := by intro h; refine E2h ?_; refine Fk ?_; exact h.1) : q := h ⟨k⟩
theorem Od (k : p) (h : Ak p → q := by intro h; refine Dr ?_; refine F6 ?_; exact h.1) : q := h ⟨k⟩
theorem Oc (k : p) (h : Ak p → q := by intro h; refine En ?_; refine Ia ?_; exact h.1) : q := h ⟨k⟩
theorem Ob (k : p) (h : Ak p → q := by intro h; refine B4a ?_; refine Js ?_; exact h.1) : q := h ⟨k⟩
theorem Oa (k : p) (h : Ak p → q := by intro h; refine Lr ?_; refine K0 ?_; exact h.1) : q := h ⟨k⟩
theorem O9 (k : p) (h : Ak p → q := by intro h; refine B7q ?_; refine Kn ?_; exact h.1) : q := h ⟨k⟩
theorem O8 (k : p) (h : Ak p → q := by intro h; refine B7p ?_; refine Sm ?_; exact h.1) : q := h ⟨k⟩
theorem D4y (k : p) (h : Ak p → q := by intro h; refine E2f ?_; refine E2f ?_; exact h.1) : q := h ⟨k⟩
theorem A9e (k : p) (h : Ak p → q := by intro h; refine I0 ?_; refine Hp ?_; exact h.1) : q := h ⟨k⟩
theorem Q6 (k : p) (h : Ak p → q := by intro h; refine Z1 ?_; refine Mg ?_; exact h.1) : q := h ⟨k⟩
theorem Q5 (k : p) (h : Ak p → q := by intro h; refine D6n ?_; refine T8 ?_; exact h.1) : q := h ⟨k⟩
theorem D4x (k : p) (h : Ak p → q := by intro h; refine Fk ?_; refine D4y ?_; exact h.1) : q := h ⟨k⟩
theorem D4w (k : p) (h : Ak p → q := by intro h; refine E2g ?_; refine Uk ?_; exact h.1) : q := h ⟨k⟩
theorem Qs (k : p) (h : Ak p → q := by intro h; refine Ey ?_; refine Hp ?_; exact h.1) : q := h ⟨k⟩
theorem Qr (k : p) (h : Ak p → q := by intro h; refine He ?_; refine Ez ?_; exact h.1) : q := h ⟨k⟩
theorem Qq (k : p) (h : Ak p → q := by intro h; refine D6p ?_; refine Eh ?_; exact h.1) : q := h ⟨k⟩
theorem Qp (k : p) (h : Ak p → q := by intro h; refine Ha ?_; refine Gp ?_; exact h.1) : q := h ⟨k⟩
theorem Qo (k : p) (h : Ak p → q := by intro h; refine A9g ?_; refine U7 ?_; exact h.1) : q := h ⟨k⟩
theorem Qn (k : p) (h : Ak p → q := by intro h; refine Jd ?_; refine La ?_; exact h.1) : q := h ⟨k⟩
theorem Qm (k : p) (h : Ak p → q := by intro h; refine Qu ?_; refine K0 ?_; exact h.1) : q := h ⟨k⟩
theorem Ql (k : p) (h : Ak p → q := by intro h; refine zq7 ?_; refine q0 rfl (D8r ?_); exact h.1) : q := h ⟨k⟩
theorem C4o (k : p) (h : Ak p → q := by intro h; refine D4x ?_; refine D4w ?_; exact h.1) : q := h ⟨k⟩
theorem Qk (k : p) (h : Ak p → q := by intro h; refine Qt ?_; refine O4 ?_; exact h.1) : q := h ⟨k⟩
theorem Sl (k : p) (h : Ak p → q := by intro h; refine He ?_; refine B4b ?_; exact h.1) : q := h ⟨k⟩
theorem Sk (k : p) (h : Ak p → q := by intro h; refine Q7 ?_; refine A9f ?_; exact h.1) : q := h ⟨k⟩
theorem Sj (k : p) (h : Ak p → q := by intro h; refine Ha ?_; refine Hu ?_; exact h.1) : q := h ⟨k⟩
theorem Si (k : p) (h : Ak p → q := by intro h; refine Xk ?_; refine Gp ?_; exact h.1) : q := h ⟨k⟩
theorem Sh (k : p) (h : Ak p → q := by intro h; refine I0 ?_; refine Eh ?_; exact h.1) : q := h ⟨k⟩
theorem Sg (k : p) (h : Ak p → q := by intro h; refine Qj ?_; refine Je ?_; exact h.1) : q := h ⟨k⟩
theorem Uj (k : p) (h : Ak p → q := by intro h; refine He ?_; refine En ?_; refine D8 ?_; exact h.1) : q := h ⟨k⟩
theorem Ui (k : p) (h : Ak p → q := by intro h; refine Qj ?_; refine A9h ?_; exact h.1) : q := h ⟨k⟩
theorem Uh (k : p) (h : Ak p → q := by intro h; refine D5 ?_; refine Ia ?_; exact h.1) : q := h ⟨k⟩
theorem Ug (k : p) (h : Ak p → q := by intro h; refine Nt ?_; refine nT rfl rfl rfl (A3k ?_); exact h.1) : q := h ⟨k⟩
theorem Uf (k : p) (h : Ak p → q := by intro h; refine En ?_; refine Me ?_; exact h.1) : q := h ⟨k⟩
theorem Ue (k : p) (h : Ak p → q := by intro h; refine D6m ?_; refine Gn ?_; exact h.1) : q := h ⟨k⟩
theorem Ud (k : p) (h : Ak p → q := by intro h; refine En ?_; refine Sn ?_; exact h.1) : q := h ⟨k⟩
theorem Uc (k : p) (h : Ak p → q := by intro h; refine C4o ?_; refine Ls ?_; exact h.1) : q := h ⟨k⟩
theorem Ub (k : p) (h : Ak p → q := by intro h; refine He ?_; refine A9e ?_; exact h.1) : q := h ⟨k⟩
end
instance : Cf prog 6 f6 := ⟨func6⟩
instance : Cf prog 15 f15 := ⟨func15⟩
instance : Cf prog 16 f16 := ⟨func16⟩
instance : Cf prog 18 f18 := ⟨func18⟩
instance : Cf prog 19 f19 := ⟨func19⟩
instance : Cf prog 20 f20 := ⟨func20⟩
instance : Cf prog 22 f22 := ⟨func22⟩
instance : Cf prog 24 f24 := ⟨func24⟩
instance : Cf prog 27 f27 := ⟨func27⟩
instance : Cf prog 28 f28 := ⟨func28⟩
instance : Cf prog 29 f29 := ⟨func29⟩
instance : Cf prog 30 f30 := ⟨func30⟩
instance : Cf prog 31 f31 := ⟨func31⟩
instance : Cf prog 32 f32 := ⟨func32⟩
instance : Cf prog 39 f39 := ⟨func39⟩
instance : Cf prog 46 f46 := ⟨func46⟩
instance : Cf prog 47 f47 := ⟨func47⟩
instance : Cf prog 48 f48 := ⟨func48⟩
instance : Cf prog 49 f49 := ⟨func49⟩
instance : Cf prog 50 f50 := ⟨func50⟩
instance : Cf prog 51 f51 := ⟨func51⟩
instance : Cf prog 52 f52 := ⟨func52⟩
instance : Cf prog 53 f53 := ⟨func53⟩
instance : Cf prog 54 f54 := ⟨func54⟩
instance : Cf prog 55 f55 := ⟨func55⟩
instance : Cf prog 56 f56 := ⟨func56⟩
instance : Cf prog 57 f57 := ⟨func57⟩
instance : Cf prog 58 f58 := ⟨func58⟩
instance : Cf prog 59 f59 := ⟨func59⟩
instance : Cf prog 60 f60 := ⟨func60⟩
instance : Cf prog 61 f61 := ⟨func61⟩
instance : Cf prog 62 f62 := ⟨func62⟩
instance : Cf prog 63 f63 := ⟨func63⟩
instance : Cf prog 64 f64 := ⟨func64⟩
instance : Cf prog 65 f65 := ⟨func65⟩
instance : Cf prog 66 f66 := ⟨func66⟩
instance : Cf prog 67 f67 := ⟨func67⟩
instance : Cf prog 68 f68 := ⟨func68⟩
instance : Cf prog 69 f69 := ⟨func69⟩
instance : Cf prog 70 f70 := ⟨func70⟩
instance : Cf prog 71 f71 := ⟨func71⟩
instance : Cf prog 72 f72 := ⟨func72⟩
instance : Cf prog 73 f73 := ⟨func73⟩
instance : Cf prog 76 f76 := ⟨func76⟩
instance : Cf prog 89 f89 := ⟨func89⟩
instance : Cf prog 91 f91 := ⟨func91⟩
instance : Cf prog 92 f92 := ⟨func92⟩
instance : Cf prog 93 f93 := ⟨func93⟩
instance : Cf prog 94 f94 := ⟨func94⟩
instance : Cf prog 95 f95 := ⟨func95⟩
instance : Cf prog 96 f96 := ⟨func96⟩
instance : Cf prog 97 f97 := ⟨func97⟩
instance : Cf prog 98 f98 := ⟨func98⟩
instance : Cf prog 99 f99 := ⟨func99⟩
instance : Cf prog 100 f100 := ⟨func100⟩
instance : Cf prog 101 f101 := ⟨func101⟩
instance : Cf prog 102 f102 := ⟨func102⟩
instance : Cf prog 103 f103 := ⟨func103⟩
instance : Cf prog 104 f104 := ⟨func104⟩
instance : Cf prog 105 f105 := ⟨func105⟩
instance : Cf prog 106 f106 := ⟨func106⟩
instance : Cf prog 107 f107 := ⟨func107⟩
instance : Cf prog 108 f108 := ⟨func108⟩
instance : Cf prog 109 f109 := ⟨func109⟩
instance : Cf prog 110 f110 := ⟨func110⟩
instance : Cf prog 111 f111 := ⟨func111⟩
instance : Cf prog 112 f112 := ⟨func112⟩
instance : Cf prog 113 f113 := ⟨func113⟩
instance : Cf prog 114 f114 := ⟨func114⟩
instance : Cf prog 115 f115 := ⟨func115⟩
instance : Cf prog 116 f116 := ⟨func116⟩
instance : Cf prog 117 f117 := ⟨func117⟩
instance : Cf prog 118 f118 := ⟨func118⟩
instance : Cf prog 119 f119 := ⟨func119⟩
instance : Cf prog 120 f120 := ⟨func120⟩
instance : Cf prog 121 f121 := ⟨func121⟩
instance : Cf prog 122 f122 := ⟨func122⟩
instance : Cf prog 124 f124 := ⟨func124⟩
instance : Cf prog 125 f125 := ⟨func125⟩
instance : Cf prog 126 f126 := ⟨func126⟩
instance : Cf prog 127 f127 := ⟨func127⟩
instance : Cf prog 128 f128 := ⟨func128⟩
instance : Cf prog 129 f129 := ⟨func129⟩
instance : Cf prog 130 f130 := ⟨func130⟩
instance : Cf prog 131 f131 := ⟨func131⟩
instance : Cf prog 139 f139 := ⟨func139⟩
instance : Cf prog 140 f140 := ⟨func140⟩
instance : Cf prog 166 f166 := ⟨func166⟩
instance : Cf prog 167 f167 := ⟨func167⟩
instance : Cf prog 168 f168 := ⟨func168⟩
instance : Cf prog 169 f169 := ⟨func169⟩
instance : Cf prog 172 f172 := ⟨func172⟩
instance : Cf prog 173 f173 := ⟨func173⟩
instance : Cf prog 174 f174 := ⟨func174⟩
instance : Cf prog 175 f175 := ⟨func175⟩
instance : Cf prog 176 f176 := ⟨func176⟩
instance : Cf prog 177 f177 := ⟨func177⟩
instance : Cf prog 178 f178 := ⟨func178⟩
instance : Cf prog 179 f179 := ⟨func179⟩
instance : Cf prog 180 f180 := ⟨func180⟩
instance : Cf prog 181 f181 := ⟨func181⟩
instance : Cf prog 182 f182 := ⟨func182⟩
instance : Cf prog 183 f183 := ⟨func183⟩
instance : Cf prog 184 f184 := ⟨func184⟩
instance : Cf prog 185 f185 := ⟨func185⟩
instance : Cf prog 186 f186 := ⟨func186⟩
instance : Cf prog 187 f187 := ⟨func187⟩
instance : Cf prog 188 f188 := ⟨func188⟩
instance : Cf prog 189 f189 := ⟨func189⟩
instance : Cf prog 190 f190 := ⟨func190⟩
instance : Cf prog 191 f191 := ⟨func191⟩
instance : Cf prog 192 f192 := ⟨func192⟩
instance : Cf prog 193 f193 := ⟨func193⟩
instance : Cf prog 194 f194 := ⟨func194⟩
instance : Cf prog 195 f195 := ⟨func195⟩
instance : Cf prog 196 f196 := ⟨func196⟩
instance : Cf prog 197 f197 := ⟨func197⟩
instance : Cf prog 198 f198 := ⟨func198⟩
instance : Cf prog 199 f199 := ⟨func199⟩
instance : Cf prog 200 f200 := ⟨func200⟩
instance : Cf prog 203 f203 := ⟨func203⟩
instance : Cf prog 204 f204 := ⟨func204⟩
instance : Cf prog 205 f205 := ⟨func205⟩
instance : Cf prog 207 f207 := ⟨func207⟩
instance : Cf prog 208 f208 := ⟨func208⟩
instance : Cf prog 209 f209 := ⟨func209⟩
instance : Cf prog 210 f210 := ⟨func210⟩
instance : Cf prog 211 f211 := ⟨func211⟩
instance : Cf prog 212 f212 := ⟨func212⟩
instance : Cf prog 213 f213 := ⟨func213⟩
instance : Cf prog 214 f214 := ⟨func214⟩
instance : Cf prog 215 f215 := ⟨func215⟩
instance : Cf prog 216 f216 := ⟨func216⟩
instance : Cf prog 217 f217 := ⟨func217⟩
instance : Cf prog 218 f218 := ⟨func218⟩
instance : Cf prog 227 f227 := ⟨func227⟩
instance : Cf prog 231 f231 := ⟨func231⟩
instance : Cf prog 233 f233 := ⟨func233⟩
instance : Cf prog 236 f236 := ⟨func236⟩
instance : Cf prog 237 f237 := ⟨func237⟩
instance : Cf prog 238 f238 := ⟨func238⟩
instance : Cf prog 239 f239 := ⟨func239⟩
instance : Cf prog 240 f240 := ⟨func240⟩
instance : Cf prog 241 f241 := ⟨func241⟩
instance : Cf prog 242 f242 := ⟨func242⟩
instance : Cf prog 243 f243 := ⟨func243⟩
instance : Cf prog 244 f244 := ⟨func244⟩
instance : Cf prog 245 f245 := ⟨func245⟩
instance : Cf prog 246 f246 := ⟨func246⟩
instance : Cf prog 247 f247 := ⟨func247⟩
instance : Cf prog 248 f248 := ⟨func248⟩
instance : Cf prog 249 f249 := ⟨func249⟩
instance : Cf prog 250 f250 := ⟨func250⟩
instance : Cf prog 251 f251 := ⟨func251⟩
instance : Cf prog 255 f255 := ⟨func255⟩
instance : Cf prog 256 f256 := ⟨func256⟩
instance : Cf prog 259 f259 := ⟨func259⟩
instance : Cf prog 260 f260 := ⟨func260⟩
instance : Cf prog 261 f261 := ⟨func261⟩
instance : Cf prog 262 f262 := ⟨func262⟩
instance : Cf prog 263 f263 := ⟨func263⟩
instance : Cf prog 267 f267 := ⟨func267⟩
instance : Cf prog 270 f270 := ⟨func270⟩
instance : Cf prog 271 f271 := ⟨func271⟩
instance : Cf prog 272 f272 := ⟨func272⟩
instance : Cf prog 273 f273 := ⟨func273⟩
instance : Cf prog 274 f274 := ⟨func274⟩
instance : Cf prog 275 f275 := ⟨func275⟩
instance : Cf prog 276 f276 := ⟨func276⟩
instance : Cf prog 277 f277 := ⟨func277⟩
instance : Cf prog 278 f278 := ⟨func278⟩
instance : Cf prog 279 f279 := ⟨func279⟩
instance : Cf prog 280 f280 := ⟨func280⟩
instance : Cf prog 292 f292 := ⟨func292⟩
instance : Cf prog 293 f293 := ⟨func293⟩
instance : Cf prog 297 f297 := ⟨func297⟩
instance : Cf prog 298 f298 := ⟨func298⟩
instance : Cf prog 299 f299 := ⟨func299⟩
instance : Cf prog 305 f305 := ⟨func305⟩
instance : Cf prog 306 f306 := ⟨func306⟩
set_option maxRecDepth 100000
theorem U0 (k i : Int) : Spec prog 62 #[iv k, iv i] [] [] (fun _ : Unit => .tuple #[iv (binds k i).1, iv (binds k i).2]) (fun _ => []) (fun _ => []) := by
 refine Cm ntmps62 fun B hB => ?_
 refine Lr ?_; refine Js ?_; refine Yi ?_; refine Ia ?_; refine Yi ?_; refine Ia ?_; refine Yi ?_; refine Yi ?_; refine Yi ?_; refine Ia ?_; refine Yi ?_; refine Ht ?_; refine Ia ?_; refine Dv ?_; refine A6 (fun h7 => ?_) (fun h7 => ?_)
 ·refine Xl ?_; refine En ?_; refine Oi ?_; refine A6 (fun h21 => ?_) (fun h21 => ?_)
  ·refine D8 ?_; refine Az f_ rfl A5 A5 () (by simp_all [binds]) (fun w hs => hs.none)
  ·refine Uj ?_; refine Az f_ rfl A5 A5 () (by simp_all [binds]) (fun w hs => hs.none)
 ·refine Ui ?_; refine A6 (fun h7 => ?_) (fun h7 => ?_)
  ·refine En ?_; refine Oi ?_; refine A6 (fun h21 => ?_) (fun h21 => ?_)
   ·refine D8 ?_; refine Az f_ rfl A5 A5 () (by simp_all [binds]) (fun w hs => hs.none)
   ·refine Uj ?_; refine Az f_ rfl A5 A5 () (by simp_all [binds]) (fun w hs => hs.none)
  ·refine J7 ?_; refine Dv ?_; refine A6 (fun h10 => ?_) (fun h10 => ?_)
   ·refine En ?_; refine B4b ?_; refine B4b ?_; refine Oi ?_; refine A6 (fun h23 => ?_) (fun h23 => ?_)
    ·refine D8 ?_; refine Az f_ rfl A5 A5 () (by simp_all [binds]) (fun w hs => hs.none)
    ·refine Uj ?_; refine Az f_ rfl A5 A5 () (by simp_all [binds]) (fun w hs => hs.none)
   ·refine J7 ?_; refine Dv ?_; refine A6 (fun h12 => ?_) (fun h12 => ?_)
    ·refine En ?_; refine B4b ?_; refine Oi ?_; refine A6 (fun h23 => ?_) (fun h23 => ?_)
     ·refine D8 ?_; refine Az f_ rfl A5 A5 () (by simp_all [binds]) (fun w hs => hs.none)
     ·refine Uj ?_; refine Az f_ rfl A5 A5 () (by simp_all [binds]) (fun w hs => hs.none)
    ·refine J7 ?_; refine Dv ?_; refine A6 (fun h14 => ?_) (fun h14 => ?_)
     ·refine En ?_; refine Oi ?_; refine A6 (fun h23 => ?_) (fun h23 => ?_)
      ·refine D8 ?_; refine Az f_ rfl A5 A5 () (by simp_all [binds]) (fun w hs => hs.none)
      ·refine Uj ?_; refine Az f_ rfl A5 A5 () (by simp_all [binds]) (fun w hs => hs.none)
     ·refine J7 ?_; refine Dv ?_; refine A6 (fun h16 => ?_) (fun h16 => ?_)
      ·refine Xl ?_; refine En ?_; refine Oi ?_; refine A6 (fun h25 => ?_) (fun h25 => ?_)
       ·refine D8 ?_; refine Az f_ rfl A5 A5 () (by simp_all [binds]) (fun w hs => hs.none)
       ·refine Uj ?_; refine Az f_ rfl A5 A5 () (by simp_all [binds]) (fun w hs => hs.none)
      ·refine Dv ?_; refine A6 (fun h16 => ?_) (fun h16 => ?_)
       ·refine Xl ?_; refine En ?_; refine Oi ?_; refine A6 (fun h25 => ?_) (fun h25 => ?_)
        ·refine D8 ?_; refine Az f_ rfl A5 A5 () (by simp_all [binds]) (fun w hs => hs.none)
        ·refine Uj ?_; refine Az f_ rfl A5 A5 () (by simp_all [binds]) (fun w hs => hs.none)
       ·refine Ui ?_; refine A6 (fun h16 => ?_) (fun h16 => ?_)
        ·refine En ?_; refine Oi ?_; refine A6 (fun h25 => ?_) (fun h25 => ?_)
         ·refine D8 ?_; refine Az f_ rfl A5 A5 () (by simp_all [binds]) (fun w hs => hs.none)
         ·refine Uj ?_; refine Az f_ rfl A5 A5 () (by simp_all [binds]) (fun w hs => hs.none)
        ·refine Uj ?_; refine Az f_ rfl A5 A5 () (by simp_all [binds]) (fun w hs => hs.none)
theorem A5q (t : T) (vr vk vs : SH) (c : FuncId) (cap : List Value) (FΓ : List Fact) (SM SF : Nat → List Bm) (β : Nat → Bool)
  (hc : ∀ (args : Array Value) (w : World), (callFunc c args).run prog w = .ok (.enter c args) w)
  (hcl : ∀ m k v d, (parts t)[m]? = some (k, v, d) → (∀ j, j < m → β j = true) → ∀ vr vk vs, Spec prog c (.agg (tc k vr vk vs).toArray :: iv v :: iv d :: cap).toArray (RT k vr vk vs :: FΓ) (SM m) (fun _ : Unit => .bool (β m)) (fun _ => []) (fun _ => if β m then SM (m + 1) else SF m)) :
  Spec prog 106 #[.agg (tc t vr vk vs).toArray, .func (.func c) #[] cap.toArray] (RT t vr vk vs :: FΓ) (SM 0) (fun _ : Unit => .bool (ff β (parts t).length == (parts t).length)) (fun _ => []) (fun _ => if ff β (parts t).length = (parts t).length then SM (parts t).length else SF (ff β (parts t).length)) := by
 refine Cm ntmps106 fun B hB => ?_
 refine go_open (fun hk hn hnm => ?_); refine Ap (ts := t.kids) (fun VR VK VS hl1 hA1 => ?_); refine Dg (bs := t.sys) (fun VF VK2 hl2 hA2 => ?_); have hpl := Pj t; refine B0 ?_; refine q0 rfl (Ay fun b2 => ?_); refine Dw ?_; refine Ew ?_; refine K0 ?_; refine Dj (X := Nat) (fun i => i ≤ t.kids.length ∧ ∀ j, j < i → β j = true) (fun i => [(1, .func (.func c) #[] cap.toArray), (2, pz b2), (15, sl vk t.kids.length), (16, iv (t.kids.length : Int)), (17, iv (i : Int))]) (fun i => TLx t.kids vk VR VK VS :: Yq t.sys vs VF VK2 :: RT t vr vk vs :: FΓ) (fun i => Af b2 (tc t vr vk vs) 26 :: SM i) (fun i => t.kids.length - i) (0) (⟨Nat.zero_le _, fun j hj => by omega⟩) (by exact Cd) ?_ ?_
 ·exact fun w hs => hs.l9
 ·intro i base0 ⟨hi, hβ⟩ next0; refine Dm ?_; refine A6 (fun h18 => ?_) (fun h18 => ?_)
  ·have hlt : i < t.kids.length := by have := of_decide_eq_true h18; omega
   obtain ⟨bk, o, hav⟩ := hA1 A2; refine Ho ?_; refine Ey ?_; refine A2t ?_; refine Lx ?_; refine q0 rfl (B7 fun b6 => ?_); refine zq2 ?_; refine Uh ?_; refine Dl i hlt ?_; refine Qj ?_; have hpk := Eg t i hlt; refine Hz ?_; refine Eh ?_; refine q0 rfl (A0 call62 (U0 t.kind i) (fun x26 => ?_)); refine Il ?_; refine Qs ?_; refine F6 ?_; refine q0 rfl (D1 hc (hcl i _ _ _ hpk hβ _ _ _) (fun x33 => ?_)); refine Fq ?_; refine A6 (fun h34 => ?_) (fun h34 => ?_)
   ·have hβf : β i = false := by simpa using h34
    refine C9 ?_; have hff := A8k hβf hβ (n := (parts t).length) A2; refine Ao f_ rfl A5 () (by simp [hff]; omega) (fun w hs => by rw [hff, if_neg A2]; simp only [hβf, Bool.false_eq_true, if_false] at hs; exact (hs.l8).C6)
   ·refine Lq ?_; have hβt : β i = true := by simpa using h34
    refine A1 (fun w hs => ?_) (next0 (i + 1) _ ⟨hlt, fun j hj => (by rcases Nat.lt_succ_iff_lt_or_eq.mp hj with h | h; exact hβ j h; subst h; exact hβt)⟩ A2 Cd); simp only [hβt, if_true] at hs; exact ((hs.l9).perm List.perm_append_comm).drop
  ·have hge : i = t.kids.length := by have := of_decide_eq_false h18; omega
   refine Jz ?_; refine Kk ?_; refine N4 ?_; refine Au ([(1, .func (.func c) #[] cap.toArray), (2, pz b2), (9, iv (more t.kind))]) (fun hK => ?_) (fun base => ?_)
   ·refine A6 (fun h38 => ?_) (fun h38 => ?_)
    ·refine Lp ?_; exact hK _ ⟨rfl, rfl, by first | (rw [more, if_pos (of_decide_eq_true h38)]; rfl) | (rw [more, if_neg (of_decide_eq_false h38)]; rfl), trivial⟩
    ·refine He ?_; exact hK _ ⟨rfl, rfl, by first | (rw [more, if_pos (of_decide_eq_true h38)]; rfl) | (rw [more, if_neg (of_decide_eq_false h38)]; rfl), trivial⟩
   ·refine Kk ?_; refine K0 ?_; refine Dj (X := Nat) (fun i2 => i2 ≤ t.sys.length ∧ ∀ j, j < t.kids.length + Bo i2 t.sys → β j = true) (fun i2 => [(1, .func (.func c) #[] cap.toArray), (9, iv (more t.kind)), (40, sl vs t.sys.length), (41, iv (t.sys.length : Int)), (42, iv (i2 : Int))]) (fun i2 => Yq t.sys vs VF VK2 :: FΓ) (fun i2 => SM (t.kids.length + Bo i2 t.sys)) (fun i2 => t.sys.length - i2) (0) (⟨Nat.zero_le _, fun j hj => hβ j (by simp [Bo] at hj; omega)⟩) (by exact Cd) ?_ ?_
    ·exact fun w hs => (by simpa [Bo, show i = t.kids.length by omega] using (hs.drop.less (Γ' := Yq t.sys vs VF VK2 :: FΓ) sx_))
    ·intro i2 base1 ⟨hi2, hβ2⟩ next1; refine Dm ?_; refine A6 (fun h43 => ?_) (fun h43 => ?_)
     ·have hlt2 : i2 < t.sys.length := by have := of_decide_eq_true h43; omega
      obtain ⟨bk2, o2, hav2⟩ := hA2 A2; refine Gr ?_; refine A2t ?_; refine C0x ?_; refine q0 rfl (B7 fun b11 => ?_); refine D5 ?_; refine Ew ?_; refine K0 ?_; refine Fp i2 A2 ?_; refine Ap (ts := (t.sys.getD i2 Bk).kids) (fun VR3 VK3 VS3 hl3 hA3 => ?_); refine Dj (X := Nat) (fun j => j ≤ (t.sys.getD i2 Bk).kids.length ∧ ∀ m, m < t.kids.length + Bo i2 t.sys + j → β m = true) (fun j => [(1, .func (.func c) #[] cap.toArray), (9, iv (more t.kind)), (40, sl vs t.sys.length), (41, iv (t.sys.length : Int)), (42, iv ((i2 : Nat) : Int)), (47, sl (VK2 i2) (t.sys.getD i2 Bk).kids.length), (48, iv ((t.sys.getD i2 Bk).kids.length : Int)), (49, iv (j : Int))]) (fun j => TLx (t.sys.getD i2 Bk).kids (VK2 i2) VR3 VK3 VS3 :: Yq t.sys vs VF VK2 :: FΓ) (fun j => SM (t.kids.length + Bo i2 t.sys + j)) (fun j => (t.sys.getD i2 Bk).kids.length - j) (0) (⟨Nat.zero_le _, hβ2⟩) (by exact Cd) ?_ ?_
      ·exact fun w hs => (hs.l9).drop
      ·intro j base2 ⟨hj, hβ3⟩ next2; refine Dm ?_; refine A6 (fun h50 => ?_) (fun h50 => ?_)
       ·have hlt3 : j < (t.sys.getD i2 Bk).kids.length := by have := of_decide_eq_true h50; omega
        obtain ⟨bk3, o3, hav3⟩ := hA3 A2; have hps := Es t i2 j hlt2 hlt3; refine Dl j hlt3 ?_; refine Gr ?_; refine A2t ?_; refine Lx ?_; refine q0 rfl (B7 fun b13 => ?_); refine D5 ?_; refine Qs ?_; refine Eh ?_; refine q0 rfl (D1 hc (hcl _ _ _ _ hps hβ3 _ _ _) (fun x56 => ?_)); refine Fq ?_; refine A6 (fun h57 => ?_) (fun h57 => ?_)
        ·have hβf : β (t.kids.length + Bo i2 t.sys + j) = false := by simpa using h57
         refine C9 ?_; have hbd := A6r hlt2 hlt3; have hff := A8k hβf hβ3 (n := (parts t).length) A2; refine Ao f_ rfl A5 () (by simp [hff]; omega) (fun w hs => by rw [hff, if_neg A2]; simp only [hβf, Bool.false_eq_true, if_false] at hs; exact (hs.l8).C6)
        ·refine Lq ?_; have hβt : β (t.kids.length + Bo i2 t.sys + j) = true := by simpa using h57
         refine A1 (fun w hs => ?_) (next2 (j + 1) _ ⟨hlt3, fun j2 hj2 => (by rcases Nat.lt_succ_iff_lt_or_eq.mp hj2 with h | h; exact hβ3 j2 h; subst h; exact hβt)⟩ A2 Cd); simp only [hβt, if_true] at hs; exact (hs.l9).C6
       ·have hge3 : j = (t.sys.getD i2 Bk).kids.length := by have := of_decide_eq_false h50; omega
        refine En ?_; refine Q8 ?_; refine A1 (fun w hs => ?_) (next1 (i2 + 1) _ ⟨hlt2, by rw [I2 i2 t.sys hlt2]; rw [hge3] at hβ3; simpa [Nat.add_assoc] using hβ3⟩ A2 Cd); rw [hge3] at hs; simp only [I2 i2 t.sys hlt2, ← Nat.add_assoc]; exact hs.l9
     ·refine Jz ?_; have hie : i2 = t.sys.length := by have := of_decide_eq_false h43; omega
      have hff := A8l (β := β) (n := (parts t).length) (by rw [hpl, ← hie]; exact hβ2); refine Ao f_ rfl A5 () (by simp [hff]) (fun w hs => by rw [hff, if_pos rfl, hpl, ← hie]; exact hs.l8)
theorem C3h (k : Int) : Spec prog 189 #[iv k] [] [] (fun _ : Unit => iv (Cx k)) (fun _ => []) (fun _ => []) := by
 refine Cm ntmps189 fun B hB => ?_
 refine Qu ?_; refine Js ?_; refine Yi ?_; refine Ia ?_; refine Dv ?_; refine A6 (fun h4 => ?_) (fun h4 => ?_)
 ·refine Hs ?_; refine Ao f_ rfl A5 () (by simp_all [Cx]) (fun w hs => hs.none)
 ·refine Dv ?_; refine A6 (fun h4 => ?_) (fun h4 => ?_)
  ·refine Hs ?_; refine Ao f_ rfl A5 () (by simp_all [Cx]) (fun w hs => hs.none)
  ·refine Dv ?_; refine A6 (fun h4 => ?_) (fun h4 => ?_)
   ·refine Hs ?_; refine Ao f_ rfl A5 () (by simp_all [Cx]) (fun w hs => hs.none)
   ·refine Dv ?_; refine A6 (fun h4 => ?_) (fun h4 => ?_)
    ·refine Hs ?_; refine Ao f_ rfl A5 () (by simp_all [Cx]) (fun w hs => hs.none)
    ·refine Dv ?_; refine A6 (fun h4 => ?_) (fun h4 => ?_)
     ·refine Hs ?_; refine Ao f_ rfl A5 () (by simp_all [Cx]) (fun w hs => hs.none)
     ·refine Dv ?_; refine A6 (fun h4 => ?_) (fun h4 => ?_)
      ·refine Hs ?_; refine Ao f_ rfl A5 () (by simp_all [Cx]) (fun w hs => hs.none)
      ·refine Dv ?_; refine A6 (fun h4 => ?_) (fun h4 => ?_)
       ·refine Hs ?_; refine Ao f_ rfl A5 () (by simp_all [Cx]) (fun w hs => hs.none)
       ·refine Ui ?_; refine A6 (fun h4 => ?_) (fun h4 => ?_)
        ·refine C9 ?_; refine Ao f_ rfl A5 () (by simp_all [Cx]) (fun w hs => hs.none)
        ·refine Ia ?_; refine Dv ?_; refine A6 (fun h13 => ?_) (fun h13 => ?_)
         ·refine Hs ?_; refine Ao f_ rfl A5 () (by simp_all [Cx]) (fun w hs => hs.none)
         ·refine Dv ?_; refine A6 (fun h13 => ?_) (fun h13 => ?_)
          ·refine Hs ?_; refine Ao f_ rfl A5 () (by simp_all [Cx]) (fun w hs => hs.none)
          ·refine Dv ?_; refine A6 (fun h13 => ?_) (fun h13 => ?_)
           ·refine Hs ?_; refine Ao f_ rfl A5 () (by simp_all [Cx]) (fun w hs => hs.none)
           ·refine Dv ?_; refine A6 (fun h13 => ?_) (fun h13 => ?_)
            ·refine Hs ?_; refine Ao f_ rfl A5 () (by simp_all [Cx]) (fun w hs => hs.none)
            ·refine Dv ?_; refine A6 (fun h13 => ?_) (fun h13 => ?_)
             ·refine Hs ?_; refine Ao f_ rfl A5 () (by simp_all [Cx]) (fun w hs => hs.none)
             ·refine Dv ?_; refine A6 (fun h13 => ?_) (fun h13 => ?_)
              ·refine Hs ?_; refine Ao f_ rfl A5 () (by simp_all [Cx]) (fun w hs => hs.none)
              ·refine Dv ?_; refine A6 (fun h13 => ?_) (fun h13 => ?_)
               ·refine Hs ?_; refine Ao f_ rfl A5 () (by simp_all [Cx]) (fun w hs => hs.none)
               ·refine Dv ?_; refine A6 (fun h13 => ?_) (fun h13 => ?_)
                ·refine Hs ?_; refine Ao f_ rfl A5 () (by simp_all [Cx]) (fun w hs => hs.none)
                ·refine Ui ?_; refine A6 (fun h13 => ?_) (fun h13 => ?_)
                 ·refine C9 ?_; refine Ao f_ rfl A5 () (by simp_all [Cx]) (fun w hs => hs.none)
                 ·refine Ia ?_; refine Dv ?_; refine A6 (fun h23 => ?_) (fun h23 => ?_)
                  ·refine Hs ?_; refine Ao f_ rfl A5 () (by simp_all [Cx]) (fun w hs => hs.none)
                  ·refine Dv ?_; refine A6 (fun h23 => ?_) (fun h23 => ?_)
                   ·refine Hs ?_; refine Ao f_ rfl A5 () (by simp_all [Cx]) (fun w hs => hs.none)
                   ·refine Dv ?_; refine A6 (fun h23 => ?_) (fun h23 => ?_)
                    ·refine Hs ?_; refine Ao f_ rfl A5 () (by simp_all [Cx]) (fun w hs => hs.none)
                    ·refine Dv ?_; refine A6 (fun h23 => ?_) (fun h23 => ?_)
                     ·refine Hs ?_; refine Ao f_ rfl A5 () (by simp_all [Cx]) (fun w hs => hs.none)
                     ·refine Dv ?_; refine A6 (fun h23 => ?_) (fun h23 => ?_)
                      ·refine Hs ?_; refine Ao f_ rfl A5 () (by simp_all [Cx]) (fun w hs => hs.none)
                      ·refine Dv ?_; refine A6 (fun h23 => ?_) (fun h23 => ?_)
                       ·refine Hs ?_; refine Ao f_ rfl A5 () (by simp_all [Cx]) (fun w hs => hs.none)
                       ·refine Ui ?_; refine A6 (fun h23 => ?_) (fun h23 => ?_)
                        ·refine C9 ?_; refine Ao f_ rfl A5 () (by simp_all [Cx]) (fun w hs => hs.none)
                        ·refine Ia ?_; refine Dv ?_; refine A6 (fun h31 => ?_) (fun h31 => ?_)
                         ·refine Hs ?_; refine Ao f_ rfl A5 () (by simp_all [Cx]) (fun w hs => hs.none)
                         ·refine Ui ?_; refine A6 (fun h31 => ?_) (fun h31 => ?_)
                          ·refine C9 ?_; refine Ao f_ rfl A5 () (by simp_all [Cx]) (fun w hs => hs.none)
                          ·refine Dv ?_; refine A6 (fun h34 => ?_) (fun h34 => ?_)
                           ·refine C9 ?_; refine Ao f_ rfl A5 () (by simp_all [Cx]) (fun w hs => hs.none)
                           ·refine Dv ?_; refine A6 (fun h36 => ?_) (fun h36 => ?_)
                            ·refine C9 ?_; refine Ao f_ rfl A5 () (by simp_all [Cx]) (fun w hs => hs.none)
                            ·refine Sl ?_; refine C9 ?_; refine Ao f_ rfl A5 () (by simp_all [Cx]) (fun w hs => hs.none)
theorem Mm (k : Int) : Spec prog 190 #[iv k] [] [] (fun _ : Unit => iv (Ct k)) (fun _ => []) (fun _ => []) := by
 refine Cm ntmps190 fun B hB => ?_
 refine Qu ?_; refine Js ?_; refine Yi ?_; refine Ia ?_; refine Dv ?_; refine A6 (fun h4 => ?_) (fun h4 => ?_)
 ·refine Hs ?_; refine Ao f_ rfl A5 () (by simp_all [Ct]) (fun w hs => hs.none)
 ·refine Dv ?_; refine A6 (fun h4 => ?_) (fun h4 => ?_)
  ·refine Hs ?_; refine Ao f_ rfl A5 () (by simp_all [Ct]) (fun w hs => hs.none)
  ·refine Ui ?_; refine A6 (fun h4 => ?_) (fun h4 => ?_)
   ·refine C9 ?_; refine Ao f_ rfl A5 () (by simp_all [Ct]) (fun w hs => hs.none)
   ·refine Dv ?_; refine A6 (fun h8 => ?_) (fun h8 => ?_)
    ·refine C9 ?_; refine Ao f_ rfl A5 () (by simp_all [Ct]) (fun w hs => hs.none)
    ·refine Sl ?_; refine C9 ?_; refine Ao f_ rfl A5 () (by simp_all [Ct]) (fun w hs => hs.none)
theorem R0 (k : Int) : Spec prog 181 #[iv k] [] [] (fun _ : Unit => iv (Ct k)) (fun _ => []) (fun _ => []) := by
 refine Cm ntmps181 fun B hB => ?_
 refine Qu ?_; refine N4 ?_; refine A6 (fun h4 => ?_) (fun h4 => ?_)
 ·refine C9 ?_; refine Ao f_ rfl A5 () (by simp_all [Ct]) (fun w hs => hs.none)
 ·refine L9 ?_; refine Ik ?_; refine qI rfl rfl rfl Gm (fun hg7 => Ce ?_) (fun hg7 => ?_)
  ·refine P6 ?_; refine Hr ?_; refine qI rfl rfl rfl Gm (fun hg11 => Ce ?_) (fun hg11 => ?_)
   ·refine P6 ?_; refine E4 ?_; refine A6 (fun h14 => ?_) (fun h14 => ?_)
    ·refine C9 ?_; refine Ao f_ rfl A5 () (by simp_all [Ct]) (fun w hs => hs.none)
    ·refine He ?_; refine C9 ?_; refine Ao f_ rfl A5 () (by simp_all [Ct]) (fun w hs => hs.none)
   ·refine Xk ?_; refine C4p ?_; refine C9 ?_; refine Ao f_ rfl A5 () (by simp_all [Ct]) (fun w hs => hs.none)
  ·refine Xk ?_; refine Jd ?_; refine Ha ?_; refine C4p ?_; refine C9 ?_; refine Ao f_ rfl A5 () (by simp_all [Ct]) (fun w hs => hs.none)
theorem Tm (k : Int) : Spec prog 102 #[iv k] [] [] (fun _ : Unit => iv (more k)) (fun _ => []) (fun _ => []) := by
 refine Cm ntmps102 fun B hB => ?_
 refine Qu ?_; refine N4 ?_; refine A6 (fun h4 => ?_) (fun h4 => ?_)
 ·refine C9 ?_; refine Ao f_ rfl A5 () (by simp_all [more]) (fun w hs => hs.none)
 ·refine He ?_; refine C9 ?_; refine Ao f_ rfl A5 () (by simp_all [more]) (fun w hs => hs.none)
theorem R2 (k i : Int) : Spec prog 100 #[iv k, iv i] [] [] (fun _ : Unit => .tuple #[iv (binds k i).1, iv (binds k i).2]) (fun _ => []) (fun _ => []) := by
 refine Cm ntmps100 fun B hB => ?_
 refine Lr ?_; refine Ik ?_; refine qI rfl rfl rfl Gm (fun hg8 => Ce ?_) (fun hg8 => ?_)
 ·refine P6 ?_; refine Dd ?_; refine qI rfl rfl rfl Gm (fun hg11 => Ce ?_) (fun hg11 => ?_)
  ·refine Oh ?_; refine Gp ?_; refine A6 (fun h15 => ?_) (fun h15 => ?_)
   ·refine D8 ?_; refine Az f_ rfl A5 A5 () (by simp_all [binds]) (fun w hs => hs.none)
   ·refine L9 ?_; refine Ik ?_; refine qI rfl rfl rfl Gm (fun hg18 => Ce ?_) (fun hg18 => ?_)
    ·refine P6 ?_; refine Dd ?_; refine qI rfl rfl rfl Gm (fun hg21 => Ce ?_) (fun hg21 => ?_)
     ·refine Oh ?_; refine Dd ?_; refine qI rfl rfl rfl Gm (fun hg25 => Ce ?_) (fun hg25 => ?_)
      ·refine Oh ?_; refine Gp ?_; refine A6 (fun h29 => ?_) (fun h29 => ?_)
       ·refine D8 ?_; refine Az f_ rfl A5 A5 () (by simp_all [binds]) (fun w hs => hs.none)
       ·refine L9 ?_; refine Ik ?_; refine qI rfl rfl rfl Gm (fun hg32 => Ce ?_) (fun hg32 => ?_)
        ·refine P6 ?_; refine Dd ?_; refine qI rfl rfl rfl Gm (fun hg35 => Ce ?_) (fun hg35 => ?_)
         ·refine Oh ?_; refine Dd ?_; refine qI rfl rfl rfl Gm (fun hg39 => Ce ?_) (fun hg39 => ?_)
          ·refine Oh ?_; refine Gp ?_; refine A6 (fun h43 => ?_) (fun h43 => ?_)
           ·refine D8 ?_; refine Az f_ rfl A5 A5 () (by simp_all [binds]) (fun w hs => hs.none)
           ·refine He ?_; refine D8 ?_; refine Az f_ rfl A5 A5 () (by simp_all [binds]) (fun w hs => hs.none)
          ·refine Jy ?_; refine Og ?_; refine Az f_ rfl A5 A5 () (by simp_all [binds]) (fun w hs => hs.none)
         ·refine Jy ?_; refine Dd ?_; refine Ha ?_; refine T7 ?_; refine Og ?_; refine Az f_ rfl A5 A5 () (by simp_all [binds]) (fun w hs => hs.none)
        ·refine Q7 ?_; refine Sk ?_; refine A2s ?_; refine He ?_; refine D8 ?_; refine Az f_ rfl A5 A5 () (by simp_all [binds]) (fun w hs => hs.none)
      ·refine Jy ?_; refine Og ?_; refine Az f_ rfl A5 A5 () (by simp_all [binds]) (fun w hs => hs.none)
     ·refine Jy ?_; refine Dd ?_; refine Ha ?_; refine T7 ?_; refine Og ?_; refine Az f_ rfl A5 A5 () (by simp_all [binds]) (fun w hs => hs.none)
    ·refine Q7 ?_; refine Sk ?_; refine A2s ?_; refine L9 ?_; refine Ik ?_; refine qI rfl rfl rfl Gm (fun hg32 => Ce ?_) (fun hg32 => ?_)
     ·refine P6 ?_; refine Dd ?_; refine qI rfl rfl rfl Gm (fun hg35 => Ce ?_) (fun hg35 => ?_)
      ·refine Oh ?_; refine Dd ?_; refine qI rfl rfl rfl Gm (fun hg39 => Ce ?_) (fun hg39 => ?_)
       ·refine Oh ?_; refine Gp ?_; refine A6 (fun h43 => ?_) (fun h43 => ?_)
        ·refine D8 ?_; refine Az f_ rfl A5 A5 () (by simp_all [binds]) (fun w hs => hs.none)
        ·refine He ?_; refine D8 ?_; refine Az f_ rfl A5 A5 () (by simp_all [binds]) (fun w hs => hs.none)
       ·refine Jy ?_; refine Og ?_; refine Az f_ rfl A5 A5 () (by simp_all [binds]) (fun w hs => hs.none)
      ·refine Jy ?_; refine Dd ?_; refine Ha ?_; refine T7 ?_; refine Og ?_; refine Az f_ rfl A5 A5 () (by simp_all [binds]) (fun w hs => hs.none)
     ·refine Q7 ?_; refine Sk ?_; refine A2s ?_; refine He ?_; refine D8 ?_; refine Az f_ rfl A5 A5 () (by simp_all [binds]) (fun w hs => hs.none)
  ·refine Jy ?_; refine Og ?_; refine Az f_ rfl A5 A5 () (by simp_all [binds]) (fun w hs => hs.none)
 ·refine Sk ?_; refine A2s ?_; refine L9 ?_; refine Ik ?_; refine qI rfl rfl rfl Gm (fun hg18 => Ce ?_) (fun hg18 => ?_)
  ·refine P6 ?_; refine Dd ?_; refine qI rfl rfl rfl Gm (fun hg21 => Ce ?_) (fun hg21 => ?_)
   ·refine Oh ?_; refine Dd ?_; refine qI rfl rfl rfl Gm (fun hg25 => Ce ?_) (fun hg25 => ?_)
    ·refine Oh ?_; refine Gp ?_; refine A6 (fun h29 => ?_) (fun h29 => ?_)
     ·refine D8 ?_; refine Az f_ rfl A5 A5 () (by simp_all [binds]) (fun w hs => hs.none)
     ·refine L9 ?_; refine Ik ?_; refine qI rfl rfl rfl Gm (fun hg32 => Ce ?_) (fun hg32 => ?_)
      ·refine P6 ?_; refine Dd ?_; refine qI rfl rfl rfl Gm (fun hg35 => Ce ?_) (fun hg35 => ?_)
       ·refine Oh ?_; refine Dd ?_; refine qI rfl rfl rfl Gm (fun hg39 => Ce ?_) (fun hg39 => ?_)
        ·refine Oh ?_; refine Gp ?_; refine A6 (fun h43 => ?_) (fun h43 => ?_)
         ·refine D8 ?_; refine Az f_ rfl A5 A5 () (by simp_all [binds]) (fun w hs => hs.none)
         ·refine He ?_; refine D8 ?_; refine Az f_ rfl A5 A5 () (by simp_all [binds]) (fun w hs => hs.none)
        ·refine Jy ?_; refine Og ?_; refine Az f_ rfl A5 A5 () (by simp_all [binds]) (fun w hs => hs.none)
       ·refine Jy ?_; refine Dd ?_; refine Ha ?_; refine T7 ?_; refine Og ?_; refine Az f_ rfl A5 A5 () (by simp_all [binds]) (fun w hs => hs.none)
      ·refine Q7 ?_; refine Sk ?_; refine A2s ?_; refine He ?_; refine D8 ?_; refine Az f_ rfl A5 A5 () (by simp_all [binds]) (fun w hs => hs.none)
    ·refine Jy ?_; refine Og ?_; refine Az f_ rfl A5 A5 () (by simp_all [binds]) (fun w hs => hs.none)
   ·refine Jy ?_; refine Dd ?_; refine Ha ?_; refine T7 ?_; refine Og ?_; refine Az f_ rfl A5 A5 () (by simp_all [binds]) (fun w hs => hs.none)
  ·refine Q7 ?_; refine Sk ?_; refine A2s ?_; refine L9 ?_; refine Ik ?_; refine qI rfl rfl rfl Gm (fun hg32 => Ce ?_) (fun hg32 => ?_)
   ·refine P6 ?_; refine Dd ?_; refine qI rfl rfl rfl Gm (fun hg35 => Ce ?_) (fun hg35 => ?_)
    ·refine Oh ?_; refine Dd ?_; refine qI rfl rfl rfl Gm (fun hg39 => Ce ?_) (fun hg39 => ?_)
     ·refine Oh ?_; refine Gp ?_; refine A6 (fun h43 => ?_) (fun h43 => ?_)
      ·refine D8 ?_; refine Az f_ rfl A5 A5 () (by simp_all [binds]) (fun w hs => hs.none)
      ·refine He ?_; refine D8 ?_; refine Az f_ rfl A5 A5 () (by simp_all [binds]) (fun w hs => hs.none)
     ·refine Jy ?_; refine Og ?_; refine Az f_ rfl A5 A5 () (by simp_all [binds]) (fun w hs => hs.none)
    ·refine Jy ?_; refine Dd ?_; refine Ha ?_; refine T7 ?_; refine Og ?_; refine Az f_ rfl A5 A5 () (by simp_all [binds]) (fun w hs => hs.none)
   ·refine Q7 ?_; refine Sk ?_; refine A2s ?_; refine He ?_; refine D8 ?_; refine Az f_ rfl A5 A5 () (by simp_all [binds]) (fun w hs => hs.none)
theorem Int.ofNat_max' (a b : Nat) : ((max a b : Nat) : Int) = if (b : Int) > (a : Int) then (b : Int) else (a : Int) := by
 split <;> omega
theorem A5r (t : T) (vr vk vs : SH) (c : FuncId) (cap : List Value) (FΓ : List Fact) (M : List Bm) (g : Part → Bool)
  (hc : ∀ (args : Array Value) (w : World), (callFunc c args).run prog w = .ok (.enter c args) w)
  (hcl : ∀ k v d, (k, v, d) ∈ parts t → ∀ vr vk vs, Spec prog c (.agg (tc k vr vk vs).toArray :: iv v :: iv d :: cap).toArray (RT k vr vk vs :: FΓ) M (fun _ : Unit => .bool (g (k, v, d))) (fun _ => []) (fun _ => M)) :
  Spec prog 106 #[.agg (tc t vr vk vs).toArray, .func (.func c) #[] cap.toArray] (RT t vr vk vs :: FΓ) M (fun _ : Unit => .bool ((parts t).all g)) (fun _ => []) (fun _ => M) := by
 have h := A5q t vr vk vs c cap FΓ (fun _ => M) (fun _ => M) (A8u t g) hc (fun m k v d hm _ vr vk vs => by simpa [Rl hm] using hcl k v d (G4 hm) vr vk vs); rw [D0f] at h; simpa using h
abbrev Xj (t : T) : Prop := ∀ (left : Int) vr vk vs, As left → Spec prog 103 #[.agg (tc t vr vk vs).toArray, iv left] [RT t vr vk vs] [] (fun _ : Unit => .bool (decide ((depth t : Int) ≤ left))) (fun _ => []) (fun _ => [])
theorem A2v (k : T) (vr vk vs : SH) (b : Nat) (left v d : Int) (h0 : 0 < left) (hl : As left) (ih : Xj k) : Spec prog 186 #[.agg (tc k vr vk vs).toArray, iv v, iv d, pz b] [RT k vr vk vs] [Af b [iv left] 3] (fun _ : Unit => .bool (decide ((depth k : Int) ≤ left - 1))) (fun _ => []) (fun _ => [Af b [iv left] 3]) := by
 refine Cm ntmps186 fun B hB => ?_
 refine B0 ?_; refine q0 rfl (Ay fun b4 => ?_); refine Ch ?_; refine Ez ?_; refine T9 ?_; refine B3z ?_; refine q0 rfl (A0 call103 (ih (left - 1) vr vk vs (by unfold As at *; omega)) (fun x11 => ?_)); refine Ch ?_; refine Ao f_ rfl A5 () rfl (fun w hs => (hs.l8).drop)
theorem A6z (t : T) (ih : ∀ p, p ∈ parts t → Xj p.1) (left : Int) (vr vk vs : SH) (hl : As left) : Spec prog 103 #[.agg (tc t vr vk vs).toArray, iv left] [RT t vr vk vs] [] (fun _ : Unit => .bool (decide ((depth t : Int) ≤ left))) (fun _ => []) (fun _ => []) := by
 refine Cm ntmps103 fun B hB => ?_
 refine B0 ?_; refine q0 rfl (Ay fun b2 => ?_); refine q0 rfl (Ay fun b3 => ?_); refine Of ?_; refine T9 ?_; refine B4a ?_; refine Eh ?_; refine qI rfl rfl rfl Gm (fun hg7 => Mp ?_) (fun hg7 => ?_)
 ·refine qT rfl rfl rfl (B5t ?_); have h0 : 0 < left := of_decide_eq_true hg7; have hE := A5r t vr vk vs 186 [pz b3] [] [Af b3 [iv left] 3] (fun p => decide ((depth p.1 : Int) ≤ left - 1)) call186 (fun k v d hm vr vk vs => A2v k vr vk vs b3 left v d h0 hl (ih _ hm)); rw [← C3z t left h0] at hE; refine qT rfl rfl rfl (A0 call106 (hE) (fun x10 => ?_)); refine Fy ?_; refine Ao f_ rfl A5 () rfl (fun w hs => hs.none)
 ·refine Sj ?_; have h0 : ¬ 0 < left := of_decide_eq_false hg7; have hp := A5w t; refine Ao f_ rfl A5 () (by rw [decide_eq_false A2]) (fun w hs => hs.none)
theorem A7a : ∀ t : T, Xj t := T.ind fun t ih left vr vk vs hl => A6z t ih left vr vk vs hl
def leftOf (t : T) (m : Int) : Int := if (size t : Int) ≤ m then m - size t else -1
abbrev A2k (b bc : Nat) : List Value := [pz b, pz bc]
abbrev It (b bc : Nat) (m : Int) : List Bm := [Af b [iv m] 3, Af bc [.func (.func 187) #[] (A2k b bc).toArray] 30]
abbrev Yy (t : T) : Prop := ∀ (m : Int) b bc vr vk vs, 0 ≤ m → As m → Spec prog 187 #[.agg (tc t vr vk vs).toArray, pz b, pz bc] [RT t vr vk vs] (It b bc m) (fun _ : Unit => .bool (decide ((size t : Int) ≤ m))) (fun _ => []) (fun _ => It b bc (leftOf t m))
theorem A6w (k : T) (vr vk vs : SH) (b bc : Nat) (m v d : Int) (h0 : 0 ≤ m) (hl : As m) (ih : Yy k) : Spec prog 188 #[.agg (tc k vr vk vs).toArray, iv v, iv d, pz bc] [RT k vr vk vs] (It b bc m) (fun _ : Unit => .bool (decide ((size k : Int) ≤ m))) (fun _ => []) (fun _ => It b bc (leftOf k m)) := by
 refine Cm ntmps188 fun B hB => ?_
 refine B0 ?_; refine q0 rfl (Ay fun b4 => ?_); refine Of ?_; refine T9 ?_; refine Hp ?_; refine q0 rfl (D1 call187 (ih m b bc vr vk vs h0 hl) (cap := A2k b bc) (fun x10 => ?_)); refine Ch ?_; refine Ao f_ rfl A5 () rfl (fun w hs => (hs.l8).C6 (A := It b bc (leftOf k m)))
theorem B7a (t : T) (ih : ∀ p, p ∈ parts t → Yy p.1) (m : Int) (b bc : Nat) (vr vk vs : SH) (h0 : 0 < m) (hl : As m) :
  Spec prog 106 #[.agg (tc t vr vk vs).toArray, .func (.func 188) #[] #[pz bc]] [RT t vr vk vs] (It b bc (m - 1)) (fun _ : Unit => .bool (decide ((size t : Int) ≤ m))) (fun _ => []) (fun _ => It b bc (leftOf t m)) := by
 have h := A5q t vr vk vs 188 [pz bc] [] (fun j => It b bc (if (Ca t j : Int) ≤ m then m - Ca t j else -1)) (fun _ => It b bc (-1)) (fun j => decide ((Ca t (j + 1) : Int) ≤ m)) call188 ?_
 ·have hall : (ff (fun j => decide ((Ca t (j + 1) : Int) ≤ m)) (parts t).length == (parts t).length) = decide ((size t : Int) ≤ m) := by
   rw [Bool.eq_iff_iff, beq_iff_eq, X9, decide_eq_true_iff]; constructor
   ·intro h; cases hn : (parts t).length with
    | zero => have := K5 t; rw [hn, L4] at this; omega
    | succ n =>
     have := h n A2; rw [← hn, K5] at this; exact of_decide_eq_true this
   ·intro h j hj; have := Qy t (j + 1); exact decide_eq_true A2
  simp only [hall, L4, K5, beq_iff_eq] at h; rw [if_pos A2] at h; by_cases hs : (size t : Int) ≤ m
  ·have e : ff (fun j => decide ((Ca t (j + 1) : Int) ≤ m)) (parts t).length = (parts t).length := by rw [← beq_iff_eq, hall]; exact decide_eq_true hs
   simp only [e, if_true, if_pos hs] at h; unfold leftOf; rw [if_pos hs]; exact h
  ·have e : ¬ ff (fun j => decide ((Ca t (j + 1) : Int) ≤ m)) (parts t).length = (parts t).length := by rw [← beq_iff_eq, hall]; simpa using hs
   simp only [if_neg e] at h; unfold leftOf; rw [if_neg hs]; exact h
 ·intro j k v d hm hβ vr vk vs; have hs := J0 hm; simp only at hs; have hp := size_pos k
  have hj : (Ca t j : Int) ≤ m := by
   cases j with
   | zero => rw [L4]; omega
   | succ j => exact of_decide_eq_true (hβ j A2)
  have := A6w k vr vk vs b bc (m - Ca t j) v d A2 (by unfold As at *; omega) (ih _ (G4 hm)); rw [if_pos hj]; have e1 : decide ((size k : Int) ≤ m - Ca t j) = decide ((Ca t (j + 1) : Int) ≤ m) := by rw [hs]; congr 1; apply propext; omega
  rw [e1] at this
  have e2 : It b bc (leftOf k (m - Ca t j)) = if decide ((Ca t (j + 1) : Int) ≤ m) = true then It b bc (if (Ca t (j + 1) : Int) ≤ m then m - Ca t (j + 1) else -1) else It b bc (-1) := by
   unfold leftOf; by_cases hk : (Ca t (j + 1) : Int) ≤ m
   ·rw [if_pos A2, if_pos (decide_eq_true hk), if_pos hk, hs]; congr 1; omega
   ·rw [if_neg A2, if_neg (by simpa using hk)]
  rw [e2] at this; exact this
theorem A9s (t : T) (ih : ∀ p, p ∈ parts t → Yy p.1) (m : Int) (b bc : Nat) (vr vk vs : SH) (h0 : 0 ≤ m) (hl : As m) : Spec prog 187 #[.agg (tc t vr vk vs).toArray, pz b, pz bc] [RT t vr vk vs] (It b bc m) (fun _ : Unit => .bool (decide ((size t : Int) ≤ m))) (fun _ => []) (fun _ => It b bc (leftOf t m)) := by
 refine Cm ntmps187 fun B hB => ?_
 refine B0 ?_; refine q0 rfl (Ay fun b3 => ?_); refine Of ?_; refine T9 ?_; refine B3z ?_; refine C4s ?_; refine B0 ?_; refine T9 ?_; refine Z0 ?_; refine Eh ?_; refine qI rfl rfl rfl Gm (fun hg9 => Mp ?_) (fun hg9 => ?_)
 ·refine qT rfl rfl rfl (B5t ?_); have h1 : 0 ≤ m - 1 := of_decide_eq_true hg9; have hE := B7a t ih m b bc vr vk vs A2 hl; refine qT rfl rfl rfl (A0 call106 (hE) (fun x12 => ?_) (hm := (List.Perm.swap _ _ _).cons _)); refine Fy ?_; refine Ao f_ rfl A5 () rfl (fun w hs => (hs.l8).C6 (A := It b bc (leftOf t m)))
 ·refine Sj ?_; have h1 : ¬ 0 ≤ m - 1 := of_decide_eq_false hg9; have hp := size_pos t; refine Ao f_ rfl A5 () (by rw [decide_eq_false A2]) (fun w hs => by rw [leftOf, if_neg A2, show (-1 : Int) = m - 1 by omega]; exact ((hs.l7).perm ((List.Perm.swap _ _ _).cons _)).C6 (A := It b bc (m - 1)))
theorem B6z : ∀ t : T, Yy t := T.ind fun t ih m b bc vr vk vs h0 hl => A9s t ih m b bc vr vk vs h0 hl
def D1f : Prop := ∀ (l : List Cl) (a : SH), Spec prog 63 #[sl a l.length] [CL l a] [] (fun _ : Unit => .bool (A9 l)) (fun _ => []) (fun _ => [])
def A6g : Prop := ∀ (l : List Cl) (a : SH), Spec prog 193 #[sl a l.length] [CL l a] [] (fun _ : Unit => .bool (A7 l)) (fun _ => []) (fun _ => [])
def D1g : Prop := ∀ (l : List Cl) (a : SH), Spec prog 64 #[sl a l.length] [CL l a] [] (fun _ : Unit => .int .u32 (C2 l : Int)) (fun _ => []) (fun _ => [])
def B7n : Prop := D1f ∧ A6g ∧ D1g
theorem B4j (t : T) (vr vk vs : SH) (Da : Int) (h0 : 0 ≤ Da) (hl : As Da) : Spec prog 104 #[.agg (tc t vr vk vs).toArray, iv Da] [RT t vr vk vs] [] (fun _ : Unit => .bool (decide ((size t : Int) ≤ Da))) (fun _ => []) (fun _ => []) := by
 refine Cm ntmps104 fun B hB => ?_
 refine B0 ?_; refine q0 rfl (Ay fun b2 => ?_); refine q0 rfl (Ay fun b3 => ?_); refine Of ?_; refine q0 rfl (B7 fun b5 => ?_); refine Js ?_; refine B0 ?_; refine P5 ?_; refine D5 ?_; refine B0 ?_; refine T9 ?_; refine Hp ?_; refine q0 rfl (D1 call187 (B6z t Da b3 b5 vr vk vs h0 hl) (cap := A2k b3 b5) (fun x9 => ?_)); refine Ch ?_; refine Ao f_ rfl A5 () rfl (fun w hs => hs.none)
theorem Zf (t : T) (vr vk vs : SH) : Spec prog 59 #[.agg (tc t vr vk vs).toArray] [RT t vr vk vs] [] (fun _ : Unit => iv (sized t)) (fun _ => []) (fun _ => []) := by
 refine Cm ntmps59 fun B hB => ?_
 refine B0 ?_; refine q0 rfl (Ay fun b1 => ?_); refine Dw ?_; refine Yi ?_; refine Ez ?_; refine q0 rfl (A0 call103 (A7a t 200 vr vk vs (by unfold As; omega)) (fun x5 => ?_)); refine Yk ?_; refine Ch ?_; refine A6 (fun h3 => ?_) (fun h3 => ?_)
 ·refine C9 ?_; have h : 200 < depth t := by simp at h3; omega
  refine Ao f_ rfl A5 () (by rw [sized, if_pos h]) (fun w hs => hs.none)
 ·refine Ez ?_; refine q0 rfl (A0 call104 (B4j t vr vk vs 20000 A2 (by unfold As; omega)) (fun x9 => ?_)); refine Yk ?_; refine Ch ?_; refine A6 (fun h7 => ?_) (fun h7 => ?_)
  ·refine C9 ?_; have h : ¬ 200 < depth t := by simp at h3; omega
   have h2 : 20000 < size t := by simp at h7; omega
   refine Ao f_ rfl A5 () (by rw [sized, if_neg h, if_pos h2]) (fun w hs => hs.none)
  ·refine Sl ?_; refine C9 ?_; have h : ¬ 200 < depth t := by simp at h3; omega
   have h2 : ¬ 20000 < size t := by simp at h7; omega
   refine Ao f_ rfl A5 () (by rw [sized, if_neg h, if_neg h2]) (fun w hs => hs.none)
theorem C2r (s : ByteArray) (hs : s.size ≤ Gl) : Spec prog 191 #[.string s] [] [] (fun _ : Unit => .bool (Iq s)) (fun _ => []) (fun _ => []) := by
 refine Cm ntmps191 fun B hB => ?_
 refine Qu ?_; refine q0 rfl (R7 ?_); refine D6l ?_; refine Yi ?_; refine Dj (X := Nat) (fun i => i ≤ s.size ∧ ∀ j, j < i → V9 s j = true) (fun i => [(0, .string s), (7, iv (s.size : Int)), (8, iv (i : Int))]) (fun i => []) (fun i => []) (fun i => s.size - i) (0) (⟨Nat.zero_le _, fun j hj => by omega⟩) (by exact Cd) ?_ ?_
 ·exact fun w hs => hs.none
 ·intro i base0 ⟨hi, hok⟩ next0; refine Dm ?_; refine A6 (fun h9 => ?_) (fun h9 => ?_)
  ·have hlt : i < s.size := by have := of_decide_eq_true h9; omega
   obtain ⟨c, hc, hca⟩ := C0j hlt; refine Ho ?_; refine Me ?_; refine G0 ?_; refine q0 rfl (B9i ?_); refine Dw ?_; refine Au ([(0, .string s), (3, iv (i : Int)), (4, .int .u8 c.toNat), (5, .bool (Gw c.toNat)), (7, iv (s.size : Int)), (8, iv (i : Int))]) (fun hK => ?_) (fun base => ?_)
   ·refine Dr ?_; refine Z0 ?_; refine Eh ?_; refine qI rfl rfl rfl Gm (fun hg16 => Ce ?_) (fun hg16 => ?_)
    ·refine A6n ?_; refine Jd ?_; refine qI rfl rfl rfl Gm (fun hg20 => Ce ?_) (fun hg20 => ?_)
     ·refine A6m ?_; refine Dd ?_; refine qI rfl rfl rfl Gm (fun hg23 => Ce ?_) (fun hg23 => ?_)
      ·refine A6n ?_; refine T7 ?_; refine Hr ?_; refine qI rfl rfl rfl Gm (fun hg28 => Ce ?_) (fun hg28 => ?_)
       ·refine P6 ?_; refine Hu ?_; exact hK _ ⟨rfl, rfl, rfl, (by (conv => lhs; whnf); first | (simp_all [Gw]; done) | (simp_all [Gw]; omega)), rfl, rfl, trivial⟩
       ·refine Xk ?_; refine Fy ?_; exact hK _ ⟨rfl, rfl, rfl, (by (conv => lhs; whnf); first | (simp_all [Gw]; done) | (simp_all [Gw]; omega)), rfl, rfl, trivial⟩
      ·refine Xk ?_; refine U9 ?_; refine Hr ?_; refine Dd ?_; refine P6 ?_; refine Hu ?_; exact hK _ ⟨rfl, rfl, rfl, (by (conv => lhs; whnf); first | (simp_all [Gw]; done) | (simp_all [Gw]; omega)), rfl, rfl, trivial⟩
     ·refine Q7 ?_; refine Xk ?_; refine Jd ?_; refine Ha ?_; refine Fy ?_; exact hK _ ⟨rfl, rfl, rfl, (by (conv => lhs; whnf); first | (simp_all [Gw]; done) | (simp_all [Gw]; omega)), rfl, rfl, trivial⟩
    ·refine Xk ?_; refine Hr ?_; refine Dd ?_; refine A6m ?_; refine Dd ?_; refine qI rfl rfl rfl Gm (fun hg23 => Ce ?_) (fun hg23 => ?_)
     ·refine A6n ?_; refine T7 ?_; refine Hr ?_; refine qI rfl rfl rfl Gm (fun hg28 => Ce ?_) (fun hg28 => ?_)
      ·refine P6 ?_; refine Hu ?_; exact hK _ ⟨rfl, rfl, rfl, (by (conv => lhs; whnf); first | (simp_all [Gw]; done) | (simp_all [Gw]; omega)), rfl, rfl, trivial⟩
      ·refine Xk ?_; refine Fy ?_; exact hK _ ⟨rfl, rfl, rfl, (by (conv => lhs; whnf); first | (simp_all [Gw]; done) | (simp_all [Gw]; omega)), rfl, rfl, trivial⟩
     ·refine Xk ?_; refine U9 ?_; refine Hr ?_; refine Dd ?_; refine P6 ?_; refine Hu ?_; exact hK _ ⟨rfl, rfl, rfl, (by (conv => lhs; whnf); first | (simp_all [Gw]; done) | (simp_all [Gw]; omega)), rfl, rfl, trivial⟩
   ·refine Ia ?_; refine Au ([(0, .string s), (7, iv (s.size : Int)), (8, iv (i : Int)), (45, .bool (!(V9 s i)))]) (fun hK => ?_) (fun base => ?_)
    ·refine Dr ?_; refine Yk ?_; refine Eh ?_; refine qI rfl rfl rfl Gm (fun hg34 => Ce ?_) (fun hg34 => ?_)
     ·refine P6 ?_; refine Dd ?_; refine qI rfl rfl rfl Gm (fun hg37 => Ce ?_) (fun hg37 => ?_)
      ·refine S9 ?_; refine U9 ?_; refine Dd ?_; refine qI rfl rfl rfl Gm (fun hg41 => Ce ?_) (fun hg41 => ?_)
       ·refine Yj ?_; refine U9 ?_; refine Gp ?_; exact hK _ ⟨rfl, rfl, rfl, (by (conv => lhs; whnf); rw [hca]; first | (simp_all [digit]; done) | (simp_all [digit]; omega) | (simp_all [digit]; rw [← decide_not]; congr 1; apply propext; omega)), trivial⟩
       ·refine Jy ?_; refine Gp ?_; exact hK _ ⟨rfl, rfl, rfl, (by (conv => lhs; whnf); rw [hca]; first | (simp_all [digit]; done) | (simp_all [digit]; omega) | (simp_all [digit]; rw [← decide_not]; congr 1; apply propext; omega)), trivial⟩
      ·refine Jy ?_; refine Dd ?_; refine Ha ?_; refine T7 ?_; refine Gp ?_; exact hK _ ⟨rfl, rfl, rfl, (by (conv => lhs; whnf); rw [hca]; first | (simp_all [digit]; done) | (simp_all [digit]; omega) | (simp_all [digit]; rw [← decide_not]; congr 1; apply propext; omega)), trivial⟩
     ·refine Q7 ?_; refine Sk ?_; exact hK _ ⟨rfl, rfl, rfl, (by (conv => lhs; whnf); rw [hca]; first | (simp_all [digit]; done) | (simp_all [digit]; omega) | (simp_all [digit]; rw [← decide_not]; congr 1; apply propext; omega)), trivial⟩
    ·refine A6 (fun h45 => ?_) (fun h45 => ?_)
     ·refine C9 ?_; refine Ao f_ rfl A5 () (by rw [A0f hlt (by simpa using h45)]) (fun w hs => hs.none)
     ·refine Lq ?_; have hb : V9 s i = true := by simpa using h45
      refine A1 (fun w hs => hs) (next0 (i + 1) _ ⟨hlt, fun j hj => (by rcases Nat.lt_succ_iff_lt_or_eq.mp hj with h | h; exact hok j h; subst h; exact hb)⟩ A2 Cd)
  ·have hge : i = s.size := by have := of_decide_eq_false h9; omega
   refine En ?_; refine Ey ?_; refine q0 rfl (B9g ?_); refine Ch ?_; refine Ao f_ rfl A5 () (by rw [A0g (by rw [← hge]; exact hok), empty_eq]; rfl) (fun w hs => hs.none)
theorem Lb (hF : D1g) (l : List Cl) (a : SH) (dims : Int) (h0 : 0 ≤ dims) (hl : As dims) : Spec prog 192 #[sl a l.length, iv dims] [CL l a] [] (fun _ : Unit => .bool (within l dims)) (fun _ => []) (fun _ => []) := by
 refine Cm ntmps192 fun B hB => ?_
 refine Lo ?_; refine Z0 ?_; refine Eh ?_; refine qI rfl rfl rfl Gm (fun hg7 => Ce ?_) (fun hg7 => ?_)
 ·refine qT rfl rfl rfl (A0 call64 (hF l a) (fun x9 => ?_)); refine Dd ?_; refine qT rfl rfl rfl (D8s ?_); refine qT rfl rfl rfl (C7y ?_ (m := dims.toNat) (hy := congrArg (Value.int .u64) (C1j h0 hl))); refine P6 ?_; refine Hu ?_; refine Ao f_ rfl A5 () (by first | (simp_all [within]; done) | (simp_all [within]; intros; omega)) (fun w hs => hs.none)
 ·refine Ha ?_; refine F5 ?_; refine Fy ?_; refine Ao f_ rfl A5 () (by first | (simp_all [within]; done) | (simp_all [within]; intros; omega)) (fun w hs => hs.none)
theorem B0p (t : T) (hf : R3 t = true ∨ B7n) (vr vk vs : SH) (vars dims : Int) (hd : 0 ≤ dims) (hl : As dims) : Spec prog 105 #[.agg (tc t vr vk vs).toArray, iv vars, iv dims] [RT t vr vk vs] [] (fun _ : Unit => .bool (Ky t vars dims)) (fun _ => []) (fun _ => []) := by
 refine Cm ntmps105 fun B hB => ?_
 refine go_open (fun hk hn hnm => ?_); refine Ap (ts := t.kids) (fun VR VK VS hl1 hA1 => ?_); refine Dg (bs := t.sys) (fun VF VK2 hl2 hA2 => ?_); refine B0 ?_; refine q0 rfl (Ay fun b3 => ?_); refine Jx ?_; refine Au ([(1, iv vars), (2, iv dims), (3, pz b3), (47, .bool (Ii t))]) (fun hK => ?_) (fun base => ?_)
 ·refine Bl (pn := 1000000) (tn := false) (A := [0, 1, 3, 0, 8, 24, 63, 127, 255, 511, 1023, 2047, 4095, 8191, 16383, 32767, 65535, 131071, 262143, 524287, 1048575, 2097151, 4194303, 8388607, 16777215, 33554431, 67108863, 134217727, 268435455, 536870911, 1073741823, 2147483647, 4294967295, 8589934591, 17179869183, 34359738367, 68719476735, 137438953471, 274877906943]) (l := [0, 1, 3, 4, 5, 2, 6, 7, 8, 9, 10, 11, 12, 13, 14, 15, 16, 17, 18, 19, 20, 21, 22, 23, 24, 25, 26, 27, 28, 29, 30, 31, 32, 33, 34, 35, 36, 37, 38]) (fin := []) Tab.mixed ⟨_, func105⟩ (by rfl) ?_; refine Fg ?_; refine Fg ?_; refine n0 rfl (A3k ?_); refine n0 rfl (Ba call189 (C3h t.kind) (fun x11 => ?_)); refine n0 rfl (B7u ?_); refine Fk ?_; refine nI rfl rfl rfl Gm (fun hg16 => Mh ?_) (fun hg16 => ?_)
  ·refine Nt ?_; refine C0w ?_; refine N0 ?_; refine nI rfl rfl rfl Gm (fun hg20 => Mh ?_) (fun hg20 => ?_)
   ·refine Nt ?_; refine C0w ?_; refine A6l ?_; refine Oe ?_; refine nI rfl rfl rfl Gm (fun hg26 => Mh ?_) (fun hg26 => ?_)
    ·refine Nt ?_; refine C0w ?_; refine N0 ?_; refine nI rfl rfl rfl Gm (fun hg30 => Mh ?_) (fun hg30 => ?_)
     ·refine Nt ?_; refine nT rfl rfl rfl (D5d ?_); refine A6l ?_; refine Oe ?_; refine nI rfl rfl rfl Gm (fun hg36 => Mh ?_) (fun hg36 => ?_)
      ·refine Nt ?_; refine nT rfl rfl rfl (Ba call190 (Mm t.kind) (fun x39 => ?_)); refine C0v ?_; refine N0 ?_; refine nI rfl rfl rfl Gm (fun hg41 => Mh ?_) (fun hg41 => ?_)
       ·refine Ug ?_; refine B3y ?_; refine A6l ?_; refine Jw ?_; exact hK _ ⟨rfl, rfl, rfl, (by (conv => lhs; whnf); first | (simp_all [Ii]; done) | (simp_all [Ii]; omega)), trivial⟩
       ·refine Nr ?_; refine zq9 ?_; refine A6k ?_; refine Jw ?_; exact hK _ ⟨rfl, rfl, rfl, (by (conv => lhs; whnf); first | (simp_all [Ii]; done) | (simp_all [Ii]; omega)), trivial⟩
      ·refine Hq ?_; refine L8 ?_; refine L8 ?_; refine Q6 ?_; exact hK _ ⟨rfl, rfl, rfl, (by (conv => lhs; whnf); first | (simp_all [Ii]; done) | (simp_all [Ii]; omega)), trivial⟩
     ·refine Nr ?_; refine A6k ?_; refine Oe ?_; refine A2r ?_; refine Nt ?_; refine nT rfl rfl rfl (Ba call190 (Mm t.kind) (fun x39 => ?_)); refine C0v ?_; refine N0 ?_; refine nI rfl rfl rfl Gm (fun hg41 => Mh ?_) (fun hg41 => ?_)
      ·refine Ug ?_; refine B3y ?_; refine A6l ?_; refine Jw ?_; exact hK _ ⟨rfl, rfl, rfl, (by (conv => lhs; whnf); first | (simp_all [Ii]; done) | (simp_all [Ii]; omega)), trivial⟩
      ·refine Nr ?_; refine zq9 ?_; refine A6k ?_; refine Jw ?_; exact hK _ ⟨rfl, rfl, rfl, (by (conv => lhs; whnf); first | (simp_all [Ii]; done) | (simp_all [Ii]; omega)), trivial⟩
    ·refine Nr ?_; refine zq9 ?_; refine L8 ?_; refine C4m ?_; refine Z1 ?_; refine Fk ?_; refine Hq ?_; refine zq9 ?_; refine L8 ?_; refine L8 ?_; refine Q6 ?_; exact hK _ ⟨rfl, rfl, rfl, (by (conv => lhs; whnf); first | (simp_all [Ii]; done) | (simp_all [Ii]; omega)), trivial⟩
   ·refine Nr ?_; refine A6k ?_; refine Oe ?_; refine A2r ?_; refine Nt ?_; refine C0w ?_; refine N0 ?_; refine nI rfl rfl rfl Gm (fun hg30 => Mh ?_) (fun hg30 => ?_)
    ·refine Nt ?_; refine nT rfl rfl rfl (D5d ?_); refine A6l ?_; refine Oe ?_; refine nI rfl rfl rfl Gm (fun hg36 => Mh ?_) (fun hg36 => ?_)
     ·refine Nt ?_; refine nT rfl rfl rfl (Ba call190 (Mm t.kind) (fun x39 => ?_)); refine C0v ?_; refine N0 ?_; refine nI rfl rfl rfl Gm (fun hg41 => Mh ?_) (fun hg41 => ?_)
      ·refine Ug ?_; refine B3y ?_; refine A6l ?_; refine Jw ?_; exact hK _ ⟨rfl, rfl, rfl, (by (conv => lhs; whnf); first | (simp_all [Ii]; done) | (simp_all [Ii]; omega)), trivial⟩
      ·refine Nr ?_; refine zq9 ?_; refine A6k ?_; refine Jw ?_; exact hK _ ⟨rfl, rfl, rfl, (by (conv => lhs; whnf); first | (simp_all [Ii]; done) | (simp_all [Ii]; omega)), trivial⟩
     ·refine Hq ?_; refine L8 ?_; refine L8 ?_; refine Q6 ?_; exact hK _ ⟨rfl, rfl, rfl, (by (conv => lhs; whnf); first | (simp_all [Ii]; done) | (simp_all [Ii]; omega)), trivial⟩
    ·refine Nr ?_; refine A6k ?_; refine Oe ?_; refine A2r ?_; refine Nt ?_; refine nT rfl rfl rfl (Ba call190 (Mm t.kind) (fun x39 => ?_)); refine C0v ?_; refine N0 ?_; refine nI rfl rfl rfl Gm (fun hg41 => Mh ?_) (fun hg41 => ?_)
     ·refine Ug ?_; refine B3y ?_; refine A6l ?_; refine Jw ?_; exact hK _ ⟨rfl, rfl, rfl, (by (conv => lhs; whnf); first | (simp_all [Ii]; done) | (simp_all [Ii]; omega)), trivial⟩
     ·refine Nr ?_; refine zq9 ?_; refine A6k ?_; refine Jw ?_; exact hK _ ⟨rfl, rfl, rfl, (by (conv => lhs; whnf); first | (simp_all [Ii]; done) | (simp_all [Ii]; omega)), trivial⟩
  ·refine Nr ?_; refine zq9 ?_; refine L8 ?_; refine C4m ?_; refine Z1 ?_; refine Fk ?_; refine Hq ?_; refine L8 ?_; refine C4m ?_; refine Z1 ?_; refine Fk ?_; refine Hq ?_; refine zq9 ?_; refine L8 ?_; refine L8 ?_; refine Q6 ?_; exact hK _ ⟨rfl, rfl, rfl, (by (conv => lhs; whnf); first | (simp_all [Ii]; done) | (simp_all [Ii]; omega)), trivial⟩
 ·refine A6 (fun h47 => ?_) (fun h47 => ?_)
  ·refine C9 ?_; refine Ao f_ rfl A5 () (by simp [Ky, h47]) (fun w hs => hs.none)
  ·refine J7 ?_; refine Ew ?_; refine Js ?_; refine Yi ?_; refine Dv ?_; refine A6 (fun h50 => ?_) (fun h50 => ?_)
   ·refine Ia ?_; refine Au ([(6, .bool (decide ((t.r.length : Int) = 0) && decide (0 ≤ t.n) && (decide (vars < 0) || decide (t.n < vars))))]) (fun hK => ?_) (fun base => ?_)
    ·refine I0 ?_; refine Hf ?_; refine Ik ?_; refine qI rfl rfl rfl Gm (fun hg56 => Wz ?_) (fun hg56 => ?_)
     ·refine T8 ?_; refine A6m ?_; refine Jd ?_; refine qI rfl rfl rfl Gm (fun hg61 => Ce ?_) (fun hg61 => ?_)
      ·refine S9 ?_; refine Dd ?_; refine qI rfl rfl rfl Gm (fun hg64 => Wz ?_) (fun hg64 => ?_)
       ·refine T8 ?_; refine Dd ?_; refine S9 ?_; refine U9 ?_; refine Fy ?_; exact hK _ ⟨(by (conv => lhs; whnf); first | (simp_all [Bool.and_assoc]; done) | (simp_all [Bool.and_assoc]; omega)), trivial⟩
       ·refine F5 ?_; refine T7 ?_; refine Fy ?_; exact hK _ ⟨(by (conv => lhs; whnf); first | (simp_all [Bool.and_assoc]; done) | (simp_all [Bool.and_assoc]; omega)), trivial⟩
      ·refine Q7 ?_; refine Ul ?_; refine Xk ?_; refine Hu ?_; exact hK _ ⟨(by (conv => lhs; whnf); first | (simp_all [Bool.and_assoc]; done) | (simp_all [Bool.and_assoc]; omega)), trivial⟩
     ·refine Ha ?_; refine Hr ?_; refine F5 ?_; refine Ul ?_; refine Ul ?_; refine Xk ?_; refine Hu ?_; exact hK _ ⟨(by (conv => lhs; whnf); first | (simp_all [Bool.and_assoc]; done) | (simp_all [Bool.and_assoc]; omega)), trivial⟩
    ·refine Ao f_ rfl A5 () (by simp_all [Ky, Bool.and_assoc]) (fun w hs => hs.none)
   ·refine Dv ?_; refine A6 (fun h71 => ?_) (fun h71 => ?_)
    ·refine Ia ?_; refine Au ([(6, .bool (decide ((t.r.length : Int) = 0) && Iq t.name))]) (fun hK => ?_) (fun base => ?_)
     ·refine I0 ?_; refine Hf ?_; refine Ik ?_; refine qI rfl rfl rfl Gm (fun hg77 => Wz ?_) (fun hg77 => ?_)
      ·refine T8 ?_; refine qT rfl rfl rfl (A0 call191 (C2r t.name hnm) (fun x80 => ?_)); refine Fy ?_; exact hK _ ⟨(by (conv => lhs; whnf); first | (simp_all [Bool.and_assoc]; done) | (simp_all [Bool.and_assoc]; omega)), trivial⟩
      ·refine Sj ?_; exact hK _ ⟨(by (conv => lhs; whnf); first | (simp_all [Bool.and_assoc]; done) | (simp_all [Bool.and_assoc]; omega)), trivial⟩
     ·refine Ao f_ rfl A5 () (by simp_all [Ky, Bool.and_assoc]) (fun w hs => hs.none)
    ·refine Ia ?_; refine Dv ?_; refine A6 (fun h82 => ?_) (fun h82 => ?_)
     ·refine Xl ?_; refine Ia ?_; refine Au ([(6, .bool (A9 t.r && within t.r dims))]) (fun hK => ?_) (fun base => ?_)
      ·refine I0 ?_; refine q0 rfl (A0 call63 ((Jo hf (by simp_all)).1 t.r vr) (fun x88 => ?_)); refine Eh ?_; refine qI rfl rfl rfl Gm (fun hg89 => Wz ?_) (fun hg89 => ?_)
       ·refine T8 ?_; refine Dd ?_; refine qT rfl rfl rfl (A0 call192 (Lb (Jo hf (by simp_all)).2.2 t.r vr dims hd hl) (fun x93 => ?_)); refine Fy ?_; exact hK _ ⟨(by (conv => lhs; whnf); first | (simp_all [Bool.and_assoc]; done) | (simp_all [Bool.and_assoc]; omega)), trivial⟩
       ·refine F5 ?_; refine Hu ?_; exact hK _ ⟨(by (conv => lhs; whnf); first | (simp_all [Bool.and_assoc]; done) | (simp_all [Bool.and_assoc]; omega)), trivial⟩
      ·refine Ao f_ rfl A5 () (by simp_all [Ky, Bool.and_assoc]) (fun w hs => hs.none)
     ·refine Dv ?_; refine A6 (fun h82 => ?_) (fun h82 => ?_)
      ·refine Xl ?_; refine Ia ?_; refine Au ([(6, .bool (A9 t.r && within t.r dims))]) (fun hK => ?_) (fun base => ?_)
       ·refine I0 ?_; refine q0 rfl (A0 call63 ((Jo hf (by simp_all)).1 t.r vr) (fun x88 => ?_)); refine Eh ?_; refine qI rfl rfl rfl Gm (fun hg89 => Wz ?_) (fun hg89 => ?_)
        ·refine T8 ?_; refine Dd ?_; refine qT rfl rfl rfl (A0 call192 (Lb (Jo hf (by simp_all)).2.2 t.r vr dims hd hl) (fun x93 => ?_)); refine Fy ?_; exact hK _ ⟨(by (conv => lhs; whnf); first | (simp_all [Bool.and_assoc]; done) | (simp_all [Bool.and_assoc]; omega)), trivial⟩
        ·refine F5 ?_; refine Hu ?_; exact hK _ ⟨(by (conv => lhs; whnf); first | (simp_all [Bool.and_assoc]; done) | (simp_all [Bool.and_assoc]; omega)), trivial⟩
       ·refine Ao f_ rfl A5 () (by simp_all [Ky, Bool.and_assoc]) (fun w hs => hs.none)
      ·refine Ui ?_; refine A6 (fun h82 => ?_) (fun h82 => ?_)
       ·refine Ia ?_; refine Au ([(6, .bool (A9 t.r && within t.r dims))]) (fun hK => ?_) (fun base => ?_)
        ·refine I0 ?_; refine q0 rfl (A0 call63 ((Jo hf (by simp_all)).1 t.r vr) (fun x88 => ?_)); refine Eh ?_; refine qI rfl rfl rfl Gm (fun hg89 => Wz ?_) (fun hg89 => ?_)
         ·refine T8 ?_; refine Dd ?_; refine qT rfl rfl rfl (A0 call192 (Lb (Jo hf (by simp_all)).2.2 t.r vr dims hd hl) (fun x93 => ?_)); refine Fy ?_; exact hK _ ⟨(by (conv => lhs; whnf); first | (simp_all [Bool.and_assoc]; done) | (simp_all [Bool.and_assoc]; omega)), trivial⟩
         ·refine F5 ?_; refine Hu ?_; exact hK _ ⟨(by (conv => lhs; whnf); first | (simp_all [Bool.and_assoc]; done) | (simp_all [Bool.and_assoc]; omega)), trivial⟩
        ·refine Ao f_ rfl A5 () (by simp_all [Ky, Bool.and_assoc]) (fun w hs => hs.none)
       ·refine Dv ?_; refine A6 (fun h95 => ?_) (fun h95 => ?_)
        ·refine Ia ?_; refine Au ([(6, .bool (A7 t.r && within t.r dims))]) (fun hK => ?_) (fun base => ?_)
         ·refine I0 ?_; refine q0 rfl (A0 call193 ((Jo hf (by simp_all)).2.1 t.r vr) (fun x99 => ?_)); refine Eh ?_; refine qI rfl rfl rfl Gm (fun hg100 => Wz ?_) (fun hg100 => ?_)
          ·refine T8 ?_; refine Dd ?_; refine qT rfl rfl rfl (A0 call192 (Lb (Jo hf (by simp_all)).2.2 t.r vr dims hd hl) (fun x104 => ?_)); refine Fy ?_; exact hK _ ⟨(by (conv => lhs; whnf); first | (simp_all [Bool.and_assoc]; done) | (simp_all [Bool.and_assoc]; omega)), trivial⟩
          ·refine F5 ?_; refine Hu ?_; exact hK _ ⟨(by (conv => lhs; whnf); first | (simp_all [Bool.and_assoc]; done) | (simp_all [Bool.and_assoc]; omega)), trivial⟩
         ·refine Ao f_ rfl A5 () (by simp_all [Ky, Bool.and_assoc]) (fun w hs => hs.none)
        ·refine Sl ?_; refine Kk ?_; refine K0 ?_; refine Dj (X := Nat) (fun i => i ≤ t.sys.length ∧ ∀ j, j < i → Ll t dims (t.sys.getD j Bk) = true) (fun i => [(2, iv dims), (3, pz b3), (107, sl vs t.sys.length), (108, iv (t.sys.length : Int)), (109, iv (i : Int))]) (fun i => Yq t.sys vs VF VK2 :: RT t vr vk vs :: []) (fun i => [Af b3 (tc t vr vk vs) 26]) (fun i => t.sys.length - i) (0) (⟨Nat.zero_le _, fun j hj => by omega⟩) (by exact Cd) ?_ ?_
         ·exact fun w hs => hs.l9
         ·intro i base0 ⟨hi, hok⟩ next0; refine Dm ?_; refine A6 (fun h110 => ?_) (fun h110 => ?_)
          ·have hlt : i < t.sys.length := by have := of_decide_eq_true h110; omega
           obtain ⟨bk, o, hav⟩ := hA2 A2; refine Gr ?_; refine A2t ?_; refine C0x ?_; refine q0 rfl (B7 fun b8 => ?_); refine Uh ?_; refine Fp i hlt ?_; refine Au ([(2, iv dims), (3, pz b3), (107, sl vs t.sys.length), (108, iv (t.sys.length : Int)), (109, iv (i : Int)), (132, .bool (!(Ll t dims (t.sys.getD i Bk))))]) (fun hK => ?_) (fun base => ?_)
           ·refine Bl (pn := 1000000) (tn := false) (A := [0, 1, 3, 0, 8, 24, 63, 127, 255, 511, 1023, 2047, 4095, 8191, 16383, 32767, 16383, 131071, 262143, 524287]) (l := [0, 1, 2, 3, 4, 5, 6, 7, 8, 9, 10, 11, 12, 13, 14, 15, 16, 17, 18, 19]) (fin := []) Tab.mixed ⟨_, func105⟩ (by rfl) ?_; refine Fg ?_; refine n0 rfl (A3k ?_); refine Fg ?_; refine n0 rfl (Ba call190 (Mm t.kind) (fun x118 => ?_)); refine n0 rfl (B7u ?_); refine Fk ?_; refine nI rfl rfl rfl Gm (fun hg120 => Mh ?_) (fun hg120 => ?_)
            ·refine Nt ?_; refine nT rfl rfl rfl (Ba call193 ((B2l hf hlt).2.1 _ (VF i)) (fun x123 => ?_)); refine B3x ?_; refine Oe ?_; refine nI rfl rfl rfl Gm (fun hg126 => Mh ?_) (fun hg126 => ?_)
             ·refine Nt ?_; refine N0 ?_; refine nT rfl rfl rfl (Ba call192 (Lb (B2l hf hlt).2.2 _ (VF i) dims hd hl) (fun x130 => ?_)); refine B3x ?_; refine Jw ?_; exact hK _ ⟨rfl, rfl, rfl, rfl, rfl, (by (conv => lhs; whnf); first | (simp_all [Ll]; done) | (simp_all [Ll]; omega)), trivial⟩
             ·refine Hq ?_; refine Ua ?_; refine Mg ?_; exact hK _ ⟨rfl, rfl, rfl, rfl, rfl, (by (conv => lhs; whnf); first | (simp_all [Ll]; done) | (simp_all [Ll]; omega)), trivial⟩
            ·refine Nr ?_; refine Z1 ?_; refine Fk ?_; refine Hq ?_; refine Q6 ?_; exact hK _ ⟨rfl, rfl, rfl, rfl, rfl, (by (conv => lhs; whnf); first | (simp_all [Ll]; done) | (simp_all [Ll]; omega)), trivial⟩
           ·refine A6 (fun h132 => ?_) (fun h132 => ?_)
            ·refine C9 ?_; have ha := A8x hlt (by simpa using h132); refine Ao f_ rfl A5 () (by rw [Ky, ha]; clear hok ha h132; simp_all [Bool.and_assoc]) (fun w hs => hs.none)
            ·refine Lq ?_; have hb : Ll t dims (t.sys.getD i Bk) = true := by simpa using h132
             refine A1 (fun w hs => ?_) (next0 (i + 1) _ ⟨hlt, fun j hj => (by rcases Nat.lt_succ_iff_lt_or_eq.mp hj with h | h; exact hok j h; subst h; exact hb)⟩ A2 Cd); exact (hs.l9).drop
          ·have hge : i = t.sys.length := by have := of_decide_eq_false h110; omega
           refine En ?_; refine Ew ?_; refine Hf ?_; refine A9h ?_; have ha := D1a (t := t) (g := Ll t dims) (by rw [← hge]; exact hok); refine Ao f_ rfl A5 () (by rw [Ky, ha]; clear hok ha; simp_all [Bool.and_assoc]) (fun w hs => hs.none)
abbrev D1j (t : T) : Prop := (Mk t = true ∨ B7n) → ∀ (vars dims : Int) (bound : Bool) vr vk vs, As vars → 0 ≤ dims → dims + depth t ≤ 1152921504606846976 → Spec prog 60 #[.agg (tc t vr vk vs).toArray, iv vars, iv dims, .bool bound] [RT t vr vk vs] [] (fun _ : Unit => .bool (Hd t vars dims bound)) (fun _ => []) (fun _ => [])
abbrev E2b (b1 b2 b3 : Nat) : List Value := [pz b1, pz b2, pz b3]
abbrev E2a (b1 b2 b3 : Nat) (vars dims : Int) (bound : Bool) : List Bm := [Af b1 [iv vars] 3, Af b2 [iv dims] 3, Af b3 [.bool bound] 4]
def Nq (v d : Int) : Prop := 0 ≤ v ∧ v ≤ 1 ∧ 0 ≤ d ∧ d ≤ 1
theorem B3h (k i : Int) : Nq (binds k i).1 (binds k i).2 := by
 unfold binds Nq; repeat (split; (simp))
 simp
theorem C7i {t : T} {k : T} {v d : Int} (h : (k, v, d) ∈ parts t) : Nq v d := by
 have hk : ∀ (kind : Int) (i : Nat) (ks : List T), (k, v, d) ∈ Ea kind i ks → Nq v d := by
  intro kind i ks
  induction ks generalizing i with
  | nil => intro h; simp [Ea] at h
  | cons a ks ih =>
   intro h; simp only [Ea, List.mem_cons] at h; rcases h with h | h
   ·have e : (v, d) = binds kind i := (Prod.mk.inj h).2; have := B3h kind i; rw [← e] at this; exact this
   ·exact ih _ h
 have hs : ∀ (kind : Int) (bs : List Br), (k, v, d) ∈ D9 kind bs → Nq v d := by
  intro kind bs
  induction bs with
  | nil => intro h; simp [D9] at h
  | cons b bs ih =>
   intro h; simp only [D9, List.mem_append, List.mem_map] at h; rcases h with ⟨a, ha, e⟩ | h
   ·have e2 := (Prod.mk.inj e).2; have e3 := (Prod.mk.inj e2); rw [← e3.1, ← e3.2]; unfold Nq more; split <;> simp
   ·exact ih h
 unfold parts at h; rcases List.mem_append.mp h with h | h
 ·exact hk _ _ _ h
 ·exact hs _ _ h
theorem Xe {t : T} {p : Part} (h : p ∈ parts t) : depth p.1 < depth t := by
 obtain ⟨m, hm⟩ := List.mem_iff_getElem?.mp h; exact B6y hm
theorem C4j (k : T) (vr vk vs : SH) (b1 b2 b3 : Nat) (vars dims v d : Int) (bound : Bool) (hv : As vars) (h0 : 0 ≤ dims) (hvd : Nq v d) (hl : dims + 1 + depth k ≤ 1152921504606846976) (hp : Mk k = true ∨ B7n) (ih : D1j k) : Spec prog 107 #[.agg (tc k vr vk vs).toArray, iv v, iv d, pz b1, pz b2, pz b3] [RT k vr vk vs] (E2a b1 b2 b3 vars dims bound) (fun _ : Unit => .bool (Hd k (IntKind.i64.wrap (vars + if vars < 0 then 0 else v)) (dims + d) bound)) (fun _ => []) (fun _ => E2a b1 b2 b3 vars dims bound) := by
 refine Cm ntmps107 fun B hB => ?_
 obtain ⟨hv0, hv1, hd0, hd1⟩ := hvd; refine B0 ?_; refine q0 rfl (Ay fun b6 => ?_); refine Dw ?_; refine B0 ?_; refine T9 ?_; refine O5 ?_; refine Au ([(1, iv (if vars < 0 then 0 else v)), (2, iv d), (3, pz b1), (4, pz b2), (5, pz b3), (6, pz b6)]) (fun hK => ?_) (fun base => ?_)
 ·refine A6 (fun h11 => ?_) (fun h11 => ?_)
  ·refine Lp ?_; exact hK _ ⟨(by first | (rw [if_pos (of_decide_eq_true h11)]; rfl) | (rw [if_neg (of_decide_eq_false h11)]; rfl)), rfl, rfl, rfl, rfl, rfl, trivial⟩
  ·refine He ?_; exact hK _ ⟨(by first | (rw [if_pos (of_decide_eq_true h11)]; rfl) | (rw [if_neg (of_decide_eq_false h11)]; rfl)), rfl, rfl, rfl, rfl, rfl, trivial⟩
 ·refine Ez ?_; refine T9 ?_; refine Eh ?_; refine q0 rfl (C8l ?_); refine T9 ?_; refine Eh ?_; refine Z2 ?_; refine T9 ?_; refine q0 rfl (A0 call60 (ih hp (IntKind.i64.wrap (vars + if vars < 0 then 0 else v)) (dims + d) bound vr vk vs (Un _) A2 A2) (fun x20 => ?_)); refine Ch ?_; refine Ao f_ rfl A5 () rfl (fun w hs => (hs.l8).drop)
theorem D0z (t : T) (hp : Mk t = true ∨ B7n) (ih : ∀ p, p ∈ parts t → D1j p.1) (vars dims : Int) (bound : Bool) (vr vk vs : SH) (hv : As vars) (h0 : 0 ≤ dims) (hl : dims + depth t ≤ 1152921504606846976) : Spec prog 60 #[.agg (tc t vr vk vs).toArray, iv vars, iv dims, .bool bound] [RT t vr vk vs] [] (fun _ : Unit => .bool (Hd t vars dims bound)) (fun _ => []) (fun _ => []) := by
 refine Cm ntmps60 fun B hB => ?_
 refine B0 ?_; refine q0 rfl (Ay fun b4 => ?_); refine q0 rfl (Ay fun b5 => ?_); refine q0 rfl (Ay fun b6 => ?_); refine q0 rfl (Ay fun b7 => ?_); refine Jx ?_; refine Au ([(4, pz b4), (5, pz b5), (6, pz b6), (7, pz b7), (20, .bool ((bound && decide (24 < dims)) || !(Ky t vars dims)))]) (fun hK => ?_) (fun base => ?_)
 ·refine Qj ?_; refine T9 ?_; refine Eh ?_; refine qI rfl rfl rfl Gm (fun hg10 => D3g ?_) (fun hg10 => ?_)
  ·refine Yj ?_; refine Jd ?_; refine qI rfl rfl rfl Gm (fun hg14 => Mp ?_) (fun hg14 => ?_)
   ·refine T8 ?_; refine T8 ?_; refine qT rfl rfl rfl (A0 call105 (B0p t (Zq hp) vr vk vs vars dims h0 (by unfold As; omega)) (fun x18 => ?_)); refine T6 ?_; refine E4 ?_; exact hK _ ⟨rfl, rfl, rfl, rfl, (by (conv => lhs; whnf); first | (simp_all [Bool.and_assoc]; done) | (simp_all [Bool.and_assoc]; omega)), trivial⟩
   ·refine La ?_; refine Gp ?_; exact hK _ ⟨rfl, rfl, rfl, rfl, (by (conv => lhs; whnf); first | (simp_all [Bool.and_assoc]; done) | (simp_all [Bool.and_assoc]; omega)), trivial⟩
  ·refine Xk ?_; refine Hr ?_; refine qT rfl rfl rfl (Mp ?_); refine T8 ?_; refine T8 ?_; refine qT rfl rfl rfl (A0 call105 (B0p t (Zq hp) vr vk vs vars dims h0 (by unfold As; omega)) (fun x18 => ?_)); refine T6 ?_; refine E4 ?_; exact hK _ ⟨rfl, rfl, rfl, rfl, (by (conv => lhs; whnf); first | (simp_all [Bool.and_assoc]; done) | (simp_all [Bool.and_assoc]; omega)), trivial⟩
 ·refine A6 (fun h20 => ?_) (fun h20 => ?_)
  ·refine C9 ?_; refine Ao f_ rfl A5 () (by rw [A8y, h20]; rfl) (fun w hs => hs.none)
  ·refine Qr ?_; refine P5 ?_; have hE := A5r t vr vk vs 107 (E2b b5 b6 b7) [] (E2a b5 b6 b7 vars dims bound) (fun p => Hd p.1 (IntKind.i64.wrap (vars + if vars < 0 then 0 else p.2.1)) (dims + p.2.2) bound) call107 (fun k v d hm vr vk vs => C4j k vr vk vs b5 b6 b7 vars dims v d bound hv h0 (C7i hm) (by have := Xe hm; simp only at this; omega) (B5g hp hm) (ih _ hm)); refine q0 rfl (A0 call106 (hE) (fun x23 => ?_)); refine Ch ?_; refine Ao f_ rfl A5 () (by rw [A8y, h20]; rfl) (fun w hs => hs.none)
theorem B3r : ∀ t : T, D1j t := T.ind fun t ih hp vars dims bound vr vk vs hv h0 hl => D0z t hp ih vars dims bound vr vk vs hv h0 hl
theorem B5d (t : T) (hp : Mk t = true ∨ B7n) (vr vk vs : SH) (vars dims : Int) (hv : As vars) (hsz : size t ≤ 1152921504606846) : Spec prog 22 #[.agg (tc t vr vk vs).toArray, iv vars, iv dims] [RT t vr vk vs] [] (fun _ : Unit => iv (D4 t vars dims)) (fun _ => []) (fun _ => []) := by
 refine Cm ntmps22 fun B hB => ?_
 have hds := J2 t; refine B0 ?_; refine q0 rfl (Ay fun b3 => ?_); refine Jx ?_; refine Au ([(1, iv vars), (2, iv dims), (3, pz b3), (17, .bool (decide (vars < 0) || decide (dims < 0) || decide (24 < dims)))]) (fun hK => ?_) (fun base => ?_)
 ·refine Dr ?_; refine Qq ?_; refine qI rfl rfl rfl Gm (fun hg10 => Ce ?_) (fun hg10 => ?_)
  ·refine S9 ?_; refine Hr ?_; refine qI rfl rfl rfl Gm (fun hg14 => Ce ?_) (fun hg14 => ?_)
   ·refine Yj ?_; refine E4 ?_; exact hK _ ⟨rfl, rfl, rfl, (by (conv => lhs; whnf); first | (simp_all [Bool.and_assoc]; done) | (simp_all [Bool.and_assoc]; omega)), trivial⟩
   ·refine Si ?_; exact hK _ ⟨rfl, rfl, rfl, (by (conv => lhs; whnf); first | (simp_all [Bool.and_assoc]; done) | (simp_all [Bool.and_assoc]; omega)), trivial⟩
  ·refine Xk ?_; refine Jd ?_; refine Qp ?_; exact hK _ ⟨rfl, rfl, rfl, (by (conv => lhs; whnf); first | (simp_all [Bool.and_assoc]; done) | (simp_all [Bool.and_assoc]; omega)), trivial⟩
 ·refine A6 (fun h17 => ?_) (fun h17 => ?_)
  ·refine C9 ?_; refine Ao f_ rfl A5 () (by rw [D4, if_pos h17]) (fun w hs => hs.none)
  ·have hb : 0 ≤ vars ∧ 0 ≤ dims ∧ dims ≤ 24 := by simp at h17; omega
   refine J7 ?_; refine Ez ?_; refine q0 rfl (A0 call59 (Zf t vr vk vs) (fun x19 => ?_)); refine Qo ?_; refine A6 (fun h21 => ?_) (fun h21 => ?_)
   ·have hs := of_decide_eq_true h21; refine Me ?_; refine Ao f_ rfl A5 () (by rw [D4, if_neg (by rw [h17]; simp), if_pos hs]) (fun w hs => hs.none)
   ·have hs := of_decide_eq_false h21; refine J7 ?_; refine Ez ?_; refine F6 ?_; refine q0 rfl (A0 call60 (B3r t hp vars dims true vr vk vs hv A2 A2) (fun x26 => ?_)); refine Fq ?_; refine A6 (fun h27 => ?_) (fun h27 => ?_)
    ·refine C9 ?_; refine Ao f_ rfl A5 () (by rw [D4, if_neg (by rw [h17]; simp), if_neg hs]; simp_all) (fun w hs => hs.none)
    ·refine He ?_; refine C9 ?_; refine Ao f_ rfl A5 () (by rw [D4, if_neg (by rw [h17]; simp), if_neg hs]; simp_all) (fun w hs => hs.none)
theorem Re (t : T) (hp : Mk t = true ∨ B7n) (vr vk vs : SH) (hsz : size t ≤ 1152921504606846) : Spec prog 39 #[.agg (tc t vr vk vs).toArray] [RT t vr vk vs] [] (fun _ : Unit => iv (An t)) (fun _ => []) (fun _ => []) := by
 refine Cm ntmps39 fun B hB => ?_
 have hds := J2 t; refine B0 ?_; refine q0 rfl (Ay fun b1 => ?_); refine Dw ?_; refine Ez ?_; refine q0 rfl (A0 call59 (Zf t vr vk vs) (fun x5 => ?_)); refine Qo ?_; refine A6 (fun h7 => ?_) (fun h7 => ?_)
 ·have hs := of_decide_eq_true h7; refine Me ?_; refine Ao f_ rfl A5 () (by rw [An, if_pos hs]) (fun w hs => hs.none)
 ·have hs := of_decide_eq_false h7; refine J7 ?_; refine Ez ?_; refine q0 rfl (A0 call60 (B3r t hp (-1) 24 false vr vk vs (by unfold As; omega) A2 A2) (fun x10 => ?_)); refine Fq ?_; refine A6 (fun h11 => ?_) (fun h11 => ?_)
  ·refine C9 ?_; refine Ao f_ rfl A5 () (by rw [An, if_neg hs]; simp_all) (fun w hs => hs.none)
  ·refine He ?_; refine C9 ?_; refine Ao f_ rfl A5 () (by rw [An, if_neg hs]; simp_all) (fun w hs => hs.none)
theorem B6n (l : List Part) (a : Nat) : l.foldl (fun a p => a + size p.1) a = a + (l.map fun p => size p.1).sum := by
 induction l generalizing a with
 | nil => simp
 | cons b l ih => rw [List.foldl_cons, ih]; simp; omega
theorem C5o (t : T) : size t = 1 + ((parts t).map fun p => size p.1).sum := by rw [size_eq, B6n]
theorem Ss (t : T) : size t = 1 + (t.kids.map size).sum + ((t.sys.map fun b => b.kids.map size).flatten).sum := by
 rw [C5o, M7, List.sum_append]; omega
theorem A6o {n : Int} (h : As n) : IntKind.i64.wrap n = n := by rw [IntKind.wrap_i64]; unfold As at h; omega
theorem Tj {t : T} : sized t = 0 ↔ depth t ≤ 200 ∧ size t ≤ 20000 := by
 unfold sized
 split
 ·simp; omega
 ·split
  ·simp; omega
  ·simp; omega
theorem B5c {t : T} {v d : Int} : D4 t v d = 0 ↔ 0 ≤ v ∧ 0 ≤ d ∧ d ≤ 24 ∧ sized t = 0 ∧ Hd t v d true = true := by
 unfold D4
 split
 ·rename_i h
  simp only [Bool.or_eq_true, decide_eq_true_eq] at h
  constructor
  ·intro h2; cases h2
  ·intro h2; omega
 ·rename_i h
  simp only [Bool.or_eq_true, decide_eq_true_eq] at h
  split
  ·rename_i h2; constructor
   ·intro h3; exact absurd h3 h2
   ·intro h3; exact absurd h3.2.2.2.1 h2
  ·rename_i h2
   have h2 : sized t = 0 := by simpa using h2
   split
   ·rename_i h3; simp only [h2, h3, and_self, and_true, true_iff]; omega
   ·rename_i h3; simp only [h3]; constructor
    ·intro h4; cases h4
    ·intro h4; exact absurd h4.2.2.2.2 Jv
theorem B2j {t : T} : An t = 0 ↔ sized t = 0 ∧ Hd t (-1) 24 false = true := by
 unfold An
 split
 ·rename_i h; constructor
  ·intro h2; exact absurd h2 h
  ·intro h2; exact absurd h2.1 h
 ·rename_i h
  have h : sized t = 0 := by simpa using h
  split
  ·rename_i h3; simp [h, h3]
  ·rename_i h3; simp [h3]
theorem C3y {t k : T} (hk : k ∈ t.kids) : depth k < depth t := by obtain ⟨p, hp, e⟩ := Hn hk; exact e ▸ Xe hp
def D6e (s : Nat) (i : Int) : Nat := if 0 ≤ i ∧ i < 24 then ((s &&& 16777215) &&& (2 ^ i.toNat - 1)) ||| ((s &&& 16777215) / 2 ^ (i.toNat + 1) * 2 ^ i.toNat) else s &&& 16777215
theorem J4 (s : Nat) : s &&& 16777215 < 16777216 := by rw [Yg]; exact Nat.mod_lt _ Jv
theorem Vx (l : List Cl) : C2 l < 16777216 := by rw [A1k]; exact J4 _
def Am (s : Nat) (f b : Int) : Int × Nat :=
 if f < 0 ∨ b < 0 then (2, 0) else
 if Bi (s &&& 16777215) (2 ^ (min f.toNat 24) - 1) = 0 then (0, (s &&& 16777215) &&& (2 ^ (min f.toNat 24) - 1)) else
 if 24 ≤ b ∨ 16777215 < Bi (s &&& 16777215) (2 ^ (min f.toNat 24) - 1) * 2 ^ b.toNat then (10, 0) else
 (0, ((s &&& 16777215) &&& (2 ^ (min f.toNat 24) - 1)) ||| (Bi (s &&& 16777215) (2 ^ (min f.toNat 24) - 1) * 2 ^ b.toNat))
theorem Fo (a b i : Nat) : (Bi a b).testBit i = (decide (i < 32) && a.testBit i && !b.testBit i) := by
 unfold Bi
 rw [BitVec.testBit_toNat]
 by_cases h : i < 32
 ·rw [BitVec.getLsbD_and, BitVec.getLsbD_not, BitVec.getLsbD_ofNat, BitVec.getLsbD_ofNat]
  simp [h]
 ·have : (BitVec.ofNat 32 a &&& ~~~BitVec.ofNat 32 b).getLsbD i = false := BitVec.getLsbD_of_ge _ _ A2
  rw [this]; simp [h]
theorem F9 (s i : Nat) : (s &&& 16777215).testBit i = (decide (i < 24) && s.testBit i) := by
 rw [Yg, Nat.testBit_mod_two_pow]
theorem Ld (m i : Nat) : (2 ^ m - 1).testBit i = decide (i < m) := Nat.testBit_two_pow_sub_one m i
theorem A6c {q m : Nat} (h : q < 16777216) : Bi q m < 16777216 := by
 refine Nat.lt_pow_two_of_testBit (n := 24) _ (fun i hi => ?_)
 rw [Fo, Nat.testBit_lt_two_pow (x := q) (Nat.lt_of_lt_of_le h (Nat.pow_le_pow_right (n := 2) Jv hi))]
 simp
theorem I5 (s : Nat) (f b : Int) : (Am s f b).2 < 16777216 := by
 unfold Am
 split
 ·decide
 ·split
  ·exact Nat.lt_of_le_of_lt Nat.and_le_left (J4 s)
  ·split
   ·decide
   ·refine Nat.or_lt_two_pow (n := 24) ?_ ?_
    ·exact Nat.lt_of_le_of_lt Nat.and_le_left (J4 s)
    ·rename_i h; simp only [not_or] at h; have := h.2; omega
def B5 (c : Cl) (f b : Int) : Int × Cl :=
 if B3 c = false then (2, B1) else
 if (Am c.pos f b).1 ≠ 0 then ((Am c.pos f b).1, B1) else
 if (Am c.neg f b).1 ≠ 0 then ((Am c.neg f b).1, B1) else
 (0, ⟨(Am c.pos f b).2, (Am c.neg f b).2⟩)
theorem Pz (c : Cl) (f b : Int) : u32 (B5 c f b).2 := by
 have h1 := I5 c.pos f b
 have h2 := I5 c.neg f b
 unfold B5
 split
 ·exact ⟨(by decide : (0 : Nat) < 4294967296), (by decide : (0 : Nat) < 4294967296)⟩
 ·split
  ·exact ⟨(by decide : (0 : Nat) < 4294967296), (by decide : (0 : Nat) < 4294967296)⟩
  ·split
   ·exact ⟨(by decide : (0 : Nat) < 4294967296), (by decide : (0 : Nat) < 4294967296)⟩
   ·exact ⟨by show (Am c.pos f b).2 < _; omega, by show (Am c.neg f b).2 < _; omega⟩
def Fi (g : Cl → Int × Cl) (l : List Cl) : Int × List Cl := match l.find? (fun c => (g c).1 ≠ 0) with
 | some c => ((g c).1, [])
 | none => (0, l.map fun c => (g c).2)
theorem A5h {g : Cl → Int × Cl} {l : List Cl} {i : Nat} (hi : i < l.length) (h0 : ∀ j, j < i → (g (l.getD j B1)).1 = 0) (h : (g (l.getD i B1)).1 ≠ 0) : Fi g l = ((g (l.getD i B1)).1, []) := by
 have : l.find? (fun c => (g c).1 ≠ 0) = some (l.getD i B1) := by
  rw [List.find?_eq_some_iff_getElem]
  rw [D0 (d := B1) hi] at h ⊢
  refine ⟨by simpa using h, i, hi, rfl, fun j hj => ?_⟩
  have := h0 j hj
  rw [D0 (d := B1) A2] at this
  simp [this]
 rw [Fi, this]
theorem A1f {g : Cl → Int × Cl} {l : List Cl} (h0 : ∀ j, j < l.length → (g (l.getD j B1)).1 = 0) : Fi g l = (0, l.map fun c => (g c).2) := by
 have : l.find? (fun c => (g c).1 ≠ 0) = none := by
  rw [List.find?_eq_none]
  intro x hx
  obtain ⟨j, hj, e⟩ := List.mem_iff_getElem.mp hx
  have := h0 j hj
  rw [D0 (d := B1) hj, e] at this
  simp [this]
 rw [Fi, this]
theorem A5g {g : Cl → Int × Cl} {l : List Cl} : (Fi g l).1 = 0 ↔ ∀ c, c ∈ l → (g c).1 = 0 := by
 unfold Fi
 cases h : l.find? (fun c => (g c).1 ≠ 0) with
 | none =>
  rw [List.find?_eq_none] at h
  simp only [true_iff]
  intro c hc
  simpa using h c hc
 | some c =>
  have h1 := List.find?_some h
  have h2 := List.mem_of_find?_eq_some h
  simp only
  refine ⟨fun h3 => ?_, fun h3 => h3 c h2⟩
  simp at h1; exact absurd h3 h1
theorem C3t {g : Cl → Int × Cl} {l : List Cl} (h : (Fi g l).1 = 0) : Fi g l = (0, l.map fun c => (g c).2) :=
 A1f fun j hj => A5g.mp h _ (Aa hj)
theorem A3c {l : List Cl} : A9 l = true ↔ B2 l = (0, l) := by
 rw [← Ps, Bool.and_eq_true, decide_eq_true_eq, decide_eq_true_eq]
 constructor
 ·rintro ⟨h1, h2⟩; exact Prod.ext h1 h2
 ·intro h; rw [h]; exact ⟨rfl, rfl⟩
def Ab (l : List Cl) (f b : Int) : Int × List Cl :=
 if A9 l = false then (2, []) else
 if (Fi (fun c => B5 c f b) l).1 ≠ 0 then ((Fi (fun c => B5 c f b) l).1, []) else B2 (Fi (fun c => B5 c f b) l).2
def C0 (by_ : Int) (l : List Cl) (f : Int) : Ax (List Cl) :=
 if by_ = 0 ∨ 24 ≤ f then .ok l else if (Ab l f by_).1 = 0 then .ok (Ab l f by_).2 else .bad (Ab l f by_).1
def Bh (vb db : Int) : Tr (Int × Int) where
 own c k n _ r := (C0 db r c.2).bind fun r' => if k = 1 ∧ c.1 ≤ n then (if 1000000000 - vb < n then .bad 100 else .ok (.inr (n + vb, r'))) else .ok (.inr (n, r'))
 B9 c f := (C0 db f c.2).bind fun f' => .ok (some f')
 Li c b := .ok (c.1 + b.1, c.2 + b.2)
section
variable {C : Type} {A : Tr C} {t : T} {c : C} {e : Int}
theorem Ic (h : A.own c t.kind t.n t.name t.r = .bad e) : C7 A t c = .bad e := by rw [Ft, h]; rfl
theorem P9 {p : Int × List Cl} {i : Nat} {l : List T} (h : A.own c t.kind t.n t.name t.r = .ok (.inr p)) (hi : i < t.kids.length) (hl : Dt A t.kind 0 (t.kids.take i) c = .ok l) {c' : C} (hc : A.Li c (binds t.kind i) = .ok c') (hb : C7 A (t.kids.getD i t0) c' = .bad e) : C7 A t c = .bad e := by
 have h1 : Dt A t.kind 0 (t.kids.take (i + 1)) c = .bad e := by
  rw [Ag (d := t0) hi, Pc, hl]
  simp only [Ax.bind, List.length_take, Nat.zero_add, Nat.min_eq_left (Nat.le_of_lt hi)]
  rw [hc]; simp only; rw [hb]
 have h2 := Wj (m := t.kids.drop (i + 1)) h1
 rw [List.take_append_drop] at h2
 rw [Ft, h]; simp only [Ax.bind]; rw [h2]
theorem Qw {k : Int} {ts : List T} {i : Nat} {l : List T} {u : T} (hi : i < ts.length) (hl : Dt A k 0 (ts.take i) c = .ok l) {c' : C} (hc : A.Li c (binds k i) = .ok c') (hb : C7 A (ts.getD i t0) c' = .ok u) : Dt A k 0 (ts.take (i + 1)) c = .ok (l ++ [u]) := by
 rw [Ag (d := t0) hi, Pc, hl]
 simp only [Ax.bind, List.length_take, Nat.zero_add, Nat.min_eq_left (Nat.le_of_lt hi)]
 rw [hc]; simp only; rw [hb]
theorem Pb {k : Int} {ts : List T} {i : Nat} {l : List T} (hi : i < ts.length) (hl : D2 A k (ts.take i) c = .ok l) {c' : C} (hc : A.Li c (0, more k) = .ok c') (hb : C7 A (ts.getD i t0) c' = .bad e) : D2 A k ts c = .bad e := by
 have h1 : D2 A k (ts.take (i + 1)) c = .bad e := by
  rw [Ag (d := t0) hi, Pa, hl]
  simp only [Ax.bind]
  rw [hc]; simp only; rw [hb]
 have h2 := Wi (m := ts.drop (i + 1)) h1
 rwa [List.take_append_drop] at h2
theorem Qx {k : Int} {ts : List T} {i : Nat} {l : List T} {u : T} (hi : i < ts.length) (hl : D2 A k (ts.take i) c = .ok l) {c' : C} (hc : A.Li c (0, more k) = .ok c') (hb : C7 A (ts.getD i t0) c' = .ok u) : D2 A k (ts.take (i + 1)) c = .ok (l ++ [u]) := by
 rw [Ag (d := t0) hi, Pa, hl]
 simp only [Ax.bind]
 rw [hc]; simp only; rw [hb]
theorem Ib {p : Int × List Cl} {s : Nat} {l : List T} {bs : List Br} (h : A.own c t.kind t.n t.name t.r = .ok (.inr p)) (hl : Dt A t.kind 0 t.kids c = .ok l) (hs : s < t.sys.length) (hb : Dc A t.kind (t.sys.take s) c = .ok bs) (hf : A.B9 c (t.sys.getD s Bk).B9 = .bad e ∨ ∃ f', A.B9 c (t.sys.getD s Bk).B9 = .ok (some f') ∧ D2 A t.kind (t.sys.getD s Bk).kids c = .bad e) : C7 A t c = .bad e := by
 have h1 : Dc A t.kind (t.sys.take (s + 1)) c = .bad e := by
  rw [Ag (d := Bk) hs, Mj, hb]
  simp only [Ax.bind]
  rcases hf with hf | ⟨f', hf, h2⟩
  ·rw [hf]
  ·rw [hf]; simp only; rw [h2]
 have h2 := Rt (m := t.sys.drop (s + 1)) h1
 rw [List.take_append_drop] at h2
 rw [Ft, h]; simp only [Ax.bind]; rw [hl]; simp only; rw [h2]
theorem N7 {k : Int} {ss : List Br} {s : Nat} {bs : List Br} {f' : List Cl} {ks : List T} (hs : s < ss.length) (hb : Dc A k (ss.take s) c = .ok bs) (hf : A.B9 c (ss.getD s Bk).B9 = .ok (some f')) (hk : D2 A k (ss.getD s Bk).kids c = .ok ks) : Dc A k (ss.take (s + 1)) c = .ok (bs ++ [.mk f' ks]) := by
 rw [Ag (d := Bk) hs, Mj, hb]
 simp only [Ax.bind]
 rw [hf]; simp only; rw [hk]
theorem Tg {p : Int × List Cl} {l : List T} {bs : List Br} (h : A.own c t.kind t.n t.name t.r = .ok (.inr p)) (hl : Dt A t.kind 0 t.kids c = .ok l) (hb : Dc A t.kind t.sys c = .ok bs) : C7 A t c = .ok (.mk t.kind p.1 t.name p.2 l bs) := by
 rw [Ft, h]; simp only [Ax.bind]; rw [hl]; simp only; rw [hb]
end
theorem A5f {g : Cl → Int × Cl} {l : List Cl} (h : ∀ c, u32 (g c).2) : ∀ c, c ∈ (Fi g l).2 → u32 c := by
 intro c hc
 unfold Fi at hc
 split at hc
 ·cases hc
 ·obtain ⟨d, _, rfl⟩ := List.mem_map.mp hc; exact h d
theorem C3u {g : Cl → Int × Cl} {l : List Cl} : (Fi g l).2.length ≤ l.length := by
 unfold Fi
 split <;> simp
theorem Ry (k : Int) : 0 ≤ more k ∧ more k ≤ 1 := by unfold more; split <;> omega
theorem Nf {t : T} {i : Nat} (h : i < t.kids.length) : size (t.kids.getD i t0) < size t := by
 obtain ⟨p, hp, e⟩ := Hn (Aa (d := t0) h); exact e ▸ Pf hp
theorem Nd {t : T} {s k : Nat} (h : s < t.sys.length) (h2 : k < (t.sys.getD s Bk).kids.length) : size ((t.sys.getD s Bk).kids.getD k t0) < size t := by
 obtain ⟨p, hp, e⟩ := Hk (Aa (d := Bk) h) (Aa (d := t0) h2); exact e ▸ Pf hp
def Gk (vb : Int) (v : Int) (k n : Int) : Int := if k = 1 ∧ v ≤ n then n + vb else n
theorem B1p {vb db v d : Int} {t : T} {g : List Cl} (hg : C0 db t.r d = .ok g) (h : ¬ (t.kind = 1 ∧ v ≤ t.n ∧ 1000000000 - vb < t.n)) : (Bh vb db).own (v, d) t.kind t.n t.name t.r = .ok (.inr (Gk vb v t.kind t.n, g)) := by
 simp only [Bh, hg, Ax.bind, Gk]
 split
 ·rename_i h1
  rw [if_neg (fun h2 => h ⟨h1.1, h1.2, h2⟩)]
 ·rfl
theorem Vg {vb db v d : Int} {t : T} {e : Int} (hg : C0 db t.r d = .bad e) : (Bh vb db).own (v, d) t.kind t.n t.name t.r = .bad e := by
 simp only [Bh, hg, Ax.bind]
theorem Vi {vb db v d : Int} {t : T} {g : List Cl} (hg : C0 db t.r d = .ok g) (h : t.kind = 1 ∧ v ≤ t.n ∧ 1000000000 - vb < t.n) : (Bh vb db).own (v, d) t.kind t.n t.name t.r = .bad 100 := by
 simp only [Bh, hg, Ax.bind]
 rw [if_pos ⟨h.1, h.2.1⟩, if_pos h.2.2]
theorem Lz {vb db v d : Int} {f g : List Cl} (hg : C0 db f d = .ok g) : (Bh vb db).B9 (v, d) f = .ok (some g) := by simp only [Bh, hg, Ax.bind]
theorem Sw {vb db v d : Int} {f : List Cl} {e : Int} (hg : C0 db f d = .bad e) : (Bh vb db).B9 (v, d) f = .bad e := by simp only [Bh, hg, Ax.bind]
theorem Vj {vb db v d : Int} {b : Int × Int} : (Bh vb db).Li (v, d) b = .ok (v + b.1, d + b.2) := rfl
theorem Wm {vb db : Int} {k : Int} {c : Int × Int} : ∀ {l l' : List Br}, Dc (Bh vb db) k l c = .ok l' → l'.length = l.length
 | [], l', h => by rw [Dy] at h; injection h with h; subst h; rfl
 | a :: l, l', h => by
  rw [Dk] at h
  obtain ⟨o, ho, h⟩ := Ax.Ac h
  obtain ⟨g, _, hg⟩ := Ax.Ac (x := C0 db a.B9 c.2) ho
  injection hg with hg
  subst hg
  obtain ⟨ks', _, h⟩ := Ax.Ac h
  obtain ⟨bs', h3, h⟩ := Ax.Ac h
  injection h with h
  subst h
  simp [Wm h3]
theorem C9s : h0.er = t0 := by simp [h0, HT.er, HT.erL, HT.erB, t0]
theorem St.h0R {B : Cs} {Γ : List Fact} {Ms : List Bm} {w : World} (y : Tys) (hs : St B Γ Ms w) : St B Γ (Ff (Jf y h0) :: Ms) w := by
 have h1 := ((((hs.A2a).A2a).By 2 y.b).By 6 y.t).By 2 y.c
 exact St.D5x (y := y) (k := 0) (n := 0) (nm := ByteArray.mk #[]) (r := []) (v := Bg) (u := Bg) (x := Bg) (ks := []) (ss := []) rfl rfl rfl rfl rfl rfl (by simpa [H7, Q1] using h1)
def Bt (t : T) (ns : List Int) (r : Ax T) : Int × T := if An t ≠ 0 then (An t, t0) else if ns.all (fun n => decide (0 ≤ n)) = false then (2, t0) else match r with
 | .ok u => (0, u)
 | .bad e => (e, t0)
theorem B6i {t : T} {ns : List Int} {r : Ax T} (h : An t ≠ 0) : Bt t ns r = (An t, t0) := by unfold Bt; rw [if_pos h]
theorem C3m {t : T} {ns : List Int} {r : Ax T} (h : An t = 0) (h2 : ns.all (fun n => decide (0 ≤ n)) = false) : Bt t ns r = (2, t0) := by unfold Bt; rw [if_neg (by simp [h]), if_pos h2]
theorem B2g {t u : T} {ns : List Int} {r : Ax T} (h : An t = 0) (h2 : ns.all (fun n => decide (0 ≤ n)) = true) (hr : r = .ok u) : Bt t ns r = (0, u) := by unfold Bt; rw [if_neg (by simp [h]), if_neg (by simp [h2]), hr]
theorem A5c {t : T} {e : Int} {ns : List Int} {r : Ax T} (h : An t = 0) (h2 : ns.all (fun n => decide (0 ≤ n)) = true) (hr : r = .bad e) : Bt t ns r = (e, t0) := by unfold Bt; rw [if_neg (by simp [h]), if_neg (by simp [h2]), hr]
theorem Spec.Pg {P : Program} {k : FuncId} {args : Array Value} {pre : List Fact} (y : Tys) {u : T} (g : Value → Value) (h : Spec P k args pre [] (fun x : {h : HT // h.er = u} => g (.agg (tc u x.1.vr x.1.vk x.1.vs).toArray)) (fun _ => []) (fun x => [Ff (Jf y x.1)])) (hok : ∀ ok w, St ⟨ok, Bu [], w⟩ pre [] w → Yo u) :
  Spec P k args pre [] (fun x : SH × SH × SH => g (.agg (tc u x.1 x.2.1 x.2.2).toArray)) (fun x => [RT u x.1 x.2.1 x.2.2]) (fun _ => []) := fun ok w hk hs => (h ok w hk hs).mono fun e w' hh => by
 obtain ⟨x, he, hs'⟩ := hh
 have h1 : St ⟨ok, Bu [], w⟩ [] (Jf y x.1 ++ []) w' := hs'.unpack
 have h2 := St.Pg y trivial x.1 (by rw [x.2]; exact hok ok w hs) h1
 rw [x.2] at h2
 exact ⟨(x.1.vr, x.1.vk, x.1.vs), he, h2⟩
theorem P2.Pg {P : Program} {Te : TypeId} {k : FuncId} {args : Array Value} {pre : List Fact} (y : Tys) {r : Ax T} (h : P2 P Te k args pre r (fun (u : T) => fun x : {h : HT // h.er = u} => .agg (tc u x.1.vr x.1.vk x.1.vs).toArray) (fun _ _ => []) (fun (u : T) => fun x : {h : HT // h.er = u} => [Ff (Jf y x.1)])) (hok : ∀ u, r = .ok u → ∀ ok w, St ⟨ok, Bu [], w⟩ pre [] w → Yo u) :
  P2 P Te k args pre r (fun (u : T) => fun x : SH × SH × SH => .agg (tc u x.1 x.2.1 x.2.2).toArray) (fun u x => [RT u x.1 x.2.1 x.2.2]) (fun _ _ => []) := ⟨fun u hu => Spec.Pg y (fun v => v) (h.1 u hu) (hok u hu), h.2⟩
abbrev Ar (l : List Cl) : Prop := (∀ c, c ∈ l → u32 c) ∧ l.length * 8 ≤ reach
section
variable {C : Type} {A : Tr C}
mutual
theorem Za (ho : ∀ c k n nm r p, As k → As n → Ar r → A.own c k n nm r = .ok (.inr p) → As p.1 ∧ Ar p.2) (hi : ∀ c k n nm r u, A.own c k n nm r = .ok (.inl u) → Yo u) (hf : ∀ c f f', Ar f → A.B9 c f = .ok (some f') → Ar f') : ∀ (t : T) (c : C) (u : T), Yo t → C7 A t c = .ok u → Yo u
 | .mk k n nm r ks ss, c, u, h, hu => by
  simp only [Yo] at h
  obtain ⟨h1, h2, h3, h4, h5, h6, h7, h8⟩ := h
  rw [Ft] at hu
  simp only [T.kind, T.n, T.name, T.r, T.kids, T.sys] at hu
  obtain ⟨o, h9, hu⟩ := Ax.Ac hu
  cases o with
  | inl v => injection hu with hu; subst hu; exact hi _ _ _ _ _ _ h9
  | inr p =>
   obtain ⟨ks', h10, hu⟩ := Ax.Ac hu
   obtain ⟨ss', h11, hu⟩ := Ax.Ac hu
   injection hu with hu
   subst hu
   obtain ⟨p1, p2⟩ := ho _ _ _ _ _ _ h1 h2 h4 h9
   simp only [Yo]
   exact ⟨h1, p1, h3, p2, by rw [M5 h10]; exact h5, Nat.le_trans (Nat.mul_le_mul_right _ (Ko h11)) h6, A3s ho hi hf ks 0 c ks' h7 h10, Wl ho hi hf ss c ss' h8 h11⟩
theorem A3s (ho : ∀ c k n nm r p, As k → As n → Ar r → A.own c k n nm r = .ok (.inr p) → As p.1 ∧ Ar p.2) (hi : ∀ c k n nm r u, A.own c k n nm r = .ok (.inl u) → Yo u) (hf : ∀ c f f', Ar f → A.B9 c f = .ok (some f') → Ar f') {kd : Int} : ∀ (ts : List T) (i : Nat) (c : C) (us : List T), okL ts → Dt A kd i ts c = .ok us → okL us
 | [], i, c, us, h, hu => by rw [Ef] at hu; injection hu with hu; subst hu; simp only [okL]
 | t :: ts, i, c, us, h, hu => by
  simp only [okL] at h
  rw [E7] at hu
  obtain ⟨c', _, hu⟩ := Ax.Ac hu
  obtain ⟨t', h2, hu⟩ := Ax.Ac hu
  obtain ⟨ts', h3, hu⟩ := Ax.Ac hu
  injection hu with hu
  subst hu
  simp only [okL]
  exact ⟨Za ho hi hf t c' t' h.1 h2, A3s ho hi hf ts (i + 1) c ts' h.2 h3⟩
theorem A3q (ho : ∀ c k n nm r p, As k → As n → Ar r → A.own c k n nm r = .ok (.inr p) → As p.1 ∧ Ar p.2) (hi : ∀ c k n nm r u, A.own c k n nm r = .ok (.inl u) → Yo u) (hf : ∀ c f f', Ar f → A.B9 c f = .ok (some f') → Ar f') {kd : Int} : ∀ (ts : List T) (c : C) (us : List T), okL ts → D2 A kd ts c = .ok us → okL us
 | [], c, us, h, hu => by rw [Ee] at hu; injection hu with hu; subst hu; simp only [okL]
 | t :: ts, c, us, h, hu => by
  simp only [okL] at h
  rw [E6] at hu
  obtain ⟨c', _, hu⟩ := Ax.Ac hu
  obtain ⟨t', h2, hu⟩ := Ax.Ac hu
  obtain ⟨ts', h3, hu⟩ := Ax.Ac hu
  injection hu with hu
  subst hu
  simp only [okL]
  exact ⟨Za ho hi hf t c' t' h.1 h2, A3q ho hi hf ts c ts' h.2 h3⟩
theorem Wl (ho : ∀ c k n nm r p, As k → As n → Ar r → A.own c k n nm r = .ok (.inr p) → As p.1 ∧ Ar p.2) (hi : ∀ c k n nm r u, A.own c k n nm r = .ok (.inl u) → Yo u) (hf : ∀ c f f', Ar f → A.B9 c f = .ok (some f') → Ar f') {kd : Int} : ∀ (bs : List Br) (c : C) (us : List Br), okB bs → Dc A kd bs c = .ok us → okB us
 | [], c, us, h, hu => by rw [Dy] at hu; injection hu with hu; subst hu; simp only [okB]
 | .mk f ks :: bs, c, us, h, hu => by
  simp only [okB] at h
  obtain ⟨h1, h2, h3, h4⟩ := h
  rw [Dk] at hu
  simp only [Br.B9, Br.kids] at hu
  obtain ⟨o, h5, hu⟩ := Ax.Ac hu
  cases o with
  | none => exact Wl ho hi hf bs c us h4 hu
  | some f' =>
   obtain ⟨ks', h6, hu⟩ := Ax.Ac hu
   obtain ⟨bs', h7, hu⟩ := Ax.Ac hu
   injection hu with hu
   subst hu
   simp only [okB]
   exact ⟨hf _ _ _ h1 h5, by rw [M4 h6]; exact h2, A3q ho hi hf ks c ks' h3 h6, Wl ho hi hf bs c bs' h4 h7⟩
end
end
theorem Df : Ar [] := ⟨fun c hc => (by cases hc), by unfold reach; decide⟩
theorem A5b {l : List Cl} (h : ∀ c, c ∈ l → u32 c) : Ar (B2 l).2 := by
 unfold B2
 split
 ·exact Df
 ·split
  ·exact Df
  ·rename_i h64
   exact ⟨fun c hc => h c (Hc.mp hc).1, by show (E8 l).length * 8 ≤ reach; unfold reach; omega⟩
theorem Y6 (l : List Cl) (f b : Int) : Ar (Ab l f b).2 := by
 unfold Ab
 split
 ·exact Df
 ·split
  ·exact Df
  ·exact A5b (A5f (fun c => Pz c f b))
theorem Zk {l g : List Cl} {f b : Int} (h : Ar l) (hg : C0 b l f = .ok g) : Ar g := by
 unfold C0 at hg
 split at hg
 ·injection hg with hg; subst hg; exact h
 ·split at hg
  ·injection hg with hg; subst hg; exact Y6 l f b
  ·cases hg
theorem B1q {vb db : Int} (hv : 0 ≤ vb ∧ vb ≤ 1000000) {t u : T} {c : Int × Int} (h : Yo t) (hu : C7 (Bh vb db) t c = .ok u) : Yo u := by
 refine Za (A := Bh vb db) ?_ ?_ ?_ t c u h hu
 ·intro c k n nm r p _ hn hr ho
  obtain ⟨g, hg, ho⟩ := Ax.Ac (x := C0 db r c.2) ho
  have hgo := Zk hr hg
  split at ho
  ·rename_i h1
   split at ho
   ·cases ho
   ·injection ho with ho; injection ho with ho; subst ho
    exact ⟨by unfold As at *; dsimp only; omega, hgo⟩
  ·injection ho with ho; injection ho with ho; subst ho
   exact ⟨hn, hgo⟩
 ·intro c k n nm r u ho
  obtain ⟨g, hg, ho⟩ := Ax.Ac (x := C0 db r c.2) ho
  split at ho
  ·split at ho
   ·cases ho
   ·injection ho with ho; cases ho
  ·injection ho with ho; cases ho
 ·intro c f f' hr ho
  obtain ⟨g, hg, ho⟩ := Ax.Ac (x := C0 db f c.2) ho
  injection ho with ho; injection ho with ho; subst ho
  exact Zk hr hg
theorem B5p : Yo t0 := by simp [t0, Yo, okL, okB, As, Gl, reach]; decide
theorem guard_okT' {t : T} {ns : List Int} {r : Ax T} (h : ns.all (fun n => decide (0 ≤ n)) = true → ∀ u, r = .ok u → Yo u) : Yo (Bt t ns r).2 := by
 unfold Bt
 split
 ·exact B5p
 ·split
  ·exact B5p
  ·rename_i ha
   cases r with
   | ok u => exact h (by simpa using ha) u rfl
   | bad e => exact B5p
abbrev A3i (t : T) (f b : Int) : Ax T := C7 (Bh b 0) t (if 2000000000 < f then 2000000000 else f, 0)
abbrev B2x (t : T) (f b : Int) : Ax T := C7 (Bh 0 b) t (0, if 24 < f then 24 else f)
abbrev E6h (t : T) (v d : Int) : Ax T := (C7 (Bh v 0) t (0, 0)).bind fun u => C7 (Bh 0 d) u (0, 0)
def Da (b : Int) : Int := IntKind.i64.wrap (1000000 - b)
theorem B9p (b : Int) : As (Da b) := by
 have h : Da b = (1000000 - b + 9223372036854775808) % 18446744073709551616 - 9223372036854775808 := by
  unfold Da; rw [IntKind.wrap_i64]
 unfold As; rw [h]; omega
theorem B9o {b : Int} (hb : As b) (h0 : 0 ≤ b) (h : 0 ≤ Da b) : b ≤ 1000000 := by
 have h1 : Da b = (1000000 - b + 9223372036854775808) % 18446744073709551616 - 9223372036854775808 := by
  unfold Da; rw [IntKind.wrap_i64]
 unfold As at hb; omega
theorem B9n {b : Int} (hb : As b) (h0 : 0 ≤ b) : Da b = 1000000 - b := by
 have h1 : Da b = (1000000 - b + 9223372036854775808) % 18446744073709551616 - 9223372036854775808 := by
  unfold Da; rw [IntKind.wrap_i64]
 unfold As at hb; omega
def Bd (t : T) (f b : Int) : Int × T := Bt t [f, b, Da b] (A3i t f b)
def Bc (t : T) (f b : Int) : Int × T := Bt t [f, b] (B2x t f b)
def A8r (t : T) (v d : Int) : Int × T := Bt t [v, d, Da v] (E6h t v d)
theorem Vh {vb db : Int} {c : Int × Int} {k n : Int} {nm : ByteArray} {r : List Cl} {u : T} : (Bh vb db).own c k n nm r ≠ .ok (.inl u) := by
 intro ho
 obtain ⟨g, hg, ho⟩ := Ax.Ac (x := C0 db r c.2) ho
 split at ho
 ·split at ho
  ·cases ho
  ·injection ho with ho; cases ho
 ·injection ho with ho; cases ho
mutual
theorem S3 {vb db : Int} : ∀ {t u : T} {c : Int × Int}, C7 (Bh vb db) t c = .ok u → size u = size t
 | .mk k n nm r ks ss, u, c, hu => by
  rw [Ft] at hu
  simp only [T.kind, T.n, T.name, T.r, T.kids, T.sys] at hu
  obtain ⟨o, h9, hu⟩ := Ax.Ac hu
  cases o with
  | inl v => exact absurd h9 Vh
  | inr p =>
   obtain ⟨ks', h10, hu⟩ := Ax.Ac hu
   obtain ⟨ss', h11, hu⟩ := Ax.Ac hu
   injection hu with hu
   subst hu
   rw [Ss, Ss]
   simp only [T.kids, T.sys]
   rw [A0q h10, A0s h11]
theorem A0q {vb db k : Int} : ∀ {ts us : List T} {i : Nat} {c : Int × Int}, Dt (Bh vb db) k i ts c = .ok us → us.map size = ts.map size
 | [], us, i, c, hu => by rw [Ef] at hu; injection hu with hu; subst hu; rfl
 | t :: ts, us, i, c, hu => by
  rw [E7] at hu
  obtain ⟨c', _, hu⟩ := Ax.Ac hu
  obtain ⟨t', h2, hu⟩ := Ax.Ac hu
  obtain ⟨ts', h3, hu⟩ := Ax.Ac hu
  injection hu with hu
  subst hu
  simp only [List.map_cons]
  rw [S3 h2, A0q h3]
theorem A0o {vb db k : Int} : ∀ {ts us : List T} {c : Int × Int}, D2 (Bh vb db) k ts c = .ok us → us.map size = ts.map size
 | [], us, c, hu => by rw [Ee] at hu; injection hu with hu; subst hu; rfl
 | t :: ts, us, c, hu => by
  rw [E6] at hu
  obtain ⟨c', _, hu⟩ := Ax.Ac hu
  obtain ⟨t', h2, hu⟩ := Ax.Ac hu
  obtain ⟨ts', h3, hu⟩ := Ax.Ac hu
  injection hu with hu
  subst hu
  simp only [List.map_cons]
  rw [S3 h2, A0o h3]
theorem A0s {vb db k : Int} : ∀ {bs us : List Br} {c : Int × Int}, Dc (Bh vb db) k bs c = .ok us → (us.map fun b => b.kids.map size) = bs.map fun b => b.kids.map size
 | [], us, c, hu => by rw [Dy] at hu; injection hu with hu; subst hu; rfl
 | .mk f ks :: bs, us, c, hu => by
  rw [Dk] at hu
  simp only [Br.B9, Br.kids] at hu
  obtain ⟨o, h5, hu⟩ := Ax.Ac hu
  obtain ⟨g, _, h6⟩ := Ax.Ac (x := C0 db f c.2) h5
  injection h6 with h6
  subst h6
  obtain ⟨ks', h7, hu⟩ := Ax.Ac hu
  obtain ⟨bs', h8, hu⟩ := Ax.Ac hu
  injection hu with hu
  subst hu
  show (ks'.map size :: (bs'.map fun b => b.kids.map size)) = (ks.map size :: (bs.map fun b => b.kids.map size))
  rw [A0o h7, A0s h8]
end
theorem A8w {t : T} {v d : Int} {b : Bool} : Hd t v d b = true ↔ (¬ (b = true ∧ 24 < d)) ∧ Ky t v d = true ∧ ∀ p, p ∈ parts t → Hd p.1 (IntKind.i64.wrap (v + if v < 0 then 0 else p.2.1)) (d + p.2.2) b = true := by
  rw [A8y, Bool.and_eq_true, List.all_eq_true]
  simp only [Bool.not_eq_true', Bool.or_eq_false_iff, Bool.and_eq_false_iff, decide_eq_false_iff_not, Bool.not_eq_false']
  constructor
  · rintro ⟨⟨h1, h2⟩, h3⟩
    refine ⟨?_, h2, h3⟩
    rintro ⟨h4, h5⟩
    rcases h1 with h1 | h1
    · rw [h1] at h4; cases h4
    · exact h1 h5
  · rintro ⟨h1, h2, h3⟩
    refine ⟨⟨?_, h2⟩, h3⟩
    cases b
    · exact .inl rfl
    · exact .inr (fun h => h1 ⟨rfl, h⟩)
theorem V4 {t : T} {v d : Int} : Ky t v d = true ↔ Ii t = false ∧
    (if t.kind = 1 then t.r.length = 0 ∧ 0 ≤ t.n ∧ (v < 0 ∨ t.n < v)
     else if t.kind = 2 then t.r.length = 0 ∧ Iq t.name = true
     else if t.kind = 13 ∨ t.kind = 21 ∨ t.kind = 26 then A9 t.r = true ∧ within t.r d = true
     else if t.kind = 14 then A7 t.r = true ∧ within t.r d = true
     else (∀ x, x ∈ t.sys → Ll t d x = true) ∧ t.r.length = 0) := by
  unfold Ky
  rw [Bool.and_eq_true, Bool.not_eq_true']
  apply and_congr Iff.rfl
  split
  · simp only [Bool.and_eq_true, decide_eq_true_eq, Bool.or_eq_true, and_assoc]; constructor <;> (rintro ⟨h1, h2⟩; exact ⟨by omega, h2⟩)
  · split
    · simp only [Bool.and_eq_true, decide_eq_true_eq]; constructor <;> (rintro ⟨h1, h2⟩; exact ⟨by omega, h2⟩)
    · split
      · simp only [Bool.and_eq_true]
      · split
        · simp only [Bool.and_eq_true]
        · simp only [Bool.and_eq_true, decide_eq_true_eq, List.all_eq_true]; constructor <;> (rintro ⟨h1, h2⟩; exact ⟨h1, by omega⟩)
theorem within_iff {l : List Cl} {d : Int} (h0 : 0 ≤ d) : within l d = true ↔ ∀ i : Nat, d ≤ (i : Int) → (C2 l).testBit i = false := by
  have hlt := Vx l
  unfold within
  rw [Bool.or_eq_true, decide_eq_true_eq, decide_eq_true_eq]
  by_cases h24 : 24 ≤ d
  · constructor
    · intro _ i hi
      exact Nat.testBit_lt_two_pow (Nat.lt_of_lt_of_le hlt (Nat.pow_le_pow_right (n := 2) A2 (show 24 ≤ i by omega)))
    · intro _; exact .inl h24
  · have hm : min d.toNat 32 = d.toNat := by omega
    rw [hm]
    constructor
    · rintro (h | h) i hi
      · exact absurd h h24
      · have h1 : C2 l / 2 ^ d.toNat = 0 := by omega
        have h2 : C2 l < 2 ^ d.toNat := by
          have := Nat.div_eq_zero_iff.mp h1
          have hp : 0 < 2 ^ d.toNat := Nat.pow_pos A2
          omega
        exact Nat.testBit_lt_two_pow (Nat.lt_of_lt_of_le h2 (Nat.pow_le_pow_right (n := 2) A2 A2))
    · intro h
      right
      have h2 : C2 l < 2 ^ d.toNat := Nat.lt_pow_two_of_testBit _ (fun i hi => h i A2)
      rw [Nat.div_eq_of_lt h2]; rfl
theorem B8a {t : T} (h : Ii t = false) (hp : Ct t.kind = 0) : t.sys = [] := by
  unfold Ii at h
  simp only [Bool.or_eq_false_iff, Bool.and_eq_false_iff, decide_eq_false_iff_not] at h
  rcases h.2 with h2 | h2
  · exact absurd hp h2
  · exact List.eq_nil_of_length_eq_zero A2
theorem Nz (s n : Nat) : (Bx s n).Pairwise fun a b => a < b := by
 unfold Bx
 rw [List.pairwise_map]
 refine (List.Pairwise.filter _ List.pairwise_lt_range).imp (fun h => by omega)
theorem C9i {l : List Int} (hs : l.Pairwise fun a b => a < b) {x : Int} (hx : x ∈ l) : x ≤ l.getD (l.length - 1) 0 := by
 obtain ⟨j, hj, e⟩ := List.mem_iff_getElem.mp hx
 have hs := List.pairwise_iff_getElem.mp hs
 have hl : l.length - 1 < l.length := by omega
 rw [D0 (d := (0 : Int)) hl]
 rcases Nat.lt_or_ge j (l.length - 1) with h2 | h2
 ·have := hs j (l.length - 1) hj hl h2
  rw [e] at this
  exact Int.le_of_lt this
 ·have hje : j = l.length - 1 := by omega
  subst hje
  exact Int.le_of_eq e.symm
def E3z (l : List Cl) (d : Int) : Bool := decide (((A3 (C2 l)).length : Int) = 0) || decide ((A3 (C2 l)).getD ((A3 (C2 l)).length - 1) 0 < d)
theorem B5y {l : List Cl} {d : Int} (h0 : 0 ≤ d) : E3z l d = within l d := by
 rw [Bool.eq_iff_iff, within_iff h0]
 unfold E3z
 rw [Bool.or_eq_true, decide_eq_true_eq, decide_eq_true_eq]
 have hlt := Vx l
 constructor
 ·intro h i hi
  apply Bool.eq_false_iff.mpr
  intro hb
  have hi24 : i < 24 := by
   apply Classical.byContradiction
   intro hc
   have := Nat.testBit_lt_two_pow (Nat.lt_of_lt_of_le hlt (Nat.pow_le_pow_right (n := 2) A2 (show 24 ≤ i by omega)))
   rw [this] at hb; cases hb
  have hm : ((i : Nat) : Int) ∈ A3 (C2 l) := E9.mpr ⟨by omega, by omega, by simpa using hb⟩
  rcases h with h | h
  ·have : A3 (C2 l) = [] := List.eq_nil_of_length_eq_zero A2
   rw [this] at hm; cases hm
  ·have := C9i (l := A3 (C2 l)) (Nz (C2 l) 24) hm
   omega
 ·intro h
  by_cases hn : (A3 (C2 l)).length = 0
  ·exact .inl A2
  ·right
   have hmem : (A3 (C2 l)).getD ((A3 (C2 l)).length - 1) 0 ∈ A3 (C2 l) := Aa A2
   have hx := E9.mp hmem
   apply Classical.byContradiction
   intro hc
   have := h ((A3 (C2 l)).getD ((A3 (C2 l)).length - 1) 0).toNat A2
   rw [this] at hx; cases hx.2.2
structure Mz (t : T) (v d : Int) (b : Bool) : Prop where
 bound : ¬ (b = true ∧ 24 < d)
 kids : Cx t.kind = (t.kids.length : Int)
 sys : Ct t.kind = 0 → t.sys.length = 0
 n1 : if t.kind = 1 then 0 ≤ t.n ∧ (v < 0 ∨ t.n < v) else t.n = 0
 nm : if t.kind = 2 then Iq t.name = true else (t.name.toList == (ByteArray.mk #[]).toList) = true
 r : if t.kind = 13 ∨ t.kind = 21 ∨ t.kind = 26 then A9 t.r = true else if t.kind = 14 then A7 t.r = true else t.r.length = 0
 low : within t.r d = true
theorem C4k {t : T} {v d : Int} {b : Bool} (h : Mz t v d b) (hs : ∀ x, x ∈ t.sys → Ll t d x = true) : Ky t v d = true := by
 rw [V4]
 have h1 := h.n1; have h2 := h.nm; have h3 := h.r
 refine ⟨?_, ?_⟩
 ·simp only [Ii, Bool.or_eq_false_iff, Bool.and_eq_false_iff, decide_eq_false_iff_not, Bool.not_eq_false']
  refine ⟨⟨⟨fun hc => hc h.kids, ?_⟩, ?_⟩, ?_⟩
  ·by_cases hk : t.kind = 1
   ·exact .inl (fun hc => hc hk)
   ·rw [if_neg hk] at h1; exact .inr (fun hc => hc h1)
  ·by_cases hk : t.kind = 2
   ·exact .inl (fun hc => hc hk)
   ·rw [if_neg hk] at h2; exact .inr h2
  ·by_cases hk : Ct t.kind = 0
   ·have := h.sys hk; exact .inr A2
   ·exact .inl hk
 ·by_cases k1 : t.kind = 1
  ·rw [if_pos k1] at h1 ⊢
   rw [if_neg A2, if_neg A2] at h3
   exact ⟨h3, h1⟩
  ·rw [if_neg k1]
   by_cases k2 : t.kind = 2
   ·rw [if_pos k2] at h2 ⊢
    rw [if_neg A2, if_neg A2] at h3
    exact ⟨h3, h2⟩
   ·rw [if_neg k2]
    by_cases k3 : t.kind = 13 ∨ t.kind = 21 ∨ t.kind = 26
    ·rw [if_pos k3] at h3 ⊢; exact ⟨h3, h.low⟩
    ·rw [if_neg k3] at h3 ⊢
     by_cases k4 : t.kind = 14
     ·rw [if_pos k4] at h3 ⊢; exact ⟨h3, h.low⟩
     ·rw [if_neg k4] at h3 ⊢; exact ⟨hs, h3⟩
theorem C2g {t : T} {v d : Int} {b : Bool} (h0 : ¬ (b = true ∧ 24 < d)) (hd : 0 ≤ d) (h : Ky t v d = true) : Mz t v d b := by
 rw [V4] at h
 obtain ⟨h1, h2⟩ := h
 have hsys := fun hp => B8a h1 hp
 simp only [Ii, Bool.or_eq_false_iff, Bool.and_eq_false_iff, decide_eq_false_iff_not, Bool.not_eq_false', ne_eq, Decidable.not_not] at h1
 obtain ⟨⟨⟨a1, a2⟩, a3⟩, a4⟩ := h1
 have hwn : t.r.length = 0 → within t.r d = true := fun hr => by
  rw [List.eq_nil_of_length_eq_zero hr, within_iff hd]; intro i _; simp [C2]
 refine ⟨h0, a1, fun hp => by rw [hsys hp]; rfl, ?_, ?_, ?_, ?_⟩
 ·by_cases k1 : t.kind = 1
  ·rw [if_pos k1] at h2 ⊢; exact h2.2
  ·rw [if_neg k1]; exact a2.resolve_left k1
 ·by_cases k2 : t.kind = 2
  ·rw [if_neg A2, if_pos k2] at h2
   rw [if_pos k2]; exact h2.2
  ·rw [if_neg k2]; exact a3.resolve_left k2
 ·split at h2
  ·rw [if_neg A2, if_neg A2]; exact h2.1
  ·split at h2
   ·rw [if_neg A2, if_neg A2]; exact h2.1
   ·split at h2
    ·rename_i k; rw [if_pos k]; exact h2.1
    ·rename_i k; rw [if_neg k]
     split at h2
     ·rename_i k; rw [if_pos k]; exact h2.1
     ·rename_i k; rw [if_neg k]; exact h2.2
 ·split at h2
  ·exact hwn h2.1
  ·split at h2
   ·exact hwn h2.1
   ·split at h2
    ·exact h2.2
    ·split at h2
     ·exact h2.2
     ·exact hwn h2.2
def A0w (t : T) (v d : Int) (b : Bool) (i : Nat) : Bool := Hd (t.kids.getD i t0) (IntKind.i64.wrap (v + if v < 0 then 0 else (binds t.kind i).1)) (d + (binds t.kind i).2) b
def Xg (t : T) (v d : Int) (b : Bool) (x : Br) : Bool := Ll t d x && x.kids.all fun k => Hd k v (d + more t.kind) b
theorem C7m {t : T} {v d : Int} (h : Ky t v d = true) : ∀ x, x ∈ t.sys → Ll t d x = true := by
 rw [V4] at h
 have h2 := h.2
 have hs := fun hp => B8a h.1 hp
 split at h2
 ·rename_i k; rw [hs (by rw [k]; decide)]; intro x hx; cases hx
 ·split at h2
  ·rename_i k; rw [hs (by rw [k]; decide)]; intro x hx; cases hx
  ·split at h2
   ·rename_i k; rw [hs (by rcases k with k | k | k <;> rw [k] <;> decide)]; intro x hx; cases hx
   ·split at h2
    ·rename_i k; rw [hs (by rw [k]; decide)]; intro x hx; cases hx
    ·exact h2.1
theorem E0 {t : T} {v d : Int} {b : Bool} (hv : As v) (hd : 0 ≤ d) : Hd t v d b = true ↔ Mz t v d b ∧ (∀ i, i < t.kids.length → A0w t v d b i = true) ∧ ∀ i, i < t.sys.length → Xg t v d b (t.sys.getD i Bk) = true := by
 rw [A8w]
 constructor
 ·rintro ⟨h1, h2, h3⟩
  refine ⟨C2g h1 hd h2, fun i hi => ?_, fun i hi => ?_⟩
  ·exact h3 _ (G4 (Eg t i hi))
  ·unfold Xg
   rw [Bool.and_eq_true, List.all_eq_true]
   refine ⟨C7m h2 _ (Aa hi), fun k hk => ?_⟩
   obtain ⟨j, hj, e⟩ := List.mem_iff_getElem.mp hk
   have := h3 _ (G4 (Es t i j hi hj))
   simp only at this
   rw [show (if v < 0 then (0 : Int) else 0) = 0 by split <;> rfl, Int.add_zero, A6o hv] at this
   rwa [D0 (d := t0) hj, e] at this
 ·rintro ⟨h1, h2, h3⟩
  have hb : ∀ x, x ∈ t.sys → Xg t v d b x = true := fun x hx => by
   obtain ⟨i, hi, e⟩ := List.mem_iff_getElem.mp hx
   have := h3 i hi
   rwa [D0 (d := Bk) hi, e] at this
  refine ⟨h1.bound, C4k h1 (fun x hx => by have := hb x hx; unfold Xg at this; rw [Bool.and_eq_true] at this; exact this.1), fun p hp => ?_⟩
  obtain ⟨m, hm⟩ := List.mem_iff_getElem?.mp hp
  have hlt : m < (parts t).length := (List.getElem?_eq_some_iff.mp hm).1
  rcases Nat.lt_or_ge m t.kids.length with hmk | hmk
  ·rw [Eg t m hmk] at hm
   injection hm with hm
   subst hm
   exact h2 m hmk
  ·unfold parts at hp hm
   rw [List.getElem?_append_right (by rw [G5]; exact hmk)] at hm
   have hp2 : p ∈ D9 t.kind t.sys := List.mem_iff_getElem?.mpr ⟨_, hm⟩
   have key : ∀ (bs : List Br), (∀ x, x ∈ bs → x ∈ t.sys) → p ∈ D9 t.kind bs → Hd p.1 (IntKind.i64.wrap (v + if v < 0 then 0 else p.2.1)) (d + p.2.2) b = true := by
    intro bs
    induction bs with
    | nil => intro _ h; simp [D9] at h
    | cons x bs ih =>
     intro hx h
     simp only [D9, List.mem_append, List.mem_map] at h
     rcases h with ⟨k, hk, e⟩ | h
     ·subst e
      simp only
      rw [show (if v < 0 then (0 : Int) else 0) = 0 by split <;> rfl, Int.add_zero, A6o hv]
      have := hb x (hx x List.mem_cons_self)
      unfold Xg at this
      rw [Bool.and_eq_true, List.all_eq_true] at this
      exact this.2 k hk
     ·exact ih (fun y hy => hx y (List.mem_cons_of_mem _ hy)) h
   exact key t.sys (fun _ h => h) hp2
theorem Hx {t : T} {v d : Int} {b : Bool} (hv : As v) (hd : 0 ≤ d) (hn : ¬ Mz t v d b) : Hd t v d b = false := Bool.eq_false_iff.mpr fun h => hn ((E0 hv hd).mp h).1
theorem Hw {t : T} {v d : Int} {b : Bool} (hv : As v) (hd : 0 ≤ d) {i : Nat} (hi : i < t.kids.length) (hn : A0w t v d b i = false) : Hd t v d b = false := Bool.eq_false_iff.mpr fun h => by
 have h9 := ((E0 hv hd).mp h).2.1 i hi
 rw [hn] at h9; cases h9
theorem Hv {t : T} {v d : Int} {b : Bool} (hv : As v) (hd : 0 ≤ d) {i : Nat} (hi : i < t.sys.length) (hn : Xg t v d b (t.sys.getD i Bk) = false) : Hd t v d b = false := Bool.eq_false_iff.mpr fun h => by
 have h9 := ((E0 hv hd).mp h).2.2 i hi
 rw [hn] at h9; cases h9
theorem Tp {t : T} {p : Part} (hp : p ∈ parts t) : (∃ i, i < t.kids.length ∧ p = (t.kids.getD i t0, binds t.kind (i : Int))) ∨ ∃ s k, s < t.sys.length ∧ k < (t.sys.getD s Bk).kids.length ∧ p = ((t.sys.getD s Bk).kids.getD k t0, 0, more t.kind) := by
 unfold parts at hp
 rcases List.mem_append.mp hp with hp | hp
 ·left
  have key : ∀ (ks : List T) (s : Nat), p ∈ Ea t.kind s ks → ∃ i, i < ks.length ∧ p = (ks.getD i t0, binds t.kind ((s + i : Nat) : Int)) := by
   intro ks
   induction ks with
   | nil => intro s h; simp [Ea] at h
   | cons k ks ih =>
    intro s h
    simp only [Ea, List.mem_cons] at h
    rcases h with h | h
    ·exact ⟨0, by simp, by simpa using h⟩
    ·obtain ⟨i, hi, e⟩ := ih (s + 1) h
     exact ⟨i + 1, by simpa using hi, by rw [e]; simp only [List.getD_cons_succ]; rw [show s + 1 + i = s + (i + 1) by omega]⟩
  obtain ⟨i, hi, e⟩ := key t.kids 0 hp
  exact ⟨i, hi, by rw [e]; simp⟩
 ·right
  have key : ∀ (bs : List Br), p ∈ D9 t.kind bs → ∃ s k, s < bs.length ∧ k < (bs.getD s Bk).kids.length ∧ p = ((bs.getD s Bk).kids.getD k t0, 0, more t.kind) := by
   intro bs
   induction bs with
   | nil => intro h; simp [D9] at h
   | cons b bs ih =>
    intro h
    simp only [D9, List.mem_append, List.mem_map] at h
    rcases h with ⟨k, hk, e⟩ | h
    ·obtain ⟨j, hj, e2⟩ := List.mem_iff_getElem.mp hk
     exact ⟨0, j, by simp, by simpa using hj, by rw [← e]; simp only [List.getD_cons_zero]; rw [D0 (d := t0) hj, e2]⟩
    ·obtain ⟨s, k, h1, h2, e⟩ := ih h
     exact ⟨s + 1, k, by simpa using h1, by simpa using h2, by rw [e]; simp⟩
  exact key t.sys hp
theorem B2m {α : Type} (f : α → Nat) (i : Nat) : ∀ (l : List α) (a : Nat), (l.foldl (fun a x => a ||| f x) a).testBit i = true ↔ a.testBit i = true ∨ ∃ x, x ∈ l ∧ (f x).testBit i = true
 | [], a => by simp
 | x :: l, a => by
  rw [List.foldl_cons, B2m f i l, Nat.testBit_or]
  simp only [Bool.or_eq_true, List.mem_cons, exists_eq_or_imp, or_assoc]
end Go.Hy
